/- What the proof of SignedFinds needs of: Hx0. -/
import Derived.Test.YtkioddjjfifadaaGreatDoorSf4
import Derived.Test.YtkioddjjfifadaaGreatDoorSf6
import Derived.Test.YtkioddjjfifadaaGreatDoorSf7
namespace Go.Proofs.YtkioddjjfifadaaGreatDoor.P
open Go.RowKit Go.Proofs.YtkioddjjfifadaaGreatDoorW.PrintWords Go.Proofs.YtkioddjjfifadaaGreatDoorW.PrintLast Go.Proofs.YtkioddjjfifadaaGreatDoorW.PrintMore
set_option linter.unusedVariables false
set_option linter.unusedSimpArgs false
structure Wh where
  iss : List (List S64)
  ser : List Int
  ski : List Int
def zWh : Wh := ⟨[], [], []⟩
def kWh : Kd Wh := Kd.iso (Kd.pair (Kd.slice 62 (Kd.slice 64 k64)) (Kd.pair (Kd.slice 5 (Kd.int .u8)) (Kd.slice 5 (Kd.int .u8)))) (fun x : Wh => (x.iss, x.ser, x.ski))
theorem kWh_open {w : World} {x : Wh} {cs : List Value} (h : kWh.K w x cs) : ∃ Ai ci As cs_ Ak ck, cs = [.slice Ai x.iss.length ci, .slice As x.ser.length cs_, .slice Ak x.ski.length ck] ∧
    (x.iss.length ≤ ci ∧ (Kd.slice 64 k64).C w Ai x.iss.length x.iss) ∧ (x.ser.length ≤ cs_ ∧ (Kd.int .u8).C w As x.ser.length x.ser) ∧ (x.ski.length ≤ ck ∧ (Kd.int .u8).C w Ak x.ski.length x.ski) := by
  obtain ⟨_, _, rfl, ⟨Ai, ci, rfl, li, gi⟩, ⟨_, _, rfl, ⟨As, cs_, rfl, ls, gs⟩, ⟨Ak, ck, rfl, lk, gk⟩⟩⟩ := h
  exact ⟨Ai, ci, As, cs_, Ak, ck, rfl, ⟨li, gi⟩, ⟨ls, gs⟩, ⟨lk, gk⟩⟩
def Wh.ct (x : Wh) : Ct := ⟨x.ser, x.iss, x.ski⟩
/-- Certificates whose cells lead to what lies in a world that came before. -/
def kFix (W0 : World) : Kd Ct where
  sz := 31
  E := []
  K := fun _ x cs => kCt.K W0 x cs
  M := fun _ _ _ x cs => kCt.K W0 x cs
  K_len := fun h => kCt.K_len h
  K_one := fun h => kCt.K_one h
  K_below := fun _ h => h
  K_of_M := fun h => h
  M_mono := fun _ h => h
  M_bound := fun h => h
  M_move := fun _ h => h
  M_lower := fun _ h => h
theorem kFix_C {W0 w : World} {A : Option Addr} {n : Nat} {xs : List Ct} (h : (kFix W0).C w A n xs) (hb : Below W0.heap.size W0 w) : kCt.C w A n xs := by
  unfold Kd.C at h ⊢
  exact h.imp_ (Below.refl _ _) (fun _ _ hp => kCt.K_below hb hp)
theorem zero105 : (Tryz.prog.info? 105).map (fun i => (i.zero, i.size, i.bytes)) = some (some (.agg (certCells (.slice none 0 0) (.slice none 0 0) (.slice none 0 0)).toArray), 31, 520) := by kernel_rfl
theorem at_Wh {w : World} {A : Option Addr} {l : List Wh} (h : kWh.C w A l.length l) (j : Nat) (hj : j < l.length) : ∃ ad Ai ci As cs_ Ak ck, A = some ad ∧
    w.cell? (ad.add (j * 3)) = some (.slice Ai (l.getD j zWh).iss.length ci) ∧ w.cell? ⟨(ad.add (j * 3)).block, (ad.add (j * 3)).off + 1, none⟩ = some (.slice As (l.getD j zWh).ser.length cs_) ∧
    w.cell? ⟨(ad.add (j * 3)).block, (ad.add (j * 3)).off + 2, none⟩ = some (.slice Ak (l.getD j zWh).ski.length ck) ∧
    ((l.getD j zWh).iss.length ≤ ci ∧ (Kd.slice 64 k64).C w Ai (l.getD j zWh).iss.length (l.getD j zWh).iss) ∧ ((l.getD j zWh).ser.length ≤ cs_ ∧ (Kd.int .u8).C w As (l.getD j zWh).ser.length (l.getD j zWh).ser) ∧ ((l.getD j zWh).ski.length ≤ ck ∧ (Kd.int .u8).C w Ak (l.getD j zWh).ski.length (l.getD j zWh).ski) := by
  obtain ⟨ad, c, e, _, hK, hc0⟩ := Kd.C_get h zWh (j : Int) (by omega) (by omega)
  rw [Int.toNat_natCast] at hK
  have hc : ∀ (i : Nat) u, c[i]? = some u → w.cell? (ad.add (j * 3 + i)) = some u := fun i u hu => by
    have := hc0 i u hu
    rwa [Int.toNat_natCast] at this
  obtain ⟨Ai, ci, As, cs_, Ak, ck, rfl, gi, gs, gk⟩ := kWh_open hK
  exact ⟨ad, Ai, ci, As, cs_, Ak, ck, e, hc 0 _ rfl, by rw [← add_field _ _ 1 (by omega)]; exact hc 1 _ rfl, by rw [← add_field _ _ 2 (by omega)]; exact hc 2 _ rfl, gi, gs, gk⟩
end Go.Proofs.YtkioddjjfifadaaGreatDoor.P
