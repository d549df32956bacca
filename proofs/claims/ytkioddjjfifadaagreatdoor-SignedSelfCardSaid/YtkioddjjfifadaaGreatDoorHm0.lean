/- strings.Join in the printed form; slices.Sort of a row of strings of the call's own; (*strings.Builder).WriteString. -/
import Derived.Test.YtkioddjjfifadaaGreatDoorHt0
import Derived.Deep.MidRow
namespace Go.Proofs.YtkioddjjfifadaaGreatDoor.P
open Go.RowKit Go.Proofs.YtkioddjjfifadaaGreatDoorW.PrintWords Go.Proofs.YtkioddjjfifadaaGreatDoorW.PrintLast Go.Proofs.YtkioddjjfifadaaGreatDoorW.PrintMore
theorem info9 : (Tryz.prog.info? 9).map (fun i => (i.zero, i.size, i.bytes)) = some (some (.string ⟨#[]⟩), 1, 16) := by kernel_rfl
def sortB (xs : List ByteArray) : List ByteArray := ((xs.map fun b => b.data.toList).mergeSort fun x y => decide (x ≤ y)).map fun l => ⟨l.toArray⟩
theorem sortB_len (xs : List ByteArray) : (sortB xs).length = xs.length := by simp [sortB]
def slices_Sort.f (xs : List ByteArray) : Option (List ByteArray) := if xs.length < 4611686018427387904 then some (sortB xs) else none
theorem sort_own (w0 : World) (v : Value) (xs r : List ByteArray) (w : World) (hR : Kd.string.R 9 w w0.heap.size (fun _ => True) v xs) (h0 : Below w0.heap.size w0 w) (h : slices_Sort.f xs = some r) :
    Calls Tryz.prog 161 #[v] w fun e w' => e = .returned (.tuple #[]) ∧ Kd.string.R 9 w' w0.heap.size (fun _ => True) v r ∧ Below w0.heap.size w0 w' := by
  unfold slices_Sort.f at h
  split at h
  case isFalse => cases h
  case isTrue hl =>
  obtain rfl := Option.some.inj h
  have ho := Kd.own_of_R hR
  rcases ho.2 with ⟨rfl, hn⟩ | ⟨g, cap, cur, rfl, hg, hh, hnc, hcm, hsz, htk⟩
  · have hx : xs = [] := List.eq_nil_of_length_eq_zero hn
    subst hx
    refine (Tryz.slices_Sort_string_none none 0 w).mono ?_
    rintro e w' ⟨rfl, rfl⟩
    have hnil : sortB [] = [] := List.eq_nil_of_length_eq_zero (sortB_len [])
    rw [hnil]
    exact ⟨rfl, hR, h0⟩
  · have hcur : ∀ j, j < xs.length → cur[j]? = some (Value.string (xs[j]!)) := fun j hj => by
      have h1 : (cur.toList.take (xs.length * 1))[j]? = (encs Value.string xs)[j]? := by rw [htk]
      rw [List.getElem?_take_of_lt (by omega)] at h1
      rw [← Array.getElem?_toList, h1]
      simp [encs, List.getElem?_eq_getElem hj, getElem!_pos xs j hj]
    have hlt : g < w.heap.size := blk_lt hh
    have hH : Go.Sort.Holds Go.Proofs.encStr w g 0 (xs.map fun b => b.data.toList).toArray := fun j hj => by
      have hj' : j < xs.length := by simpa using hj
      refine ⟨?_, blk_frozen hh _⟩
      rw [Nat.zero_add]
      refine (blk_cell hh j).trans ?_
      rw [hcur j hj']
      simp [hj']
    refine (show Calls Tryz.prog 161 #[.slice (some ⟨g, 0, none⟩) xs.length cap] w _ from ?_)
    have hc := Tryz.slices_Sort_string g 0 cap (xs.map fun b => b.data.toList) w hH hlt (by simpa using hl)
    rw [List.length_map] at hc
    refine hc.mono ?_
    rintro e w' ⟨rfl, n, os, rfl⟩
    generalize hss : (((xs.map fun b => b.data.toList).mergeSort fun x y => decide (x ≤ y)) : List (List UInt8)) = ss
    have hsl : ss.length = xs.length := by rw [← hss]; simp
    have hsb : sortB xs = ss.map fun l => ⟨l.toArray⟩ := by rw [← hss]; rfl
    rw [hsb]
    have hgr : w.grownBy (Go.Sort.grow (Go.Sort.putRow Go.Proofs.encStr (Go.Sort.ahead w n) g 0 ss.toArray) os) (some g) := by
      refine ⟨rfl, rfl, rfl, ?_, fun k hk hne => ?_⟩
      · show w.heap.size ≤ ((Go.Sort.putRow Go.Proofs.encStr (Go.Sort.ahead w n) g 0 ss.toArray).heap ++ os).size
        rw [Array.size_append, Go.Sort.size_putRow]
        exact Nat.le_add_right _ _
      · show ((Go.Sort.putRow Go.Proofs.encStr (Go.Sort.ahead w n) g 0 ss.toArray).heap ++ os)[k]? = _
        rw [Array.getElem?_append_left (by rw [Go.Sort.size_putRow]; exact hk)]
        show (w.heap.modify g _)[k]? = _
        rw [Array.getElem?_modify, if_neg (fun e => hne (by rw [e]))]
    refine ⟨rfl, Kd.R_of_own ⟨by simp [encs], Or.inr ⟨g, cap, Go.Sort.putCells Go.Proofs.encStr 0 ss.toArray cur, by rw [List.length_map, hsl], hg, ?_, by rw [List.length_map, hsl]; exact hnc, hcm, by simp [Go.Sort.putCells]; simpa using hsz, ?_⟩⟩ (fun _ _ => trivial), pw_below_grown h0 _ h0.size hgr (fun k hk => by injection hk with hk; omega)⟩
    · show ((Go.Sort.putRow Go.Proofs.encStr (Go.Sort.ahead w n) g 0 ss.toArray).heap ++ os)[g]? = _
      rw [Array.getElem?_append_left (by rw [Go.Sort.size_putRow]; exact hlt)]
      show (w.heap.modify g _)[g]? = _
      rw [Array.getElem?_modify, if_pos rfl, hh]
      rfl
    · rw [List.length_map, Nat.mul_one]
      apply List.ext_getElem?
      intro j
      by_cases hj : j < ss.length
      · rw [List.getElem?_take_of_lt hj, Array.getElem?_toList]
        have hcl : j < cur.size := by omega
        simp [Go.Sort.putCells, hcl, hj, encs]
      · rw [List.getElem?_eq_none (by rw [List.length_take]; omega), List.getElem?_eq_none (by simp [encs]; omega)]
def strings_Join.f (xs : List ByteArray) (sep : ByteArray) : Option ByteArray :=
  if xs.length ≤ 140737488355328 ∧ (Lib.join (xs.map (·.data.toList)) sep.data.toList).length ≤ 140737488355328 then some ⟨(Lib.join (xs.map (·.data.toList)) sep.data.toList).toArray⟩ else none
theorem strings_Join.calls (A0 : Option Addr) (c0 : Nat) (l0 : List ByteArray) (a1 : ByteArray) (r : ByteArray) (w : World) (hr0 : Kd.C Kd.string w A0 l0.length l0) (hc0 : l0.length ≤ c0) (h : strings_Join.f l0 a1 = some r) :
    Calls Tryz.prog 88 #[.slice A0 l0.length c0, .string a1] w fun e w' => e = .returned (.string r) ∧ Below w.heap.size w w' := by
  unfold strings_Join.f at h
  split at h
  case isFalse => cases h
  case isTrue hl =>
  obtain rfl := Option.some.inj h
  cases l0 with
  | nil =>
    refine (Tryz.strings_Join_none A0 c0 a1 w).mono ?_
    rintro e w' ⟨rfl, rfl⟩
    exact ⟨rfl, Below.refl _ _⟩
  | cons x xs =>
    obtain ⟨ad, rfl, hcell⟩ := hr0.2.2 (by simp)
    have hc1 : ∀ (j : Nat) y, (x :: xs)[j]? = some y → w.cell? (ad.add j) = some (.string y) := fun j y hy => by
      obtain ⟨c, _, hK, hu⟩ := hcell j y hy
      have hK' : c = [Value.string y] := hK
      subst hK'
      have := hu 0 _ rfl
      simpa [Kd.string, Kd.scalar] using this
    obtain ⟨b, o, spot⟩ := ad
    have h0 := hc1 0 x rfl
    have hspot : spot = none := by simpa [Addr.add] using World.cell?_spot h0
    subst hspot
    refine (Tryz.strings_Join b o c0 (x :: xs) a1 w (fun j y hy => by have := hc1 j y hy; rwa [Go.Addr.add_mid] at this) (World.block_lt_of_cell? w _ h0) hl.1 hc0 hl.2).mono ?_
    rintro e w' ⟨rfl, hb⟩
    exact ⟨rfl, hb⟩
end Go.Proofs.YtkioddjjfifadaaGreatDoor.P
