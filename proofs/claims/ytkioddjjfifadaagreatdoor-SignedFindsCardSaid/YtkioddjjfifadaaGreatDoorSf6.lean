/- What the proof of SignedFinds needs of: HaS. -/
import Derived.Defers
import Derived.Recover
import Derived.WalkLawsBesides
import Derived.LaidEql
import Derived.Stop.Asserts
import Derived.RowKitTokens
import Derived.Deep.MidRow
import Derived.Deep.WholeRow
import Derived.Test.YtkioddjjfifadaaGreatDoorSf5
namespace Go.Proofs.YtkioddjjfifadaaGreatDoor.P
open Go.RowKit Go.Proofs.YtkioddjjfifadaaGreatDoorW.PrintWords Go.Proofs.YtkioddjjfifadaaGreatDoorW.PrintLast Go.Proofs.YtkioddjjfifadaaGreatDoorW.PrintMore
/-- The cells of a block of five, and that they may be written. -/
theorem box5 {W : World} {b : Nat} {c0 c1 c2 c3 c4 : Value} {t : TypeId} (h : W.heap[b]? = some (.cells #[c0, c1, c2, c3, c4] t (0, 0))) :
    W.cell? ⟨b, 0, none⟩ = some c0 ∧ W.cell? ⟨b, 1, none⟩ = some c1 ∧ W.cell? ⟨b, 2, none⟩ = some c2 ∧ W.cell? ⟨b, 3, none⟩ = some c3 ∧ W.cell? ⟨b, 4, none⟩ = some c4 ∧
      W.frozen? ⟨b, 0, none⟩ = false ∧ W.frozen? ⟨b, 1, none⟩ = false ∧ W.frozen? ⟨b, 2, none⟩ = false ∧ W.frozen? ⟨b, 3, none⟩ = false ∧ W.frozen? ⟨b, 4, none⟩ = false :=
  ⟨(blk_cell h 0).trans rfl, (blk_cell h 1).trans rfl, (blk_cell h 2).trans rfl, (blk_cell h 3).trans rfl, (blk_cell h 4).trans rfl, blk_frozen h 0, blk_frozen h 1, blk_frozen h 2, blk_frozen h 3, blk_frozen h 4⟩
theorem put5 {W : World} {b : Nat} {c0 c1 c2 c3 c4 : Value} {t : TypeId} (h : W.heap[b]? = some (.cells #[c0, c1, c2, c3, c4] t (0, 0))) (d0 d1 d2 d3 d4 : Value) :
    (((((W.setCell ⟨b, 0, none⟩ d0).setCell ⟨b, 1, none⟩ d1).setCell ⟨b, 2, none⟩ d2).setCell ⟨b, 3, none⟩ d3).setCell ⟨b, 4, none⟩ d4).heap[b]? = some (.cells #[d0, d1, d2, d3, d4] t (0, 0)) :=
  blk_put (blk_put (blk_put (blk_put (blk_put h 0 d0 rfl) 1 d1 rfl) 2 d2 rfl) 3 d3 rfl) 4 d4 rfl
theorem one0_f : der_One.f 5 [48, 0] = some (0, 16, true, [], [48, 0], 0) := by kernel_rfl
theorem split_nil_f : der_Split.f 1 [] = some ([], 0, 0) := by kernel_rfl
end Go.Proofs.YtkioddjjfifadaaGreatDoor.P
namespace Go.Proofs.YtkioddjjfifadaaGreatDoor.P
open Go.RowKit Go.Proofs.YtkioddjjfifadaaGreatDoorW.PrintWords Go.Proofs.YtkioddjjfifadaaGreatDoorW.PrintLast Go.Proofs.YtkioddjjfifadaaGreatDoorW.PrintMore
theorem box1 {W : World} {b : Nat} {c0 : Value} {t : TypeId} (h : W.heap[b]? = some (.cells #[c0] t (0, 0))) :
    W.cell? ⟨b, 0, none⟩ = some c0 ∧ W.frozen? ⟨b, 0, none⟩ = false := ⟨(blk_cell h 0).trans rfl, blk_frozen h 0⟩
theorem box14 {W : World} {b : Nat} {c0 c1 c2 c3 c4 c5 c6 c7 c8 c9 c10 c11 c12 c13 : Value} {t : TypeId} (h : W.heap[b]? = some (.cells #[c0, c1, c2, c3, c4, c5, c6, c7, c8, c9, c10, c11, c12, c13] t (0, 0))) :
    W.cell? ⟨b, 0, none⟩ = some c0 ∧ W.cell? ⟨b, 1, none⟩ = some c1 ∧ W.cell? ⟨b, 2, none⟩ = some c2 ∧ W.cell? ⟨b, 3, none⟩ = some c3 ∧ W.cell? ⟨b, 4, none⟩ = some c4 ∧ W.cell? ⟨b, 5, none⟩ = some c5 ∧ W.cell? ⟨b, 6, none⟩ = some c6 ∧ W.cell? ⟨b, 7, none⟩ = some c7 ∧ W.cell? ⟨b, 8, none⟩ = some c8 ∧ W.cell? ⟨b, 9, none⟩ = some c9 ∧ W.cell? ⟨b, 10, none⟩ = some c10 ∧ W.cell? ⟨b, 11, none⟩ = some c11 ∧ W.cell? ⟨b, 12, none⟩ = some c12 ∧ W.cell? ⟨b, 13, none⟩ = some c13 ∧
      W.frozen? ⟨b, 0, none⟩ = false ∧ W.frozen? ⟨b, 1, none⟩ = false ∧ W.frozen? ⟨b, 2, none⟩ = false ∧ W.frozen? ⟨b, 3, none⟩ = false ∧ W.frozen? ⟨b, 4, none⟩ = false ∧ W.frozen? ⟨b, 5, none⟩ = false ∧ W.frozen? ⟨b, 6, none⟩ = false ∧ W.frozen? ⟨b, 7, none⟩ = false ∧ W.frozen? ⟨b, 8, none⟩ = false ∧ W.frozen? ⟨b, 9, none⟩ = false ∧ W.frozen? ⟨b, 10, none⟩ = false ∧ W.frozen? ⟨b, 11, none⟩ = false ∧ W.frozen? ⟨b, 12, none⟩ = false ∧ W.frozen? ⟨b, 13, none⟩ = false :=
  ⟨(blk_cell h 0).trans rfl, (blk_cell h 1).trans rfl, (blk_cell h 2).trans rfl, (blk_cell h 3).trans rfl, (blk_cell h 4).trans rfl, (blk_cell h 5).trans rfl, (blk_cell h 6).trans rfl, (blk_cell h 7).trans rfl, (blk_cell h 8).trans rfl, (blk_cell h 9).trans rfl, (blk_cell h 10).trans rfl, (blk_cell h 11).trans rfl, (blk_cell h 12).trans rfl, (blk_cell h 13).trans rfl, blk_frozen h 0, blk_frozen h 1, blk_frozen h 2, blk_frozen h 3, blk_frozen h 4, blk_frozen h 5, blk_frozen h 6, blk_frozen h 7, blk_frozen h 8, blk_frozen h 9, blk_frozen h 10, blk_frozen h 11, blk_frozen h 12, blk_frozen h 13⟩
theorem set_other (W : World) (b i k : Nat) (v : Value) (h : ¬ k = b) : (W.setCell ⟨b, i, none⟩ v).heap[k]? = W.heap[k]? := Below.heap_setCell W ⟨b, i, none⟩ v k h
end Go.Proofs.YtkioddjjfifadaaGreatDoor.P
namespace Go.Proofs.YtkioddjjfifadaaGreatDoor.P
open Go.RowKit Go.Proofs.YtkioddjjfifadaaGreatDoorW.PrintWords Go.Proofs.YtkioddjjfifadaaGreatDoorW.PrintLast Go.Proofs.YtkioddjjfifadaaGreatDoorW.PrintMore
theorem lit1 {W : World} {b : Nat} {k : IntKind} {x : Int} {t : TypeId} (h : W.heap[b]? = some (.cells #[.int k x] t (0, 0))) : Kd.C (Kd.int k) W (some ⟨b, 0, none⟩) 1 [x] :=
  Kd.C_of_reads (d := 0) ⟨rfl, by omega, fun _ => ⟨_, rfl, fun j hj => by
    obtain rfl : j = 0 := by omega
    exact (blk_cell h 0).trans rfl⟩⟩
theorem lit2 {W : World} {b : Nat} {k : IntKind} {x y : Int} {t : TypeId} (h : W.heap[b]? = some (.cells #[.int k x, .int k y] t (0, 0))) : Kd.C (Kd.int k) W (some ⟨b, 0, none⟩) 2 [x, y] :=
  Kd.C_of_reads (d := 0) ⟨rfl, by omega, fun _ => ⟨_, rfl, fun j hj => by
    obtain rfl | rfl : j = 0 ∨ j = 1 := by omega
    · exact (blk_cell h 0).trans rfl
    · exact (blk_cell h 1).trans rfl⟩⟩
theorem nil_C {α : Type} {d : Kd α} {W : World} {A : Option Addr} : Kd.C d W A 0 [] := ⟨rfl, by simp, fun h => absurd h (Nat.lt_irrefl 0)⟩
theorem blk_at {W : World} {k : Nat} (h : k = W.heap.size) (o : Obj) : (W.alloc o).heap[k]? = some o := h ▸ heap_alloc_new W o
theorem blk_keep {w w1 : World} {g : Nat} {o : Obj} (hb : Below w.heap.size w w1) (h : w.heap[g]? = some o) : w1.heap[g]? = some o := (hb.block g (blk_lt h)).trans h
theorem box3 {W : World} {b : Nat} {c0 c1 c2 : Value} {t : TypeId} (h : W.heap[b]? = some (.cells #[c0, c1, c2] t (0, 0))) :
    W.cell? ⟨b, 0, none⟩ = some c0 ∧ W.cell? ⟨b, 1, none⟩ = some c1 ∧ W.cell? ⟨b, 2, none⟩ = some c2 :=
  ⟨(blk_cell h 0).trans rfl, (blk_cell h 1).trans rfl, (blk_cell h 2).trans rfl⟩
end Go.Proofs.YtkioddjjfifadaaGreatDoor.P
namespace Go.Proofs.YtkioddjjfifadaaGreatDoor.P
open Go.RowKit Go.Proofs.YtkioddjjfifadaaGreatDoorW.PrintWords Go.Proofs.YtkioddjjfifadaaGreatDoorW.PrintLast Go.Proofs.YtkioddjjfifadaaGreatDoorW.PrintMore
/-- Nothing that was there is changed, but for block b. -/
structure Kp (b : Nat) (w w' : World) : Prop where
  low : ∀ B, B ≤ b → B ≤ w.heap.size → Below B w w'
  keep : ∀ k, k < w.heap.size → ¬ k = b → w'.heap[k]? = w.heap[k]?
theorem Kp.refl (b : Nat) (w : World) : Kp b w w := ⟨fun _ _ _ => Below.refl _ _, fun _ _ _ => rfl⟩
theorem Kp.size {b : Nat} {w w' : World} (h : Kp b w w') : w.heap.size ≤ w'.heap.size := (h.low 0 (Nat.zero_le _) (Nat.zero_le _)).size
theorem Kp.trans {b : Nat} {w w1 w2 : World} (h : Kp b w w1) (k : Kp b w1 w2) : Kp b w w2 :=
  ⟨fun B hb hs => (h.low B hb hs).trans (k.low B hb (Nat.le_trans hs h.size)), fun i hi hn => (k.keep i (Nat.lt_of_lt_of_le hi h.size) hn).trans (h.keep i hi hn)⟩
theorem Kp.of_below {b : Nat} {w w1 : World} (h : Below w.heap.size w w1) : Kp b w w1 := ⟨fun _ _ hs => h.mono hs, fun k hk _ => h.block k hk⟩
theorem Kp.alloc {b : Nat} {w w1 : World} (h : Kp b w w1) (o : Obj) : Kp b w (w1.alloc o) := h.trans (Kp.of_below ((Below.refl _ _).alloc (Nat.le_refl _) o))
theorem Kp.set {b : Nat} {w w1 : World} (h : Kp b w w1) (i : Nat) (u : Value) : Kp b w (w1.setCell ⟨b, i, none⟩ u) :=
  h.trans ⟨fun B hb _ => (Below.refl B w1).setCell hb u, fun k _ hn => Below.heap_setCell w1 ⟨b, i, none⟩ u k hn⟩
theorem Kp.blk {b g : Nat} {w w1 : World} {o : Obj} (h : Kp b w w1) (hg : w.heap[g]? = some o) (hn : ¬ g = b) : w1.heap[g]? = some o := (h.keep g (blk_lt hg) hn).trans hg
/-- The walk: what is left of it (nothing), its refusal. -/
abbrev Wk (W : World) (b : Nat) (A : Option Addr) (c : Nat) (ev : Value) : Prop := W.heap[b]? = some (.cells #[.slice A 0 c, ev] 168 (0, 0))
/-- A refusal for ErrForm. -/
def E6 (W : World) (ev : Value) : Prop := ∃ r, ev = .iface 256 (.pointer (some ⟨r, 0, none⟩)) ∧ W.heap[r]? = some (.cells #[.int .i64 6] 258 (0, 0))
def Ev (W : World) (ev : Value) : Prop := ev = .nilIface ∨ E6 W ev
theorem E6.blk_ne {W : World} {b r : Nat} {A : Option Addr} {c : Nat} {ev : Value} {x : Value} {t : TypeId} (hb : W.heap[b]? = some (.cells #[.slice A 0 c, ev] 168 (0, 0))) (hr : W.heap[r]? = some (.cells #[x] t (0, 0))) : ¬ r = b := by
  rintro rfl
  rw [hb] at hr
  injection hr with hr
  injection hr with h1
  exact absurd (congrArg Array.size h1) (by simp)
theorem E6.kp {b : Nat} {w w1 : World} {A : Option Addr} {c : Nat} {ev0 ev : Value} (h : E6 w ev) (hk : Kp b w w1) (hb : Wk w b A c ev0) : E6 w1 ev := by
  obtain ⟨r, rfl, hr⟩ := h
  exact ⟨r, rfl, hk.blk hr (E6.blk_ne hb hr)⟩
theorem E6.below {w w1 : World} {ev : Value} (h : E6 w ev) (hb : Below w.heap.size w w1) : E6 w1 ev := by
  obtain ⟨r, rfl, hr⟩ := h
  exact ⟨r, rfl, (hb.block r (blk_lt hr)).trans hr⟩
theorem E6.keep {n : Nat} {w w1 : World} {ev : Value} {cs : Array Value} {t : TypeId} (h : E6 w ev) (hk : Kp n w w1) (hn : w.heap[n]? = some (.cells cs t (0, 0))) (hs : ¬ cs.size = 1) : E6 w1 ev := by
  obtain ⟨r, rfl, hr⟩ := h
  refine ⟨r, rfl, hk.blk hr ?_⟩
  rintro rfl
  rw [hn] at hr
  injection hr with hr
  injection hr with h1
  exact hs (by rw [h1]; rfl)
theorem Kp.set_new {b n : Nat} {w w1 : World} (h : Kp b w w1) (hn : w.heap.size ≤ n) (i : Nat) (u : Value) : Kp b w (w1.setCell ⟨n, i, none⟩ u) :=
  ⟨fun B hb hs => (h.low B hb hs).setCell (Nat.le_trans hs hn) u, fun k hk hb => (Below.heap_setCell w1 ⟨n, i, none⟩ u k (by show ¬ k = n; omega)).trans (h.keep k hk hb)⟩
theorem kp_put5 (n : Nat) (W : World) (d0 d1 d2 d3 d4 : Value) : Kp n W (((((W.setCell ⟨n, 0, none⟩ d0).setCell ⟨n, 1, none⟩ d1).setCell ⟨n, 2, none⟩ d2).setCell ⟨n, 3, none⟩ d3).setCell ⟨n, 4, none⟩ d4) :=
  (((((Kp.refl n W).set 0 _).set 1 _).set 2 _).set 3 _).set 4 _
theorem Kp.put5_new {b n : Nat} {w W : World} (h : Kp b w W) (hn : w.heap.size ≤ n) (d0 d1 d2 d3 d4 : Value) : Kp b w (((((W.setCell ⟨n, 0, none⟩ d0).setCell ⟨n, 1, none⟩ d1).setCell ⟨n, 2, none⟩ d2).setCell ⟨n, 3, none⟩ d3).setCell ⟨n, 4, none⟩ d4) :=
  ((((h.set_new hn 0 _).set_new hn 1 _).set_new hn 2 _).set_new hn 3 _).set_new hn 4 _
theorem box2 {W : World} {b : Nat} {c0 c1 : Value} {t : TypeId} (h : W.heap[b]? = some (.cells #[c0, c1] t (0, 0))) :
    W.cell? ⟨b, 0, none⟩ = some c0 ∧ W.cell? ⟨b, 1, none⟩ = some c1 ∧ W.frozen? ⟨b, 0, none⟩ = false ∧ W.frozen? ⟨b, 1, none⟩ = false :=
  ⟨(blk_cell h 0).trans rfl, (blk_cell h 1).trans rfl, blk_frozen h 0, blk_frozen h 1⟩
theorem walk_refuse0 (b : Nat) (A : Option Addr) (c : Nat) (ev : Value) (w : World) (hw : Wk w b A c ev) (he : Ev w ev) :
    Calls Tryz.prog 98 #[.pointer (some ⟨b, 0, none⟩), .int .i64 6] w fun e w' => e = .returned (.tuple #[]) ∧ ∃ ev', Wk w' b A c ev' ∧ E6 w' ev' ∧ Kp b w w' := by
  have HW := Aside0.mk hw
  obtain ⟨k0, k1, z0, z1⟩ := box2 hw
  rcases he with rfl | he
  · have HW2 := Aside0.mk (blk_alloc hw (.cells #[.int .i64 6] 258))
    obtain ⟨j0, j1, y0, y1⟩ := box2 (blk_alloc hw (.cells #[.int .i64 6] 258))
    have HN := Aside0.mk (heap_alloc_new w (.cells #[.int .i64 6] 258))
    have hne := Aside0.mk (E6.blk_ne HW2.out HN.out)
    clear hw
    go_enter Tryz.func98, Tryz.ntmps98
    go_wp2
    go_end0
    exact ⟨rfl, _, blk_put HW2.out 1 _ rfl, ⟨_, rfl, (set_other _ b 1 _ _ hne.out).trans HN.out⟩, ((Kp.refl b w).alloc _).set 1 _⟩
  · obtain ⟨r, rfl, hr⟩ := he
    have HR := Aside0.mk hr
    clear hr hw
    go_enter Tryz.func98, Tryz.ntmps98
    go_wp2
    go_end0
    exact ⟨rfl, _, HW.out, ⟨_, rfl, HR.out⟩, Kp.refl b w⟩
theorem walk_is0 (b : Nat) (A : Option Addr) (c : Nat) (ev : Value) (x y : Int) (z : Bool) (w : World) (hw : Wk w b A c ev) :
    Calls Tryz.prog 114 #[.pointer (some ⟨b, 0, none⟩), .int .i64 x, .int .i64 y, .bool z] w fun e w' => e = .returned (.bool false) ∧ w' = w := by
  obtain ⟨k0, k1, z0, z1⟩ := box2 hw
  clear hw
  go_enter Tryz.func114, Tryz.ntmps114
  go_wp2
  go_ret
  exact ⟨rfl, rfl⟩
abbrev tlv0 : Array Value := #[.int .i64 0, .int .i64 0, .bool false, .slice none 0 0, .slice none 0 0]
theorem zero77 (W : World) : (W.alloc (.cells tlv0 77)).heap[W.heap.size]? = some (.cells tlv0 77 (0, 0)) := heap_alloc_new _ _
theorem walk_next0 (b : Nat) (A : Option Addr) (c : Nat) (ev : Value) (w : World) (hw : Wk w b A c ev) (he : Ev w ev) :
    Calls Tryz.prog 165 #[.pointer (some ⟨b, 0, none⟩)] w fun e w' => e = .returned (.agg #[.int .i64 0, .int .i64 0, .bool false, .slice none 0 0, .slice none 0 0]) ∧ ∃ ev', Wk w' b A c ev' ∧ E6 w' ev' ∧ Kp b w w' := by
  have HW := Aside0.mk (blk_alloc hw (.cells tlv0 77))
  have HE : Aside0 (Ev (w.alloc (.cells tlv0 77)) ev) := Aside0.mk (he.imp id fun h => h.below ((Below.refl _ _).alloc (Nat.le_refl _) _))
  obtain ⟨k0, k1, z0, z1⟩ := box2 HW.out
  have hb : Aside0 (¬ w.heap.size = b) := ⟨fun e => absurd (blk_lt hw) (by omega)⟩
  clear hw he
  go_enter Tryz.func165, Tryz.ntmps165
  go_wp2_with fail
  refine (walk_refuse0 b A c ev _ HW.out HE.out).mono ?_
  rintro e w1 ⟨rfl, ev1, h1, h2, h3⟩
  have H1 := Aside0.mk h1
  have H2 := Aside0.mk h2
  have H3 := Aside0.mk h3
  have HZ := Aside0.mk (h3.blk (zero77 w) hb.out)
  clear h1 h2 h3 k0 k1 z0 z1
  obtain ⟨k0, k1, k2, k3, k4, z0, z1, z2, z3, z4⟩ := box5 HZ.out
  go_wp2_with fail
  refine bodyPost_ret (results_cell_row rfl _ _ w.heap.size 77 tlv0 (0, 0) _ rfl (put5 HZ.out _ _ _ _ _) Tryz.underlying77 rfl (by kernel_rfl)) rfl ?_
  exact ⟨rfl, ev1, (kp_put5 w.heap.size w1 _ _ _ _ _).blk H1.out (fun e => hb.out e.symm), H2.out.keep (kp_put5 w.heap.size w1 _ _ _ _ _) HZ.out (by decide), (((Kp.refl b w).alloc _).trans H3.out).put5_new (Nat.le_refl _) _ _ _ _ _⟩
theorem walk_take0 (b : Nat) (A : Option Addr) (c : Nat) (ev : Value) (x y : Int) (z : Bool) (w : World) (hw : Wk w b A c ev) (he : Ev w ev) :
    Calls Tryz.prog 118 #[.pointer (some ⟨b, 0, none⟩), .int .i64 x, .int .i64 y, .bool z] w fun e w' => e = .returned (.agg #[.int .i64 0, .int .i64 0, .bool false, .slice none 0 0, .slice none 0 0]) ∧ ∃ ev', Wk w' b A c ev' ∧ E6 w' ev' ∧ Kp b w w' := by
  have HW := Aside0.mk (blk_alloc hw (.cells tlv0 77))
  have HE : Aside0 (Ev (w.alloc (.cells tlv0 77)) ev) := Aside0.mk (he.imp id fun h => h.below ((Below.refl _ _).alloc (Nat.le_refl _) _))
  have hb : Aside0 (¬ w.heap.size = b) := ⟨fun e => absurd (blk_lt hw) (by omega)⟩
  clear hw he
  go_enter Tryz.func118, Tryz.ntmps118
  go_wp2_with fail
  refine (walk_is0 b A c ev x y z _ HW.out).mono ?_
  rintro e w1 ⟨rfl, rfl⟩
  go_wp2_with fail
  refine (walk_refuse0 b A c ev _ HW.out HE.out).mono ?_
  rintro e w1 ⟨rfl, ev1, h1, h2, h3⟩
  have H1 := Aside0.mk h1
  have H2 := Aside0.mk h2
  have H3 := Aside0.mk h3
  have HZ := Aside0.mk (h3.blk (zero77 w) hb.out)
  clear h1 h2 h3
  go_wp2_with fail
  refine (walk_next0 b A c ev1 _ H1.out (Or.inr H2.out)).mono ?_
  rintro e w2 ⟨rfl, ev2, h1, h2, h3⟩
  have HZ2 := Aside0.mk (h3.blk HZ.out hb.out)
  have H4 := Aside0.mk h1
  have H5 := Aside0.mk h2
  have H6 := Aside0.mk (H3.out.trans h3)
  clear h1 h2 h3 H1 H2 H3 HZ
  obtain ⟨k0, k1, k2, k3, k4, z0, z1, z2, z3, z4⟩ := box5 HZ2.out
  go_wp2_with fail
  refine bodyPost_ret (results_cell_row rfl _ _ w.heap.size 77 tlv0 (0, 0) _ rfl (put5 HZ2.out _ _ _ _ _) Tryz.underlying77 rfl (by kernel_rfl)) rfl ?_
  exact ⟨rfl, ev2, (kp_put5 w.heap.size w2 _ _ _ _ _).blk H4.out (fun e => hb.out e.symm), H5.out.keep (kp_put5 w.heap.size w2 _ _ _ _ _) HZ2.out (by decide), (((Kp.refl b w).alloc _).trans H6.out).put5_new (Nat.le_refl _) _ _ _ _ _⟩
theorem whole_nil (w : World) : Calls Tryz.prog 216 #[.slice none 0 0] w fun e w' => e = .returned (.bool false) ∧ w' = w := by
  go_enter Tryz.func216, Tryz.ntmps216
  go_wp2
  go_ret
  exact ⟨rfl, rfl⟩
theorem uint_nil (w : World) : Calls Tryz.prog 164 #[.slice none 0 0] w fun e w' => e = .returned (.tuple #[.slice none 0 0, .int .i64 6]) ∧ w' = w := by
  go_enter Tryz.func164, Tryz.ntmps164
  go_wp2_with fail
  refine (whole_nil w).mono ?_
  rintro e w1 ⟨rfl, rfl⟩
  go_wp2
  go_ret2
  exact ⟨rfl, rfl⟩
theorem oid_nil (w : World) : Calls Tryz.prog 163 #[.slice none 0 0] w fun e w' => e = .returned (.tuple #[.string ⟨#[]⟩, .int .i64 6]) ∧ w' = w := by
  go_enter Tryz.func163, Tryz.ntmps163
  go_wp2
  go_ret2
  exact ⟨rfl, rfl⟩
set_option maxRecDepth 100000 in
theorem walk_oid0 (b : Nat) (A : Option Addr) (c : Nat) (ev : Value) (w : World) (hw : Wk w b A c ev) (he : Ev w ev) :
    Calls Tryz.prog 97 #[.pointer (some ⟨b, 0, none⟩)] w fun e w' => e = .returned (.string ⟨#[]⟩) ∧ ∃ ev', Wk w' b A c ev' ∧ E6 w' ev' ∧ Kp b w w' := by
  have hfl : ∀ (W : World), (Instr.field 77 (.agg #[.int .i64 0, .int .i64 0, .bool false, .slice none 0 0, .slice none 0 0]) 3).run Tryz.prog W = .ok (.slice none 0 0) W := fun W => by kernel_rfl
  have HW := Aside0.mk hw
  have HE := Aside0.mk he
  clear hw he
  go_enter Tryz.func97, Tryz.ntmps97
  go_wp2_with fail
  refine (walk_take0 b A c ev 0 6 false _ HW.out HE.out).mono ?_
  rintro e w1 ⟨rfl, ev1, h1, h2, h3⟩
  have H1 := Aside0.mk h1
  have H2 := Aside0.mk h2
  have H3 := Aside0.mk h3
  clear h1 h2 h3
  go_wp2_with fail
  refine (oid_nil _).mono ?_
  rintro e w2 ⟨rfl, rfl⟩
  go_wp2_with fail
  refine (walk_refuse0 b A c ev1 _ H1.out (Or.inr H2.out)).mono ?_
  rintro e w3 ⟨rfl, ev3, h1, h2, h3⟩
  have H4 := Aside0.mk h1
  have H5 := Aside0.mk h2
  have H6 := Aside0.mk (H3.out.trans h3)
  clear h1 h2 h3
  go_wp2_with fail
  go_ret
  exact ⟨rfl, ev3, H4.out, H5.out, H6.out⟩
set_option maxRecDepth 100000 in
theorem walk_number0 (b : Nat) (A : Option Addr) (c : Nat) (ev : Value) (w : World) (hw : Wk w b A c ev) (he : Ev w ev) :
    Calls Tryz.prog 99 #[.pointer (some ⟨b, 0, none⟩)] w fun e w' => e = .returned (.slice none 0 0) ∧ ∃ ev', Wk w' b A c ev' ∧ E6 w' ev' ∧ Kp b w w' := by
  have HW := Aside0.mk hw
  have HE := Aside0.mk he
  clear hw he
  go_enter Tryz.func99, Tryz.ntmps99
  go_wp2_with fail
  refine (walk_take0 b A c ev 0 2 false _ HW.out HE.out).mono ?_
  rintro e w1 ⟨rfl, ev1, h1, h2, h3⟩
  have H1 := Aside0.mk (blk_alloc h1 (.cells tlv0 77))
  have H2 := Aside0.mk (h2.below ((Below.refl _ w1).alloc (Nat.le_refl _) (.cells tlv0 77)))
  have H3 := Aside0.mk (h3.alloc (.cells tlv0 77))
  have hb : Aside0 (¬ w1.heap.size = b) := ⟨fun e => absurd (blk_lt h1) (by omega)⟩
  have HZ := Aside0.mk (zero77 w1)
  clear h1 h2 h3
  go_wp2_with fail
  refine (uint_nil _).mono ?_
  rintro e w2 ⟨rfl, rfl⟩
  go_wp2_with fail
  refine (walk_refuse0 b A c ev1 _ H1.out (Or.inr H2.out)).mono ?_
  rintro e w3 ⟨rfl, ev3, h1, h2, h3⟩
  have H4 := Aside0.mk h1
  have H5 := Aside0.mk h2
  have H6 := Aside0.mk (H3.out.trans h3)
  have HZ3 := Aside0.mk (h3.blk HZ.out hb.out)
  clear h1 h2 h3
  obtain ⟨k0, k1, k2, k3, k4, z0, z1, z2, z3, z4⟩ := box5 HZ3.out
  go_wp2_with fail
  go_ret
  exact ⟨rfl, ev3, H4.out, H5.out, H6.out⟩
set_option maxRecDepth 100000 in
theorem walk_into0 (b : Nat) (A : Option Addr) (c : Nat) (ev : Value) (x y : Int) (w : World) (hw : Wk w b A c ev) (he : Ev w ev) :
    Calls Tryz.prog 96 #[.pointer (some ⟨b, 0, none⟩), .int .i64 x, .int .i64 y] w fun e w' => ∃ n, e = .returned (.pointer (some ⟨n, 0, none⟩)) ∧ ∃ ev' A' c', Wk w' b A c ev' ∧ E6 w' ev' ∧ Wk w' n A' c' .nilIface ∧ w.heap.size ≤ n ∧ Kp b w w' := by
  have HW := Aside0.mk hw
  have HE := Aside0.mk he
  clear hw he
  go_enter Tryz.func96, Tryz.ntmps96
  go_wp2_with fail
  refine (walk_take0 b A c ev x y true _ HW.out HE.out).mono ?_
  rintro e w1 ⟨rfl, ev1, h1, h2, h3⟩
  have H1 := Aside0.mk (blk_alloc h1 (.cells tlv0 77))
  have H2 := Aside0.mk (h2.below ((Below.refl _ w1).alloc (Nat.le_refl _) (.cells tlv0 77)))
  have H3 := Aside0.mk (h3.alloc (.cells tlv0 77))
  have hb : Aside0 (¬ w1.heap.size = b) := ⟨fun e => absurd (blk_lt h1) (by omega)⟩
  have HZ := Aside0.mk (zero77 w1)
  clear h1 h2 h3
  go_wp2_with fail
  refine (der_Split.calls 1 none 0 [] [] 0 0 _ ?sa ?sb split_nil_f).mono ?_
  case sa => exact ⟨rfl, by simp, fun h => absurd h (Nat.lt_irrefl 0)⟩
  case sb => exact Nat.zero_le _
  rintro e w2 ⟨v, rfl, hv, hbl⟩
  obtain ⟨A2, c2, rfl⟩ := Kd.S_slice hv
  have H4 := Aside0.mk ((hbl.block b (blk_lt H1.out)).trans H1.out)
  have H5 := Aside0.mk (H2.out.below hbl)
  have H6 := Aside0.mk (H3.out.trans (Kp.of_below hbl))
  clear hv hbl
  go_wp2_with fail
  go_ret
  refine ⟨w2.heap.size, rfl, ev1, A2, c2, blk_alloc H4.out _, H5.out.below ((Below.refl _ _).alloc (Nat.le_refl _) _), heap_alloc_new _ _, H6.out.size, H6.out.alloc _⟩
theorem walk_rows0 (b : Nat) (A : Option Addr) (c : Nat) (ev : Value) (x : Int) (w : World) (hw : Wk w b A c ev) :
    Calls Tryz.prog 101 #[.pointer (some ⟨b, 0, none⟩), .int .i64 x] w fun e w' => e = .returned (.slice none 0 0) ∧ w' = w := by
  have HW := Aside0.mk hw
  clear hw
  go_enter Tryz.func101, Tryz.ntmps101
  go_wp2_with fail
  refine (walk_is0 b A c ev 2 x true _ HW.out).mono ?_
  rintro e w1 ⟨rfl, rfl⟩
  go_wp2_with fail
  go_ret
  exact ⟨rfl, rfl⟩
/-- done: the other walk was refused. -/
theorem walk_done0 (b v : Nat) (A : Option Addr) (c : Nat) (ev : Value) (Av : Option Addr) (cv : Nat) (evv : Value) (w : World) (hw : Wk w b A c ev) (he : Ev w ev) (hv : Wk w v Av cv evv) (hev : E6 w evv) :
    Calls Tryz.prog 102 #[.pointer (some ⟨b, 0, none⟩), .pointer (some ⟨v, 0, none⟩)] w fun e w' => e = .returned (.tuple #[]) ∧ ∃ ev', Wk w' b A c ev' ∧ E6 w' ev' ∧ Kp b w w' := by
  have HW := Aside0.mk hw
  have HE := Aside0.mk he
  obtain ⟨r, rfl, hr⟩ := hev
  obtain ⟨k0, k1, z0, z1⟩ := box2 hv
  clear hw he hv hr
  go_enter Tryz.func102, Tryz.ntmps102
  go_wp2_with fail
  refine (walk_refuse0 b A c ev _ HW.out HE.out).mono ?_
  rintro e w1 ⟨rfl, ev1, h1, h2, h3⟩
  have H1 := Aside0.mk h1
  have H2 := Aside0.mk h2
  have H3 := Aside0.mk h3
  clear h1 h2 h3
  go_wp2_with fail
  go_end0
  exact ⟨rfl, ev1, H1.out, H2.out, H3.out⟩
end Go.Proofs.YtkioddjjfifadaaGreatDoor.P
namespace Go.Proofs.YtkioddjjfifadaaGreatDoor.P
open Go.RowKit Go.Proofs.YtkioddjjfifadaaGreatDoorW.PrintWords Go.Proofs.YtkioddjjfifadaaGreatDoorW.PrintLast Go.Proofs.YtkioddjjfifadaaGreatDoorW.PrintMore
theorem Kp.same {b s i : Nat} {w w1 : World} {o : Obj} {u : Value} (h : Kp b w w1) (hs : w1.heap[s]? = some o) (hp : (w1.setCell ⟨s, i, none⟩ u).heap[s]? = some o) : Kp b w (w1.setCell ⟨s, i, none⟩ u) := by
  have heq : ∀ k, (w1.setCell ⟨s, i, none⟩ u).heap[k]? = w1.heap[k]? := fun k => by
    by_cases hk : k = s
    · rw [hk, hp, hs]
    · exact Below.heap_setCell w1 ⟨s, i, none⟩ u k hk
  exact ⟨fun B hb hz => (h.low B hb hz).trans ⟨rfl, rfl, rfl, by simp [World.setCell], fun k _ => heq k⟩, fun k hk hn => (heq k).trans (h.keep k hk hn)⟩
theorem Kp.over {b n : Nat} {w w1 w2 : World} (h : Kp b w w1) (k : Kp n w1 w2) (hn : w.heap.size ≤ n) : Kp b w w2 :=
  ⟨fun B hb hz => (h.low B hb hz).trans (k.low B (Nat.le_trans hz hn) (Nat.le_trans hz h.size)), fun i hi hb => (k.keep i (Nat.lt_of_lt_of_le hi h.size) (by omega)).trans (h.keep i hi hb)⟩
abbrev sg0 : Array Value := #[.string ⟨#[]⟩, .bool false, .slice none 0 0, .slice none 0 0, .slice none 0 0, .slice none 0 0]
abbrev Sg (W : World) (s : Nat) : Prop := W.heap[s]? = some (.cells #[.string ⟨#[]⟩, .bool false, .slice none 0 0, .slice none 0 0, .slice none 0 0, .slice none 0 0] 70 (0, 0))
theorem box6 {W : World} {b : Nat} {c0 c1 c2 c3 c4 c5 : Value} {t : TypeId} (h : W.heap[b]? = some (.cells #[c0, c1, c2, c3, c4, c5] t (0, 0))) :
    W.cell? ⟨b, 0, none⟩ = some c0 ∧ W.cell? ⟨b, 1, none⟩ = some c1 ∧ W.cell? ⟨b, 2, none⟩ = some c2 ∧ W.cell? ⟨b, 3, none⟩ = some c3 ∧ W.cell? ⟨b, 4, none⟩ = some c4 ∧ W.cell? ⟨b, 5, none⟩ = some c5 ∧
      W.frozen? ⟨b, 0, none⟩ = false ∧ W.frozen? ⟨b, 1, none⟩ = false ∧ W.frozen? ⟨b, 2, none⟩ = false ∧ W.frozen? ⟨b, 3, none⟩ = false ∧ W.frozen? ⟨b, 4, none⟩ = false ∧ W.frozen? ⟨b, 5, none⟩ = false :=
  ⟨(blk_cell h 0).trans rfl, (blk_cell h 1).trans rfl, (blk_cell h 2).trans rfl, (blk_cell h 3).trans rfl, (blk_cell h 4).trans rfl, (blk_cell h 5).trans rfl, blk_frozen h 0, blk_frozen h 1, blk_frozen h 2, blk_frozen h 3, blk_frozen h 4, blk_frozen h 5⟩
theorem put6_0 {W : World} {b : Nat} {c0 c1 c2 c3 c4 c5 : Value} {t : TypeId} (h : W.heap[b]? = some (.cells #[c0, c1, c2, c3, c4, c5] t (0, 0))) (d : Value) :
    (W.setCell ⟨b, 0, none⟩ d).heap[b]? = some (.cells #[d, c1, c2, c3, c4, c5] t (0, 0)) := blk_put h 0 d rfl
theorem put6_3 {W : World} {b : Nat} {c0 c1 c2 c3 c4 c5 : Value} {t : TypeId} (h : W.heap[b]? = some (.cells #[c0, c1, c2, c3, c4, c5] t (0, 0))) (d : Value) :
    (W.setCell ⟨b, 3, none⟩ d).heap[b]? = some (.cells #[c0, c1, c2, d, c4, c5] t (0, 0)) := blk_put h 3 d rfl
theorem put6_4 {W : World} {b : Nat} {c0 c1 c2 c3 c4 c5 : Value} {t : TypeId} (h : W.heap[b]? = some (.cells #[c0, c1, c2, c3, c4, c5] t (0, 0))) (d : Value) :
    (W.setCell ⟨b, 4, none⟩ d).heap[b]? = some (.cells #[c0, c1, c2, c3, d, c5] t (0, 0)) := blk_put h 4 d rfl
theorem sg_ne {W : World} {b s : Nat} {A : Option Addr} {c : Nat} {ev : Value} (hb : Wk W b A c ev) (hs : Sg W s) : ¬ s = b := by
  rintro rfl
  unfold Wk at hb
  unfold Sg at hs
  rw [hb] at hs
  injection hs with hs
  injection hs with h1
  exact absurd (congrArg Array.size h1) (by simp)
set_option maxRecDepth 100000 in
theorem walk_content0 (b s : Nat) (A : Option Addr) (c : Nat) (ev : Value) (w : World) (hw : Wk w b A c ev) (he : Ev w ev) (hs : Sg w s) :
    Calls Tryz.prog 100 #[.pointer (some ⟨b, 0, none⟩), .pointer (some ⟨s, 0, none⟩)] w fun e w' => e = .returned (.tuple #[]) ∧ ∃ ev', Wk w' b A c ev' ∧ E6 w' ev' ∧ Kp b w w' := by
  have hsb := Aside0.mk (sg_ne hw hs)
  have HW := Aside0.mk hw
  have HE := Aside0.mk he
  have HS := Aside0.mk hs
  have hlt := Aside0.mk (blk_lt hw)
  clear hw he hs
  go_enter Tryz.func100, Tryz.ntmps100
  go_wp2_with fail
  refine (walk_into0 b A c ev 0 16 _ HW.out HE.out).mono ?_
  rintro e w1 ⟨n, rfl, ev1, A1, c1, h1, h2, h3, h4, h5⟩
  have H1 := Aside0.mk h1
  have H2 := Aside0.mk h2
  have H3 := Aside0.mk h3
  have H5 := Aside0.mk h5
  have H4 := Aside0.mk h4
  have hnb : Aside0 (¬ b = n) := ⟨by have := hlt.out; omega⟩
  have hsn : Aside0 (¬ s = n) := ⟨by have := blk_lt HS.out; omega⟩
  have HS1 := Aside0.mk (h5.blk HS.out hsb.out)
  clear h1 h2 h3 h4 h5
  go_wp2_with fail
  refine (walk_oid0 n A1 c1 .nilIface _ H3.out (Or.inl rfl)).mono ?_
  rintro e w2 ⟨rfl, ev2, h1, h2, h3⟩
  have J1 := Aside0.mk (h3.blk H1.out hnb.out)
  have J2 := Aside0.mk (H2.out.kp h3 H3.out)
  have J3 := Aside0.mk h1
  have J4 := Aside0.mk h2
  have HS2 := Aside0.mk (h3.blk HS1.out hsn.out)
  have J5 := Aside0.mk (H5.out.over h3 H4.out)
  clear h1 h2 h3
  obtain ⟨k0, k1, k2, k3, k4, k5, z0, z1, z2, z3, z4, z5⟩ := box6 HS2.out
  obtain ⟨n0, n1, y0, y1⟩ := box2 J3.out
  have hns : ¬ n = s := fun e => hsn.out e.symm
  have hsn' : ¬ s = n := hsn.out
  go_wp2_with fail
  have hp := put6_0 HS2.out (.string ⟨#[]⟩)
  have hk := (Kp.refl b w2).same HS2.out hp
  have hkn := (Kp.refl n w2).same HS2.out hp
  have M1 := Aside0.mk ((Kp.refl s w2).set 0 (.string ⟨#[]⟩) |>.blk J1.out (fun e => hsb.out e.symm))
  have M2 := Aside0.mk (J2.out.keep ((Kp.refl s w2).set 0 (.string ⟨#[]⟩)) HS2.out (by decide))
  have M3 := Aside0.mk ((Kp.refl s w2).set 0 (.string ⟨#[]⟩) |>.blk J3.out hns)
  have M4 := Aside0.mk (J4.out.keep ((Kp.refl s w2).set 0 (.string ⟨#[]⟩)) HS2.out (by decide))
  have M5 := Aside0.mk (J5.out.trans hk)
  clear hk hkn hp
  refine (walk_done0 b n A c ev1 A1 c1 ev2 _ M1.out (Or.inr M2.out) M3.out M4.out).mono ?_
  rintro e w3 ⟨rfl, ev3, h1, h2, h3⟩
  have N1 := Aside0.mk h1
  have N2 := Aside0.mk h2
  have N3 := Aside0.mk (M5.out.trans h3)
  clear h1 h2 h3
  go_wp2_with fail
  go_end0
  exact ⟨rfl, ev3, N1.out, N2.out, N3.out⟩
theorem blk_here {W : World} {k : Nat} (h : k = W.heap.size) (o : Obj) : (W.alloc o).heap[k]? = some o := h ▸ heap_alloc_new W o
theorem put2_0 {W : World} {b : Nat} {c0 c1 : Value} {t : TypeId} (h : W.heap[b]? = some (.cells #[c0, c1] t (0, 0))) (d : Value) :
    (W.setCell ⟨b, 0, none⟩ d).heap[b]? = some (.cells #[d, c1] t (0, 0)) := blk_put h 0 d rfl
/-- The walk over the one element 30 00. -/
abbrev W1 (W : World) (a q : Nat) : Prop := W.heap[a]? = some (.cells #[.slice (some ⟨q, 0, none⟩) 1 1, .nilIface] 168 (0, 0))
abbrev Q1 (W : World) (q : Nat) (A3 : Option Addr) (c3 : Nat) (A4 : Option Addr) (c4 : Nat) : Prop := W.heap[q]? = some (.cells #[.int .i64 0, .int .i64 16, .bool true, .slice A3 0 c3, .slice A4 2 c4] 77 (0, 0))
theorem walk_is1 (a q : Nat) (A3 : Option Addr) (c3 : Nat) (A4 : Option Addr) (c4 : Nat) (w : World) (hw : W1 w a q) (hq : Q1 w q A3 c3 A4 c4) :
    Calls Tryz.prog 114 #[.pointer (some ⟨a, 0, none⟩), .int .i64 0, .int .i64 16, .bool true] w fun e w' => e = .returned (.bool true) ∧ w' = w := by
  obtain ⟨k0, k1, z0, z1⟩ := box2 hw
  obtain ⟨q0, q1, q2, q3, q4, y0, y1, y2, y3, y4⟩ := box5 hq
  clear hw hq
  go_enter Tryz.func114, Tryz.ntmps114
  go_wp2
  go_ret
  exact ⟨rfl, rfl⟩
set_option maxRecDepth 100000 in
theorem walk_next1 (a q : Nat) (A3 : Option Addr) (c3 : Nat) (A4 : Option Addr) (c4 : Nat) (w : World) (hw : W1 w a q) (hq : Q1 w q A3 c3 A4 c4) :
    Calls Tryz.prog 165 #[.pointer (some ⟨a, 0, none⟩)] w fun e w' => e = .returned (.agg #[.int .i64 0, .int .i64 16, .bool true, .slice A3 0 c3, .slice A4 2 c4]) ∧ ∃ A c, Wk w' a A c .nilIface ∧ Kp a w w' := by
  have HW0 := Aside0.mk hw
  have HW := Aside0.mk (blk_alloc hw (.cells tlv0 77))
  have HQ := Aside0.mk (blk_alloc hq (.cells tlv0 77))
  obtain ⟨k0, k1, z0, z1⟩ := box2 HW.out
  obtain ⟨q0, q1, q2, q3, q4, y0, y1, y2, y3, y4⟩ := box5 HQ.out
  have ha : a < w.heap.size := blk_lt hw
  clear hw hq
  go_enter Tryz.func165, Tryz.ntmps165
  go_wp2_with fail
  refine bodyPost_ret (results_cell_row rfl _ _ w.heap.size 77 #[.int .i64 0, .int .i64 16, .bool true, .slice A3 0 c3, .slice A4 2 c4] (0, 0) _ rfl (blk_alloc (blk_here (by simp [World.setCell]) _) _) Tryz.underlying77 rfl (by kernel_rfl)) rfl ?_
  exact ⟨rfl, _, _, blk_alloc (blk_alloc (put2_0 HW0.out _) _) _, (((Kp.refl a w).set 0 _).alloc _).alloc _⟩
set_option maxRecDepth 100000 in
theorem walk_take1 (a q : Nat) (A3 : Option Addr) (c3 : Nat) (A4 : Option Addr) (c4 : Nat) (w : World) (hw : W1 w a q) (hq : Q1 w q A3 c3 A4 c4) :
    Calls Tryz.prog 118 #[.pointer (some ⟨a, 0, none⟩), .int .i64 0, .int .i64 16, .bool true] w fun e w' => e = .returned (.agg #[.int .i64 0, .int .i64 16, .bool true, .slice A3 0 c3, .slice A4 2 c4]) ∧ ∃ A c, Wk w' a A c .nilIface ∧ Kp a w w' := by
  have HW := Aside0.mk (blk_alloc hw (.cells tlv0 77))
  have HQ := Aside0.mk (blk_alloc hq (.cells tlv0 77))
  have ha : Aside0 (¬ w.heap.size = a) := ⟨fun e => absurd (blk_lt hw) (by omega)⟩
  clear hw hq
  go_enter Tryz.func118, Tryz.ntmps118
  go_wp2_with fail
  refine (walk_is1 a q A3 c3 A4 c4 _ HW.out HQ.out).mono ?_
  rintro e w1 ⟨rfl, rfl⟩
  go_wp2_with fail
  refine (walk_next1 a q A3 c3 A4 c4 _ HW.out HQ.out).mono ?_
  rintro e w2 ⟨rfl, A, c, h1, h2⟩
  have HZ := Aside0.mk (h2.blk (zero77 w) ha.out)
  have H1 := Aside0.mk h1
  have H2 := Aside0.mk h2
  clear h1 h2
  obtain ⟨k0, k1, k2, k3, k4, z0, z1, z2, z3, z4⟩ := box5 HZ.out
  go_wp2_with fail
  refine bodyPost_ret (results_cell_row rfl _ _ w.heap.size 77 #[.int .i64 0, .int .i64 16, .bool true, .slice A3 0 c3, .slice A4 2 c4] (0, 0) _ rfl (put5 HZ.out _ _ _ _ _) Tryz.underlying77 rfl (by kernel_rfl)) rfl ?_
  exact ⟨rfl, A, c, (kp_put5 w.heap.size w2 _ _ _ _ _).blk H1.out (fun e => ha.out e.symm), (((Kp.refl a w).alloc _).trans H2.out).put5_new (Nat.le_refl _) _ _ _ _ _⟩
set_option maxRecDepth 100000 in
theorem walk_into1 (a q : Nat) (A3 : Option Addr) (c3 : Nat) (A4 : Option Addr) (c4 : Nat) (w : World) (hw : W1 w a q) (hq : Q1 w q A3 c3 A4 c4) :
    Calls Tryz.prog 96 #[.pointer (some ⟨a, 0, none⟩), .int .i64 0, .int .i64 16] w fun e w' => ∃ n, e = .returned (.pointer (some ⟨n, 0, none⟩)) ∧ ∃ A c A' c', Wk w' a A c .nilIface ∧ Wk w' n A' c' .nilIface ∧ w.heap.size ≤ n ∧ Kp a w w' := by
  have HW := Aside0.mk hw
  have HQ := Aside0.mk hq
  clear hw hq
  go_enter Tryz.func96, Tryz.ntmps96
  go_wp2_with fail
  refine (walk_take1 a q A3 c3 A4 c4 _ HW.out HQ.out).mono ?_
  rintro e w1 ⟨rfl, A, c, h1, h2⟩
  have H1 := Aside0.mk (blk_alloc h1 (.cells #[.int .i64 0, .int .i64 16, .bool true, .slice A3 0 c3, .slice A4 2 c4] 77))
  have H2 := Aside0.mk (h2.alloc (.cells #[.int .i64 0, .int .i64 16, .bool true, .slice A3 0 c3, .slice A4 2 c4] 77))
  clear h1 h2
  go_wp2_with fail
  refine (der_Split.calls 1 A3 c3 [] [] 0 0 _ ?sa ?sb split_nil_f).mono ?_
  case sa => exact ⟨rfl, by simp, fun h => absurd h (Nat.lt_irrefl 0)⟩
  case sb => exact Nat.zero_le _
  rintro e w2 ⟨v, rfl, hv, hbl⟩
  obtain ⟨A2, c2, rfl⟩ := Kd.S_slice hv
  have H4 := Aside0.mk ((hbl.block a (blk_lt H1.out)).trans H1.out)
  have H6 := Aside0.mk (H2.out.trans (Kp.of_below hbl))
  clear hv hbl
  go_wp2_with fail
  go_ret
  exact ⟨w2.heap.size, rfl, A, c, A2, c2, blk_alloc H4.out _, heap_alloc_new _ _, H6.out.size, H6.out.alloc _⟩
end Go.Proofs.YtkioddjjfifadaaGreatDoor.P
namespace Go.Proofs.YtkioddjjfifadaaGreatDoor.P
open Go.RowKit Go.Extern.Stop Go.Stop Go.Extern
theorem Ref.valueOf27 (t : Addr) (w : World) : (ReflectliteValue.unpack (.iface 261 (.pointer (some t)))).run Tryz.prog w
    = .ok (.agg #[.pointer (some ⟨7, 261, none⟩), .pointer (some ⟨w.heap.size, 0, none⟩), .int .u64 150]) (w.alloc (.cells #[.pointer (some t)] 261)) := by kernel_rfl
theorem Ref.type27 (a : Addr) (w : World) : (ReflectliteValue.methodAny (ReflectliteValue.valueError "reflectlite.Value.Type" 0) (fun t _ _ _ => ReflectliteType.toType t) #[.agg #[.pointer (some ⟨7, 261, none⟩), .pointer (some a), .int .u64 150]]).run Tryz.prog w
    = .ok (.iface 336 (.agg #[.pointer (some ⟨7, 261, none⟩)])) w := by kernel_rfl
theorem Ref.methodKind (h : Value) (w : World) : (Go.method 558 336 (.agg #[h]) "Kind").run Tryz.prog w = .ok (333, h) w := by kernel_rfl
theorem Ref.kind27 (w : World) : ((ReflectliteType.abiMethod fun t => (fun a : Nat => Value.int IntKind.u8 (a : Int)) <$> Rtype.kind t) #[.pointer (some ⟨7, 261, none⟩)]).run Tryz.prog w = .ok (.int .u8 22) w := by kernel_rfl
theorem Ref.kind25 (w : World) : ((ReflectliteType.abiMethod fun t => (fun a : Nat => Value.int IntKind.u8 (a : Int)) <$> Rtype.kind t) #[.pointer (some ⟨7, 256, none⟩)]).run Tryz.prog w = .ok (.int .u8 22) w := by kernel_rfl
theorem rlm (z : Sem Value) (f : TypeId → Addr → Nat → Nat → Sem Value) (v : Value) :
    ReflectliteValue.method z f #[v] = (do match ← ReflectliteValue.parts v with | none => z | some (t, a, fl) => f t a fl (fl % 32)) := rfl
theorem Ref.parts27 (a : Addr) (w : World) : (ReflectliteValue.parts (.agg #[.pointer (some ⟨7, 261, none⟩), .pointer (some a), .int .u64 150])).run Tryz.prog w = .ok (some (261, a, 150)) w := by kernel_rfl
/-- (Value).IsNil at the Value of a **p.E that is not nil. -/
theorem Ref.isNil27 (a p : Addr) (W : World) (ha : W.cell? a = some (.pointer (some p))) :
    (ReflectliteValue.method (ReflectliteValue.valueError "reflectlite.Value.IsNil" 0) ReflectliteValue.isNil #[.agg #[.pointer (some ⟨7, 261, none⟩), .pointer (some a), .int .u64 150]]).run Tryz.prog W = .ok (.bool false) W := by
  rw [rlm]
  simp only [Sem.run_bind, Ref.parts27, Result.andThen]
  simp [ReflectliteValue.isNil, loadVar, isAgg, underlying, Tryz.underlying261, ha, Result.andThen]
theorem Ref.methodElem (h : Value) (w : World) : (Go.method 558 336 (.agg #[h]) "Elem").run Tryz.prog w = .ok (349, .agg #[h]) w := by kernel_rfl
theorem Ref.methodImplements (h : Value) (w : World) : (Go.method 558 336 (.agg #[h]) "Implements").run Tryz.prog w = .ok (350, .agg #[h]) w := by kernel_rfl
theorem Ref.methodAssignableTo (h : Value) (w : World) : (Go.method 558 336 (.agg #[h]) "AssignableTo").run Tryz.prog w = .ok (347, .agg #[h]) w := by kernel_rfl
theorem Ref.elem27 (w : World) : (ReflectliteType.method ReflectliteType.elem #[.agg #[.pointer (some ⟨7, 261, none⟩)]]).run Tryz.prog w = .ok (.iface 336 (.agg #[.pointer (some ⟨7, 256, none⟩)])) w := by kernel_rfl
theorem Ref.implements25 (w : World) : (ReflectliteType.relation "Implements" ReflectliteType.implements_ #[.agg #[.pointer (some ⟨7, 256, none⟩)], .iface 336 (.agg #[.pointer (some ⟨7, 132, none⟩)])]).run Tryz.prog w = .ok (.bool true) w := by kernel_rfl
theorem Ref.typeOf25 (v : Value) (w : World) : (ReflectliteType.typeOf #[.iface 256 v]).run Tryz.prog w = .ok (.iface 336 (.agg #[.pointer (some ⟨7, 256, none⟩)])) w := by kernel_rfl
theorem Ref.assignable25 (w : World) : (ReflectliteType.relation "AssignableTo" ReflectliteType.assignableTo #[.agg #[.pointer (some ⟨7, 256, none⟩)], .iface 336 (.agg #[.pointer (some ⟨7, 256, none⟩)])]).run Tryz.prog w = .ok (.bool true) w := by kernel_rfl
theorem Ref.valueOf25 (e : Addr) (w : World) : (ReflectliteValue.unpack (.iface 256 (.pointer (some e)))).run Tryz.prog w
    = .ok (.agg #[.pointer (some ⟨7, 256, none⟩), .pointer (some ⟨w.heap.size, 0, none⟩), .int .u64 150]) (w.alloc (.cells #[.pointer (some e)] 256)) := by kernel_rfl
theorem Ref.elemOf27 (w : World) : (Rtype.elem? 261).run Tryz.prog w = .ok (some 256) w := by kernel_rfl
theorem Ref.mk25 (p : Addr) (w : World) : (ReflectliteValue.mk 256 p ReflectliteValue.flagAddr).run Tryz.prog w = .ok (.agg #[.pointer (some ⟨7, 256, none⟩), .pointer (some p), .int .u64 406]) w := by kernel_rfl
/-- (Value).Elem at the Value of a **p.E that is not nil: the Value of the *p.E variable that it points to, addressable. -/
theorem Ref.elemV27 (a p : Addr) (W : World) (ha : W.cell? a = some (.pointer (some p))) :
    (ReflectliteValue.method (ReflectliteValue.valueError "reflectlite.Value.Elem" 0) ReflectliteValue.elem #[.agg #[.pointer (some ⟨7, 261, none⟩), .pointer (some a), .int .u64 150]]).run Tryz.prog W
      = .ok (.agg #[.pointer (some ⟨7, 256, none⟩), .pointer (some p), .int .u64 406]) W := by
  rw [rlm]
  simp only [Sem.run_bind, Ref.parts27, Result.andThen]
  simp [ReflectliteValue.elem, loadVar, isAgg, underlying, Tryz.underlying261, ha, Result.andThen, Ref.elemOf27, Ref.mk25]
theorem rls (v x : Value) : ReflectliteValue.set #[v, x] = (do
    let (some (dst, a, fl), some (src, b, _)) := (← ReflectliteValue.parts v, ← ReflectliteValue.parts x)
      | unsupported (.noEntry "extern/(internal/reflectlite.Value).Set.zeroValue")
    if fl / ReflectliteValue.flagAddr % 2 == 0 then unsupported (.noEntry "extern/(internal/reflectlite.Value).Set.unaddressable")
    let val ← loadVar src b
    if ← Rtype.directlyAssignable dst src then storeVar dst a val
    else if ← Rtype.implements dst src then
      if (← Rtype.kind src) == 20 then
        match val with
        | .nilIface => unsupported (.noEntry "extern/reflectlite: a nil value of one interface type handed on as a value of another")
        | _ => storeVar dst a val
      else storeVar dst a (.iface src val)
    else panicString ("reflectlite.Set: value of type " ++ (← Rtype.spelt src) ++ " is not assignable to type " ++ (← Rtype.spelt dst))
    pure (.tuple #[])) := rfl
theorem Ref.parts25a (a : Addr) (w : World) : (ReflectliteValue.parts (.agg #[.pointer (some ⟨7, 256, none⟩), .pointer (some a), .int .u64 406])).run Tryz.prog w = .ok (some (256, a, 406)) w := by kernel_rfl
theorem Ref.parts25 (a : Addr) (w : World) : (ReflectliteValue.parts (.agg #[.pointer (some ⟨7, 256, none⟩), .pointer (some a), .int .u64 150])).run Tryz.prog w = .ok (some (256, a, 150)) w := by kernel_rfl
theorem Ref.direct25 (w : World) : (Rtype.directlyAssignable 256 256).run Tryz.prog w = .ok true w := by kernel_rfl
/-- (Value).Set: the *p.E variable at 'ta' gets what the Value's own variable 'b' holds. -/
theorem Ref.set25 (ta b e : Addr) (old : Value) (W : World) (hb : W.cell? b = some (.pointer (some e))) (ht : W.cell? ta = some old) (hf : W.frozen? ta = false) :
    (ReflectliteValue.set #[.agg #[.pointer (some ⟨7, 256, none⟩), .pointer (some ta), .int .u64 406], .agg #[.pointer (some ⟨7, 256, none⟩), .pointer (some b), .int .u64 150]]).run Tryz.prog W
      = .ok (.tuple #[]) (W.setCell ta (.pointer (some e))) := by
  rw [rls]
  simp only [Sem.run_bind, Ref.parts25a, Ref.parts25, Result.andThen]
  simp [ReflectliteValue.flagAddr, loadVar, isAgg, underlying, Tryz.underlying256, hb, Result.andThen, Ref.direct25, storeVar, Value.cells, storeCells, Addr.add]
  rw [run_store Tryz.prog W ta _ _ (by rfl)]
  simp [ht, hf]
set_option maxRecDepth 100000 in
set_option maxHeartbeats 4000000 in
theorem as_hit (e t : Addr) (old : Value) (w : World) (hg : w.cell? ⟨0, 0, none⟩ = some (.iface 336 (.agg #[.pointer (some ⟨7, 132, none⟩)]))) (ht0 : w.cell? t = some old) (hf0 : w.frozen? t = false) :
    Calls Tryz.prog 143 #[.iface 256 (.pointer (some e)), .iface 261 (.pointer (some t))] w fun ev w' => ev = .returned (.bool true) ∧ w' = ((((w.alloc (.cells #[.pointer (some t)] 261)).alloc (.cells #[.pointer (some ⟨7, 261, none⟩), .pointer (some ⟨w.heap.size, 0, none⟩), .int .u64 150] 289)).alloc (.cells #[.pointer (some ⟨7, 261, none⟩), .pointer (some ⟨w.heap.size, 0, none⟩), .int .u64 150] 289)).alloc (.cells #[.pointer (some e)] 256)).setCell t (.pointer (some e)) := by
  have h6 := @run_callFunc_extern Tryz.prog 190 _ (fun args => ReflectliteValue.unpack (args.getD 0 (.tuple #[]))) Tryz.func190 (by kernel_rfl) (by kernel_rfl) (by kernel_rfl) (by kernel_rfl)
  have h7 := @run_callFunc_extern Tryz.prog 191 _ (ReflectliteValue.methodAny (ReflectliteValue.valueError "reflectlite.Value.Type" 0) (fun t _ _ _ => ReflectliteType.toType t)) Tryz.func191 (by kernel_rfl) (by kernel_rfl) (by kernel_rfl) (by kernel_rfl)
  have h8 := @run_callFunc_extern Tryz.prog 192 _ (ReflectliteValue.method (ReflectliteValue.valueError "reflectlite.Value.IsNil" 0) ReflectliteValue.isNil) Tryz.func192 (by kernel_rfl) (by kernel_rfl) (by kernel_rfl) (by kernel_rfl)
  have h27 := @run_callFunc_extern Tryz.prog 333 _ (ReflectliteType.abiMethod fun t => do pure (.int .u8 (← Rtype.kind t))) Tryz.func333 (by kernel_rfl) (by kernel_rfl) (by kernel_rfl) (by kernel_rfl)
  have h37 := @run_callFunc_extern Tryz.prog 349 _ (ReflectliteType.method ReflectliteType.elem) Tryz.func349 (by kernel_rfl) (by kernel_rfl) (by kernel_rfl) (by kernel_rfl)
  have h38 := @run_callFunc_extern Tryz.prog 350 _ (ReflectliteType.relation "Implements" ReflectliteType.implements_) Tryz.func350 (by kernel_rfl) (by kernel_rfl) (by kernel_rfl) (by kernel_rfl)
  have h10 := @run_callFunc_extern Tryz.prog 194 _ ReflectliteType.typeOf Tryz.func194 (by kernel_rfl) (by kernel_rfl) (by kernel_rfl) (by kernel_rfl)
  have h35 := @run_callFunc_extern Tryz.prog 347 _ (ReflectliteType.relation "AssignableTo" ReflectliteType.assignableTo) Tryz.func347 (by kernel_rfl) (by kernel_rfl) (by kernel_rfl) (by kernel_rfl)
  have h11 := @run_callFunc_extern Tryz.prog 236 _ (ReflectliteValue.method (ReflectliteValue.valueError "reflectlite.Value.Elem" 0) ReflectliteValue.elem) Tryz.func236 (by kernel_rfl) (by kernel_rfl) (by kernel_rfl) (by kernel_rfl)
  have h12 := @run_callFunc_extern Tryz.prog 237 _ ReflectliteValue.set Tryz.func237 (by kernel_rfl) (by kernel_rfl) (by kernel_rfl) (by kernel_rfl)
  have tO := Ref.typeOf25
  have mA := Ref.methodAssignableTo
  have a25 := Ref.assignable25
  have v25 := Ref.valueOf25
  have f6 := Ref.valueOf27
  have f7 := Ref.type27
  have mK := Ref.methodKind
  have mE := Ref.methodElem
  have mI := Ref.methodImplements
  have k27 := Ref.kind27
  have k25 := Ref.kind25
  have e27 := Ref.elem27
  have i25 := Ref.implements25
  have n8 := Ref.isNil27 ⟨w.heap.size, 0, none⟩ t ((w.alloc (.cells #[.pointer (some t)] 261)).alloc (.cells #[.pointer (some ⟨7, 261, none⟩), .pointer (some ⟨w.heap.size, 0, none⟩), .int .u64 150] 289)) (by simp)
  have hlt : 0 < w.heap.size := by
    rcases Nat.eq_zero_or_pos w.heap.size with h0 | h
    · simp [World.cell?, h0] at hg
    · exact h
  have hg2 : ((w.alloc (.cells #[.pointer (some t)] 261)).alloc (.cells #[.pointer (some ⟨7, 261, none⟩), .pointer (some ⟨w.heap.size, 0, none⟩), .int .u64 150] 289)).cell? ⟨0, 0, none⟩ = some (.iface 336 (.agg #[.pointer (some ⟨7, 132, none⟩)])) := by
    rw [World.cell?_alloc_lt _ _ ⟨0, 0, none⟩ (by simp), World.cell?_alloc_lt _ _ ⟨0, 0, none⟩ hlt]; exact hg
  have htl : t.block < w.heap.size := by
    rcases Nat.lt_or_ge t.block w.heap.size with h | h
    · exact h
    · simp [World.cell?, Array.getElem?_eq_none h] at ht0
  have el := Ref.elemV27 ⟨w.heap.size, 0, none⟩ t (((w.alloc (.cells #[.pointer (some t)] 261)).alloc (.cells #[.pointer (some ⟨7, 261, none⟩), .pointer (some ⟨w.heap.size, 0, none⟩), .int .u64 150] 289)).alloc (.cells #[.pointer (some ⟨7, 261, none⟩), .pointer (some ⟨w.heap.size, 0, none⟩), .int .u64 150] 289)) (by rw [World.cell?_alloc_lt _ _ ⟨w.heap.size, 0, none⟩ (by simp; omega)]; simp)
  have st := Ref.set25 t ⟨w.heap.size + 1 + 1 + 1, 0, none⟩ e old ((((w.alloc (.cells #[.pointer (some t)] 261)).alloc (.cells #[.pointer (some ⟨7, 261, none⟩), .pointer (some ⟨w.heap.size, 0, none⟩), .int .u64 150] 289)).alloc (.cells #[.pointer (some ⟨7, 261, none⟩), .pointer (some ⟨w.heap.size, 0, none⟩), .int .u64 150] 289)).alloc (.cells #[.pointer (some e)] 256))
    (by rw [World.cell?_alloc_at _ _ _ _ (by simp)]; rfl)
    (by rw [World.cell?_alloc_lt _ _ t (by simp; omega), World.cell?_alloc_lt _ _ t (by simp; omega), World.cell?_alloc_lt _ _ t (by simp; omega), World.cell?_alloc_lt _ _ t htl]; exact ht0)
    (by rw [World.frozen?_alloc_old _ _ t (by simp; omega), World.frozen?_alloc_old _ _ t (by simp; omega), World.frozen?_alloc_old _ _ t (by simp; omega), World.frozen?_alloc_old _ _ t (Nat.ne_of_lt htl)]; exact hf0)
  go_enter Tryz.func143, Tryz.ntmps143
  go_wp2
  refine wp_loop_rounds 1 ?_
  rw [rounds_succ]
  go_wp2
  go_ret
  exact ⟨rfl, rfl⟩
end Go.Proofs.YtkioddjjfifadaaGreatDoor.P
namespace Go.Proofs.YtkioddjjfifadaaGreatDoor.P
open Go.RowKit Go.Proofs.YtkioddjjfifadaaGreatDoorW.PrintWords Go.Proofs.YtkioddjjfifadaaGreatDoorW.PrintLast Go.Proofs.YtkioddjjfifadaaGreatDoorW.PrintMore
theorem builder_nil (b : Nat) (w : World) (hb : w.heap[b]? = some (.cells #[.pointer none, .slice none 0 0] 157 (0, 0))) :
    Calls Tryz.prog 94 #[.pointer (some ⟨b, 0, none⟩)] w fun e w' => e = .returned (.string ⟨#[]⟩) ∧ Below w.heap.size w w' := by
  have hsd : ∀ (W : World), (Builtin.unsafeSliceData_ #[22] 252 #[.slice none 0 0]).run Tryz.prog W = .ok (.pointer none) W := fun W => by kernel_rfl
  have hus : ∀ (W : World), (Builtin.unsafeString_ #[252, 3] 9 #[.pointer none, .int .i64 0]).run Tryz.prog W = .ok (.string ⟨#[]⟩) W := fun W => by kernel_rfl
  obtain ⟨k0, k1, z0, z1⟩ := box2 hb
  clear hb
  go_enter Tryz.func94, Tryz.ntmps94
  go_wp2_with fail
  go_region
  go_wp2_with fail
  go_ret
  exact ⟨rfl, below_drew (Below.refl _ _)⟩
set_option maxRecDepth 100000 in
theorem key_nil (A : Option Addr) (c : Nat) (w : World) : Calls Tryz.prog 48 #[.slice A 0 c] w fun e w' => e = .returned (.string ⟨#[]⟩) ∧ Below w.heap.size w w' := by
  go_enter Tryz.func48, Tryz.ntmps48
  go_wp2_with fail
  refine wp_loop_rounds 1 ?_
  rw [rounds_succ]
  go_wp2_with fail
  refine (builder_nil w.heap.size _ (heap_alloc_new w _)).mono ?_
  rintro e w1 ⟨rfl, hb⟩
  have HB := Aside0.mk (below_step (below_alloc (Below.refl _ w) _) hb)
  clear hb
  go_wp2_with fail
  go_ret
  exact ⟨rfl, HB.out⟩
theorem same_nil (A B : Option Addr) (c d : Nat) (w : World) : Calls Tryz.prog 45 #[.slice A 0 c, .slice B 0 d] w fun e w' => e = .returned (.bool true) ∧ Below w.heap.size w w' := by
  go_enter Tryz.func45, Tryz.ntmps45
  go_wp2_with fail
  refine (key_nil A c w).mono ?_
  rintro e w1 ⟨rfl, h1⟩
  have H1 := Aside0.mk h1
  clear h1
  go_wp2_with fail
  refine (key_nil B d w1).mono ?_
  rintro e w2 ⟨rfl, h2⟩
  have H2 := Aside0.mk (below_step H1.out h2)
  clear h2
  go_wp2_with fail
  go_ret
  exact ⟨by first | rfl | simp, H2.out⟩
end Go.Proofs.YtkioddjjfifadaaGreatDoor.P
namespace Go.Proofs.YtkioddjjfifadaaGreatDoor.P
open Go.RowKit Go.Proofs.YtkioddjjfifadaaGreatDoorW.PrintWords Go.Proofs.YtkioddjjfifadaaGreatDoorW.PrintLast Go.Proofs.YtkioddjjfifadaaGreatDoorW.PrintMore
theorem store_new {P : Program} {ops : Array Oper} {rest : List Oper} {o : Oper} {a : Act} {Q : Exit → Act → World → Prop} {W : World} {c c' : Array Value} {t : TypeId} {p : Tmp} {v : Operand} (hgd : o.guard = none) (ho : o.op = .store t (.tmp p) v) (hN : o.dst = none)
    (hx : a.eval (.tmp p) = .pointer (some ⟨W.heap.size, 0, none⟩)) (hy : a.eval v = .agg c') (hi : (P.info? t).map (·.size) = some c'.size) (hs : c.size = c'.size) (h1 : c'.all (·.oneCell') = true)
    (h : ∀ g, g = W.heap.size → ∀ w1, w1.heap[g]? = some (.cells c' t (0, 0)) → Below W.heap.size W w1 → wpList P ops Q rest a w1) : wpList P ops Q (o :: rest) a (W.alloc (.cells c t)) := by
  refine wpList_plain hgd fun K hK => ?_
  have hr := run_storeAt_new (P := P) W t c c' hi hs h1
  unfold Oper.wp execOp
  simp only [ho, hx, hy, Sem.run_bind, hr, Result.andThen_ok, Sem.run_pure]
  show K (a.put o.dst undef) _
  rw [hN]
  exact hK _ _ (h _ rfl _ (heap_alloc_new W _) ((Below.refl _ W).alloc (Nat.le_refl _) _))
end Go.Proofs.YtkioddjjfifadaaGreatDoor.P
namespace Go.Proofs.YtkioddjjfifadaaGreatDoor.P
open Go.RowKit Go.Proofs.YtkioddjjfifadaaGreatDoorW.PrintWords Go.Proofs.YtkioddjjfifadaaGreatDoorW.PrintLast Go.Proofs.YtkioddjjfifadaaGreatDoorW.PrintMore
/-- n cells of which nothing is said. -/
def kAny (n : Nat) : Kd Unit where
  sz := n
  E := []
  K := fun _ _ cs => cs.length = n ∧ ∀ u ∈ cs, u.oneCell' = true
  M := fun _ _ _ _ cs => cs.length = n ∧ ∀ u ∈ cs, u.oneCell' = true
  K_len := fun h => h.1
  K_one := fun h => h.2
  K_below := fun _ h => h
  K_of_M := fun h => h
  M_mono := fun _ h => h
  M_bound := fun h => h
  M_move := fun _ h => h
  M_lower := fun _ h => h
structure Ct where
  ser : List Int
  iss : List (List S64)
  ski : List Int
def kCt : Kd Ct := Kd.iso (Kd.pair (kAny 2) (Kd.pair (Kd.slice 5 (Kd.int .u8)) (Kd.pair (Kd.slice 62 (Kd.slice 64 k64)) (Kd.pair (kAny 24) (Kd.pair (Kd.slice 5 (Kd.int .u8)) (kAny 2)))))) (fun x : Ct => ((), x.ser, x.iss, (), x.ski, ()))
def zCt : Ct := ⟨[], [], []⟩
theorem kCt_open {w : World} {x : Ct} {cs : List Value} (h : kCt.K w x cs) : cs.length = 31 ∧ (∀ u ∈ cs, u.oneCell' = true) ∧ ∃ As cs_ Ai ci Ak ck,
    cs[2]? = some (.slice As x.ser.length cs_) ∧ cs[3]? = some (.slice Ai x.iss.length ci) ∧ cs[28]? = some (.slice Ak x.ski.length ck) ∧
    (x.ser.length ≤ cs_ ∧ (Kd.int .u8).C w As x.ser.length x.ser) ∧ (x.iss.length ≤ ci ∧ (Kd.slice 64 k64).C w Ai x.iss.length x.iss) ∧ (x.ski.length ≤ ck ∧ (Kd.int .u8).C w Ak x.ski.length x.ski) := by
  refine ⟨kCt.K_len h, kCt.K_one h, ?_⟩
  obtain ⟨a0, _, rfl, ⟨l0, _⟩, ⟨_, _, rfl, ⟨As, cs_, rfl, ls, gs⟩, ⟨_, _, rfl, ⟨Ai, ci, rfl, li, gi⟩, ⟨a1, _, rfl, ⟨l1, _⟩, ⟨_, a2, rfl, ⟨Ak, ck, rfl, lk, gk⟩, ⟨l2, _⟩⟩⟩⟩⟩⟩ := h
  obtain ⟨p, q, rfl⟩ : ∃ p q, a0 = [p, q] := by
    match a0, l0 with
    | [p, q], _ => exact ⟨p, q, rfl⟩
  refine ⟨As, cs_, Ai, ci, Ak, ck, rfl, rfl, ?_, ⟨ls, gs⟩, ⟨li, gi⟩, ⟨lk, gk⟩⟩
  show (a1 ++ _)[24]? = _
  rw [List.getElem?_append_right (by rw [l1]; exact Nat.le_refl _), l1]
  rfl
end Go.Proofs.YtkioddjjfifadaaGreatDoor.P
namespace Go.Proofs.YtkioddjjfifadaaGreatDoor.P
open Go.RowKit Go.Proofs.YtkioddjjfifadaaGreatDoorW.PrintWords Go.Proofs.YtkioddjjfifadaaGreatDoorW.PrintLast Go.Proofs.YtkioddjjfifadaaGreatDoorW.PrintMore
theorem load_any {P : Program} {ops : Array Oper} {rest : List Oper} {op : Oper} {a : Act} {w : World} {Q : Exit → Act → World → Prop} (hgd : op.guard = none) (ty : TypeId) (x : Operand) (ho : op.op = .load ty x)
    (ad : Addr) (hx : a.eval x = .pointer (some ad)) (cs : List Value) (d : TypeDesc) (hc : ∀ j u, cs[j]? = some u → w.cell? (ad.add j) = some u)
    (hu : P.underlying ty = some d) (hd : d.isRow = true) (hi : (P.info? ty).map (·.size) = some cs.length)
    (h : wpList P ops Q rest (a.put op.dst (.agg cs.toArray)) w) : wpList P ops Q (op :: rest) a w := by
  refine wpList_plain hgd fun K hK => ?_
  have hl : (loadCells ad cs.length).run P w = .ok cs.toArray w := run_loadCells_list (P := P) w ad cs hc
  have hv : (loadVar ty ad).run P w = .ok (.agg cs.toArray) w := by
    cases hq : P.info? ty with
    | none => simp [hq] at hi
    | some i =>
      have hs : i.size = cs.length := by simpa [hq] using hi
      have hagg : (isAgg ty).run P w = .ok true w := by
        unfold isAgg
        rw [Sem.run_bind, run_underlying hu w]
        cases d <;> simp_all
      simp [loadVar, Sem.run_bind, hagg, sizeOf, typeInfo, hq, hs, hl]
  unfold Oper.wp execOp
  simp only [ho, hx, Instr.loadAt, Instr.sureAddr, Sem.run_bind, Sem.run_pure, Result.andThen_ok, hv]
  exact hK _ _ h
/-- Is a certificate meant? -/
def hit (byKey : Bool) (ser ski : List Int) (same : List (List S64) → Bool) (x : Ct) : Bool :=
  if byKey = true then decide (0 < ski.length) && ((strOfNums ski).toList == (strOfNums x.ski).toList) else ((strOfNums ser).toList == (strOfNums x.ser).toList) && same x.iss
/-- The places, below j, of those that are. -/
def hits (h : Ct → Bool) (cs : List Ct) (j : Nat) : List Int := ((List.range j).filter fun i => h (cs.getD i zCt)).map (fun (i : Nat) => (i : Int))
theorem hits_succ (h : Ct → Bool) (cs : List Ct) (j : Nat) : hits h cs (j + 1) = hits h cs j ++ (if h (cs.getD j zCt) = true then [(j : Int)] else []) := by
  unfold hits
  rw [List.range_succ, List.filter_append, List.map_append]
  congr 1
  by_cases hj : h (cs.getD j zCt) = true
  · rw [if_pos hj, List.filter_cons_of_pos (p := fun i => h (cs.getD i zCt)) hj]
    rfl
  · rw [if_neg hj, List.filter_cons_of_neg (p := fun i => h (cs.getD i zCt)) hj]
    rfl
theorem hits_len (h : Ct → Bool) (cs : List Ct) (j : Nat) : (hits h cs j).length ≤ j := by
  unfold hits
  rw [List.length_map]
  exact Nat.le_trans (List.length_filter_le _ _) (by simp)
theorem box4 {W : World} {b : Nat} {c0 c1 c2 c3 : Value} {r : List Value} {t : TypeId} (h : W.heap[b]? = some (.cells (c0 :: c1 :: c2 :: c3 :: r).toArray t (0, 0))) :
    W.cell? ⟨b, 0, none⟩ = some c0 ∧ W.cell? ⟨b, 1, none⟩ = some c1 ∧ W.cell? ⟨b, 2, none⟩ = some c2 ∧ W.cell? ⟨b, 3, none⟩ = some c3 :=
  ⟨(blk_cell h 0).trans rfl, (blk_cell h 1).trans rfl, (blk_cell h 2).trans rfl, (blk_cell h 3).trans rfl⟩
theorem wrap_next' {n j : Nat} (hn : n < 1000000) (h1 : j < n) : wrap64 ((j : Int) + 1) = ((j + 1 : Nat) : Int) := by unfold wrap64; omega
abbrev signerCells (byKey : Bool) (Ai : Option Addr) (ni ci : Nat) (As : Option Addr) (ns cs_ : Nat) (Ak : Option Addr) (nk ck : Nat) : Array Value :=
  #[.bool byKey, .slice Ai ni ci, .slice As ns cs_, .slice Ak nk ck, .int .i64 0, .int .i64 0, .int .i64 0, .int .i64 0, .int .i64 0, .bool false, .slice none 0 0, .slice none 0 0, .slice none 0 0, .slice none 0 0]
set_option maxRecDepth 100000 in
set_option maxHeartbeats 8000000 in
theorem signed_Find_gen (T : World → Prop) (hTb : ∀ {w w1 : World}, Below w.heap.size w w1 → T w → T w1) (same : List (List S64) → Bool) (byKey : Bool) (Ai As Ak : Option Addr) (ci cs_ ck : Nat) (iss : List (List S64)) (ser ski : List Int)
    (Ac : Option Addr) (cc : Nat) (certs : List Ct) (w : World) (hT : T w)
    (hsame : ∀ x ∈ certs, ∀ (A0 : Option Addr) (c0 : Nat) (A1 : Option Addr) (c1 : Nat) (W : World), T W → (Kd.slice 64 k64).C W A0 iss.length iss → iss.length ≤ c0 → (Kd.slice 64 k64).C W A1 x.iss.length x.iss → x.iss.length ≤ c1 →
      Calls Tryz.prog 45 #[.slice A0 iss.length c0, .slice A1 x.iss.length c1] W fun e w' => e = .returned (.bool (same x.iss)) ∧ Below W.heap.size W w')
    (hi : (Kd.slice 64 k64).C w Ai iss.length iss) (hil : iss.length ≤ ci) (hs : (Kd.int .u8).C w As ser.length ser) (hsl : ser.length ≤ cs_) (hk : (Kd.int .u8).C w Ak ski.length ski) (hkl : ski.length ≤ ck)
    (hc : kCt.C w Ac certs.length certs) (hcl : certs.length ≤ cc) (hsz : certs.length < 1000000) :
    Calls Tryz.prog 61 #[.agg (signerCells byKey Ai iss.length ci As ser.length cs_ Ak ski.length ck), .slice Ac certs.length cc] w fun e w' =>
      ∃ v, e = .returned v ∧ (Kd.int .i64).R 3 w' w.heap.size (fun _ => True) v (hits (hit byKey ser ski same) certs certs.length) ∧ Below w.heap.size w w' := by
  have HI := Aside0.mk hi
  have HS := Aside0.mk hs
  have HK := Aside0.mk hk
  have HC := Aside0.mk hc
  have HT := Aside0.mk hT
  have LI := Aside0.mk hil
  have LS := Aside0.mk hsl
  have LK := Aside0.mk hkl
  have HSAME := Aside0.mk hsame
  have HN := Aside0.mk hsz
  have HLC := Aside0.mk hcl
  have BK := Aside0.mk (heap_alloc_new w (.cells (signerCells byKey Ai iss.length ci As ser.length cs_ Ak ski.length ck) 80))
  have HB := Aside0.mk (below_alloc (Below.refl w.heap.size w) (.cells (signerCells byKey Ai iss.length ci As ser.length cs_ Ak ski.length ck) 80))
  clear hi hs hk hc hT hil hsl hkl hsame hsz hcl
  go_enter Tryz.func61, Tryz.ntmps61
  go_wp2_with fail
  go_loopg [5, 10] (certs.length + 1) (fun kq v5 v10 w' => ∃ (j : Nat), v10 = .int .i64 (j : Int) ∧ Aside0 (j ≤ certs.length) ∧ Aside0 (certs.length < kq + j) ∧ Aside0 ((Kd.int .i64).R 3 w' w.heap.size (fun _ => True) v5 (hits (hit byKey ser ski same) certs j)) ∧
    Aside0 (w'.heap[w.heap.size]? = some (.cells (signerCells byKey Ai iss.length ci As ser.length cs_ Ak ski.length ck) 80 (0, 0))) ∧ Aside0 (Below w.heap.size w w'))
  case atStart => exact ⟨0, rfl, ⟨Nat.zero_le _⟩, ⟨by omega⟩, ⟨Kd.R_nil _ _ _ _ _⟩, BK, HB⟩
  case round =>
    clear BK HB
    obtain ⟨j, rfl, HJ, HF, HO, BK, HB⟩ := hrel
    cases gk with
    | zero => exact absurd HF.out (by have := HJ.out; omega)
    | succ g1 =>
      by_cases hj : j < certs.length
      · have hjb : decide ((j : Int) < (certs.length : Int)) = true := decide_eq_true (by omega)
        have hj0 : ((0 : Int) ≤ (j : Int)) = True := eq_true (by omega)
        have hj1 : ((j : Int) < (certs.length : Int)) = True := eq_true (by omega)
        obtain ⟨ad, c, rfl, hcz, hK, hcell⟩ := Kd.C_get (Kd.C_below HC.out HB.out) zCt (j : Int) (by omega) (by omega)
        have HCELL : Aside0 (∀ (i : Nat) u, c[i]? = some u → wr.cell? ((ad.add (j * 31)).add i) = some u) := ⟨fun i u hu => by rw [Go.Addr.add_add]; exact hcell i u hu⟩
        clear hcell
        rw [Int.toNat_natCast] at hK
        obtain ⟨hl31, hone, Bs, bs, Bi, bi, Bk, bk, q2, q3, q28, ⟨ls, gs⟩, ⟨li, gi⟩, ⟨lk, gk⟩⟩ := kCt_open hK
        have hmem : certs.getD j zCt ∈ certs := by
          rw [List.getD_eq_getElem?_getD, List.getElem?_eq_getElem hj]
          exact List.getElem_mem hj
        have HSX := Aside0.mk (HSAME.out _ hmem)
        have HSUC := Aside0.mk (hits_succ (hit byKey ser ski same) certs j)
        generalize hx : certs.getD j zCt = x at *
        clear hx hmem hK
        cases byKey with
        | true =>
          by_cases hs : 0 < ski.length
          · have hsb : decide ((0 : Int) < (ski.length : Int)) = true := decide_eq_true (by omega)
            go_wp2_with (first | ((with_reducible refine gate_dst (N := 14) rfl ?_); refine load_any rfl 105 _ rfl (ad.add (j * 31)) ?la c _ HCELL.out Tryz.underlying105 rfl ?lb ?_; (case la => (first | (go_simp; done) | rfl)); (case lb => rw [hl31]; kernel_rfl)) | ((with_reducible refine gate_store (t := 105) (p := 7) rfl ?_); refine store_new rfl rfl rfl rfl rfl ?lc ?ld ?le ?_; (case lc => exact (show (Tryz.prog.info? 105).map (·.size) = some 31 by kernel_rfl).trans (congrArg some (show (31 : Nat) = c.toArray.size by rw [List.size_toArray, hl31]))); (case ld => exact (show (31 : Nat) = c.toArray.size by rw [List.size_toArray, hl31])); (case le => exact all_oneCell_toArray hone); intro g hg w1 hg1 hb1; subst hg; have HB1 := Aside0.mk (below_step HB.out hb1); have BK1 := Aside0.mk (blk_keep hb1 BK.out); have HO1 := Aside0.mk (Kd.R_below HO.out hb1); have j2 : w1.cell? ⟨wr.heap.size, 2, none⟩ = some (.slice Bs x.ser.length bs) := (blk_cell hg1 2).trans (by simpa using q2); have j3 : w1.cell? ⟨wr.heap.size, 3, none⟩ = some (.slice Bi x.iss.length bi) := (blk_cell hg1 3).trans (by simpa using q3); have j28 : w1.cell? ⟨wr.heap.size, 28, none⟩ = some (.slice Bk x.ski.length bk) := (blk_cell hg1 28).trans (by simpa using q28); obtain ⟨i0, i1, i2, i3⟩ := box4 BK1.out; have GS := Aside0.mk (Kd.C_below gs hb1); have GI := Aside0.mk (Kd.C_below gi hb1); have GK := Aside0.mk (Kd.C_below gk hb1); clear hg1 hb1 gs gi gk HO BK HB q2 q3 q28 hone))
            refine (bytes_Equal.calls Ak ck ski Bk bk x.ski _ _ (Kd.C_below HK.out HB1.out) LK.out GK.out lk rfl).mono ?_
            rintro e w2 ⟨rfl, hd⟩
            have hb2 := hd.below
            have HO2 := Aside0.mk (Kd.R_below HO1.out hb2)
            have BK2 := Aside0.mk (blk_keep hb2 BK1.out)
            have HB2 := Aside0.mk (below_step HB1.out hb2)
            replace j2 := (hb2.cell (World.block_lt_of_cell? w1 _ j2)).trans j2
            replace j3 := (hb2.cell (World.block_lt_of_cell? w1 _ j3)).trans j3
            replace j28 := (hb2.cell (World.block_lt_of_cell? w1 _ j28)).trans j28
            clear i0 i1 i2 i3
            obtain ⟨i0, i1, i2, i3⟩ := box4 BK2.out
            clear HO1 BK1 HB1 hd hb2
            generalize hb : ((strOfNums ski).toList == (strOfNums x.ski).toList) = b at *
            cases b with
            | true =>
              go_wp2_with (first | ((with_reducible refine gate_builtin (b := .append) (xs := #[.tmp 28, .tmp 30]) rfl ?_); at_builtin; refine Kd.R_append (Kd.int .i64) (w0 := w) w.heap.size rfl (.tmp 28) (.tmp 30) 31 3 (.int .i64 0) 8 rfl Tryz.underlying31 info3 rfl (by decide) (by omega) u5 (hits (hit true ser ski same) certs j) (j : Int) [.int .i64 (j : Int)] (fun _ => True) (fun _ => False) rfl rfl ?aP (fun _ hk => hk.elim) ?aF ?aO ?aB ?aS ?aL ?_; (case aP => exact rfl); (case aF => exact (fun _ _ => trivial)); (case aO => exact HO2.out); (case aB => exact HB2.out); (case aS => exact (below_size HB2.out)); (case aL => have := hits_len (hit true ser ski same) certs j; have := HN.out; have := HJ.out; omega); intro v1 w4 ho hb hgr hat; have HO3 := Aside0.mk ho; have HB3 := Aside0.mk hb; have BK3 := Aside0.mk (blk_grown BK2.out hgr (Kd.R_ne HO2.out BK2.out (by decide))); clear ho hb hgr hat))
              go_roundg g1
              case measure => exact Nat.lt_succ_self _
              case rel => exact ⟨j + 1, (by first | rfl | (simp [wrap_next' HN.out hj]; done)), ⟨by omega⟩, ⟨by have := HF.out; omega⟩, ⟨by rw [HSUC.out, if_pos (by simp [hit, hs, hb])]; exact HO3.out⟩, BK3, HB3⟩
            | false =>
              go_wp2_with fail
              go_roundg g1
              case measure => exact Nat.lt_succ_self _
              case rel => exact ⟨j + 1, (by first | rfl | (simp [wrap_next' HN.out hj]; done)), ⟨by omega⟩, ⟨by have := HF.out; omega⟩, ⟨by rw [HSUC.out, if_neg (by simp [hit, hs, hb]), List.append_nil]; exact HO2.out⟩, BK2, HB2⟩
          · have hsb : decide ((0 : Int) < (ski.length : Int)) = false := decide_eq_false (by omega)
            go_wp2_with (first | ((with_reducible refine gate_dst (N := 14) rfl ?_); refine load_any rfl 105 _ rfl (ad.add (j * 31)) ?la c _ HCELL.out Tryz.underlying105 rfl ?lb ?_; (case la => (first | (go_simp; done) | rfl)); (case lb => rw [hl31]; kernel_rfl)) | ((with_reducible refine gate_store (t := 105) (p := 7) rfl ?_); refine store_new rfl rfl rfl rfl rfl ?lc ?ld ?le ?_; (case lc => exact (show (Tryz.prog.info? 105).map (·.size) = some 31 by kernel_rfl).trans (congrArg some (show (31 : Nat) = c.toArray.size by rw [List.size_toArray, hl31]))); (case ld => exact (show (31 : Nat) = c.toArray.size by rw [List.size_toArray, hl31])); (case le => exact all_oneCell_toArray hone); intro g hg w1 hg1 hb1; subst hg; have HB1 := Aside0.mk (below_step HB.out hb1); have BK1 := Aside0.mk (blk_keep hb1 BK.out); have HO1 := Aside0.mk (Kd.R_below HO.out hb1); have j2 : w1.cell? ⟨wr.heap.size, 2, none⟩ = some (.slice Bs x.ser.length bs) := (blk_cell hg1 2).trans (by simpa using q2); have j3 : w1.cell? ⟨wr.heap.size, 3, none⟩ = some (.slice Bi x.iss.length bi) := (blk_cell hg1 3).trans (by simpa using q3); have j28 : w1.cell? ⟨wr.heap.size, 28, none⟩ = some (.slice Bk x.ski.length bk) := (blk_cell hg1 28).trans (by simpa using q28); obtain ⟨i0, i1, i2, i3⟩ := box4 BK1.out; have GS := Aside0.mk (Kd.C_below gs hb1); have GI := Aside0.mk (Kd.C_below gi hb1); have GK := Aside0.mk (Kd.C_below gk hb1); clear hg1 hb1 gs gi gk HO BK HB q2 q3 q28 hone))
            go_roundg g1
            case measure => exact Nat.lt_succ_self _
            case rel => exact ⟨j + 1, (by first | rfl | (simp [wrap_next' HN.out hj]; done)), ⟨by omega⟩, ⟨by have := HF.out; omega⟩, ⟨by rw [HSUC.out, if_neg (by simp [hit, hs]), List.append_nil]; exact HO1.out⟩, BK1, HB1⟩
        | false =>
          go_wp2_with (first | ((with_reducible refine gate_dst (N := 14) rfl ?_); refine load_any rfl 105 _ rfl (ad.add (j * 31)) ?la c _ HCELL.out Tryz.underlying105 rfl ?lb ?_; (case la => (first | (go_simp; done) | rfl)); (case lb => rw [hl31]; kernel_rfl)) | ((with_reducible refine gate_store (t := 105) (p := 7) rfl ?_); refine store_new rfl rfl rfl rfl rfl ?lc ?ld ?le ?_; (case lc => exact (show (Tryz.prog.info? 105).map (·.size) = some 31 by kernel_rfl).trans (congrArg some (show (31 : Nat) = c.toArray.size by rw [List.size_toArray, hl31]))); (case ld => exact (show (31 : Nat) = c.toArray.size by rw [List.size_toArray, hl31])); (case le => exact all_oneCell_toArray hone); intro g hg w1 hg1 hb1; subst hg; have HB1 := Aside0.mk (below_step HB.out hb1); have BK1 := Aside0.mk (blk_keep hb1 BK.out); have HO1 := Aside0.mk (Kd.R_below HO.out hb1); have j2 : w1.cell? ⟨wr.heap.size, 2, none⟩ = some (.slice Bs x.ser.length bs) := (blk_cell hg1 2).trans (by simpa using q2); have j3 : w1.cell? ⟨wr.heap.size, 3, none⟩ = some (.slice Bi x.iss.length bi) := (blk_cell hg1 3).trans (by simpa using q3); have j28 : w1.cell? ⟨wr.heap.size, 28, none⟩ = some (.slice Bk x.ski.length bk) := (blk_cell hg1 28).trans (by simpa using q28); obtain ⟨i0, i1, i2, i3⟩ := box4 BK1.out; have GS := Aside0.mk (Kd.C_below gs hb1); have GI := Aside0.mk (Kd.C_below gi hb1); have GK := Aside0.mk (Kd.C_below gk hb1); clear hg1 hb1 gs gi gk HO BK HB q2 q3 q28 hone))
          refine (bytes_Equal.calls As cs_ ser Bs bs x.ser _ _ (Kd.C_below HS.out HB1.out) LS.out GS.out ls rfl).mono ?_
          rintro e w2 ⟨rfl, hd⟩
          have hb2 := hd.below
          have HO2 := Aside0.mk (Kd.R_below HO1.out hb2)
          have BK2 := Aside0.mk (blk_keep hb2 BK1.out)
          have HB2 := Aside0.mk (below_step HB1.out hb2)
          replace j2 := (hb2.cell (World.block_lt_of_cell? w1 _ j2)).trans j2
          replace j3 := (hb2.cell (World.block_lt_of_cell? w1 _ j3)).trans j3
          replace j28 := (hb2.cell (World.block_lt_of_cell? w1 _ j28)).trans j28
          clear i0 i1 i2 i3
          obtain ⟨i0, i1, i2, i3⟩ := box4 BK2.out
          have GI2 := Aside0.mk (Kd.C_below GI.out hb2)
          clear HO1 BK1 HB1 GI hd hb2
          generalize hb : ((strOfNums ser).toList == (strOfNums x.ser).toList) = b at *
          cases b with
          | true =>
            go_wp2_with fail
            refine (HSX.out Ai ci Bi bi _ (hTb HB2.out HT.out) (Kd.C_below HI.out HB2.out) LI.out GI2.out li).mono ?_
            rintro e w5 ⟨rfl, hb5⟩
            have HO4 := Aside0.mk (Kd.R_below HO2.out hb5)
            have BK4 := Aside0.mk (blk_keep hb5 BK2.out)
            have HB4 := Aside0.mk (below_step HB2.out hb5)
            clear hb5 HO2 BK2 HB2 GI2 i0 i1 i2 i3 j2 j3 j28
            generalize hm : same x.iss = m at *
            cases m with
            | true =>
              go_wp2_with (first | ((with_reducible refine gate_builtin (b := .append) (xs := #[.tmp 44, .tmp 46]) rfl ?_); at_builtin; refine Kd.R_append (Kd.int .i64) (w0 := w) w.heap.size rfl (.tmp 44) (.tmp 46) 31 3 (.int .i64 0) 8 rfl Tryz.underlying31 info3 rfl (by decide) (by omega) u5 (hits (hit false ser ski same) certs j) (j : Int) [.int .i64 (j : Int)] (fun _ => True) (fun _ => False) rfl rfl ?aP (fun _ hk => hk.elim) ?aF ?aO ?aB ?aS ?aL ?_; (case aP => exact rfl); (case aF => exact (fun _ _ => trivial)); (case aO => exact HO4.out); (case aB => exact HB4.out); (case aS => exact (below_size HB4.out)); (case aL => have := hits_len (hit false ser ski same) certs j; have := HN.out; have := HJ.out; omega); intro v1 w4 ho hb hgr hat; have HO3 := Aside0.mk ho; have HB3 := Aside0.mk hb; have BK3 := Aside0.mk (blk_grown BK4.out hgr (Kd.R_ne HO4.out BK4.out (by decide))); clear ho hb hgr hat))
              go_roundg g1
              case measure => exact Nat.lt_succ_self _
              case rel => exact ⟨j + 1, (by first | rfl | (simp [wrap_next' HN.out hj]; done)), ⟨by omega⟩, ⟨by have := HF.out; omega⟩, ⟨by rw [HSUC.out, if_pos (by simp [hit, hb, hm])]; exact HO3.out⟩, BK3, HB3⟩
            | false =>
              go_wp2_with fail
              go_roundg g1
              case measure => exact Nat.lt_succ_self _
              case rel => exact ⟨j + 1, (by first | rfl | (simp [wrap_next' HN.out hj]; done)), ⟨by omega⟩, ⟨by have := HF.out; omega⟩, ⟨by rw [HSUC.out, if_neg (by simp [hit, hb, hm]), List.append_nil]; exact HO4.out⟩, BK4, HB4⟩
          | false =>
            go_wp2_with fail
            go_roundg g1
            case measure => exact Nat.lt_succ_self _
            case rel => exact ⟨j + 1, (by first | rfl | (simp [wrap_next' HN.out hj]; done)), ⟨by omega⟩, ⟨by have := HF.out; omega⟩, ⟨by rw [HSUC.out, if_neg (by simp [hit, hb]), List.append_nil]; exact HO2.out⟩, BK2, HB2⟩
      · have hjb : decide ((j : Int) < (certs.length : Int)) = false := decide_eq_false (by omega)
        obtain rfl : j = certs.length := by have := HJ.out; omega
        go_wp2_with fail
        go_ret
        exact ⟨_, rfl, HO.out, HB.out⟩
end Go.Proofs.YtkioddjjfifadaaGreatDoor.P
namespace Go.Proofs.YtkioddjjfifadaaGreatDoor.P
open Go.RowKit Go.Proofs.YtkioddjjfifadaaGreatDoorW.PrintWords Go.Proofs.YtkioddjjfifadaaGreatDoorW.PrintLast Go.Proofs.YtkioddjjfifadaaGreatDoorW.PrintMore
/-- The handle of the type 'error', which errors.As asks for. -/
abbrev Hd (w : World) : Prop := w.cell? ⟨0, 0, none⟩ = some (.iface 336 (.agg #[.pointer (some ⟨7, 132, none⟩)]))
theorem Hd.lt {w : World} (h : Hd w) : 0 < w.heap.size := by
  rcases Nat.eq_zero_or_pos w.heap.size with h0 | h1
  · simp [Hd, World.cell?, h0] at h
  · exact h1
theorem Hd.kp {b : Nat} {w w1 : World} (h : Hd w) (hk : Kp b w w1) (hb : 0 < b) : Hd w1 := by
  have := hk.keep 0 h.lt (by omega)
  unfold Hd World.cell? at *
  simpa [this] using h
theorem Hd.below {w w1 : World} (h : Hd w) (hb : Below w.heap.size w w1) : Hd w1 := by
  have := hb.block 0 h.lt
  unfold Hd World.cell? at *
  simpa [this] using h
theorem why6 (ev : Value) (w : World) (h : E6 w ev) (hg : Hd w) : Calls Tryz.prog 103 #[ev] w fun e w' => e = .returned (.int .i64 6) ∧ Below w.heap.size w w' := by
  obtain ⟨r, rfl, hr⟩ := h
  have HR := Aside0.mk hr
  have HG := Aside0.mk (hg.below ((Below.refl _ w).alloc (Nat.le_refl _) (.cells #[.pointer none] 256)))
  have hlt := Aside0.mk (blk_lt hr)
  clear hr hg
  go_enter Tryz.func103, Tryz.ntmps103
  go_wp2_with fail
  refine (as_hit ⟨r, 0, none⟩ ⟨w.heap.size, 0, none⟩ (.pointer none) _ HG.out ?sa ?sb).mono ?_
  case sa => simp
  case sb => simp
  rintro e w1 ⟨rfl, hw1⟩
  have HN : Aside0 (w1.heap[w.heap.size]? = some (.cells #[.pointer (some ⟨r, 0, none⟩)] 256 (0, 0))) := ⟨by
    rw [hw1]
    exact blk_put (blk_alloc (blk_alloc (blk_alloc (blk_alloc (heap_alloc_new w _) _) _) _) _) 0 _ rfl⟩
  have HR1 : Aside0 (w1.heap[r]? = some (.cells #[.int .i64 6] 258 (0, 0))) := ⟨by
    rw [hw1]
    exact (set_other _ w.heap.size 0 r _ (Nat.ne_of_lt hlt.out)).trans (blk_alloc (blk_alloc (blk_alloc (blk_alloc (blk_alloc HR.out _) _) _) _) _)⟩
  have HB : Aside0 (Below w.heap.size w w1) := ⟨by
    rw [hw1]
    exact below_set (below_alloc (below_alloc (below_alloc (below_alloc (below_alloc (Below.refl _ w) _) _) _) _) _) (Nat.le_refl _)⟩
  clear hw1
  have kn := (box1 HN.out).1
  have kr := (box1 HR1.out).1
  go_wp2_with fail
  go_ret
  exact ⟨rfl, HB.out⟩
theorem same_heap {s i : Nat} {w1 : World} {o : Obj} {u : Value} (hs : w1.heap[s]? = some o) (hp : (w1.setCell ⟨s, i, none⟩ u).heap[s]? = some o) : ∀ k : Nat, (w1.setCell ⟨s, i, none⟩ u).heap[k]? = w1.heap[k]? := fun k => by
  by_cases hk : k = s
  · rw [hk, hp, hs]
  · exact Below.heap_setCell w1 ⟨s, i, none⟩ u k hk
theorem E6.of_heap {w w1 : World} {ev : Value} (h : E6 w ev) (hq : ∀ k : Nat, w1.heap[k]? = w.heap[k]?) : E6 w1 ev := by
  obtain ⟨r, rfl, hr⟩ := h
  exact ⟨r, rfl, (hq r).trans hr⟩
theorem Hd.of_heap {w w1 : World} (h : Hd w) (hq : ∀ k : Nat, w1.heap[k]? = w.heap[k]?) : Hd w1 := by
  have := hq 0
  unfold Hd World.cell? at *
  simpa [this] using h
theorem put6 {W : World} {b : Nat} {c0 c1 c2 c3 c4 c5 : Value} {t : TypeId} (h : W.heap[b]? = some (.cells #[c0, c1, c2, c3, c4, c5] t (0, 0))) (d0 d1 d2 d3 d4 d5 : Value) :
    ((((((W.setCell ⟨b, 0, none⟩ d0).setCell ⟨b, 1, none⟩ d1).setCell ⟨b, 2, none⟩ d2).setCell ⟨b, 3, none⟩ d3).setCell ⟨b, 4, none⟩ d4).setCell ⟨b, 5, none⟩ d5).heap[b]? = some (.cells #[d0, d1, d2, d3, d4, d5] t (0, 0)) :=
  blk_put (blk_put (blk_put (blk_put (blk_put (blk_put h 0 d0 rfl) 1 d1 rfl) 2 d2 rfl) 3 d3 rfl) 4 d4 rfl) 5 d5 rfl
set_option maxRecDepth 100000 in
set_option maxHeartbeats 2000000 in
theorem signed_Parse0 (A0 : Option Addr) (c0 : Nat) (w : World) (hr0 : Kd.C (Kd.int .u8) w A0 ([48, 0] : List Int).length [48, 0]) (hc0 : ([48, 0] : List Int).length ≤ c0) (hg : Hd w) :
    Calls Tryz.prog 51 #[.slice A0 ([48, 0] : List Int).length c0] w fun e w' => e = .returned (.tuple #[.agg sg0, .int .i64 6]) ∧ Below w.heap.size w w' := by
  have hpos := Aside0.mk hg.lt
  have HR0 := Aside0.mk (Kd.C_alloc hr0 (.cells sg0 70))
  have HC0 := Aside0.mk hc0
  have S0 := Aside0.mk (show Sg (w.alloc (.cells sg0 70)) w.heap.size from heap_alloc_new w _)
  have G0 := Aside0.mk (hg.below ((Below.refl _ w).alloc (Nat.le_refl _) (.cells sg0 70)))
  clear hr0 hc0 hg
  go_enter Tryz.func51, Tryz.ntmps51
  go_wp2_with fail
  refine (der_One.calls 5 A0 c0 [48, 0] 0 16 true [] [48, 0] 0 _ HR0.out HC0.out one0_f).mono ?_
  rintro e w1 ⟨v3, v4, rfl, h3, h4, hb⟩
  obtain ⟨A3, c3, rfl⟩ := Kd.V_slice h3
  obtain ⟨A4, c4, rfl⟩ := Kd.V_slice h4
  have X1 : Aside0 (w1.heap.size = w1.heap.size) := ⟨rfl⟩
  have hss := Aside0.mk (Nat.lt_of_lt_of_le (blk_lt S0.out) hb.size)
  have B := Aside0.mk (below_alloc (below_alloc (below_alloc (below_step (below_alloc (Below.refl w.heap.size w) _) hb) (.cells #[.int .i64 0, .int .i64 16, .bool true, .slice A3 0 c3, .slice A4 2 c4] 77)) (.cells #[.int .i64 0, .int .i64 16, .bool true, .slice A3 0 c3, .slice A4 2 c4] 77)) (.cells #[.slice (some ⟨w1.heap.size + 1, 0, none⟩) 1 1, .nilIface] 168))
  have Ks := Aside0.mk (show Sg _ w.heap.size from blk_alloc (blk_alloc (blk_alloc ((hb.block _ (blk_lt S0.out)).trans S0.out) (.cells #[.int .i64 0, .int .i64 16, .bool true, .slice A3 0 c3, .slice A4 2 c4] 77)) (.cells #[.int .i64 0, .int .i64 16, .bool true, .slice A3 0 c3, .slice A4 2 c4] 77)) (.cells #[.slice (some ⟨w1.heap.size + 1, 0, none⟩) 1 1, .nilIface] 168))
  have G := Aside0.mk ((((G0.out.below hb).below ((Below.refl _ _).alloc (Nat.le_refl _) (.cells #[.int .i64 0, .int .i64 16, .bool true, .slice A3 0 c3, .slice A4 2 c4] 77))).below ((Below.refl _ _).alloc (Nat.le_refl _) (.cells #[.int .i64 0, .int .i64 16, .bool true, .slice A3 0 c3, .slice A4 2 c4] 77))).below ((Below.refl _ _).alloc (Nat.le_refl _) (.cells #[.slice (some ⟨w1.heap.size + 1, 0, none⟩) 1 1, .nilIface] 168)))
  have Ka := Aside0.mk (show W1 (((w1.alloc (.cells #[.int .i64 0, .int .i64 16, .bool true, .slice A3 0 c3, .slice A4 2 c4] 77)).alloc (.cells #[.int .i64 0, .int .i64 16, .bool true, .slice A3 0 c3, .slice A4 2 c4] 77)).alloc (.cells #[.slice (some ⟨w1.heap.size + 1, 0, none⟩) 1 1, .nilIface] 168)) (w1.heap.size + 1 + 1) (w1.heap.size + 1) from blk_here (by simp) _)
  have Kq := Aside0.mk (show Q1 (((w1.alloc (.cells #[.int .i64 0, .int .i64 16, .bool true, .slice A3 0 c3, .slice A4 2 c4] 77)).alloc (.cells #[.int .i64 0, .int .i64 16, .bool true, .slice A3 0 c3, .slice A4 2 c4] 77)).alloc (.cells #[.slice (some ⟨w1.heap.size + 1, 0, none⟩) 1 1, .nilIface] 168)) (w1.heap.size + 1) A3 c3 A4 c4 from blk_alloc (blk_here (W := w1.alloc (.cells #[.int .i64 0, .int .i64 16, .bool true, .slice A3 0 c3, .slice A4 2 c4] 77)) (by simp) _) _)
  clear h3 h4 hb HR0 HC0 S0 G0
  go_wp2_with fail
  refine (walk_into1 (w1.heap.size + 1 + 1) (w1.heap.size + 1) A3 c3 A4 c4 _ Ka.out Kq.out).mono ?_
  rintro e w2 ⟨bi, rfl, Aa, ca, Ai, ci, h1, h2, h3, hk⟩
  have Lsa : Aside0 (w.heap.size < (w1.heap.size + 1 + 1)) := ⟨by have := hss.out; omega⟩
  have Lai : Aside0 ((w1.heap.size + 1 + 1) < bi) := ⟨by have := blk_lt Ka.out; omega⟩
  have B2 := Aside0.mk (B.out.trans (hk.low _ (by have := Lsa.out; omega) B.out.size))
  have Ks2 := Aside0.mk (hk.blk Ks.out (by have := Lsa.out; omega))
  have G2 := Aside0.mk (G.out.kp hk (by omega))
  have Ka2 := Aside0.mk h1
  have Ki2 := Aside0.mk h2
  clear h1 h2 h3 hk B Ks G Ka Kq
  go_wp2_with fail
  refine (walk_oid0 bi Ai ci .nilIface _ Ki2.out (Or.inl rfl)).mono ?_
  rintro e w3 ⟨rfl, evi3, h1, h2, hk⟩
  have Ka3 := Aside0.mk (hk.blk Ka2.out (by have := Lsa.out; have := Lai.out; have := hpos.out; omega))
  have Ks3 := Aside0.mk (hk.blk Ks2.out (by have := Lsa.out; have := Lai.out; have := hpos.out; omega))
  have B3 := Aside0.mk (B2.out.trans (hk.low _ (by have := Lsa.out; have := Lai.out; have := hpos.out; omega) B2.out.size))
  have G3 := Aside0.mk (G2.out.kp hk (by have := Lsa.out; have := Lai.out; have := hpos.out; omega))
  have Ki3 := Aside0.mk h1
  have Ei3 := Aside0.mk h2
  clear h1 h2 hk Ka2 Ki2 Ks2 B2 G2
  go_wp2_with fail
  refine (walk_refuse0 bi Ai ci evi3 _ Ki3.out (Or.inr Ei3.out)).mono ?_
  rintro e w4 ⟨rfl, evi4, h1, h2, hk⟩
  have Ka4 := Aside0.mk (hk.blk Ka3.out (by have := Lsa.out; have := Lai.out; have := hpos.out; omega))
  have Ks4 := Aside0.mk (hk.blk Ks3.out (by have := Lsa.out; have := Lai.out; have := hpos.out; omega))
  have B4 := Aside0.mk (B3.out.trans (hk.low _ (by have := Lsa.out; have := Lai.out; have := hpos.out; omega) B3.out.size))
  have G4 := Aside0.mk (G3.out.kp hk (by have := Lsa.out; have := Lai.out; have := hpos.out; omega))
  have Ki4 := Aside0.mk h1
  have Ei4 := Aside0.mk h2
  clear h1 h2 hk Ka3 Ki3 Ei3 Ks3 B3 G3
  go_wp2_with fail
  refine (walk_into0 bi Ai ci evi4 2 0 _ Ki4.out (Or.inr Ei4.out)).mono ?_
  rintro e w5 ⟨bo, rfl, evi5, Ao, co, h1, h2, hn, hle, hk⟩
  have Ka5 := Aside0.mk (hk.blk Ka4.out (by have := Lsa.out; have := Lai.out; have := hpos.out; omega))
  have Ks5 := Aside0.mk (hk.blk Ks4.out (by have := Lsa.out; have := Lai.out; have := hpos.out; omega))
  have B5 := Aside0.mk (B4.out.trans (hk.low _ (by have := Lsa.out; have := Lai.out; have := hpos.out; omega) B4.out.size))
  have G5 := Aside0.mk (G4.out.kp hk (by have := Lsa.out; have := Lai.out; have := hpos.out; omega))
  have Ki5 := Aside0.mk h1
  have Ei5 := Aside0.mk h2
  have Ko5 := Aside0.mk hn
  have Lio : Aside0 (bi < bo) := ⟨by have := blk_lt Ki4.out; omega⟩
  clear hn hle
  clear h1 h2 hk Ka4 Ki4 Ei4 Ks4 B4 G4
  go_wp2_with fail
  refine (walk_into0 bo Ao co .nilIface 0 16 _ Ko5.out (Or.inl rfl)).mono ?_
  rintro e w6 ⟨bv, rfl, evo6, Av, cv, h1, h2, hn, hle, hk⟩
  have Ka6 := Aside0.mk (hk.blk Ka5.out (by have := Lsa.out; have := Lai.out; have := hpos.out; have := Lio.out; omega))
  have Ki6 := Aside0.mk (hk.blk Ki5.out (by have := Lsa.out; have := Lai.out; have := hpos.out; have := Lio.out; omega))
  have Ei6 := Aside0.mk (Ei5.out.kp hk Ko5.out)
  have Ks6 := Aside0.mk (hk.blk Ks5.out (by have := Lsa.out; have := Lai.out; have := hpos.out; have := Lio.out; omega))
  have B6 := Aside0.mk (B5.out.trans (hk.low _ (by have := Lsa.out; have := Lai.out; have := hpos.out; have := Lio.out; omega) B5.out.size))
  have G6 := Aside0.mk (G5.out.kp hk (by have := Lsa.out; have := Lai.out; have := hpos.out; have := Lio.out; omega))
  have Ko6 := Aside0.mk h1
  have Eo6 := Aside0.mk h2
  have Kv6 := Aside0.mk hn
  have Lov : Aside0 (bo < bv) := ⟨by have := blk_lt Ko5.out; omega⟩
  clear hn hle
  clear h1 h2 hk Ka5 Ki5 Ko5 Ei5 Ks5 B5 G5
  have Ka7 := Aside0.mk (blk_alloc Ka6.out (.cells sg0 70))
  have Ki7 := Aside0.mk (blk_alloc Ki6.out (.cells sg0 70))
  have Ei7 := Aside0.mk (Ei6.out.below ((Below.refl _ w6).alloc (Nat.le_refl _) (.cells sg0 70)))
  have Ko7 := Aside0.mk (blk_alloc Ko6.out (.cells sg0 70))
  have Eo7 := Aside0.mk (Eo6.out.below ((Below.refl _ w6).alloc (Nat.le_refl _) (.cells sg0 70)))
  have Kv7 := Aside0.mk (blk_alloc Kv6.out (.cells sg0 70))
  have Ks7 := Aside0.mk (blk_alloc Ks6.out (.cells sg0 70))
  have Kg7 := Aside0.mk (show Sg (w6.alloc (.cells sg0 70)) w6.heap.size from heap_alloc_new _ _)
  have Lvg : Aside0 (bv < w6.heap.size) := ⟨blk_lt Kv6.out⟩
  have B7 := Aside0.mk (below_alloc B6.out (.cells sg0 70))
  have G7 := Aside0.mk (G6.out.below ((Below.refl _ w6).alloc (Nat.le_refl _) (.cells sg0 70)))
  clear Ka6 Ki6 Ko6 Kv6 Ei6 Eo6 Ks6 B6 G6
  go_wp2_with fail
  refine (walk_number0 bv Av cv .nilIface _ Kv7.out (Or.inl rfl)).mono ?_
  rintro e w8 ⟨rfl, evv8, h1, h2, hk⟩
  have Ka8 := Aside0.mk (hk.blk Ka7.out (by have := Lsa.out; have := Lai.out; have := hpos.out; have := Lio.out; have := Lov.out; have := Lvg.out; omega))
  have Ki8 := Aside0.mk (hk.blk Ki7.out (by have := Lsa.out; have := Lai.out; have := hpos.out; have := Lio.out; have := Lov.out; have := Lvg.out; omega))
  have Ei8 := Aside0.mk (Ei7.out.kp hk Kv7.out)
  have Ko8 := Aside0.mk (hk.blk Ko7.out (by have := Lsa.out; have := Lai.out; have := hpos.out; have := Lio.out; have := Lov.out; have := Lvg.out; omega))
  have Eo8 := Aside0.mk (Eo7.out.kp hk Kv7.out)
  have Ks8 := Aside0.mk (hk.blk Ks7.out (by have := Lsa.out; have := Lai.out; have := hpos.out; have := Lio.out; have := Lov.out; have := Lvg.out; omega))
  have Kg8 := Aside0.mk (hk.blk Kg7.out (by have := Lsa.out; have := Lai.out; have := hpos.out; have := Lio.out; have := Lov.out; have := Lvg.out; omega))
  have B8 := Aside0.mk (B7.out.trans (hk.low _ (by have := Lsa.out; have := Lai.out; have := hpos.out; have := Lio.out; have := Lov.out; have := Lvg.out; omega) B7.out.size))
  have G8 := Aside0.mk (G7.out.kp hk (by have := Lsa.out; have := Lai.out; have := hpos.out; have := Lio.out; have := Lov.out; have := Lvg.out; omega))
  have Kv8 := Aside0.mk h1
  have Ev8 := Aside0.mk h2
  clear h1 h2 hk Ka7 Ki7 Ko7 Kv7 Ei7 Eo7 Ks7 B7 G7 Kg7
  go_wp2_with fail
  refine (walk_into0 bv Av cv evv8 0 17 _ Kv8.out (Or.inr Ev8.out)).mono ?_
  rintro e w9 ⟨bz9, rfl, evv9, Az9, cz9, h1, h2, hn, hle, hk⟩
  have Ka9 := Aside0.mk (hk.blk Ka8.out (by have := Lsa.out; have := Lai.out; have := hpos.out; have := Lio.out; have := Lov.out; have := Lvg.out; omega))
  have Ki9 := Aside0.mk (hk.blk Ki8.out (by have := Lsa.out; have := Lai.out; have := hpos.out; have := Lio.out; have := Lov.out; have := Lvg.out; omega))
  have Ei9 := Aside0.mk (Ei8.out.kp hk Kv8.out)
  have Ko9 := Aside0.mk (hk.blk Ko8.out (by have := Lsa.out; have := Lai.out; have := hpos.out; have := Lio.out; have := Lov.out; have := Lvg.out; omega))
  have Eo9 := Aside0.mk (Eo8.out.kp hk Kv8.out)
  have Ks9 := Aside0.mk (hk.blk Ks8.out (by have := Lsa.out; have := Lai.out; have := hpos.out; have := Lio.out; have := Lov.out; have := Lvg.out; omega))
  have Kg9 := Aside0.mk (hk.blk Kg8.out (by have := Lsa.out; have := Lai.out; have := hpos.out; have := Lio.out; have := Lov.out; have := Lvg.out; omega))
  have B9 := Aside0.mk (B8.out.trans (hk.low _ (by have := Lsa.out; have := Lai.out; have := hpos.out; have := Lio.out; have := Lov.out; have := Lvg.out; omega) B8.out.size))
  have G9 := Aside0.mk (G8.out.kp hk (by have := Lsa.out; have := Lai.out; have := hpos.out; have := Lio.out; have := Lov.out; have := Lvg.out; omega))
  have Kv9 := Aside0.mk h1
  have Ev9 := Aside0.mk h2
  clear hn hle
  clear h1 h2 hk Ka8 Ki8 Ko8 Kv8 Ei8 Eo8 Ev8 Ks8 B8 G8 Kg8
  go_wp2_with fail
  refine (walk_content0 bv w6.heap.size Av cv evv9 _ Kv9.out (Or.inr Ev9.out) Kg9.out).mono ?_
  rintro e w10 ⟨rfl, evv10, h1, h2, hk⟩
  have Ka10 := Aside0.mk (hk.blk Ka9.out (by have := Lsa.out; have := Lai.out; have := hpos.out; have := Lio.out; have := Lov.out; have := Lvg.out; omega))
  have Ki10 := Aside0.mk (hk.blk Ki9.out (by have := Lsa.out; have := Lai.out; have := hpos.out; have := Lio.out; have := Lov.out; have := Lvg.out; omega))
  have Ei10 := Aside0.mk (Ei9.out.kp hk Kv9.out)
  have Ko10 := Aside0.mk (hk.blk Ko9.out (by have := Lsa.out; have := Lai.out; have := hpos.out; have := Lio.out; have := Lov.out; have := Lvg.out; omega))
  have Eo10 := Aside0.mk (Eo9.out.kp hk Kv9.out)
  have Ks10 := Aside0.mk (hk.blk Ks9.out (by have := Lsa.out; have := Lai.out; have := hpos.out; have := Lio.out; have := Lov.out; have := Lvg.out; omega))
  have Kg10 := Aside0.mk (hk.blk Kg9.out (by have := Lsa.out; have := Lai.out; have := hpos.out; have := Lio.out; have := Lov.out; have := Lvg.out; omega))
  have B10 := Aside0.mk (B9.out.trans (hk.low _ (by have := Lsa.out; have := Lai.out; have := hpos.out; have := Lio.out; have := Lov.out; have := Lvg.out; omega) B9.out.size))
  have G10 := Aside0.mk (G9.out.kp hk (by have := Lsa.out; have := Lai.out; have := hpos.out; have := Lio.out; have := Lov.out; have := Lvg.out; omega))
  have Kv10 := Aside0.mk h1
  have Ev10 := Aside0.mk h2
  clear h1 h2 hk Ka9 Ki9 Ko9 Kv9 Ei9 Eo9 Ev9 Ks9 B9 G9 Kg9
  go_wp2_with fail
  refine (walk_rows0 bv Av cv evv10 0 _ Kv10.out).mono ?_
  rintro e w11 ⟨rfl, rfl⟩
  obtain ⟨k0, k1, k2, k3, k4, k5, z0, z1, z2, z3, z4, z5⟩ := box6 Kg10.out
  go_wp2_with fail
  have hq := same_heap Kg10.out (put6_3 Kg10.out (.slice none 0 0))
  have Ka11 := Aside0.mk ((hq _).trans Ka10.out)
  have Ki11 := Aside0.mk ((hq _).trans Ki10.out)
  have Ei11 := Aside0.mk (Ei10.out.of_heap hq)
  have Ko11 := Aside0.mk ((hq _).trans Ko10.out)
  have Eo11 := Aside0.mk (Eo10.out.of_heap hq)
  have Kv11 := Aside0.mk ((hq _).trans Kv10.out)
  have Ev11 := Aside0.mk (Ev10.out.of_heap hq)
  have Ks11 := Aside0.mk ((hq _).trans Ks10.out)
  have Kg11 := Aside0.mk ((hq _).trans Kg10.out)
  have B11 := Aside0.mk (B10.out.setCell (p := ⟨w6.heap.size, 3, none⟩) (show w.heap.size ≤ w6.heap.size from by have := Lsa.out; have := Lai.out; have := hpos.out; have := Lio.out; have := Lov.out; have := Lvg.out; omega) (.slice none 0 0))
  have G11 := Aside0.mk (G10.out.of_heap hq)
  clear hq k0 k1 k2 k3 k4 k5 z0 z1 z2 z3 z4 z5 Ka10 Ki10 Ko10 Kv10 Ei10 Eo10 Ev10 Ks10 B10 G10 Kg10
  refine (walk_rows0 bv Av cv evv10 1 _ Kv11.out).mono ?_
  rintro e wr ⟨rfl, rfl⟩
  obtain ⟨k0, k1, k2, k3, k4, k5, z0, z1, z2, z3, z4, z5⟩ := box6 Kg11.out
  go_wp2_with fail
  have hq := same_heap Kg11.out (put6_4 Kg11.out (.slice none 0 0))
  have Ka12 := Aside0.mk ((hq _).trans Ka11.out)
  have Ki12 := Aside0.mk ((hq _).trans Ki11.out)
  have Ei12 := Aside0.mk (Ei11.out.of_heap hq)
  have Ko12 := Aside0.mk ((hq _).trans Ko11.out)
  have Eo12 := Aside0.mk (Eo11.out.of_heap hq)
  have Kv12 := Aside0.mk ((hq _).trans Kv11.out)
  have Ev12 := Aside0.mk (Ev11.out.of_heap hq)
  have Ks12 := Aside0.mk ((hq _).trans Ks11.out)
  have Kg12 := Aside0.mk ((hq _).trans Kg11.out)
  have B12 := Aside0.mk (B11.out.setCell (p := ⟨w6.heap.size, 4, none⟩) (show w.heap.size ≤ w6.heap.size from by have := Lsa.out; have := Lai.out; have := hpos.out; have := Lio.out; have := Lov.out; have := Lvg.out; omega) (.slice none 0 0))
  have G12 := Aside0.mk (G11.out.of_heap hq)
  clear hq k0 k1 k2 k3 k4 k5 z0 z1 z2 z3 z4 z5 Ka11 Ki11 Ko11 Kv11 Ei11 Eo11 Ev11 Ks11 B11 G11 Kg11
  refine (walk_into0 bv Av cv evv10 0 17 _ Kv12.out (Or.inr Ev12.out)).mono ?_
  rintro e w13 ⟨bz13, rfl, evv13, Az13, cz13, h1, h2, hn, hle, hk⟩
  have Ka13 := Aside0.mk (hk.blk Ka12.out (by have := Lsa.out; have := Lai.out; have := hpos.out; have := Lio.out; have := Lov.out; have := Lvg.out; omega))
  have Ki13 := Aside0.mk (hk.blk Ki12.out (by have := Lsa.out; have := Lai.out; have := hpos.out; have := Lio.out; have := Lov.out; have := Lvg.out; omega))
  have Ei13 := Aside0.mk (Ei12.out.kp hk Kv12.out)
  have Ko13 := Aside0.mk (hk.blk Ko12.out (by have := Lsa.out; have := Lai.out; have := hpos.out; have := Lio.out; have := Lov.out; have := Lvg.out; omega))
  have Eo13 := Aside0.mk (Eo12.out.kp hk Kv12.out)
  have Ks13 := Aside0.mk (hk.blk Ks12.out (by have := Lsa.out; have := Lai.out; have := hpos.out; have := Lio.out; have := Lov.out; have := Lvg.out; omega))
  have Kg13 := Aside0.mk (hk.blk Kg12.out (by have := Lsa.out; have := Lai.out; have := hpos.out; have := Lio.out; have := Lov.out; have := Lvg.out; omega))
  have B13 := Aside0.mk (B12.out.trans (hk.low _ (by have := Lsa.out; have := Lai.out; have := hpos.out; have := Lio.out; have := Lov.out; have := Lvg.out; omega) B12.out.size))
  have G13 := Aside0.mk (G12.out.kp hk (by have := Lsa.out; have := Lai.out; have := hpos.out; have := Lio.out; have := Lov.out; have := Lvg.out; omega))
  have Kv13 := Aside0.mk h1
  have Ev13 := Aside0.mk h2
  clear hn hle
  clear h1 h2 hk Ka12 Ki12 Ko12 Kv12 Ei12 Eo12 Ev12 Ks12 B12 G12 Kg12
  go_wp2_with fail
  refine (walk_done0 bo bv Ao co evo6 Av cv evv13 _ Ko13.out (Or.inr Eo13.out) Kv13.out Ev13.out).mono ?_
  rintro e w14 ⟨rfl, evo14, h1, h2, hk⟩
  have Ka14 := Aside0.mk (hk.blk Ka13.out (by have := Lsa.out; have := Lai.out; have := hpos.out; have := Lio.out; have := Lov.out; have := Lvg.out; omega))
  have Ki14 := Aside0.mk (hk.blk Ki13.out (by have := Lsa.out; have := Lai.out; have := hpos.out; have := Lio.out; have := Lov.out; have := Lvg.out; omega))
  have Ei14 := Aside0.mk (Ei13.out.kp hk Ko13.out)
  have Kv14 := Aside0.mk (hk.blk Kv13.out (by have := Lsa.out; have := Lai.out; have := hpos.out; have := Lio.out; have := Lov.out; have := Lvg.out; omega))
  have Ev14 := Aside0.mk (Ev13.out.kp hk Ko13.out)
  have Ks14 := Aside0.mk (hk.blk Ks13.out (by have := Lsa.out; have := Lai.out; have := hpos.out; have := Lio.out; have := Lov.out; have := Lvg.out; omega))
  have Kg14 := Aside0.mk (hk.blk Kg13.out (by have := Lsa.out; have := Lai.out; have := hpos.out; have := Lio.out; have := Lov.out; have := Lvg.out; omega))
  have B14 := Aside0.mk (B13.out.trans (hk.low _ (by have := Lsa.out; have := Lai.out; have := hpos.out; have := Lio.out; have := Lov.out; have := Lvg.out; omega) B13.out.size))
  have G14 := Aside0.mk (G13.out.kp hk (by have := Lsa.out; have := Lai.out; have := hpos.out; have := Lio.out; have := Lov.out; have := Lvg.out; omega))
  have Ko14 := Aside0.mk h1
  have Eo14 := Aside0.mk h2
  clear h1 h2 hk Ka13 Ki13 Ko13 Kv13 Ei13 Eo13 Ev13 Ks13 B13 G13 Kg13
  go_wp2_with fail
  refine (walk_done0 bi bo Ai ci evi5 Ao co evo14 _ Ki14.out (Or.inr Ei14.out) Ko14.out Eo14.out).mono ?_
  rintro e w15 ⟨rfl, evi15, h1, h2, hk⟩
  have Ka15 := Aside0.mk (hk.blk Ka14.out (by have := Lsa.out; have := Lai.out; have := hpos.out; have := Lio.out; have := Lov.out; have := Lvg.out; omega))
  have Ko15 := Aside0.mk (hk.blk Ko14.out (by have := Lsa.out; have := Lai.out; have := hpos.out; have := Lio.out; have := Lov.out; have := Lvg.out; omega))
  have Eo15 := Aside0.mk (Eo14.out.kp hk Ki14.out)
  have Kv15 := Aside0.mk (hk.blk Kv14.out (by have := Lsa.out; have := Lai.out; have := hpos.out; have := Lio.out; have := Lov.out; have := Lvg.out; omega))
  have Ev15 := Aside0.mk (Ev14.out.kp hk Ki14.out)
  have Ks15 := Aside0.mk (hk.blk Ks14.out (by have := Lsa.out; have := Lai.out; have := hpos.out; have := Lio.out; have := Lov.out; have := Lvg.out; omega))
  have Kg15 := Aside0.mk (hk.blk Kg14.out (by have := Lsa.out; have := Lai.out; have := hpos.out; have := Lio.out; have := Lov.out; have := Lvg.out; omega))
  have B15 := Aside0.mk (B14.out.trans (hk.low _ (by have := Lsa.out; have := Lai.out; have := hpos.out; have := Lio.out; have := Lov.out; have := Lvg.out; omega) B14.out.size))
  have G15 := Aside0.mk (G14.out.kp hk (by have := Lsa.out; have := Lai.out; have := hpos.out; have := Lio.out; have := Lov.out; have := Lvg.out; omega))
  have Ki15 := Aside0.mk h1
  have Ei15 := Aside0.mk h2
  clear h1 h2 hk Ka14 Ki14 Ko14 Kv14 Ei14 Eo14 Ev14 Ks14 B14 G14 Kg14
  go_wp2_with fail
  refine (walk_done0 (w1.heap.size + 1 + 1) bi Aa ca .nilIface Ai ci evi15 _ Ka15.out (Or.inl rfl) Ki15.out Ei15.out).mono ?_
  rintro e w16 ⟨rfl, eva16, h1, h2, hk⟩
  have Ki16 := Aside0.mk (hk.blk Ki15.out (by have := Lsa.out; have := Lai.out; have := hpos.out; have := Lio.out; have := Lov.out; have := Lvg.out; omega))
  have Ei16 := Aside0.mk (Ei15.out.kp hk Ka15.out)
  have Ko16 := Aside0.mk (hk.blk Ko15.out (by have := Lsa.out; have := Lai.out; have := hpos.out; have := Lio.out; have := Lov.out; have := Lvg.out; omega))
  have Eo16 := Aside0.mk (Eo15.out.kp hk Ka15.out)
  have Kv16 := Aside0.mk (hk.blk Kv15.out (by have := Lsa.out; have := Lai.out; have := hpos.out; have := Lio.out; have := Lov.out; have := Lvg.out; omega))
  have Ev16 := Aside0.mk (Ev15.out.kp hk Ka15.out)
  have Ks16 := Aside0.mk (hk.blk Ks15.out (by have := Lsa.out; have := Lai.out; have := hpos.out; have := Lio.out; have := Lov.out; have := Lvg.out; omega))
  have Kg16 := Aside0.mk (hk.blk Kg15.out (by have := Lsa.out; have := Lai.out; have := hpos.out; have := Lio.out; have := Lov.out; have := Lvg.out; omega))
  have B16 := Aside0.mk (B15.out.trans (hk.low _ (by have := Lsa.out; have := Lai.out; have := hpos.out; have := Lio.out; have := Lov.out; have := Lvg.out; omega) B15.out.size))
  have G16 := Aside0.mk (G15.out.kp hk (by have := Lsa.out; have := Lai.out; have := hpos.out; have := Lio.out; have := Lov.out; have := Lvg.out; omega))
  have Ka16 := Aside0.mk h1
  have Ea16 := Aside0.mk h2
  clear h1 h2 hk Ka15 Ki15 Ko15 Kv15 Ei15 Eo15 Ev15 Ks15 B15 G15 Kg15
  obtain ⟨k0, k1, z0, z1⟩ := box2 Ka16.out
  go_wp2_with fail
  refine (why6 eva16 _ Ea16.out G16.out).mono ?_
  rintro e wy ⟨rfl, hb⟩
  have KS := Aside0.mk ((hb.block _ (blk_lt Ks16.out)).trans Ks16.out)
  have BB := Aside0.mk (below_step B16.out hb)
  clear hb k0 k1 z0 z1
  obtain ⟨k0, k1, k2, k3, k4, k5, z0, z1, z2, z3, z4, z5⟩ := box6 KS.out
  go_wp2_with fail
  refine bodyPost_ret (results_ct rfl _ _ w.heap.size 70 sg0 (0, 0) _ rfl (put6 KS.out _ _ _ _ _ _) Tryz.underlying70 rfl (by kernel_rfl)) rfl ?_
  exact ⟨rfl, by repeat (first | exact BB.out | refine below_set ?_ (Nat.le_refl _))⟩
end Go.Proofs.YtkioddjjfifadaaGreatDoor.P
namespace Go.Proofs.YtkioddjjfifadaaGreatDoor.P
open Go.RowKit Go.Proofs.YtkioddjjfifadaaGreatDoorW.PrintWords Go.Proofs.YtkioddjjfifadaaGreatDoorW.PrintLast Go.Proofs.YtkioddjjfifadaaGreatDoorW.PrintMore
theorem C_two {α : Type} {d : Kd α} {W : World} {b : Nat} {t : TypeId} {x y : α} {c1 c2 : List Value} (hb : W.heap[b]? = some (.cells (c1 ++ c2).toArray t (0, 0))) (h1 : d.K W x c1) (h2 : d.K W y c2) : d.C W (some ⟨b, 0, none⟩) 2 [x, y] :=
  ⟨rfl, by omega, fun _ => ⟨_, rfl, fun j p hj => by
    have l1 := d.K_len h1
    match j, hj with
    | 0, hj =>
      obtain rfl : x = p := by simpa using hj
      refine ⟨c1, l1, h1, fun i u hu => ?_⟩
      rw [Go.Addr.add_mid, Nat.zero_mul, Nat.zero_add, Nat.zero_add]
      refine (blk_cell hb i).trans ?_
      rw [List.getElem?_toArray, List.getElem?_append_left (List.getElem?_eq_some_iff.1 hu).1, hu]
    | 1, hj =>
      obtain rfl : y = p := by simpa using hj
      refine ⟨c2, d.K_len h2, h2, fun i u hu => ?_⟩
      rw [Go.Addr.add_mid, Nat.one_mul, Nat.zero_add]
      refine (blk_cell hb _).trans ?_
      rw [List.getElem?_toArray, List.getElem?_append_right (by omega), l1, Nat.add_sub_cancel_left, hu]
    | j + 2, hj => exact absurd hj (by simp)⟩⟩
theorem C_one {α : Type} {d : Kd α} {W : World} {b : Nat} {t : TypeId} {x : α} {c1 : List Value} (hb : W.heap[b]? = some (.cells c1.toArray t (0, 0))) (h1 : d.K W x c1) : d.C W (some ⟨b, 0, none⟩) 1 [x] :=
  ⟨rfl, by omega, fun _ => ⟨_, rfl, fun j p hj => by
    match j, hj with
    | 0, hj =>
      obtain rfl : x = p := by simpa using hj
      refine ⟨c1, d.K_len h1, h1, fun i u hu => ?_⟩
      rw [Go.Addr.add_mid, Nat.zero_mul, Nat.zero_add, Nat.zero_add]
      refine (blk_cell hb i).trans ?_
      rw [List.getElem?_toArray, hu]
    | j + 1, hj => exact absurd hj (by simp)⟩⟩
abbrev s124 : ByteArray := ⟨#[49, 46, 50, 46, 52]⟩
abbrev s123 : ByteArray := ⟨#[49, 46, 50, 46, 51]⟩
abbrev mid24 : List Value := [.slice none 0 0, .int .i64 0, .int .i64 0, .int .i64 0, .slice none 0 0, .slice none 0 0, .slice none 0 0, .slice none 0 0, .int .i64 0, .int .i64 0, .int .i64 0, .int .i64 0, .slice none 0 0, .bool false, .int .i64 0, .int .i64 0, .slice none 0 0, .bool false, .slice none 0 0, .slice none 0 0, .slice none 0 0, .slice none 0 0, .int .i64 0, .int .i64 0]
/-- A certificate's cells, of which only the number, the issuer and the mark are set. -/
abbrev certCells (s i k : Value) : List Value := [.slice none 0 0, .slice none 0 0] ++ ([s] ++ ([i] ++ (mid24 ++ ([k] ++ [.slice none 0 0, .bool false]))))
theorem kCt_mk {w : World} {x : Ct} {As Ai Ak : Option Addr} {cs_ ci ck : Nat} (ls : x.ser.length ≤ cs_) (gs : (Kd.int .u8).C w As x.ser.length x.ser) (li : x.iss.length ≤ ci) (gi : (Kd.slice 64 k64).C w Ai x.iss.length x.iss) (lk : x.ski.length ≤ ck) (gk : (Kd.int .u8).C w Ak x.ski.length x.ski) :
    kCt.K w x (certCells (.slice As x.ser.length cs_) (.slice Ai x.iss.length ci) (.slice Ak x.ski.length ck)) :=
  ⟨_, _, rfl, ⟨rfl, by simp [Value.oneCell']⟩, ⟨_, _, rfl, ⟨As, cs_, rfl, ls, gs⟩, ⟨_, _, rfl, ⟨Ai, ci, rfl, li, gi⟩, ⟨_, _, rfl, ⟨rfl, by simp [Value.oneCell']⟩, ⟨_, _, rfl, ⟨Ak, ck, rfl, lk, gk⟩, ⟨rfl, by simp [Value.oneCell']⟩⟩⟩⟩⟩⟩
theorem one_none : signed_One.f 5 [] s123 = some ([], 5) := by kernel_rfl
theorem one_some : signed_One.f 5 [⟨s124, []⟩, ⟨s123, [[5, 0]]⟩] s123 = some ([5, 0], 0) := by kernel_rfl
theorem hits_live : hits (hit false [7] [] (fun _ => true)) [⟨[6], [], []⟩, ⟨[7], [], []⟩] 2 = [1] := by kernel_rfl
set_option maxRecDepth 100000 in
set_option maxHeartbeats 4000000 in
theorem law17_live (w : World) (hg : Hd w) : Calls Tryz.prog 50 #[] w fun e w' => e = .returned (.bool true) ∧ Below w.heap.size w w' := by
  have HG := Aside0.mk hg
  have HB := Aside0.mk (Below.refl w.heap.size w)
  clear hg
  go_enter Tryz.func50, Tryz.ntmps50
  go_wp2_with fail
  refine (signed_Parse0 (some ⟨w.heap.size, 0, none⟩) 2 _ ?sa ?sb ?sc).mono ?_
  case sa => exact lit2 (heap_alloc_new w _)
  case sb => exact Nat.le_refl _
  case sc => exact HG.out.below (below_alloc (Below.refl _ w) _)
  rintro e w1 ⟨rfl, hb⟩
  have HB1 := Aside0.mk (below_step (below_alloc (Below.refl w.heap.size w) _) hb)
  clear hb HB
  go_wp2_with fail
  refine (signed_One.calls 5 (fun _ => True) none 0 [] s123 [] 5 _ (Kd.V_mk (Nat.le_refl _) (Kd.F_mono (Kd.C_F k163_heap nil_C) (fun _ _ => trivial))) one_none).mono ?_
  rintro e w2 ⟨v0, rfl, h0, hb⟩
  have HB2 := Aside0.mk (below_step (below_alloc HB1.out _) hb)
  clear hb HB1 h0
  go_wp2_with fail
  refine (signed_One.calls 5 (fun k => True) (some ⟨w2.heap.size + 1 + 1, 0, none⟩) 2 [⟨s124, []⟩, ⟨s123, [[5, 0]]⟩] s123 [5, 0] 0 _ (Kd.V_mk (Nat.le_refl _) (Kd.F_mono (Kd.C_F k163_heap ?sd) (fun _ _ => trivial))) one_some).mono ?_
  case sd =>
    refine C_two (c1 := [.string s124, .slice none 0 0]) (c2 := [.string s123, .slice (some ⟨w2.heap.size + 1, 0, none⟩) 1 1]) (blk_at (by simp) _) (k163_mk _ ⟨s124, []⟩ (A1 := none) (c1 := 0) (Nat.le_refl _) nil_C) (k163_mk _ ⟨s123, [[5, 0]]⟩ (Nat.le_refl _) ?_)
    refine C_one (c1 := [.slice (some ⟨w2.heap.size, 0, none⟩) 2 2]) (blk_alloc (blk_at (by simp) _) _) ⟨some ⟨w2.heap.size, 0, none⟩, 2, rfl, Nat.le_refl _, ?_⟩
    exact lit2 (blk_alloc (blk_alloc (heap_alloc_new w2 _) _) _)
  rintro e w3 ⟨v1, rfl, h0, hb⟩
  obtain ⟨A5, c5, rfl⟩ := Kd.R_slice h0
  have HB3 := Aside0.mk (below_step (below_alloc (below_alloc (below_alloc HB2.out _) _) _) hb)
  clear hb HB2 h0
  go_wp2_with fail
  refine (signed_Find_gen (fun _ => True) (fun _ h => h) (fun _ => true) false none (some ⟨w3.heap.size, 0, none⟩) none 0 1 0 [] [7] [] (some ⟨w3.heap.size + 1 + 1 + 1, 0, none⟩) 2 [⟨[6], [], []⟩, ⟨[7], [], []⟩] _ trivial ?se nil_C (Nat.le_refl _) ?sf (Nat.le_refl _) nil_C (Nat.le_refl _) ?sg (Nat.le_refl _) (by decide)).mono ?_
  case se =>
    intro x hx A0 c0 A1 c1 W _ _ _ _ _
    have hn : x.iss = [] := by
      rcases List.mem_cons.1 hx with rfl | hx
      · rfl
      · rw [List.mem_singleton.1 hx]
    rw [hn]
    exact same_nil A0 A1 c0 c1 W
  case sf => exact lit1 (blk_alloc (blk_alloc (blk_alloc (heap_alloc_new w3 _) _) _) _)
  case sg =>
    refine C_two (c1 := certCells (.slice (some ⟨w3.heap.size + 1, 0, none⟩) 1 1) (.slice none 0 0) (.slice none 0 0)) (c2 := certCells (.slice (some ⟨w3.heap.size + 1 + 1, 0, none⟩) 1 1) (.slice none 0 0) (.slice none 0 0)) (blk_at (by simp) _) (kCt_mk (x := ⟨[6], [], []⟩) (Nat.le_refl _) ?_ (Nat.le_refl _) nil_C (Nat.le_refl _) nil_C) (kCt_mk (x := ⟨[7], [], []⟩) (Nat.le_refl _) ?_ (Nat.le_refl _) nil_C (Nat.le_refl _) nil_C)
    · exact lit1 (blk_alloc (blk_alloc (blk_at (by simp) _) _) _)
    · exact lit1 (blk_alloc (blk_at (by simp) _) _)
  rintro e w4 ⟨v4, rfl, h4, hb⟩
  rw [show ([⟨[6], [], []⟩, ⟨[7], [], []⟩] : List Ct).length = 2 from rfl, hits_live] at h4
  obtain ⟨A4, c4, rfl, hc4, h4⟩ := Kd.R_reads h4
  obtain ⟨ad, cz, rfl, -, hk4, hx4⟩ := Kd.C_get h4 0 0 (by omega) (by decide)
  have hk4' : cz = [.int .i64 1] := hk4
  subst hk4'
  have k0 : w4.cell? (ad.add 0) = some (.int .i64 1) := hx4 0 _ rfl
  rw [Go.Addr.add_zero'] at k0
  have HB4 := Aside0.mk (below_step (below_alloc (below_alloc (below_alloc (below_alloc HB3.out _) _) _) _) hb)
  clear hb HB3 h4 hk4 hx4 hc4
  go_wp2_with fail
  refine (chirographlaw17_num.calls 6 6 _ rfl).mono ?_
  rintro e w5 ⟨rfl, hd⟩
  have HB5 := Aside0.mk (below_step HB4.out hd.below)
  replace k0 := (hd.below.cell (World.block_lt_of_cell? w4 _ k0)).trans k0
  clear hd HB4
  go_wp2_with fail
  refine (chirographlaw17_num.calls 5 5 _ rfl).mono ?_
  rintro e w6 ⟨rfl, hd⟩
  have HB6 := Aside0.mk (below_step HB5.out hd.below)
  replace k0 := (hd.below.cell (World.block_lt_of_cell? w5 _ k0)).trans k0
  clear hd HB5
  go_wp2_with fail
  refine (chirographlaw17_num.calls 0 0 _ rfl).mono ?_
  rintro e w7 ⟨rfl, hd⟩
  have HB7 := Aside0.mk (below_step HB6.out hd.below)
  replace k0 := (hd.below.cell (World.block_lt_of_cell? w6 _ k0)).trans k0
  clear hd HB6
  go_wp2_with fail
  go_ret
  exact ⟨rfl, HB7.out⟩
end Go.Proofs.YtkioddjjfifadaaGreatDoor.P
namespace Go.Proofs.YtkioddjjfifadaaGreatDoor.P
open Go.RowKit Go.Proofs.YtkioddjjfifadaaGreatDoorW.PrintWords Go.Proofs.YtkioddjjfifadaaGreatDoorW.PrintLast Go.Proofs.YtkioddjjfifadaaGreatDoorW.PrintMore
def chirographlaw17_live.f : Option Bool := some true
end Go.Proofs.YtkioddjjfifadaaGreatDoor.P
