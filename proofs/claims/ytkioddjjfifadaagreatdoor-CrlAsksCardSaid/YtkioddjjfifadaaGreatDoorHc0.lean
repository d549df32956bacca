/- crl.Parse at the two bytes 30 00: it answers the zero list and the number 6 (ErrForm), and changes nothing that was there. -/
import Derived.Test.YtkioddjjfifadaaGreatDoorPxf95
import Derived.Defers
import Derived.Recover
import Derived.WalkLawsBesides
namespace Go.Proofs.YtkioddjjfifadaaGreatDoor.P
open Go.RowKit Go.Proofs.YtkioddjjfifadaaGreatDoorW.PrintWords Go.Proofs.YtkioddjjfifadaaGreatDoorW.PrintLast Go.Proofs.YtkioddjjfifadaaGreatDoorW.PrintMore

theorem crl_need_true (w : World) : Calls Tryz.prog 137 #[.bool true] w fun e w' => e = .returned (.tuple #[]) ∧ w' = w := by
  go_enter Tryz.func137, Tryz.ntmps137
  go_wp2
  first | go_end0 | (refine bodyPost_ret (results_none rfl _ _ _) rfl ?_)
  exact ⟨rfl, rfl⟩

abbrev crl_stop : List PanicEntry := [{ v := .iface 125 (.agg #[.int .i64 6]), recovered := false }]
theorem crl_need_false (w : World) : Calls Tryz.prog 137 #[.bool false] w fun e w' => e = .panicked crl_stop ∧ w' = w := by
  go_enter Tryz.func137, Tryz.ntmps137
  go_wp2
  exact ⟨rfl, rfl, rfl⟩

/-- The cells of a block of five, and that they may be written. -/
theorem box5 {W : World} {b : Nat} {c0 c1 c2 c3 c4 : Value} {t : TypeId} (h : W.heap[b]? = some (.cells #[c0, c1, c2, c3, c4] t (0, 0))) :
    W.cell? ⟨b, 0, none⟩ = some c0 ∧ W.cell? ⟨b, 1, none⟩ = some c1 ∧ W.cell? ⟨b, 2, none⟩ = some c2 ∧ W.cell? ⟨b, 3, none⟩ = some c3 ∧ W.cell? ⟨b, 4, none⟩ = some c4 ∧
      W.frozen? ⟨b, 0, none⟩ = false ∧ W.frozen? ⟨b, 1, none⟩ = false ∧ W.frozen? ⟨b, 2, none⟩ = false ∧ W.frozen? ⟨b, 3, none⟩ = false ∧ W.frozen? ⟨b, 4, none⟩ = false :=
  ⟨(blk_cell h 0).trans rfl, (blk_cell h 1).trans rfl, (blk_cell h 2).trans rfl, (blk_cell h 3).trans rfl, (blk_cell h 4).trans rfl, blk_frozen h 0, blk_frozen h 1, blk_frozen h 2, blk_frozen h 3, blk_frozen h 4⟩
theorem put5 {W : World} {b : Nat} {c0 c1 c2 c3 c4 : Value} {t : TypeId} (h : W.heap[b]? = some (.cells #[c0, c1, c2, c3, c4] t (0, 0))) (d0 d1 d2 d3 d4 : Value) :
    (((((W.setCell ⟨b, 0, none⟩ d0).setCell ⟨b, 1, none⟩ d1).setCell ⟨b, 2, none⟩ d2).setCell ⟨b, 3, none⟩ d3).setCell ⟨b, 4, none⟩ d4).heap[b]? = some (.cells #[d0, d1, d2, d3, d4] t (0, 0)) :=
  blk_put (blk_put (blk_put (blk_put (blk_put h 0 d0 rfl) 1 d1 rfl) 2 d2 rfl) 3 d3 rfl) 4 d4 rfl
/-- A block that was just made, behind what changes nothing that was there. -/
theorem blk_past {W w1 : World} {o : Obj} (hb : Below (W.alloc o).heap.size (W.alloc o) w1) : w1.heap[W.heap.size]? = some o :=
  (hb.block W.heap.size (by simp)).trans (heap_alloc_new W o)

theorem one0_f : der_One.f 5 [48, 0] = some (0, 16, true, [], [48, 0], 0) := by kernel_rfl
set_option maxHeartbeats 1000000 in
theorem crl_one0 (A0 : Option Addr) (c0 : Nat) (w : World) (hr0 : Kd.C (Kd.int .u8) w A0 ([48, 0] : List Int).length [48, 0]) (hc0 : ([48, 0] : List Int).length ≤ c0) :
    Calls Tryz.prog 136 #[.slice A0 ([48, 0] : List Int).length c0] w fun e w' => ∃ (A3 : Option Addr) (c3 : Nat) (A4 : Option Addr) (c4 : Nat), e = .returned (.agg #[.int .i64 0, .int .i64 16, .bool true, .slice A3 0 c3, .slice A4 2 c4]) ∧ Below w.heap.size w w' := by
  have HR0 := Aside0.mk hr0
  have HC0 := Aside0.mk hc0
  clear hr0 hc0
  go_enter Tryz.func136, Tryz.ntmps136
  go_wp2_with fail
  refine (der_One.calls 5 A0 c0 [48, 0] 0 16 true [] [48, 0] 0 _ ?sa ?sb one0_f).mono ?_
  case sa => exact Kd.C_alloc HR0.out _
  case sb => exact HC0.out
  rintro e w1 ⟨v3, v4, rfl, h3, h4, hb⟩
  obtain ⟨a3, c3, rfl⟩ := Kd.V_slice h3
  obtain ⟨a4, c4, rfl⟩ := Kd.V_slice h4
  have bk := blk_past hb
  have HB := Aside0.mk (below_step (below_alloc (Below.refl w.heap.size w) _) hb)
  have hlt := Aside0.mk hb.size
  obtain ⟨k0, k1, k2, k3, k4, z0, z1, z2, z3, z4⟩ := box5 (blk_alloc bk (.cells #[.int .i64 0, .int .i64 16, .bool true, .slice a3 0 c3, .slice a4 2 c4] 77))
  have hne : ¬ w.heap.size = w1.heap.size := by have := hlt.out; simp at this; omega
  have BK := Aside0.mk (blk_alloc bk (.cells #[.int .i64 0, .int .i64 16, .bool true, .slice a3 0 c3, .slice a4 2 c4] 77))
  clear h3 h4 hb bk
  go_wp2_with (go_at_call 137; refine (crl_need_true _).mono ?_; rintro e w2 ⟨rfl, rfl⟩)
  refine bodyPost_ret (results_cell_row rfl _ _ w.heap.size 77 #[.int .i64 0, .int .i64 16, .bool true, .slice a3 0 c3, .slice a4 2 c4] (0, 0) _ rfl (put5 BK.out _ _ _ _ _) Tryz.underlying77 rfl (by kernel_rfl)) rfl ?_
  exact ⟨_, _, _, _, rfl, by repeat (first | exact HB.out | refine below_set ?_ (Nat.le_refl _) | apply below_alloc)⟩

theorem split_nil_f : der_Split.f 1 [] = some ([], 0, 0) := by kernel_rfl
set_option maxHeartbeats 1000000 in
/-- What the element is made of: nothing. -/
theorem crl_parts0 (A3 : Option Addr) (c3 : Nat) (A4 : Option Addr) (c4 : Nat) (w : World) :
    Calls Tryz.prog 135 #[.agg #[.int .i64 0, .int .i64 16, .bool true, .slice A3 0 c3, .slice A4 2 c4], .int .i64 0, .int .i64 16] w fun e w' => ∃ (A : Option Addr) (c : Nat), e = .returned (.slice A 0 c) ∧ Below w.heap.size w w' := by
  go_enter Tryz.func135, Tryz.ntmps135
  go_wp2_with fail
  refine (der_Split.calls 1 A3 c3 [] [] 0 0 _ ?sa ?sb split_nil_f).mono ?_
  case sa => exact ⟨rfl, by simp, fun h => absurd h (Nat.lt_irrefl 0)⟩
  case sb => exact Nat.zero_le _
  rintro e w1 ⟨v, rfl, hv, hb⟩
  obtain ⟨A, c, rfl⟩ := Kd.S_slice hv
  have bk := blk_past hb
  have HB := Aside0.mk (below_step (below_alloc (Below.refl w.heap.size w) _) hb)
  obtain ⟨k0, k1, k2, k3, k4, z0, z1, z2, z3, z4⟩ := box5 bk
  clear hv hb bk
  go_wp2_with (go_at_call 137; refine (crl_need_true _).mono ?_; rintro e w2 ⟨rfl, rfl⟩)
  go_ret
  exact ⟨_, _, rfl, HB.out⟩
end Go.Proofs.YtkioddjjfifadaaGreatDoor.P
