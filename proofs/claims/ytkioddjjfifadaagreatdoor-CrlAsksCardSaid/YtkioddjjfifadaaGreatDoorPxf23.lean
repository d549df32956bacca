/- Printed by a program of this session (a turned copy of the kit's print) out of the translation: functions, each as a Lean function, and that the Go call does what that function says, under what is asked ahead of the colon. -/
import Derived.Test.YtkioddjjfifadaaGreatDoorPx0
import Derived.Test.YtkioddjjfifadaaGreatDoorPxf31
namespace Go.Proofs.YtkioddjjfifadaaGreatDoor.P
open Go.RowKit Go.Proofs.YtkioddjjfifadaaGreatDoorW.PrintWords Go.Proofs.YtkioddjjfifadaaGreatDoorW.PrintLast Go.Proofs.YtkioddjjfifadaaGreatDoorW.PrintMore
attribute [local go_sem] max2_int min2_int max_two min_two max_three min_three max_four min_four   -- for this text's walks alone
set_option linter.unusedVariables false
set_option linter.unusedSimpArgs false

/-! ### chirographref13_Find: function 23 -/
def chirographref13_Find.l0 : Nat → List Int → Int → List Int → List Int → List (List (S64)) → Int → Int → Bool → Int → Int → Int → Int → List Int → List (S30) → List Int → Bool → Option (List Int × Int × Int × Bool)
  | 0, _, _, _, _, _, _, _, _, _, _, _, _, _, _, _, _ => none
  | k + 1, x1, x6, x448000, x448001, x448002, x448003, x448004, x448005, x448006, x448007, x448008, x448009, x448010, x448011, x448012, x448013 => if x6 < (x448011.length : Int) then (if 0 ≤ x6 then ((chirographref01_SameBytes.f k ((rd_T30 x448011 x6).f0) x1).bind fun t450 => (if t450 = true then (some ((rd_T30 x448011 x6).f0, (rd_T30 x448011 x6).f1, (rd_T30 x448011 x6).f2, true)) else (chirographref13_Find.l0 k x1 (wrap64 (x6 + 1)) x448000 x448001 x448002 x448003 x448004 x448005 x448006 x448007 x448008 x448009 x448010 x448011 x448012 x448013))) else (none)) else (some (([] : List Int), 0, 0, false))
def chirographref13_Find.f (k : Nat) (l0_0 : List Int) (l0_1 : List Int) (l0_2 : List (List (S64))) (a0_3 : Int) (a0_4 : Int) (a0_5 : Bool) (a0_6 : Int) (a0_7 : Int) (a0_8 : Int) (a0_9 : Int) (l0_10 : List Int) (l0_11 : List (S30)) (l0_12 : List Int) (a0_13 : Bool) (l1 : List Int) : Option (List Int × Int × Int × Bool) := chirographref13_Find.l0 k l1 0 l0_0 l0_1 l0_2 a0_3 a0_4 a0_5 a0_6 a0_7 a0_8 a0_9 l0_10 l0_11 l0_12 a0_13
theorem chirographref13_Find.mono_l : ∀ k, (∀ y0 y1 y2 y3 y4 y5 y6 y7 y8 y9 y10 y11 y12 y13 y14 y15, LeO (chirographref13_Find.l0 k y0 y1 y2 y3 y4 y5 y6 y7 y8 y9 y10 y11 y12 y13 y14 y15) (chirographref13_Find.l0 (k + 1) y0 y1 y2 y3 y4 y5 y6 y7 y8 y9 y10 y11 y12 y13 y14 y15))
  | 0 => fun _ _ _ _ _ _ _ _ _ _ _ _ _ _ _ _ r h => by simp [chirographref13_Find.l0] at h
  | k + 1 => by
    have ih0 := chirographref13_Find.mono_l k
    · intro y0 y1 y2 y3 y4 y5 y6 y7 y8 y9 y10 y11 y12 y13 y14 y15
      unfold chirographref13_Find.l0
      repeat' first
      | (with_reducible exact ih0 _ _ _ _ _ _ _ _ _ _ _ _ _ _ _ _)
      | (with_reducible exact chirographref01_SameBytes.mono _ _ _)
      | (with_reducible exact LeO.refl _)
      | (with_reducible exact LeO.none _)
      | (with_reducible refine LeO.ite ?_ ?_)
      | (with_reducible refine LeO.bind ?_ (fun _ => ?_))
      | exact ih0 _ _ _ _ _ _ _ _ _ _ _ _ _ _ _ _
      | exact chirographref01_SameBytes.mono _ _ _
      | exact LeO.none _
      | refine LeO.ite ?_ ?_
      | refine LeO.bind ?_ (fun _ => ?_)
theorem chirographref13_Find.mono : ∀ a0 a1 a2 a3 a4 a5 a6 a7 a8 a9 a10 a11 a12 a13 a14 k, LeO (chirographref13_Find.f k a0 a1 a2 a3 a4 a5 a6 a7 a8 a9 a10 a11 a12 a13 a14) (chirographref13_Find.f (k + 1) a0 a1 a2 a3 a4 a5 a6 a7 a8 a9 a10 a11 a12 a13 a14) := by
  intro a0 a1 a2 a3 a4 a5 a6 a7 a8 a9 a10 a11 a12 a13 a14 k
  have ih0 := chirographref13_Find.mono_l k
  unfold chirographref13_Find.f
  repeat' first
      | (with_reducible exact ih0 _ _ _ _ _ _ _ _ _ _ _ _ _ _ _ _)
      | (with_reducible exact chirographref01_SameBytes.mono _ _ _)
      | (with_reducible exact LeO.refl _)
      | (with_reducible exact LeO.none _)
      | (with_reducible refine LeO.ite ?_ ?_)
      | (with_reducible refine LeO.bind ?_ (fun _ => ?_))
      | exact ih0 _ _ _ _ _ _ _ _ _ _ _ _ _ _ _ _
      | exact chirographref01_SameBytes.mono _ _ _
      | exact LeO.none _
      | refine LeO.ite ?_ ?_
      | refine LeO.bind ?_ (fun _ => ?_)
set_option maxHeartbeats 8000000 in
set_option maxRecDepth 100000 in
theorem chirographref13_Find.calls (k : Nat) (A0_0 : Option Addr) (c0_0 : Nat) (l0_0 : List Int) (A0_1 : Option Addr) (c0_1 : Nat) (l0_1 : List Int) (A0_2 : Option Addr) (c0_2 : Nat) (l0_2 : List (List (S64))) (a0_3 : Int) (a0_4 : Int) (a0_5 : Bool) (a0_6 : Int) (a0_7 : Int) (a0_8 : Int) (a0_9 : Int) (A0_10 : Option Addr) (c0_10 : Nat) (l0_10 : List Int) (P0_11_ : Nat → Prop) (A0_11 : Option Addr) (c0_11 : Nat) (l0_11 : List (S30)) (A0_12 : Option Addr) (c0_12 : Nat) (l0_12 : List Int) (a0_13 : Bool) (A1 : Option Addr) (c1 : Nat) (l1 : List Int) (r1 : List Int) (r2 : Int) (r3 : Int) (r4 : Bool) (w : World) (hr0_0 : Kd.C (Kd.int .u8) w A0_0 l0_0.length l0_0) (hc0_0 : l0_0.length ≤ c0_0) (hr0_1 : Kd.C (Kd.int .u8) w A0_1 l0_1.length l0_1) (hc0_1 : l0_1.length ≤ c0_1) (hr0_2 : Kd.C (Kd.slice 64 k64) w A0_2 l0_2.length l0_2) (hc0_2 : l0_2.length ≤ c0_2) (hr0_10 : Kd.C (Kd.int .u8) w A0_10 l0_10.length l0_10) (hc0_10 : l0_10.length ≤ c0_10) (hs0_11 : Kd.V k30 30 w w.heap.size (fun k_ => P0_11_ k_) (.slice A0_11 l0_11.length c0_11) l0_11) (hr0_12 : Kd.C (Kd.int .u8) w A0_12 l0_12.length l0_12) (hc0_12 : l0_12.length ≤ c0_12) (hr1 : Kd.C (Kd.int .u8) w A1 l1.length l1) (hc1 : l1.length ≤ c1) (h : chirographref13_Find.f k l0_0 l0_1 l0_2 a0_3 a0_4 a0_5 a0_6 a0_7 a0_8 a0_9 l0_10 l0_11 l0_12 a0_13 l1 = some (r1, r2, r3, r4)) :
    Calls Tryz.prog 23 #[.agg #[.slice A0_0 l0_0.length c0_0, .slice A0_1 l0_1.length c0_1, .slice A0_2 l0_2.length c0_2, .int .i64 a0_3, .int .i64 a0_4, .bool a0_5, .int .i64 a0_6, .int .i64 a0_7, .int .i64 a0_8, .int .i64 a0_9, .slice A0_10 l0_10.length c0_10, .slice A0_11 l0_11.length c0_11, .slice A0_12 l0_12.length c0_12, .bool a0_13], .slice A1 l1.length c1] w fun e w' => ∃ v0_ : Value, e = .returned (.tuple #[.agg #[v0_, .int .i64 r2, .int .i64 r3], .bool r4]) ∧ Kd.V (Kd.int .u8) 5 w' w.heap.size (fun k_ => (P0_11_ k_ ∨ w.heap.size ≤ k_)) v0_ r1 ∧ Below w.heap.size w w' := by
  have hu28 := Tryz.underlying28
  have hu30 := Tryz.underlying30
  have HR0_0 := Aside0.mk hr0_0
  have HC0_0 := Aside0.mk hc0_0
  clear hr0_0 hc0_0
  have HR0_1 := Aside0.mk hr0_1
  have HC0_1 := Aside0.mk hc0_1
  clear hr0_1 hc0_1
  have HR0_2 := Aside0.mk hr0_2
  have HC0_2 := Aside0.mk hc0_2
  clear hr0_2 hc0_2
  have HR0_10 := Aside0.mk hr0_10
  have HC0_10 := Aside0.mk hc0_10
  clear hr0_10 hc0_10
  have HO0_11 := Aside0.mk (show Kd.V k30 30 w w.heap.size (fun k_ => (P0_11_ k_ ∨ w.heap.size ≤ k_)) (.slice A0_11 l0_11.length c0_11) l0_11 from Kd.V_mono hs0_11 (fun k_ hk => .inl hk))
  have HR0_12 := Aside0.mk hr0_12
  have HC0_12 := Aside0.mk hc0_12
  clear hr0_12 hc0_12
  have HR1 := Aside0.mk hr1
  have HC1 := Aside0.mk hc1
  clear hr1 hc1
  have HB := Aside0.mk (Below.refl w.heap.size w)
  have H : (chirographref13_Find.l0 k l1 0 l0_0 l0_1 l0_2 a0_3 a0_4 a0_5 a0_6 a0_7 a0_8 a0_9 l0_10 l0_11 l0_12 a0_13) = some (r1, r2, r3, r4) := h
  clear h
  have H' := Aside0.mk H
  clear H
  go_enter Tryz.func23, Tryz.ntmps23
  go_wp2_with (first | ((with_reducible refine gate_dst (N := 2) rfl ?_); refine box_event ?hg (N := 2) ?hd (cs := #[.slice A0_0 l0_0.length c0_0, .slice A0_1 l0_1.length c0_1, .slice A0_2 l0_2.length c0_2, .int .i64 a0_3, .int .i64 a0_4, .bool a0_5, .int .i64 a0_6, .int .i64 a0_7, .int .i64 a0_8, .int .i64 a0_9, .slice A0_10 l0_10.length c0_10, .slice A0_11 l0_11.length c0_11, .slice A0_12 l0_12.length c0_12, .bool a0_13]) (t := 28) ?hr ?_; (case hd => rfl); (case hg => rfl); (case hr => first | (go_simp; done) | (go_simp; rfl)); intro gb447 hg w3 hbox hb; have n0_ := Aside0.mk (Kd.V_below (Kd.V_elderB (by (with_reducible repeat (first | apply Kd.V_alloc | apply Kd.V_drewN | apply Kd.V_drew)); exact HO0_11.out) gb447 (Nat.le_of_eq hg.symm)) hb); have n1_ := Aside0.mk (below_step (by repeat (first | (with_reducible first | exact HB.out | apply below_alloc | apply pw_below_drewN | apply below_drew1) | exact HB.out)) hb); have n2_ := Aside0.mk (hbox); have n3_ := Aside0.mk ((by rw [hg]; exact (below_size (by repeat (first | (with_reducible first | exact HB.out | apply below_alloc | apply pw_below_drewN | apply below_drew1) | exact HB.out))) : w.heap.size ≤ gb447)); have n4_ := Aside0.mk ((by rw [hg]; exact (below_size (by repeat (first | (with_reducible first | exact HB.out | apply below_alloc | apply pw_below_drewN | apply below_drew1) | exact HB.out))) : w.heap.size ≤ gb447)); clear HO0_11; clear HB; have HO0_11 := n0_; have HB := n1_; have BK447 := n2_; have GW447 := n3_; have GE447 := n4_; clear n0_ n1_ n2_ n3_ n4_; clear hb hbox hg) | ((with_reducible refine gate_dst (N := 4) rfl ?_); refine box_event ?hg (N := 4) ?hd (cs := #[.slice none 0 0, .int .i64 0, .int .i64 0]) (t := 30) ?hr ?_; (case hd => rfl); (case hg => rfl); (case hr => first | (go_simp; done) | (go_simp; rfl)); intro gb448 hg w4 hbox hb; have n0_ := Aside0.mk (Kd.V_below (Kd.V_elderB (by (with_reducible repeat (first | apply Kd.V_alloc | apply Kd.V_drewN | apply Kd.V_drew)); exact HO0_11.out) gb448 (Nat.le_of_eq hg.symm)) hb); have n1_ := Aside0.mk (blk_below (g := gb447) (o := .cells #[.slice A0_0 l0_0.length c0_0, .slice A0_1 l0_1.length c0_1, .slice A0_2 l0_2.length c0_2, .int .i64 a0_3, .int .i64 a0_4, .bool a0_5, .int .i64 a0_6, .int .i64 a0_7, .int .i64 a0_8, .int .i64 a0_9, .slice A0_10 l0_10.length c0_10, .slice A0_11 l0_11.length c0_11, .slice A0_12 l0_12.length c0_12, .bool a0_13] 28 (0, 0)) (by (with_reducible repeat (first | refine blk_drewN ?_ _ | refine blk_drew ?_ | refine blk_alloc ?_ _)); exact BK447.out) hb); have n2_ := Aside0.mk (below_step (by repeat (first | (with_reducible first | exact HB.out | apply below_alloc | apply pw_below_drewN | apply below_drew1 | refine below_set ?_ GE447.out) | exact HB.out)) hb); have n3_ := Aside0.mk (hbox); have n4_ := Aside0.mk ((by rw [hg]; exact (below_size (by repeat (first | (with_reducible first | exact HB.out | apply below_alloc | apply pw_below_drewN | apply below_drew1 | refine below_set ?_ GE447.out) | exact HB.out))) : w.heap.size ≤ gb448)); have n5_ := Aside0.mk ((by rw [hg]; exact (below_size (by repeat (first | (with_reducible first | exact HB.out | apply below_alloc | apply pw_below_drewN | apply below_drew1 | refine below_set ?_ GE447.out) | exact HB.out))) : w.heap.size ≤ gb448)); have n6_ := Aside0.mk ((by rw [hg]; exact Nat.ne_of_lt (blk_lt (g := gb447) (o := .cells #[.slice A0_0 l0_0.length c0_0, .slice A0_1 l0_1.length c0_1, .slice A0_2 l0_2.length c0_2, .int .i64 a0_3, .int .i64 a0_4, .bool a0_5, .int .i64 a0_6, .int .i64 a0_7, .int .i64 a0_8, .int .i64 a0_9, .slice A0_10 l0_10.length c0_10, .slice A0_11 l0_11.length c0_11, .slice A0_12 l0_12.length c0_12, .bool a0_13] 28 (0, 0)) (by (with_reducible repeat (first | refine blk_drewN ?_ _ | refine blk_drew ?_ | refine blk_alloc ?_ _)); exact BK447.out)) : gb447 ≠ gb448)); have n7_ := Aside0.mk ((by rw [hg]; exact Nat.ne_of_gt (blk_lt (g := gb447) (o := .cells #[.slice A0_0 l0_0.length c0_0, .slice A0_1 l0_1.length c0_1, .slice A0_2 l0_2.length c0_2, .int .i64 a0_3, .int .i64 a0_4, .bool a0_5, .int .i64 a0_6, .int .i64 a0_7, .int .i64 a0_8, .int .i64 a0_9, .slice A0_10 l0_10.length c0_10, .slice A0_11 l0_11.length c0_11, .slice A0_12 l0_12.length c0_12, .bool a0_13] 28 (0, 0)) (by (with_reducible repeat (first | refine blk_drewN ?_ _ | refine blk_drew ?_ | refine blk_alloc ?_ _)); exact BK447.out)) : gb448 ≠ gb447)); clear HO0_11; clear BK447; clear HB; have HO0_11 := n0_; have BK447 := n1_; have HB := n2_; have BK448 := n3_; have GW448 := n4_; have GE448 := n5_; have NB447_448 := n6_; have NB448_447 := n7_; clear n0_ n1_ n2_ n3_ n4_ n5_ n6_ n7_; clear hb hbox hg))
  go_loopg [6] k (fun kq v6 w' => ∃ (x6_1 : Int) (x449001_1 : Int) (x449002_1 : Int), v6 = .int .i64 x6_1 ∧ Aside0 (chirographref13_Find.l0 kq l1 x6_1 l0_0 l0_1 l0_2 a0_3 a0_4 a0_5 a0_6 a0_7 a0_8 a0_9 l0_10 l0_11 l0_12 a0_13 = some (r1, r2, r3, r4)) ∧ Aside0 (kq ≤ k) ∧ Aside0 (Kd.V k30 30 w' w.heap.size (fun k_ => (P0_11_ k_ ∨ w.heap.size ≤ k_) ∧ k_ ≠ gb447 ∧ k_ ≠ gb448) (.slice A0_11 l0_11.length c0_11) l0_11) ∧ Aside0 (w'.heap[gb447]? = some (.cells #[(.slice A0_0 l0_0.length c0_0), (.slice A0_1 l0_1.length c0_1), (.slice A0_2 l0_2.length c0_2), .int .i64 a0_3, .int .i64 a0_4, .bool a0_5, .int .i64 a0_6, .int .i64 a0_7, .int .i64 a0_8, .int .i64 a0_9, (.slice A0_10 l0_10.length c0_10), (.slice A0_11 l0_11.length c0_11), (.slice A0_12 l0_12.length c0_12), .bool a0_13] 28 (0, 0))) ∧ Aside0 (w'.heap[gb448]? = some (.cells #[(.slice none 0 0), .int .i64 x449001_1, .int .i64 x449002_1] 30 (0, 0))) ∧ Aside0 (Below w.heap.size w w'))
  case atStart => exact ⟨(0), (0), (0), (by first | rfl | (simp; done) | (simp [*]; done)), H', ⟨Nat.le_refl _⟩, ⟨by (with_reducible repeat (first | apply Kd.V_alloc | apply Kd.V_drewN | apply Kd.V_drew)); exact Kd.V_mono HO0_11.out (fun _ hk => ⟨hk.1.1, ⟨hk.1.2, hk.2⟩⟩)⟩, ⟨by (with_reducible repeat (first | refine blk_drewN ?_ _ | refine blk_drew ?_ | refine blk_alloc ?_ _)); exact BK447.out⟩, ⟨by (with_reducible repeat (first | refine blk_drewN ?_ _ | refine blk_drew ?_ | refine blk_alloc ?_ _)); exact BK448.out⟩, ⟨by repeat (first | (with_reducible first | exact HB.out | apply below_alloc | apply pw_below_drewN | apply below_drew1 | refine below_set ?_ GE447.out | refine below_set ?_ GE448.out) | exact HB.out)⟩⟩
  case round =>
    clear H'
    try clear c1
    try clear c2
    try clear p2
    obtain ⟨x6_1, x449001_1, x449002_1, rfl, HA, HK1, HO_448011, BK447, BK448, HB⟩ := hrel
    cases gk with
    | zero => exact absurd HA.out (by simp [chirographref13_Find.l0])
    | succ k1 =>
      have H := HA.out
      clear HA
      simp only [chirographref13_Find.l0] at H
      by_cases c5 : x6_1 < (l0_11.length : Int)
      · rw [if_pos c5] at H
        have c5b0 : decide (x6_1 < (l0_11.length : Int)) = true := decide_eq_true c5
        clear c5
        by_cases c6 : 0 ≤ x6_1
        · rw [if_pos c6] at H
          have c6b0 : decide (0 ≤ x6_1) = true := decide_eq_true c6
          clear c6
          replace H := Option.bind_eq_some_iff.mp H
          obtain ⟨t450, A70, H⟩ := H
          replace H : (if t450 = true then (some ((rd_T30 l0_11 x6_1).f0, (rd_T30 l0_11 x6_1).f1, (rd_T30 l0_11 x6_1).f2, true)) else (chirographref13_Find.l0 k1 l1 (wrap64 (x6_1 + 1)) l0_0 l0_1 l0_2 a0_3 a0_4 a0_5 a0_6 a0_7 a0_8 a0_9 l0_10 l0_11 l0_12 a0_13)) = some (r1, r2, r3, r4) := H
          have A7 := Aside0.mk A70
          clear A70
          by_cases c8 : t450 = true
          · subst c8
            have H1 : (some ((rd_T30 l0_11 x6_1).f0, (rd_T30 l0_11 x6_1).f1, (rd_T30 l0_11 x6_1).f2, true)) = some (r1, r2, r3, r4) := by rw [if_pos rfl] at H; exact H
            clear H
            have H := H1
            clear H1
            simp only [Option.some.injEq, Prod.mk.injEq] at H
            obtain ⟨rfl, rfl, rfl, rfl⟩ := H
            have hnb9 := NB447_448.out
            have hnc9 := NB448_447.out
            have hcz10_0 : wr.cell? ⟨gb447, 0, none⟩ = some (.slice A0_0 l0_0.length c0_0) := (blk_cell BK447.out 0).trans rfl
            have hcz10_1 : wr.cell? ⟨gb447, 1, none⟩ = some (.slice A0_1 l0_1.length c0_1) := (blk_cell BK447.out 1).trans rfl
            have hcz10_2 : wr.cell? ⟨gb447, 2, none⟩ = some (.slice A0_2 l0_2.length c0_2) := (blk_cell BK447.out 2).trans rfl
            have hcz10_3 : wr.cell? ⟨gb447, 3, none⟩ = some (.int .i64 a0_3) := (blk_cell BK447.out 3).trans rfl
            have hcz10_4 : wr.cell? ⟨gb447, 4, none⟩ = some (.int .i64 a0_4) := (blk_cell BK447.out 4).trans rfl
            have hcz10_5 : wr.cell? ⟨gb447, 5, none⟩ = some (.bool a0_5) := (blk_cell BK447.out 5).trans rfl
            have hcz10_6 : wr.cell? ⟨gb447, 6, none⟩ = some (.int .i64 a0_6) := (blk_cell BK447.out 6).trans rfl
            have hcz10_7 : wr.cell? ⟨gb447, 7, none⟩ = some (.int .i64 a0_7) := (blk_cell BK447.out 7).trans rfl
            have hcz10_8 : wr.cell? ⟨gb447, 8, none⟩ = some (.int .i64 a0_8) := (blk_cell BK447.out 8).trans rfl
            have hcz10_9 : wr.cell? ⟨gb447, 9, none⟩ = some (.int .i64 a0_9) := (blk_cell BK447.out 9).trans rfl
            have hcz10_10 : wr.cell? ⟨gb447, 10, none⟩ = some (.slice A0_10 l0_10.length c0_10) := (blk_cell BK447.out 10).trans rfl
            have hcz10_11 : wr.cell? ⟨gb447, 11, none⟩ = some (.slice A0_11 l0_11.length c0_11) := (blk_cell BK447.out 11).trans rfl
            have hcz10_12 : wr.cell? ⟨gb447, 12, none⟩ = some (.slice A0_12 l0_12.length c0_12) := (blk_cell BK447.out 12).trans rfl
            have hcz10_13 : wr.cell? ⟨gb447, 13, none⟩ = some (.bool a0_13) := (blk_cell BK447.out 13).trans rfl
            have hfz10_0 := blk_frozen BK447.out 0
            have hfz10_1 := blk_frozen BK447.out 1
            have hfz10_2 := blk_frozen BK447.out 2
            have hfz10_3 := blk_frozen BK447.out 3
            have hfz10_4 := blk_frozen BK447.out 4
            have hfz10_5 := blk_frozen BK447.out 5
            have hfz10_6 := blk_frozen BK447.out 6
            have hfz10_7 := blk_frozen BK447.out 7
            have hfz10_8 := blk_frozen BK447.out 8
            have hfz10_9 := blk_frozen BK447.out 9
            have hfz10_10 := blk_frozen BK447.out 10
            have hfz10_11 := blk_frozen BK447.out 11
            have hfz10_12 := blk_frozen BK447.out 12
            have hfz10_13 := blk_frozen BK447.out 13
            have p449 : 0 ≤ (x6_1 : Int) := of_decide_eq_true (by first | (with_reducible assumption) | assumption)
            have q449 : x6_1 < (l0_11.length : Int) := of_decide_eq_true (by first | (with_reducible assumption) | assumption)
            obtain ⟨ad449, A449_0, c449_0, e449, hx449_0, hx449_1, hx449_2, hl449_0, hi449_0⟩ := at_T30 (Kd.V_reads' HO_448011.out).2.2 x6_1 p449 q449
            cases e449
            obtain ⟨ce449, hce449, hMe449, hcc449⟩ := Kd.V_get HO_448011.out z30 x6_1 p449 (by first | exact q449 | exact of_decide_eq_true (by first | (with_reducible assumption) | assumption) | (have e_ := (Kd.V_reads' HO_448011.out).1; omega))
            obtain ⟨ua449_0, uc449_0, rfl, ul449_0, ge449_0⟩ := k30_openF hMe449
            have hv449_0 := hcc449 0 _ rfl
            rw [Nat.add_zero] at hv449_0
            replace hv449_0 := Option.some.inj (hv449_0.symm.trans hx449_0)
            injection hv449_0 with hva_ hvn_ hvc_
            rw [hva_] at ge449_0
            rw [hvc_] at ul449_0
            have HL449_0 := Aside0.mk (show Kd.V (Kd.int .u8) 5 _ w.heap.size _ _ ((rd_T30 l0_11 x6_1).f0) from Kd.V_mk ul449_0 ge449_0)
            clear hva_ hvn_ hvc_ ge449_0 ul449_0
            clear hcc449 hce449
            have HR449_0 := Aside0.mk hi449_0
            have HC449_0 := Aside0.mk hl449_0
            clear hi449_0 hl449_0
            replace p449 := eq_true p449
            replace q449 := eq_true q449
            go_wp2_with fail
            (with_reducible refine (chirographref01_SameBytes.calls k1 _ _ ((rd_T30 l0_11 x6_1).f0) _ _ l1 true _ ?side1 ?side2 ?side3 ?side4 A7.out).mono ?_)
            (case side1 => repeat (first | exact (by repeat (first | (with_reducible exact HR449_0.out) | (with_reducible refine Kd.C_alloc ?_ _) | (with_reducible refine Kd.C_drewN ?_ _) | (with_reducible refine Kd.C_drew ?_) | exact HR449_0.out)) | (with_reducible refine Kd.C_alloc ?_ _) | (with_reducible refine Kd.C_drewN ?_ _) | (with_reducible refine Kd.C_drew ?_)))
            (case side2 => exact HC449_0.out)
            (case side3 => repeat (first | exact (Kd.C_below HR1.out HB.out) | (with_reducible refine Kd.C_alloc ?_ _) | (with_reducible refine Kd.C_drewN ?_ _) | (with_reducible refine Kd.C_drew ?_)))
            (case side4 => exact HC1.out)
            rintro e w' ⟨rfl, ⟨nd, rfl⟩⟩
            (try (rw [drewN_self wr]; generalize hq_ : World.drewN wr _ = wr; have n0_ : Aside0 (Kd.V (Kd.int .u8) 5 wr w.heap.size (fun k_ => (P0_11_ k_ ∨ w.heap.size ≤ k_) ∧ k_ ≠ gb447 ∧ k_ ≠ gb448) (.slice A449_0 ((rd_T30 l0_11 x6_1).f0).length c449_0) ((rd_T30 l0_11 x6_1).f0)) := ⟨by rw [← hq_]; exact (by (with_reducible repeat (first | apply Kd.V_alloc | apply Kd.V_drewN | apply Kd.V_drew)); exact HL449_0.out)⟩; have n1_ : Aside0 (Kd.V k30 30 wr w.heap.size (fun k_ => (P0_11_ k_ ∨ w.heap.size ≤ k_) ∧ k_ ≠ gb447 ∧ k_ ≠ gb448) (.slice (some ad449) l0_11.length c0_11) l0_11) := ⟨by rw [← hq_]; exact (by (with_reducible repeat (first | apply Kd.V_alloc | apply Kd.V_drewN | apply Kd.V_drew)); exact HO_448011.out)⟩; have n2_ : Aside0 (wr.heap[gb447]? = some (.cells #[.slice A0_0 l0_0.length c0_0, .slice A0_1 l0_1.length c0_1, .slice A0_2 l0_2.length c0_2, .int .i64 a0_3, .int .i64 a0_4, .bool a0_5, .int .i64 a0_6, .int .i64 a0_7, .int .i64 a0_8, .int .i64 a0_9, .slice A0_10 l0_10.length c0_10, .slice (some ad449) l0_11.length c0_11, .slice A0_12 l0_12.length c0_12, .bool a0_13] 28 (0, 0))) := ⟨by rw [← hq_]; exact (by (with_reducible repeat (first | refine blk_drewN ?_ _ | refine blk_drew ?_ | refine blk_alloc ?_ _)); exact BK447.out)⟩; have n3_ : Aside0 (wr.heap[gb448]? = some (.cells #[.slice none 0 0, .int .i64 x449001_1, .int .i64 x449002_1] 30 (0, 0))) := ⟨by rw [← hq_]; exact (by (with_reducible repeat (first | refine blk_drewN ?_ _ | refine blk_drew ?_ | refine blk_alloc ?_ _)); exact BK448.out)⟩; have n4_ : Aside0 (Below w.heap.size w wr) := ⟨by rw [← hq_]; exact (by repeat (first | (with_reducible first | exact HB.out | apply below_alloc | apply pw_below_drewN | apply below_drew1 | refine below_set ?_ GE447.out | refine below_set ?_ GE448.out) | exact HB.out))⟩; have n5_ : Aside0 (Kd.C (Kd.int .u8) wr A449_0 ((rd_T30 l0_11 x6_1).f0).length ((rd_T30 l0_11 x6_1).f0)) := ⟨by rw [← hq_]; exact (by repeat (first | (with_reducible exact HR449_0.out) | (with_reducible refine Kd.C_alloc ?_ _) | (with_reducible refine Kd.C_drewN ?_ _) | (with_reducible refine Kd.C_drew ?_) | exact HR449_0.out))⟩; have n6_ : Aside0 (wr.cell? (ad449.add (x6_1.toNat * 3)) = some (.slice A449_0 ((rd_T30 l0_11 x6_1).f0).length c449_0)) := ⟨by rw [← hq_]; exact hx449_0⟩; clear hx449_0; have hx449_0 := n6_.out; clear n6_ HL449_0 HO_448011 BK447 BK448 HB HR449_0 hq_; have HL449_0 := n0_; have HO_448011 := n1_; have BK447 := n2_; have BK448 := n3_; have HB := n4_; have HR449_0 := n5_; clear n0_ n1_ n2_ n3_ n4_ n5_))
            have p451 : 0 ≤ (x6_1 : Int) := of_decide_eq_true (by first | (with_reducible assumption) | assumption)
            have q451 : x6_1 < (l0_11.length : Int) := of_decide_eq_true (by first | (with_reducible assumption) | assumption)
            obtain ⟨ad451, A451_0, c451_0, e451, hx451_0, hx451_1, hx451_2, hl451_0, hi451_0⟩ := at_T30 (Kd.V_reads' HO_448011.out).2.2 x6_1 p451 q451
            obtain rfl : ad449 = ad451 := (by injection e451)
            obtain ⟨ce451, hce451, hMe451, hcc451⟩ := Kd.V_get HO_448011.out z30 x6_1 p451 (by first | exact q451 | exact of_decide_eq_true (by first | (with_reducible assumption) | assumption) | (have e_ := (Kd.V_reads' HO_448011.out).1; omega))
            obtain ⟨ua451_0, uc451_0, rfl, ul451_0, ge451_0⟩ := k30_openF hMe451
            have hv451_0 := hcc451 0 _ rfl
            rw [Nat.add_zero] at hv451_0
            replace hv451_0 := Option.some.inj (hv451_0.symm.trans hx451_0)
            injection hv451_0 with hva_ hvn_ hvc_
            rw [hva_] at ge451_0
            rw [hvc_] at ul451_0
            have HL451_0 := Aside0.mk (show Kd.V (Kd.int .u8) 5 _ w.heap.size _ _ ((rd_T30 l0_11 x6_1).f0) from Kd.V_mk ul451_0 ge451_0)
            clear hva_ hvn_ hvc_ ge451_0 ul451_0
            clear hcc451 hce451
            have HR451_0 := Aside0.mk hi451_0
            have HC451_0 := Aside0.mk hl451_0
            clear hi451_0 hl451_0
            replace p451 := eq_true p451
            replace q451 := eq_true q451
            have ea_ := Option.some.inj (hx449_0.symm.trans hx451_0)
            injection ea_ with ea_ en_ ec_
            subst ea_
            subst ec_
            clear en_
            have hcz11_0 : wr.cell? ⟨gb448, 0, none⟩ = some (.slice none 0 0) := (blk_cell BK448.out 0).trans rfl
            have hcz11_1 : wr.cell? ⟨gb448, 1, none⟩ = some (.int .i64 x449001_1) := (blk_cell BK448.out 1).trans rfl
            have hcz11_2 : wr.cell? ⟨gb448, 2, none⟩ = some (.int .i64 x449002_1) := (blk_cell BK448.out 2).trans rfl
            have hfz11_0 := blk_frozen BK448.out 0
            have hfz11_1 := blk_frozen BK448.out 1
            have hfz11_2 := blk_frozen BK448.out 2
            have hcq_11 : wr.cell? ⟨gb447, 11, none⟩ = some (.slice (some ad449) l0_11.length c0_11) := (blk_cell BK447.out 11).trans rfl
            go_wp2_with fail
            refine bodyPost_ret (results_ct rfl _ _ gb448 30 #[.slice A449_0 ((rd_T30 l0_11 x6_1).f0).length c449_0, .int .i64 ((rd_T30 l0_11 x6_1).f1), .int .i64 ((rd_T30 l0_11 x6_1).f2)] (0, 0) _ rfl (by (with_reducible repeat (first | refine blk_drewN ?_ _ | refine blk_drew ?_ | refine blk_alloc ?_ _)); refine blk_put (cs := #[.slice A449_0 ((rd_T30 l0_11 x6_1).f0).length c449_0, .int .i64 ((rd_T30 l0_11 x6_1).f1), .int .i64 x449002_1]) ?_ 2 _ rfl; (with_reducible repeat (first | refine blk_drewN ?_ _ | refine blk_drew ?_ | refine blk_alloc ?_ _)); refine blk_put (cs := #[.slice A449_0 ((rd_T30 l0_11 x6_1).f0).length c449_0, .int .i64 x449001_1, .int .i64 x449002_1]) ?_ 1 _ rfl; (with_reducible repeat (first | refine blk_drewN ?_ _ | refine blk_drew ?_ | refine blk_alloc ?_ _)); refine blk_put (cs := #[.slice none 0 0, .int .i64 x449001_1, .int .i64 x449002_1]) ?_ 0 _ rfl; (with_reducible repeat (first | refine blk_drewN ?_ _ | refine blk_drew ?_ | refine blk_alloc ?_ _)); exact BK448.out) Tryz.underlying30 rfl (by kernel_rfl)) rfl ?_
            exact ⟨_, by first | rfl | (simp [errW_none, errW_some] <;> rfl) | (simp [*, errW_none, errW_some] <;> rfl), by (with_reducible repeat (first | apply Kd.V_alloc | apply Kd.V_drewN | apply Kd.V_drew)); exact Kd.V_mono (Kd.V_far (p := ⟨gb448, 2, none⟩) (Kd.V_far (p := ⟨gb448, 1, none⟩) (Kd.V_far (p := ⟨gb448, 0, none⟩) (Kd.V_mono HL451_0.out (fun k_ hk => (⟨hk, hk.2.2⟩ : _ ∧ k_ ≠ gb448))) (fun _ hk => hk.2) (.slice A449_0 ((rd_T30 l0_11 x6_1).f0).length c449_0)) (fun _ hk => hk.2) (.int .i64 ((rd_T30 l0_11 x6_1).f1))) (fun _ hk => hk.2) (.int .i64 ((rd_T30 l0_11 x6_1).f2))) (fun _ hk => hk.1.1), by repeat (first | (with_reducible first | exact HB.out | apply below_alloc | apply pw_below_drewN | apply below_drew1 | refine below_set ?_ GE447.out | refine below_set ?_ GE448.out) | exact HB.out)⟩
          · replace c8 := Bool.eq_false_iff.mpr c8
            subst c8
            have H1 : (chirographref13_Find.l0 k1 l1 (wrap64 (x6_1 + 1)) l0_0 l0_1 l0_2 a0_3 a0_4 a0_5 a0_6 a0_7 a0_8 a0_9 l0_10 l0_11 l0_12 a0_13) = some (r1, r2, r3, r4) := by rw [if_neg (show ¬ (false = true) by decide)] at H; exact H
            clear H
            have H := H1
            clear H1
            have H' := Aside0.mk H
            clear H
            have hnb12 := NB447_448.out
            have hnc12 := NB448_447.out
            have hcz13_0 : wr.cell? ⟨gb447, 0, none⟩ = some (.slice A0_0 l0_0.length c0_0) := (blk_cell BK447.out 0).trans rfl
            have hcz13_1 : wr.cell? ⟨gb447, 1, none⟩ = some (.slice A0_1 l0_1.length c0_1) := (blk_cell BK447.out 1).trans rfl
            have hcz13_2 : wr.cell? ⟨gb447, 2, none⟩ = some (.slice A0_2 l0_2.length c0_2) := (blk_cell BK447.out 2).trans rfl
            have hcz13_3 : wr.cell? ⟨gb447, 3, none⟩ = some (.int .i64 a0_3) := (blk_cell BK447.out 3).trans rfl
            have hcz13_4 : wr.cell? ⟨gb447, 4, none⟩ = some (.int .i64 a0_4) := (blk_cell BK447.out 4).trans rfl
            have hcz13_5 : wr.cell? ⟨gb447, 5, none⟩ = some (.bool a0_5) := (blk_cell BK447.out 5).trans rfl
            have hcz13_6 : wr.cell? ⟨gb447, 6, none⟩ = some (.int .i64 a0_6) := (blk_cell BK447.out 6).trans rfl
            have hcz13_7 : wr.cell? ⟨gb447, 7, none⟩ = some (.int .i64 a0_7) := (blk_cell BK447.out 7).trans rfl
            have hcz13_8 : wr.cell? ⟨gb447, 8, none⟩ = some (.int .i64 a0_8) := (blk_cell BK447.out 8).trans rfl
            have hcz13_9 : wr.cell? ⟨gb447, 9, none⟩ = some (.int .i64 a0_9) := (blk_cell BK447.out 9).trans rfl
            have hcz13_10 : wr.cell? ⟨gb447, 10, none⟩ = some (.slice A0_10 l0_10.length c0_10) := (blk_cell BK447.out 10).trans rfl
            have hcz13_11 : wr.cell? ⟨gb447, 11, none⟩ = some (.slice A0_11 l0_11.length c0_11) := (blk_cell BK447.out 11).trans rfl
            have hcz13_12 : wr.cell? ⟨gb447, 12, none⟩ = some (.slice A0_12 l0_12.length c0_12) := (blk_cell BK447.out 12).trans rfl
            have hcz13_13 : wr.cell? ⟨gb447, 13, none⟩ = some (.bool a0_13) := (blk_cell BK447.out 13).trans rfl
            have hfz13_0 := blk_frozen BK447.out 0
            have hfz13_1 := blk_frozen BK447.out 1
            have hfz13_2 := blk_frozen BK447.out 2
            have hfz13_3 := blk_frozen BK447.out 3
            have hfz13_4 := blk_frozen BK447.out 4
            have hfz13_5 := blk_frozen BK447.out 5
            have hfz13_6 := blk_frozen BK447.out 6
            have hfz13_7 := blk_frozen BK447.out 7
            have hfz13_8 := blk_frozen BK447.out 8
            have hfz13_9 := blk_frozen BK447.out 9
            have hfz13_10 := blk_frozen BK447.out 10
            have hfz13_11 := blk_frozen BK447.out 11
            have hfz13_12 := blk_frozen BK447.out 12
            have hfz13_13 := blk_frozen BK447.out 13
            have p449 : 0 ≤ (x6_1 : Int) := of_decide_eq_true (by first | (with_reducible assumption) | assumption)
            have q449 : x6_1 < (l0_11.length : Int) := of_decide_eq_true (by first | (with_reducible assumption) | assumption)
            obtain ⟨ad449, A449_0, c449_0, e449, hx449_0, hx449_1, hx449_2, hl449_0, hi449_0⟩ := at_T30 (Kd.V_reads' HO_448011.out).2.2 x6_1 p449 q449
            cases e449
            obtain ⟨ce449, hce449, hMe449, hcc449⟩ := Kd.V_get HO_448011.out z30 x6_1 p449 (by first | exact q449 | exact of_decide_eq_true (by first | (with_reducible assumption) | assumption) | (have e_ := (Kd.V_reads' HO_448011.out).1; omega))
            obtain ⟨ua449_0, uc449_0, rfl, ul449_0, ge449_0⟩ := k30_openF hMe449
            have hv449_0 := hcc449 0 _ rfl
            rw [Nat.add_zero] at hv449_0
            replace hv449_0 := Option.some.inj (hv449_0.symm.trans hx449_0)
            injection hv449_0 with hva_ hvn_ hvc_
            rw [hva_] at ge449_0
            rw [hvc_] at ul449_0
            have HL449_0 := Aside0.mk (show Kd.V (Kd.int .u8) 5 _ w.heap.size _ _ ((rd_T30 l0_11 x6_1).f0) from Kd.V_mk ul449_0 ge449_0)
            clear hva_ hvn_ hvc_ ge449_0 ul449_0
            clear hcc449 hce449
            have HR449_0 := Aside0.mk hi449_0
            have HC449_0 := Aside0.mk hl449_0
            clear hi449_0 hl449_0
            replace p449 := eq_true p449
            replace q449 := eq_true q449
            go_wp2_with (first | ((with_reducible refine gate_callee (f := 31) rfl ?_); refine goesL_ (some 21) rfl rfl Tryz.func31 (by kernel_rfl) rfl #[.slice A449_0 ((rd_T30 l0_11 x6_1).f0).length c449_0, .slice A1 l1.length c1] rfl (by (try simp only [List.map_toArray, List.map_cons, List.map_nil]); first | done | rfl | (simp only [List.length_drop, List.length_take]; rfl)) ?_; (with_reducible refine (chirographref01_SameBytes.calls k1 _ _ ((rd_T30 l0_11 x6_1).f0) _ _ l1 false _ ?side1 ?side2 ?side3 ?side4 A7.out).mono ?_); (case side1 => repeat (first | exact (by repeat (first | (with_reducible exact HR449_0.out) | (with_reducible refine Kd.C_alloc ?_ _) | (with_reducible refine Kd.C_drewN ?_ _) | (with_reducible refine Kd.C_drew ?_) | exact HR449_0.out)) | (with_reducible refine Kd.C_alloc ?_ _) | (with_reducible refine Kd.C_drewN ?_ _) | (with_reducible refine Kd.C_drew ?_))); (case side2 => exact HC449_0.out); (case side3 => repeat (first | exact (Kd.C_below HR1.out HB.out) | (with_reducible refine Kd.C_alloc ?_ _) | (with_reducible refine Kd.C_drewN ?_ _) | (with_reducible refine Kd.C_drew ?_))); (case side4 => exact HC1.out); rintro e w' ⟨rfl, ⟨nd, rfl⟩⟩; refine ⟨_, rfl, ?_⟩))
            go_roundg k1
            case measure => have := HK1.out; omega
            case rel => exact ⟨(wrap64 (x6_1 + 1)), (x449001_1), (x449002_1), (by first | rfl | (simp; done) | (simp [*]; done)), H', ⟨by have := HK1.out; omega⟩, ⟨by (with_reducible repeat (first | apply Kd.V_alloc | apply Kd.V_drewN | apply Kd.V_drew)); exact HO_448011.out⟩, ⟨by (with_reducible repeat (first | refine blk_drewN ?_ _ | refine blk_drew ?_ | refine blk_alloc ?_ _)); exact BK447.out⟩, ⟨by (with_reducible repeat (first | refine blk_drewN ?_ _ | refine blk_drew ?_ | refine blk_alloc ?_ _)); exact BK448.out⟩, ⟨by repeat (first | (with_reducible first | exact HB.out | apply below_alloc | apply pw_below_drewN | apply below_drew1 | refine below_set ?_ GE447.out | refine below_set ?_ GE448.out) | exact HB.out)⟩⟩
        · rw [if_neg c6] at H
          exact absurd H (by simp)
      · rw [if_neg c5] at H
        have c5b0 : decide (x6_1 < (l0_11.length : Int)) = false := decide_eq_false c5
        clear c5
        simp only [Option.some.injEq, Prod.mk.injEq] at H
        obtain ⟨rfl, rfl, rfl, rfl⟩ := H
        have hnb14 := NB447_448.out
        have hnc14 := NB448_447.out
        have hcz15_0 : wr.cell? ⟨gb447, 0, none⟩ = some (.slice A0_0 l0_0.length c0_0) := (blk_cell BK447.out 0).trans rfl
        have hcz15_1 : wr.cell? ⟨gb447, 1, none⟩ = some (.slice A0_1 l0_1.length c0_1) := (blk_cell BK447.out 1).trans rfl
        have hcz15_2 : wr.cell? ⟨gb447, 2, none⟩ = some (.slice A0_2 l0_2.length c0_2) := (blk_cell BK447.out 2).trans rfl
        have hcz15_3 : wr.cell? ⟨gb447, 3, none⟩ = some (.int .i64 a0_3) := (blk_cell BK447.out 3).trans rfl
        have hcz15_4 : wr.cell? ⟨gb447, 4, none⟩ = some (.int .i64 a0_4) := (blk_cell BK447.out 4).trans rfl
        have hcz15_5 : wr.cell? ⟨gb447, 5, none⟩ = some (.bool a0_5) := (blk_cell BK447.out 5).trans rfl
        have hcz15_6 : wr.cell? ⟨gb447, 6, none⟩ = some (.int .i64 a0_6) := (blk_cell BK447.out 6).trans rfl
        have hcz15_7 : wr.cell? ⟨gb447, 7, none⟩ = some (.int .i64 a0_7) := (blk_cell BK447.out 7).trans rfl
        have hcz15_8 : wr.cell? ⟨gb447, 8, none⟩ = some (.int .i64 a0_8) := (blk_cell BK447.out 8).trans rfl
        have hcz15_9 : wr.cell? ⟨gb447, 9, none⟩ = some (.int .i64 a0_9) := (blk_cell BK447.out 9).trans rfl
        have hcz15_10 : wr.cell? ⟨gb447, 10, none⟩ = some (.slice A0_10 l0_10.length c0_10) := (blk_cell BK447.out 10).trans rfl
        have hcz15_11 : wr.cell? ⟨gb447, 11, none⟩ = some (.slice A0_11 l0_11.length c0_11) := (blk_cell BK447.out 11).trans rfl
        have hcz15_12 : wr.cell? ⟨gb447, 12, none⟩ = some (.slice A0_12 l0_12.length c0_12) := (blk_cell BK447.out 12).trans rfl
        have hcz15_13 : wr.cell? ⟨gb447, 13, none⟩ = some (.bool a0_13) := (blk_cell BK447.out 13).trans rfl
        have hfz15_0 := blk_frozen BK447.out 0
        have hfz15_1 := blk_frozen BK447.out 1
        have hfz15_2 := blk_frozen BK447.out 2
        have hfz15_3 := blk_frozen BK447.out 3
        have hfz15_4 := blk_frozen BK447.out 4
        have hfz15_5 := blk_frozen BK447.out 5
        have hfz15_6 := blk_frozen BK447.out 6
        have hfz15_7 := blk_frozen BK447.out 7
        have hfz15_8 := blk_frozen BK447.out 8
        have hfz15_9 := blk_frozen BK447.out 9
        have hfz15_10 := blk_frozen BK447.out 10
        have hfz15_11 := blk_frozen BK447.out 11
        have hfz15_12 := blk_frozen BK447.out 12
        have hfz15_13 := blk_frozen BK447.out 13
        have hcz16_0 : wr.cell? ⟨gb448, 0, none⟩ = some (.slice none 0 0) := (blk_cell BK448.out 0).trans rfl
        have hcz16_1 : wr.cell? ⟨gb448, 1, none⟩ = some (.int .i64 x449001_1) := (blk_cell BK448.out 1).trans rfl
        have hcz16_2 : wr.cell? ⟨gb448, 2, none⟩ = some (.int .i64 x449002_1) := (blk_cell BK448.out 2).trans rfl
        have hfz16_0 := blk_frozen BK448.out 0
        have hfz16_1 := blk_frozen BK448.out 1
        have hfz16_2 := blk_frozen BK448.out 2
        go_wp2
        refine bodyPost_ret (results_ct rfl _ _ gb448 30 #[.slice none 0 0, .int .i64 0, .int .i64 0] (0, 0) _ rfl (by (with_reducible repeat (first | refine blk_drewN ?_ _ | refine blk_drew ?_ | refine blk_alloc ?_ _)); refine blk_put (cs := #[.slice none 0 0, .int .i64 0, .int .i64 x449002_1]) ?_ 2 _ rfl; (with_reducible repeat (first | refine blk_drewN ?_ _ | refine blk_drew ?_ | refine blk_alloc ?_ _)); refine blk_put (cs := #[.slice none 0 0, .int .i64 x449001_1, .int .i64 x449002_1]) ?_ 1 _ rfl; (with_reducible repeat (first | refine blk_drewN ?_ _ | refine blk_drew ?_ | refine blk_alloc ?_ _)); refine blk_put (cs := #[.slice none 0 0, .int .i64 x449001_1, .int .i64 x449002_1]) ?_ 0 _ rfl; (with_reducible repeat (first | refine blk_drewN ?_ _ | refine blk_drew ?_ | refine blk_alloc ?_ _)); exact BK448.out) Tryz.underlying30 rfl (by kernel_rfl)) rfl ?_
        exact ⟨_, by first | rfl | (simp [errW_none, errW_some] <;> rfl) | (simp [*, errW_none, errW_some] <;> rfl), (Kd.V_nil _ _ _ _ _), by repeat (first | (with_reducible first | exact HB.out | apply below_alloc | apply pw_below_drewN | apply below_drew1 | refine below_set ?_ GE447.out | refine below_set ?_ GE448.out) | exact HB.out)⟩

end Go.Proofs.YtkioddjjfifadaaGreatDoor.P
