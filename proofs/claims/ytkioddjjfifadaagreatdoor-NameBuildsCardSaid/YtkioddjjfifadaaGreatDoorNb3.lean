/- What the proof of NameBuilds needs of: Pxf126, Pxf66, Lb0, Ht3, Hp1, Pxf199. -/
import Derived.Laws.BitsLemmas
import Derived.Laws.Bits64
import Derived.Lib.OthersKept
import Derived.Lib.RuneCountTail
import Derived.Test.YtkioddjjfifadaaGreatDoorNb2
set_option linter.unusedVariables false
set_option linter.unusedSimpArgs false
namespace Go.Proofs.YtkioddjjfifadaaGreatDoor.P
open Go.RowKit Go.Proofs.YtkioddjjfifadaaGreatDoorW.PrintWords Go.Proofs.YtkioddjjfifadaaGreatDoorW.PrintLast Go.Proofs.YtkioddjjfifadaaGreatDoorW.PrintMore
attribute [local go_sem] max2_int min2_int max_two min_two max_three min_three max_four min_four   -- for this text's walks alone
set_option linter.unusedVariables false
set_option linter.unusedSimpArgs false
mutual
def chirographref03_Head.j0 : Nat → Int → Int → Int → Int → Int → Bool → List Int → Option (List Int)
  | 0, _, _, _, _, _, _, _ => none
  | k + 1, x1, x5, x1019000, x1019001, x1019002, x1019003, x1019004 => if x1019002 < 31 then (chirographref03_Head.j2 k x1 (([(x5 + ((x1019002) % 256)) % 256] : List Int))) else (chirographref03_Head.l0 k x1 x5 ([] : List Int) x1019002)
def chirographref03_Head.j2 : Nat → Int → List Int → Option (List Int)
  | 0, _, _ => none
  | k + 1, x1, x6 => if x1 < 128 then (if x6.length < 140737488355328 then (some (x6 ++ [(x1) % 256])) else (none)) else (chirographref03_Head.l1 k x1 x6 ([] : List Int))
def chirographref03_Head.l1 : Nat → Int → List Int → List Int → Option (List Int)
  | 0, _, _, _ => none
  | k + 1, x1, x6, x10 => if x1 > 0 then ((some (([(Int.tmod x1 256) % 256] : List Int) : List Int)).bind fun y1043 => (if y1043.length + x10.length < 140737488355328 then (chirographref03_Head.l1 k (wrap64 (Int.tdiv x1 256)) x6 (y1043 ++ x10)) else (none))) else (if x6.length < 140737488355328 then ((some (x6 ++ [(wrap64 (128 + (x10.length : Int))) % 256] : List Int)).bind fun y1049 => (if y1049.length + x10.length < 140737488355328 then (some (y1049 ++ x10)) else (none))) else (none))
def chirographref03_Head.l0 : Nat → Int → Int → List Int → Int → Option (List Int)
  | 0, _, _, _, _ => none
  | k + 1, x1, x5, x7, x8 => if x8 > 0 then (if (x7.length : Int) > 0 then ((some (([(((Int.tmod x8 128) % 256) + 128) % 256] : List Int) : List Int)).bind fun y1022 => (if y1022.length + x7.length < 140737488355328 then (chirographref03_Head.l0 k x1 x5 (y1022 ++ x7) (wrap64 (Int.tdiv x8 128))) else (none))) else ((some (([(Int.tmod x8 128) % 256] : List Int) : List Int)).bind fun y1028 => (if y1028.length + x7.length < 140737488355328 then (chirographref03_Head.l0 k x1 x5 (y1028 ++ x7) (wrap64 (Int.tdiv x8 128))) else (none)))) else ((some (([(x5 + 31) % 256] : List Int) : List Int)).bind fun y1034 => (if y1034.length + x7.length < 140737488355328 then (chirographref03_Head.j2 k x1 (y1034 ++ x7)) else (none)))
end
def chirographref03_Head.f (k : Nat) (a0_0 : Int) (a0_1 : Int) (a0_2 : Int) (a0_3 : Bool) (l0_4 : List Int) (a1 : Int) : Option (List Int) := if a0_3 = true then (chirographref03_Head.j0 k a1 ((((((a0_1) % 256) * 64) % 256) + 32) % 256) a0_0 a0_1 a0_2 a0_3 l0_4) else (chirographref03_Head.j0 k a1 ((((a0_1) % 256) * 64) % 256) a0_0 a0_1 a0_2 a0_3 l0_4)
set_option maxHeartbeats 8000000 in
set_option maxRecDepth 100000 in
theorem chirographref03_Head.calls (k : Nat) (a0_0 : Int) (a0_1 : Int) (a0_2 : Int) (a0_3 : Bool) (A0_4 : Option Addr) (c0_4 : Nat) (l0_4 : List Int) (a1 : Int) (r : List Int) (w : World) (hr0_4 : Kd.C (Kd.int .u8) w A0_4 l0_4.length l0_4) (hc0_4 : l0_4.length ≤ c0_4) (h : chirographref03_Head.f k a0_0 a0_1 a0_2 a0_3 l0_4 a1 = some r) :
    Calls Tryz.prog 126 #[.agg #[.int .i64 a0_0, .int .i64 a0_1, .int .i64 a0_2, .bool a0_3, .slice A0_4 l0_4.length c0_4], .int .i64 a1] w fun e w' => ∃ v0_ : Value, e = .returned (v0_) ∧ Kd.R (Kd.int .u8) 5 w' w.heap.size (fun _ => True) v0_ r ∧ Below w.heap.size w w' := by
  have hu206 := Tryz.underlying206
  have HR0_4 := Aside0.mk hr0_4
  have HC0_4 := Aside0.mk hc0_4
  clear hr0_4 hc0_4
  have HB := Aside0.mk (Below.refl w.heap.size w)
  have H : (if a0_3 = true then (chirographref03_Head.j0 k a1 ((((((a0_1) % 256) * 64) % 256) + 32) % 256) a0_0 a0_1 a0_2 a0_3 l0_4) else (chirographref03_Head.j0 k a1 ((((a0_1) % 256) * 64) % 256) a0_0 a0_1 a0_2 a0_3 l0_4)) = some r := h
  clear h
  have HC3 := Aside0.mk H
  clear H
  go_enter Tryz.func126, Tryz.ntmps126
  go_upto_if 16 with (first | ((with_reducible refine gate_dst (N := 2) rfl ?_); refine box_event ?hg (N := 2) ?hd (cs := #[.int .i64 a0_0, .int .i64 a0_1, .int .i64 a0_2, .bool a0_3, .slice A0_4 l0_4.length c0_4]) (t := 206) ?hr ?_; (case hd => rfl); (case hg => rfl); (case hr => first | (go_simp; done) | (go_simp; rfl)); intro gb1018 hg w4 hbox hb; have n0_ := Aside0.mk (below_step (bU HB.out) hb); have n1_ := Aside0.mk (hbox); have n2_ := Aside0.mk ((by rw [hg]; exact (below_size (bU HB.out)) : w.heap.size ≤ gb1018)); have n3_ := Aside0.mk ((by rw [hg]; exact (below_size (bU HB.out)) : w.heap.size ≤ gb1018)); replace HB := n0_; have BK1018 := n1_; have GW1018 := n2_; have GE1018 := n3_; clear n0_ n1_ n2_ n3_; clear hb hbox hg; have hcz5_0 : w4.cell? ⟨gb1018, 0, none⟩ = some (.int .i64 a0_0) := (blk_cell BK1018.out 0).trans rfl; have hcz5_1 : w4.cell? ⟨gb1018, 1, none⟩ = some (.int .i64 a0_1) := (blk_cell BK1018.out 1).trans rfl; have hcz5_2 : w4.cell? ⟨gb1018, 2, none⟩ = some (.int .i64 a0_2) := (blk_cell BK1018.out 2).trans rfl; have hcz5_3 : w4.cell? ⟨gb1018, 3, none⟩ = some (.bool a0_3) := (blk_cell BK1018.out 3).trans rfl; have hcz5_4 : w4.cell? ⟨gb1018, 4, none⟩ = some (.slice A0_4 l0_4.length c0_4) := (blk_cell BK1018.out 4).trans rfl; have hfz5_0 := blk_frozen BK1018.out 0; have hfz5_1 := blk_frozen BK1018.out 1; have hfz5_2 := blk_frozen BK1018.out 2; have hfz5_3 := blk_frozen BK1018.out 3; have hfz5_4 := blk_frozen BK1018.out 4))
  (try simp only [Act.put, List.setIfInBounds_toArray, List.set_cons_zero, List.set_cons_succ])
  go_cut [5] (fun v5 wc => ∃ (kq : Nat) (x5_2 : Int), v5 = .int .u8 x5_2 ∧ Aside0 (chirographref03_Head.j0 kq a1 x5_2 a0_0 a0_1 a0_2 a0_3 l0_4 = some r) ∧ Aside0 (kq ≤ k) ∧ Aside0 (wc.heap[gb1018]? = some (.cells #[.int .i64 a0_0, .int .i64 a0_1, .int .i64 a0_2, .bool a0_3, (.slice A0_4 l0_4.length c0_4)] 206 (0, 0))) ∧ Aside0 (Below w.heap.size w wc))
  case first =>
    have H := HC3.out
    clear HC3
    by_cases c6 : a0_3 = true
    · subst c6
      have H1 : (chirographref03_Head.j0 k a1 ((((((a0_1) % 256) * 64) % 256) + 32) % 256) a0_0 a0_1 a0_2 true l0_4) = some r := by rw [if_pos rfl] at H; exact H
      clear H
      have H := H1
      clear H1
      have H' := Aside0.mk H
      clear H
      go_wp2
      go_meet
      case rel => exact ⟨_, ((((((a0_1) % 256) * 64) % 256) + 32) % 256), (by first | rfl | (simp; done) | (simp [*]; done) | (simp; omega)), H', ⟨by first | omega | exact Nat.le_refl _⟩, ⟨by (with_reducible repeat (first | refine blk_drewN ?_ _ | refine blk_drew ?_ | refine blk_alloc ?_ _)); exact BK1018.out⟩, ⟨by repeat (first | (with_reducible first | exact HB.out | apply below_alloc | apply pw_below_drewN | apply below_drew1 | refine below_set ?_ GE1018.out) | exact HB.out)⟩⟩
    replace c6 := Bool.eq_false_iff.mpr c6
    subst c6
    have H1 : (chirographref03_Head.j0 k a1 ((((a0_1) % 256) * 64) % 256) a0_0 a0_1 a0_2 false l0_4) = some r := by rw [if_neg (show ¬ (false = true) by decide)] at H; exact H
    clear H
    have H := H1
    clear H1
    have H' := Aside0.mk H
    clear H
    go_wp2
    go_meet
    case rel => exact ⟨_, ((((a0_1) % 256) * 64) % 256), (by first | rfl | (simp; done) | (simp [*]; done) | (simp; omega)), H', ⟨by first | omega | exact Nat.le_refl _⟩, ⟨by (with_reducible repeat (first | refine blk_drewN ?_ _ | refine blk_drew ?_ | refine blk_alloc ?_ _)); exact BK1018.out⟩, ⟨by repeat (first | (with_reducible first | exact HB.out | apply below_alloc | apply pw_below_drewN | apply below_drew1 | refine below_set ?_ GE1018.out) | exact HB.out)⟩⟩
  clear HC3
  try clear c1
  try clear p2
  try clear c6
  try clear hcz5_0
  try clear hcz5_1
  try clear hcz5_2
  try clear hcz5_3
  try clear hcz5_4
  try clear hfz5_0
  try clear hfz5_1
  try clear hfz5_2
  try clear hfz5_3
  try clear hfz5_4
  obtain ⟨kq, x5_2, rfl, HA, HJ2, BK1018, HB⟩ := hcut
  cases kq with
  | zero => exact absurd HA.out (by simp [chirographref03_Head.j0])
  | succ kj2 =>
    have H := HA.out
    clear HA
    simp only [chirographref03_Head.j0] at H
    have HC7 := Aside0.mk H
    clear H
    have hcz8_0 : wc.cell? ⟨gb1018, 0, none⟩ = some (.int .i64 a0_0) := (blk_cell BK1018.out 0).trans rfl
    have hcz8_1 : wc.cell? ⟨gb1018, 1, none⟩ = some (.int .i64 a0_1) := (blk_cell BK1018.out 1).trans rfl
    have hcz8_2 : wc.cell? ⟨gb1018, 2, none⟩ = some (.int .i64 a0_2) := (blk_cell BK1018.out 2).trans rfl
    have hcz8_3 : wc.cell? ⟨gb1018, 3, none⟩ = some (.bool a0_3) := (blk_cell BK1018.out 3).trans rfl
    have hcz8_4 : wc.cell? ⟨gb1018, 4, none⟩ = some (.slice A0_4 l0_4.length c0_4) := (blk_cell BK1018.out 4).trans rfl
    have hfz8_0 := blk_frozen BK1018.out 0
    have hfz8_1 := blk_frozen BK1018.out 1
    have hfz8_2 := blk_frozen BK1018.out 2
    have hfz8_3 := blk_frozen BK1018.out 3
    have hfz8_4 := blk_frozen BK1018.out 4
    go_upto_if 21 with (fail)
    go_cut [6] (fun v6 wc => ∃ (kq : Nat) (x6_6 : List Int), Aside0 (chirographref03_Head.j2 kq a1 x6_6 = some r) ∧ Aside0 (kq ≤ kj2) ∧ Aside0 (Kd.R (Kd.int .u8) 5 wc w.heap.size (fun _ => True) v6 x6_6) ∧ Aside0 (wc.heap[gb1018]? = some (.cells #[.int .i64 a0_0, .int .i64 a0_1, .int .i64 a0_2, .bool a0_3, (.slice A0_4 l0_4.length c0_4)] 206 (0, 0))) ∧ Aside0 (Below w.heap.size w wc))
    case first =>
      have H := HC7.out
      clear HC7
      by_cases c9 : a0_2 < 31
      · rw [if_pos c9] at H
        have c9b0 : decide (a0_2 < 31) = true := decide_eq_true c9
        clear c9
        (first | rw [c9b0] | (simp only [i64_w, i32_w]; rw [c9b0]) | skip)
        obtain ⟨y1019, hy1019⟩ : ∃ y_ : List Int, y_ = (([(x5_2 + ((a0_2) % 256)) % 256] : List Int)) := ⟨_, rfl⟩
        replace H : (chirographref03_Head.j2 kj2 a1 y1019) = some r := by first | (rw [hy1019]; with_reducible exact H) | (have H2_ := (Option.bind_some _ _).symm.trans H; rw [hy1019]; with_reducible exact H2_) | (have H2_ := (Option.bind_some _ _).symm.trans H; with_reducible exact H2_) | with_reducible exact H | (rw [hy1019]; exact H) | exact H
        have Ny1019 := Aside0.mk hy1019
        clear hy1019
        have H' := Aside0.mk H
        clear H
        have hcz10_0 : wc.cell? ⟨gb1018, 0, none⟩ = some (.int .i64 a0_0) := (blk_cell BK1018.out 0).trans rfl
        have hcz10_1 : wc.cell? ⟨gb1018, 1, none⟩ = some (.int .i64 a0_1) := (blk_cell BK1018.out 1).trans rfl
        have hcz10_2 : wc.cell? ⟨gb1018, 2, none⟩ = some (.int .i64 a0_2) := (blk_cell BK1018.out 2).trans rfl
        have hcz10_3 : wc.cell? ⟨gb1018, 3, none⟩ = some (.bool a0_3) := (blk_cell BK1018.out 3).trans rfl
        have hcz10_4 : wc.cell? ⟨gb1018, 4, none⟩ = some (.slice A0_4 l0_4.length c0_4) := (blk_cell BK1018.out 4).trans rfl
        have hfz10_0 := blk_frozen BK1018.out 0
        have hfz10_1 := blk_frozen BK1018.out 1
        have hfz10_2 := blk_frozen BK1018.out 2
        have hfz10_3 := blk_frozen BK1018.out 3
        have hfz10_4 := blk_frozen BK1018.out 4
        go_wp2_with (first | ((with_reducible refine gate_dst (N := 27) rfl ?_); refine Kd.R_lit (Kd.int .u8) _ 5 ?hg (N := 27) ?hd (xs := ([(x5_2 + ((a0_2) % 256)) % 256] : List Int)) (inner := [.int .u8 ((x5_2 + ((a0_2) % 256)) % 256)]) (ok := fun _ => True) (okp := fun _ => True) ?hr ?hp (fun _ hk => hk) trivial (Below.refl _ _) (Nat.le_refl _) (by simp) ?_; (case hd => rfl); (case hg => rfl); (case hr => first | (go_simp; done) | (go_simp; rfl)); (case hp => exact (Reps.one (show Kd.M (Kd.int .u8) _ _ _ ((x5_2 + ((a0_2) % 256)) % 256) [.int .u8 ((x5_2 + ((a0_2) % 256)) % 256)] from rfl) (Reps.none _ _))); intro v1020 w11 ho12 hb hg_ hnew_; clear hg_ hnew_; (first | rw [← Ny1019.out] at ho12 | (simp only [Int.reduceToNat] at ho12; rw [← Ny1019.out] at ho12)); have n0_ := Aside0.mk (Kd.R_lower ho12 (below_size (by repeat (first | (with_reducible first | exact HB.out | apply below_alloc | apply pw_below_drewN | apply below_drew1 | refine below_set ?_ GE1018.out) | exact HB.out)))); have n1_ := Aside0.mk (blk_below (g := gb1018) (o := .cells #[.int .i64 a0_0, .int .i64 a0_1, .int .i64 a0_2, .bool a0_3, .slice A0_4 l0_4.length c0_4] 206 (0, 0)) (by (with_reducible repeat (first | refine blk_drewN ?_ _ | refine blk_drew ?_ | refine blk_alloc ?_ _)); exact BK1018.out) hb); have n2_ := Aside0.mk (below_step (by repeat (first | (with_reducible first | exact HB.out | apply below_alloc | apply pw_below_drewN | apply below_drew1 | refine below_set ?_ GE1018.out) | exact HB.out)) hb); clear BK1018; clear HB; have HO1021 := n0_; have BK1018 := n1_; have HB := n2_; clear n0_ n1_ n2_; clear hb ho12))
        go_meet
        case rel => exact ⟨_, (y1019), H', ⟨by have := HJ2.out; first | omega | exact Nat.le_refl _⟩, ⟨Kd.R_u HO1021.out⟩, ⟨by (with_reducible repeat (first | refine blk_drewN ?_ _ | refine blk_drew ?_ | refine blk_alloc ?_ _)); exact BK1018.out⟩, ⟨by repeat (first | (with_reducible first | exact HB.out | apply below_alloc | apply pw_below_drewN | apply below_drew1 | refine below_set ?_ GE1018.out) | exact HB.out)⟩⟩
      rw [if_neg c9] at H
      have c9b0 : decide (a0_2 < 31) = false := decide_eq_false c9
      clear c9
      (first | rw [c9b0] | (simp only [i64_w, i32_w]; rw [c9b0]) | skip)
      have H' := Aside0.mk H
      clear H
      have hcz13_0 : wc.cell? ⟨gb1018, 0, none⟩ = some (.int .i64 a0_0) := (blk_cell BK1018.out 0).trans rfl
      have hcz13_1 : wc.cell? ⟨gb1018, 1, none⟩ = some (.int .i64 a0_1) := (blk_cell BK1018.out 1).trans rfl
      have hcz13_2 : wc.cell? ⟨gb1018, 2, none⟩ = some (.int .i64 a0_2) := (blk_cell BK1018.out 2).trans rfl
      have hcz13_3 : wc.cell? ⟨gb1018, 3, none⟩ = some (.bool a0_3) := (blk_cell BK1018.out 3).trans rfl
      have hcz13_4 : wc.cell? ⟨gb1018, 4, none⟩ = some (.slice A0_4 l0_4.length c0_4) := (blk_cell BK1018.out 4).trans rfl
      have hfz13_0 := blk_frozen BK1018.out 0
      have hfz13_1 := blk_frozen BK1018.out 1
      have hfz13_2 := blk_frozen BK1018.out 2
      have hfz13_3 := blk_frozen BK1018.out 3
      have hfz13_4 := blk_frozen BK1018.out 4
      go_wp2
      go_loopg [7, 8] kj2 (fun kq v7 v8 w' => ∃ (x7_2 : List Int) (x8_2 : Int), v8 = .int .i64 x8_2 ∧ Aside0 (chirographref03_Head.l0 kq a1 x5_2 x7_2 x8_2 = some r) ∧ Aside0 (kq ≤ kj2) ∧ Aside0 (Kd.R (Kd.int .u8) 5 w' w.heap.size (fun _ => True) v7 x7_2) ∧ Aside0 (w'.heap[gb1018]? = some (.cells #[.int .i64 a0_0, .int .i64 a0_1, .int .i64 a0_2, .bool a0_3, (.slice A0_4 l0_4.length c0_4)] 206 (0, 0))) ∧ Aside0 (Below w.heap.size w w'))
      case atStart => exact ⟨(([] : List Int)), (a0_2), (by first | rfl | (simp; done) | (simp [*]; done) | (simp; omega)), H', ⟨Nat.le_refl _⟩, ⟨by first | exact Kd.R_nil _ _ _ _ _ | exact Kd.N_nil _ _ _ _ _ | exact Kd.V_nil _ _ _ _ _ | exact Kd.Q_nil _ _ _ _ _ | exact Kd.S_nil _ _ _ _ _⟩, ⟨by (with_reducible repeat (first | refine blk_drewN ?_ _ | refine blk_drew ?_ | refine blk_alloc ?_ _)); exact BK1018.out⟩, ⟨by repeat (first | (with_reducible first | exact HB.out | apply below_alloc | apply pw_below_drewN | apply below_drew1 | refine below_set ?_ GE1018.out) | exact HB.out)⟩⟩
      case round =>
        clear H'
        try clear c1
        try clear p2
        try clear c6
        try clear c9
        try clear c9b0
        try clear c12
        try clear hcz10_0
        try clear hcz10_1
        try clear hcz10_2
        try clear hcz10_3
        try clear hcz10_4
        try clear hcz13_0
        try clear hcz13_1
        try clear hcz13_2
        try clear hcz13_3
        try clear hcz13_4
        try clear hcz5_0
        try clear hcz5_1
        try clear hcz5_2
        try clear hcz5_3
        try clear hcz5_4
        try clear hcz8_0
        try clear hcz8_1
        try clear hcz8_2
        try clear hcz8_3
        try clear hcz8_4
        try clear hfz10_0
        try clear hfz10_1
        try clear hfz10_2
        try clear hfz10_3
        try clear hfz10_4
        try clear hfz13_0
        try clear hfz13_1
        try clear hfz13_2
        try clear hfz13_3
        try clear hfz13_4
        try clear hfz5_0
        try clear hfz5_1
        try clear hfz5_2
        try clear hfz5_3
        try clear hfz5_4
        try clear hfz8_0
        try clear hfz8_1
        try clear hfz8_2
        try clear hfz8_3
        try clear hfz8_4
        try clear p2
        obtain ⟨x7_2, x8_2, rfl, HA, HK2, HO_7, BK1018, HB⟩ := hrel
        cases gk with
        | zero => exact absurd HA.out (by simp [chirographref03_Head.l0])
        | succ k2 =>
          have H := HA.out
          clear HA
          simp only [chirographref03_Head.l0] at H
          by_cases c14 : x8_2 > 0
          rotate_left
          · rw [if_neg c14] at H
            have c14b0 : decide (0 < x8_2) = false := decide_eq_false c14
            clear c14
            obtain ⟨y1034, hy1034⟩ : ∃ y_ : List Int, y_ = (([(x5_2 + 31) % 256] : List Int)) := ⟨_, rfl⟩
            replace H : (if y1034.length + x7_2.length < 140737488355328 then (chirographref03_Head.j2 k2 a1 (y1034 ++ x7_2)) else (none)) = some r := by first | (rw [hy1034]; with_reducible exact H) | (have H2_ := (Option.bind_some _ _).symm.trans H; rw [hy1034]; with_reducible exact H2_) | (have H2_ := (Option.bind_some _ _).symm.trans H; with_reducible exact H2_) | with_reducible exact H | (rw [hy1034]; exact H) | exact H
            have Ny1034 := Aside0.mk hy1034
            clear hy1034
            by_cases c26 : y1034.length + x7_2.length < 140737488355328
            rotate_left
            · rw [if_neg c26] at H
              exact absurd H (by simp)
            rw [if_pos c26] at H
            have LMc26 := Aside0.mk c26
            clear c26
            obtain ⟨y1037, hy1037⟩ : ∃ y_ : List Int, y_ = (y1034 ++ x7_2) := ⟨_, rfl⟩
            replace H : (chirographref03_Head.j2 k2 a1 y1037) = some r := by first | (rw [hy1037]; with_reducible exact H) | (have H2_ := (Option.bind_some _ _).symm.trans H; rw [hy1037]; with_reducible exact H2_) | (have H2_ := (Option.bind_some _ _).symm.trans H; with_reducible exact H2_) | with_reducible exact H | (rw [hy1037]; exact H) | exact H
            have Ny1037 := Aside0.mk hy1037
            clear hy1037
            have H' := Aside0.mk H
            clear H
            go_wp2_with (first | ((with_reducible refine gate_dst (N := 48) rfl ?_); refine Kd.R_lit (Kd.int .u8) _ 5 ?hg (N := 48) ?hd (xs := ([(x5_2 + 31) % 256] : List Int)) (inner := [.int .u8 ((x5_2 + 31) % 256)]) (ok := fun _ => True) (okp := fun _ => True) ?hr ?hp (fun _ hk => hk) trivial (Below.refl _ _) (Nat.le_refl _) (by simp) ?_; (case hd => rfl); (case hg => rfl); (case hr => first | (go_simp; done) | (go_simp; rfl)); (case hp => exact (Reps.one (show Kd.M (Kd.int .u8) _ _ _ ((x5_2 + 31) % 256) [.int .u8 ((x5_2 + 31) % 256)] from rfl) (Reps.none _ _))); intro v1035 w27 ho28 hb hg_ hnew_; clear hg_ hnew_; (first | rw [← Ny1034.out] at ho28 | (simp only [Int.reduceToNat] at ho28; rw [← Ny1034.out] at ho28)); have n0_ := Aside0.mk (Kd.R_elder' (Kd.R_u HO_7.out) (Kd.R_base ho28) hb); have n1_ := Aside0.mk (Kd.R_lower (Kd.R_new' ho28 (Kd.R_lt (Kd.R_u HO_7.out))) (below_size (by repeat (first | (with_reducible first | exact HB.out | apply below_alloc | apply pw_below_drewN | apply below_drew1 | refine below_set ?_ GE1018.out) | exact HB.out)))); have n2_ := Aside0.mk (blk_below (g := gb1018) (o := .cells #[.int .i64 a0_0, .int .i64 a0_1, .int .i64 a0_2, .bool a0_3, .slice A0_4 l0_4.length c0_4] 206 (0, 0)) (by (with_reducible repeat (first | refine blk_drewN ?_ _ | refine blk_drew ?_ | refine blk_alloc ?_ _)); exact BK1018.out) hb); have n3_ := Aside0.mk (below_step (by repeat (first | (with_reducible first | exact HB.out | apply below_alloc | apply pw_below_drewN | apply below_drew1 | refine below_set ?_ GE1018.out) | exact HB.out)) hb); clear HO_7; clear BK1018; clear HB; have HO_7 := n0_; have HO1036 := n1_; have BK1018 := n2_; have HB := n3_; clear n0_ n1_ n2_ n3_; clear hb ho28; obtain ⟨Ao30, co30, eo30⟩ := Kd.R_slice HO_7.out; subst eo30) | ((with_reducible refine gate_builtin (b := .append) (xs := #[.tmp 48, .tmp 49]) rfl ?_); at_builtin; refine Kd.R_append_rows (Kd.int .u8) (w0 := w) w.heap.size rfl (.tmp 48) (.tmp 49) 22 5 (.int .u8 0) 1 rfl Tryz.underlying22 info5 rfl (by decide) (by omega) v1035 y1034 x7_2 _ _ _ (fun k_ => some k_ ≠ (.slice Ao30 x7_2.length co30 : Value).ownBlock) (fun _ => False) rfl rfl ?aO ?aR (fun _ _ h => h) (fun _ h => h.elim) ?aF ?aB ?aS ?aL ?_; (case aR => exact Kd.C_u (Kd.R_reads' HO_7.out).2.2); (case aB => exact (by repeat (first | (with_reducible first | exact HB.out | apply below_alloc | apply pw_below_drewN | apply below_drew1 | refine below_set ?_ GE1018.out) | exact HB.out))); (case aF => exact (fun k_ hk => Kd.fresh' (Kd.R_lt (Kd.R_u HO_7.out)) k_ hk)); (case aO => exact (Kd.R_u (Kd.R_mono HO1036.out (fun _ hk => hk.2)))); (case aS => exact (below_size (by repeat (first | (with_reducible first | exact HB.out | apply below_alloc | apply pw_below_drewN | apply below_drew1 | refine below_set ?_ GE1018.out) | exact HB.out)))); (case aL => have := LMc26.out; omega); intro v1038 w29 ho hb hg hat; rw [← Ny1037.out] at ho; have n0_ := Aside0.mk (Kd.R_after (ok := (fun _ => True)) (Kd.R_u HO_7.out) hg hat); have n1_ := Aside0.mk (blk_grown (g := gb1018) (o := .cells #[.int .i64 a0_0, .int .i64 a0_1, .int .i64 a0_2, .bool a0_3, .slice A0_4 l0_4.length c0_4] 206 (0, 0)) (by (with_reducible repeat (first | refine blk_drewN ?_ _ | refine blk_drew ?_ | refine blk_alloc ?_ _)); exact BK1018.out) hg (Kd.R_ne HO1036.out BK1018.out (by decide))); have n2_ := Aside0.mk (hb); have n3_ := Aside0.mk (ho); clear HO_7; clear BK1018; clear HB; clear HO1036; have HO_7 := n0_; have BK1018 := n1_; have HB := n2_; have HO1039 := n3_; clear n0_ n1_ n2_ n3_; clear ho hb hg hat))
            go_meet
            case rel => exact ⟨_, (y1037), H', ⟨by have := HJ2.out; have := HK2.out; first | omega | exact Nat.le_refl _⟩, ⟨Kd.R_u (Kd.R_mono HO1039.out (fun _ hk => trivial))⟩, ⟨by (with_reducible repeat (first | refine blk_drewN ?_ _ | refine blk_drew ?_ | refine blk_alloc ?_ _)); exact BK1018.out⟩, ⟨by repeat (first | (with_reducible first | exact HB.out | apply below_alloc | apply pw_below_drewN | apply below_drew1 | refine below_set ?_ GE1018.out) | exact HB.out)⟩⟩
          rw [if_pos c14] at H
          have c14b0 : decide (0 < x8_2) = true := decide_eq_true c14
          clear c14
          by_cases c15 : (x7_2.length : Int) > 0
          rotate_left
          · rw [if_neg c15] at H
            have c15b0 : decide (0 < (x7_2.length : Int)) = false := decide_eq_false c15
            have c15b1 : decide (0 < x7_2.length) = false := decide_eq_false (by omega)
            clear c15
            obtain ⟨y1028, hy1028⟩ : ∃ y_ : List Int, y_ = (([(Int.tmod x8_2 128) % 256] : List Int)) := ⟨_, rfl⟩
            replace H : (if y1028.length + x7_2.length < 140737488355328 then (chirographref03_Head.l0 k2 a1 x5_2 (y1028 ++ x7_2) (wrap64 (Int.tdiv x8_2 128))) else (none)) = some r := by first | (rw [hy1028]; with_reducible exact H) | (have H2_ := (Option.bind_some _ _).symm.trans H; rw [hy1028]; with_reducible exact H2_) | (have H2_ := (Option.bind_some _ _).symm.trans H; with_reducible exact H2_) | with_reducible exact H | (rw [hy1028]; exact H) | exact H
            have Ny1028 := Aside0.mk hy1028
            clear hy1028
            by_cases c21 : y1028.length + x7_2.length < 140737488355328
            rotate_left
            · rw [if_neg c21] at H
              exact absurd H (by simp)
            rw [if_pos c21] at H
            have LMc21 := Aside0.mk c21
            clear c21
            obtain ⟨y1031, hy1031⟩ : ∃ y_ : List Int, y_ = (y1028 ++ x7_2) := ⟨_, rfl⟩
            replace H : (chirographref03_Head.l0 k2 a1 x5_2 y1031 (wrap64 (Int.tdiv x8_2 128))) = some r := by first | (rw [hy1031]; with_reducible exact H) | (have H2_ := (Option.bind_some _ _).symm.trans H; rw [hy1031]; with_reducible exact H2_) | (have H2_ := (Option.bind_some _ _).symm.trans H; with_reducible exact H2_) | with_reducible exact H | (rw [hy1031]; exact H) | exact H
            have Ny1031 := Aside0.mk hy1031
            clear hy1031
            have H' := Aside0.mk H
            clear H
            obtain ⟨Ao22, co22, eo22⟩ := Kd.R_slice HO_7.out
            subst eo22
            go_wp2_with (first | ((with_reducible refine gate_dst (N := 43) rfl ?_); refine Kd.R_lit (Kd.int .u8) _ 5 ?hg (N := 43) ?hd (xs := ([(Int.tmod x8_2 128) % 256] : List Int)) (inner := [.int .u8 ((Int.tmod x8_2 128) % 256)]) (ok := fun _ => True) (okp := fun _ => True) ?hr ?hp (fun _ hk => hk) trivial (Below.refl _ _) (Nat.le_refl _) (by simp) ?_; (case hd => rfl); (case hg => rfl); (case hr => first | (go_simp; done) | (go_simp; rfl)); (case hp => exact (Reps.one (show Kd.M (Kd.int .u8) _ _ _ ((Int.tmod x8_2 128) % 256) [.int .u8 ((Int.tmod x8_2 128) % 256)] from rfl) (Reps.none _ _))); intro v1029 w23 ho24 hb hg_ hnew_; clear hg_ hnew_; (first | rw [← Ny1028.out] at ho24 | (simp only [Int.reduceToNat] at ho24; rw [← Ny1028.out] at ho24)); have n0_ := Aside0.mk (Kd.R_elder' (Kd.R_u HO_7.out) (Kd.R_base ho24) hb); have n1_ := Aside0.mk (Kd.R_lower (Kd.R_new' ho24 (Kd.R_lt (Kd.R_u HO_7.out))) (below_size (by repeat (first | (with_reducible first | exact HB.out | apply below_alloc | apply pw_below_drewN | apply below_drew1 | refine below_set ?_ GE1018.out) | exact HB.out)))); have n2_ := Aside0.mk (blk_below (g := gb1018) (o := .cells #[.int .i64 a0_0, .int .i64 a0_1, .int .i64 a0_2, .bool a0_3, .slice A0_4 l0_4.length c0_4] 206 (0, 0)) (by (with_reducible repeat (first | refine blk_drewN ?_ _ | refine blk_drew ?_ | refine blk_alloc ?_ _)); exact BK1018.out) hb); have n3_ := Aside0.mk (below_step (by repeat (first | (with_reducible first | exact HB.out | apply below_alloc | apply pw_below_drewN | apply below_drew1 | refine below_set ?_ GE1018.out) | exact HB.out)) hb); clear HO_7; clear BK1018; clear HB; have HO_7 := n0_; have HO1030 := n1_; have BK1018 := n2_; have HB := n3_; clear n0_ n1_ n2_ n3_; clear hb ho24) | ((with_reducible refine gate_builtin (b := .append) (xs := #[.tmp 43, .tmp 44]) rfl ?_); at_builtin; refine Kd.R_append_rows (Kd.int .u8) (w0 := w) w.heap.size rfl (.tmp 43) (.tmp 44) 22 5 (.int .u8 0) 1 rfl Tryz.underlying22 info5 rfl (by decide) (by omega) v1029 y1028 x7_2 _ _ _ (fun k_ => some k_ ≠ (.slice Ao22 x7_2.length co22 : Value).ownBlock) (fun _ => False) rfl rfl ?aO ?aR (fun _ _ h => h) (fun _ h => h.elim) ?aF ?aB ?aS ?aL ?_; (case aR => exact Kd.C_u (Kd.R_reads' HO_7.out).2.2); (case aB => exact (by repeat (first | (with_reducible first | exact HB.out | apply below_alloc | apply pw_below_drewN | apply below_drew1 | refine below_set ?_ GE1018.out) | exact HB.out))); (case aF => exact (fun k_ hk => Kd.fresh' (Kd.R_lt (Kd.R_u HO_7.out)) k_ hk)); (case aO => exact (Kd.R_u (Kd.R_mono HO1030.out (fun _ hk => hk.2)))); (case aS => exact (below_size (by repeat (first | (with_reducible first | exact HB.out | apply below_alloc | apply pw_below_drewN | apply below_drew1 | refine below_set ?_ GE1018.out) | exact HB.out)))); (case aL => have := LMc21.out; omega); intro v1032 w25 ho hb hg hat; rw [← Ny1031.out] at ho; have n0_ := Aside0.mk (Kd.R_after (ok := (fun _ => True)) (Kd.R_u HO_7.out) hg hat); have n1_ := Aside0.mk (blk_grown (g := gb1018) (o := .cells #[.int .i64 a0_0, .int .i64 a0_1, .int .i64 a0_2, .bool a0_3, .slice A0_4 l0_4.length c0_4] 206 (0, 0)) (by (with_reducible repeat (first | refine blk_drewN ?_ _ | refine blk_drew ?_ | refine blk_alloc ?_ _)); exact BK1018.out) hg (Kd.R_ne HO1030.out BK1018.out (by decide))); have n2_ := Aside0.mk (hb); have n3_ := Aside0.mk (ho); clear HO_7; clear BK1018; clear HB; clear HO1030; have HO_7 := n0_; have BK1018 := n1_; have HB := n2_; have HO1033 := n3_; clear n0_ n1_ n2_ n3_; clear ho hb hg hat))
            go_roundg k2
            case measure => have := HJ2.out; have := HK2.out; omega
            case rel => exact ⟨(y1031), (wrap64 (Int.tdiv x8_2 128)), (by first | rfl | (simp; done) | (simp [*]; done) | (simp; omega)), H', ⟨by have := HJ2.out; have := HK2.out; omega⟩, ⟨Kd.R_u (Kd.R_mono HO1033.out (fun _ hk => trivial))⟩, ⟨by (with_reducible repeat (first | refine blk_drewN ?_ _ | refine blk_drew ?_ | refine blk_alloc ?_ _)); exact BK1018.out⟩, ⟨by repeat (first | (with_reducible first | exact HB.out | apply below_alloc | apply pw_below_drewN | apply below_drew1 | refine below_set ?_ GE1018.out) | exact HB.out)⟩⟩
          rw [if_pos c15] at H
          have c15b0 : decide (0 < (x7_2.length : Int)) = true := decide_eq_true c15
          have c15b1 : decide (0 < x7_2.length) = true := decide_eq_true (by omega)
          clear c15
          obtain ⟨y1022, hy1022⟩ : ∃ y_ : List Int, y_ = (([(((Int.tmod x8_2 128) % 256) + 128) % 256] : List Int)) := ⟨_, rfl⟩
          replace H : (if y1022.length + x7_2.length < 140737488355328 then (chirographref03_Head.l0 k2 a1 x5_2 (y1022 ++ x7_2) (wrap64 (Int.tdiv x8_2 128))) else (none)) = some r := by first | (rw [hy1022]; with_reducible exact H) | (have H2_ := (Option.bind_some _ _).symm.trans H; rw [hy1022]; with_reducible exact H2_) | (have H2_ := (Option.bind_some _ _).symm.trans H; with_reducible exact H2_) | with_reducible exact H | (rw [hy1022]; exact H) | exact H
          have Ny1022 := Aside0.mk hy1022
          clear hy1022
          by_cases c16 : y1022.length + x7_2.length < 140737488355328
          rotate_left
          · rw [if_neg c16] at H
            exact absurd H (by simp)
          rw [if_pos c16] at H
          have LMc16 := Aside0.mk c16
          clear c16
          obtain ⟨y1025, hy1025⟩ : ∃ y_ : List Int, y_ = (y1022 ++ x7_2) := ⟨_, rfl⟩
          replace H : (chirographref03_Head.l0 k2 a1 x5_2 y1025 (wrap64 (Int.tdiv x8_2 128))) = some r := by first | (rw [hy1025]; with_reducible exact H) | (have H2_ := (Option.bind_some _ _).symm.trans H; rw [hy1025]; with_reducible exact H2_) | (have H2_ := (Option.bind_some _ _).symm.trans H; with_reducible exact H2_) | with_reducible exact H | (rw [hy1025]; exact H) | exact H
          have Ny1025 := Aside0.mk hy1025
          clear hy1025
          have H' := Aside0.mk H
          clear H
          obtain ⟨Ao17, co17, eo17⟩ := Kd.R_slice HO_7.out
          subst eo17
          go_wp2_with (first | ((with_reducible refine gate_dst (N := 43) rfl ?_); refine Kd.R_lit (Kd.int .u8) _ 5 ?hg (N := 43) ?hd (xs := ([(((Int.tmod x8_2 128) % 256) + 128) % 256] : List Int)) (inner := [.int .u8 ((((Int.tmod x8_2 128) % 256) + 128) % 256)]) (ok := fun _ => True) (okp := fun _ => True) ?hr ?hp (fun _ hk => hk) trivial (Below.refl _ _) (Nat.le_refl _) (by simp) ?_; (case hd => rfl); (case hg => rfl); (case hr => first | (go_simp; done) | (go_simp; rfl)); (case hp => exact (Reps.one (show Kd.M (Kd.int .u8) _ _ _ ((((Int.tmod x8_2 128) % 256) + 128) % 256) [.int .u8 ((((Int.tmod x8_2 128) % 256) + 128) % 256)] from rfl) (Reps.none _ _))); intro v1023 w18 ho19 hb hg_ hnew_; clear hg_ hnew_; (first | rw [← Ny1022.out] at ho19 | (simp only [Int.reduceToNat] at ho19; rw [← Ny1022.out] at ho19)); have n0_ := Aside0.mk (Kd.R_elder' (Kd.R_u HO_7.out) (Kd.R_base ho19) hb); have n1_ := Aside0.mk (Kd.R_lower (Kd.R_new' ho19 (Kd.R_lt (Kd.R_u HO_7.out))) (below_size (by repeat (first | (with_reducible first | exact HB.out | apply below_alloc | apply pw_below_drewN | apply below_drew1 | refine below_set ?_ GE1018.out) | exact HB.out)))); have n2_ := Aside0.mk (blk_below (g := gb1018) (o := .cells #[.int .i64 a0_0, .int .i64 a0_1, .int .i64 a0_2, .bool a0_3, .slice A0_4 l0_4.length c0_4] 206 (0, 0)) (by (with_reducible repeat (first | refine blk_drewN ?_ _ | refine blk_drew ?_ | refine blk_alloc ?_ _)); exact BK1018.out) hb); have n3_ := Aside0.mk (below_step (by repeat (first | (with_reducible first | exact HB.out | apply below_alloc | apply pw_below_drewN | apply below_drew1 | refine below_set ?_ GE1018.out) | exact HB.out)) hb); clear HO_7; clear BK1018; clear HB; have HO_7 := n0_; have HO1024 := n1_; have BK1018 := n2_; have HB := n3_; clear n0_ n1_ n2_ n3_; clear hb ho19) | ((with_reducible refine gate_builtin (b := .append) (xs := #[.tmp 43, .tmp 44]) rfl ?_); at_builtin; refine Kd.R_append_rows (Kd.int .u8) (w0 := w) w.heap.size rfl (.tmp 43) (.tmp 44) 22 5 (.int .u8 0) 1 rfl Tryz.underlying22 info5 rfl (by decide) (by omega) v1023 y1022 x7_2 _ _ _ (fun k_ => some k_ ≠ (.slice Ao17 x7_2.length co17 : Value).ownBlock) (fun _ => False) rfl rfl ?aO ?aR (fun _ _ h => h) (fun _ h => h.elim) ?aF ?aB ?aS ?aL ?_; (case aR => exact Kd.C_u (Kd.R_reads' HO_7.out).2.2); (case aB => exact (by repeat (first | (with_reducible first | exact HB.out | apply below_alloc | apply pw_below_drewN | apply below_drew1 | refine below_set ?_ GE1018.out) | exact HB.out))); (case aF => exact (fun k_ hk => Kd.fresh' (Kd.R_lt (Kd.R_u HO_7.out)) k_ hk)); (case aO => exact (Kd.R_u (Kd.R_mono HO1024.out (fun _ hk => hk.2)))); (case aS => exact (below_size (by repeat (first | (with_reducible first | exact HB.out | apply below_alloc | apply pw_below_drewN | apply below_drew1 | refine below_set ?_ GE1018.out) | exact HB.out)))); (case aL => have := LMc16.out; omega); intro v1026 w20 ho hb hg hat; rw [← Ny1025.out] at ho; have n0_ := Aside0.mk (Kd.R_after (ok := (fun _ => True)) (Kd.R_u HO_7.out) hg hat); have n1_ := Aside0.mk (blk_grown (g := gb1018) (o := .cells #[.int .i64 a0_0, .int .i64 a0_1, .int .i64 a0_2, .bool a0_3, .slice A0_4 l0_4.length c0_4] 206 (0, 0)) (by (with_reducible repeat (first | refine blk_drewN ?_ _ | refine blk_drew ?_ | refine blk_alloc ?_ _)); exact BK1018.out) hg (Kd.R_ne HO1024.out BK1018.out (by decide))); have n2_ := Aside0.mk (hb); have n3_ := Aside0.mk (ho); clear HO_7; clear BK1018; clear HB; clear HO1024; have HO_7 := n0_; have BK1018 := n1_; have HB := n2_; have HO1027 := n3_; clear n0_ n1_ n2_ n3_; clear ho hb hg hat))
          go_roundg k2
          case measure => have := HJ2.out; have := HK2.out; omega
          case rel => exact ⟨(y1025), (wrap64 (Int.tdiv x8_2 128)), (by first | rfl | (simp; done) | (simp [*]; done) | (simp; omega)), H', ⟨by have := HJ2.out; have := HK2.out; omega⟩, ⟨Kd.R_u (Kd.R_mono HO1027.out (fun _ hk => trivial))⟩, ⟨by (with_reducible repeat (first | refine blk_drewN ?_ _ | refine blk_drew ?_ | refine blk_alloc ?_ _)); exact BK1018.out⟩, ⟨by repeat (first | (with_reducible first | exact HB.out | apply below_alloc | apply pw_below_drewN | apply below_drew1 | refine below_set ?_ GE1018.out) | exact HB.out)⟩⟩
    clear HC7
    try clear c1
    try clear c2
    try clear p2
    try clear c6
    try clear p6
    try clear c9
    try clear c9b0
    try clear c12
    try clear c14
    try clear c14b0
    try clear c15
    try clear c15b0
    try clear c15b1
    try clear c16
    try clear c21
    try clear c26
    try clear hcz10_0
    try clear hcz10_1
    try clear hcz10_2
    try clear hcz10_3
    try clear hcz10_4
    try clear hcz13_0
    try clear hcz13_1
    try clear hcz13_2
    try clear hcz13_3
    try clear hcz13_4
    try clear hcz5_0
    try clear hcz5_1
    try clear hcz5_2
    try clear hcz5_3
    try clear hcz5_4
    try clear hcz8_0
    try clear hcz8_1
    try clear hcz8_2
    try clear hcz8_3
    try clear hcz8_4
    try clear hfz10_0
    try clear hfz10_1
    try clear hfz10_2
    try clear hfz10_3
    try clear hfz10_4
    try clear hfz13_0
    try clear hfz13_1
    try clear hfz13_2
    try clear hfz13_3
    try clear hfz13_4
    try clear hfz5_0
    try clear hfz5_1
    try clear hfz5_2
    try clear hfz5_3
    try clear hfz5_4
    try clear hfz8_0
    try clear hfz8_1
    try clear hfz8_2
    try clear hfz8_3
    try clear hfz8_4
    try clear p2
    obtain ⟨kq, x6_6, HA, HJ6, HO_6, BK1018, HB⟩ := hcut
    cases kq with
    | zero => exact absurd HA.out (by simp [chirographref03_Head.j2])
    | succ kj6 =>
      have H := HA.out
      clear HA
      simp only [chirographref03_Head.j2] at H
      by_cases c31 : a1 < 128
      · rw [if_pos c31] at H
        have c31b0 : decide (a1 < 128) = true := decide_eq_true c31
        clear c31
        by_cases c32 : x6_6.length < 140737488355328
        rotate_left
        · rw [if_neg c32] at H
          exact absurd H (by simp)
        rw [if_pos c32] at H
        have LMc32 := Aside0.mk c32
        clear c32
        obtain ⟨y1040, hy1040⟩ : ∃ y_ : List Int, y_ = (x6_6 ++ [(a1) % 256]) := ⟨_, rfl⟩
        replace H : (some y1040) = some r := by first | (rw [hy1040]; with_reducible exact H) | (have H2_ := (Option.bind_some _ _).symm.trans H; rw [hy1040]; with_reducible exact H2_) | (have H2_ := (Option.bind_some _ _).symm.trans H; with_reducible exact H2_) | with_reducible exact H | (rw [hy1040]; exact H) | exact H
        have Ny1040 := Aside0.mk hy1040
        clear hy1040
        obtain rfl := Option.some.inj H
        go_wp2_with (first | ((with_reducible refine gate_builtin (b := .append) (xs := #[.tmp 53, .tmp 56]) rfl ?_); at_builtin; refine Kd.R_append (Kd.int .u8) (w0 := w) w.heap.size rfl (.tmp 53) (.tmp 56) 22 5 (.int .u8 0) 1 rfl Tryz.underlying22 info5 rfl (by decide) (by omega) u6 x6_6 ((a1) % 256) [.int .u8 ((a1) % 256)] (fun _ => True) (fun _ => False) rfl rfl ?aP (fun _ hk => hk.elim) ?aF ?aO ?aB ?aS ?aL ?_; (case aP => exact rfl); (case aB => exact (by repeat (first | (with_reducible first | exact HB.out | apply below_alloc | apply pw_below_drewN | apply below_drew1 | refine below_set ?_ GE1018.out) | exact HB.out))); (case aF => exact (fun _ _ => trivial)); (case aO => exact (Kd.R_u HO_6.out)); (case aS => exact (below_size (by repeat (first | (with_reducible first | exact HB.out | apply below_alloc | apply pw_below_drewN | apply below_drew1 | refine below_set ?_ GE1018.out) | exact HB.out)))); (case aL => have := LMc32.out; omega); intro v1041 w33 ho hb hg hat; rw [← Ny1040.out] at ho; have n0_ := Aside0.mk (blk_grown (g := gb1018) (o := .cells #[.int .i64 a0_0, .int .i64 a0_1, .int .i64 a0_2, .bool a0_3, .slice A0_4 l0_4.length c0_4] 206 (0, 0)) (by (with_reducible repeat (first | refine blk_drewN ?_ _ | refine blk_drew ?_ | refine blk_alloc ?_ _)); exact BK1018.out) hg (Kd.R_ne HO_6.out BK1018.out (by decide))); have n1_ := Aside0.mk (hb); have n2_ := Aside0.mk (ho); clear BK1018; clear HB; clear HO_6; have BK1018 := n0_; have HB := n1_; have HO1042 := n2_; clear n0_ n1_ n2_; clear ho hb hg hat))
        go_ret
        exact ⟨_, by first | rfl | (simp [errW_none, errW_some] <;> rfl) | (simp [*, errW_none, errW_some] <;> rfl), by (with_reducible repeat (first | apply Kd.R_alloc | apply Kd.R_drewN | apply Kd.R_drew)); exact HO1042.out, by repeat (first | (with_reducible first | exact HB.out | apply below_alloc | apply pw_below_drewN | apply below_drew1 | refine below_set ?_ GE1018.out) | exact HB.out)⟩
      rw [if_neg c31] at H
      have c31b0 : decide (a1 < 128) = false := decide_eq_false c31
      clear c31
      have H' := Aside0.mk H
      clear H
      go_wp2
      go_loopg [1, 10] kj6 (fun kq v1 v10 w' => ∃ (x1_3 : Int) (x10_3 : List Int), v1 = .int .i64 x1_3 ∧ Aside0 (chirographref03_Head.l1 kq x1_3 x6_6 x10_3 = some r) ∧ Aside0 (kq ≤ kj6) ∧ Aside0 (Kd.R (Kd.int .u8) 5 w' w.heap.size (fun k_ => some k_ ≠ (v10 : Value).ownBlock) u6 x6_6) ∧ Aside0 (Kd.R (Kd.int .u8) 5 w' w.heap.size (fun k_ => some k_ ≠ (u6 : Value).ownBlock) v10 x10_3) ∧ Aside0 (w'.heap[gb1018]? = some (.cells #[.int .i64 a0_0, .int .i64 a0_1, .int .i64 a0_2, .bool a0_3, (.slice A0_4 l0_4.length c0_4)] 206 (0, 0))) ∧ Aside0 (Below w.heap.size w w'))
      case atStart => exact ⟨(a1), (([] : List Int)), (by first | rfl | (simp; done) | (simp [*]; done) | (simp; omega)), H', ⟨Nat.le_refl _⟩, ⟨Kd.R_u (Kd.R_mono HO_6.out (fun _ hk => (by simp [Value.ownBlock])))⟩, ⟨by first | exact Kd.R_nil _ _ _ _ _ | exact Kd.N_nil _ _ _ _ _ | exact Kd.V_nil _ _ _ _ _ | exact Kd.Q_nil _ _ _ _ _ | exact Kd.S_nil _ _ _ _ _⟩, ⟨by (with_reducible repeat (first | refine blk_drewN ?_ _ | refine blk_drew ?_ | refine blk_alloc ?_ _)); exact BK1018.out⟩, ⟨by repeat (first | (with_reducible first | exact HB.out | apply below_alloc | apply pw_below_drewN | apply below_drew1 | refine below_set ?_ GE1018.out) | exact HB.out)⟩⟩
      case round =>
        clear H'
        try clear c1
        try clear c2
        try clear p2
        try clear c3
        try clear c6
        try clear p6
        try clear c9
        try clear c9b0
        try clear c12
        try clear c14
        try clear c14b0
        try clear c15
        try clear c15b0
        try clear c15b1
        try clear c16
        try clear c21
        try clear c26
        try clear c31
        try clear c31b0
        try clear c32
        try clear hcz10_0
        try clear hcz10_1
        try clear hcz10_2
        try clear hcz10_3
        try clear hcz10_4
        try clear hcz13_0
        try clear hcz13_1
        try clear hcz13_2
        try clear hcz13_3
        try clear hcz13_4
        try clear hcz5_0
        try clear hcz5_1
        try clear hcz5_2
        try clear hcz5_3
        try clear hcz5_4
        try clear hcz8_0
        try clear hcz8_1
        try clear hcz8_2
        try clear hcz8_3
        try clear hcz8_4
        try clear hfz10_0
        try clear hfz10_1
        try clear hfz10_2
        try clear hfz10_3
        try clear hfz10_4
        try clear hfz13_0
        try clear hfz13_1
        try clear hfz13_2
        try clear hfz13_3
        try clear hfz13_4
        try clear hfz5_0
        try clear hfz5_1
        try clear hfz5_2
        try clear hfz5_3
        try clear hfz5_4
        try clear hfz8_0
        try clear hfz8_1
        try clear hfz8_2
        try clear hfz8_3
        try clear hfz8_4
        try clear p2
        try clear p6
        obtain ⟨x1_3, x10_3, rfl, HA, HK3, HO_6, HO_10, BK1018, HB⟩ := hrel
        cases gk with
        | zero => exact absurd HA.out (by simp [chirographref03_Head.l1])
        | succ k3 =>
          have H := HA.out
          clear HA
          simp only [chirographref03_Head.l1] at H
          by_cases c34 : x1_3 > 0
          · rw [if_pos c34] at H
            have c34b0 : decide (0 < x1_3) = true := decide_eq_true c34
            clear c34
            obtain ⟨y1043, hy1043⟩ : ∃ y_ : List Int, y_ = (([(Int.tmod x1_3 256) % 256] : List Int)) := ⟨_, rfl⟩
            replace H : (if y1043.length + x10_3.length < 140737488355328 then (chirographref03_Head.l1 k3 (wrap64 (Int.tdiv x1_3 256)) x6_6 (y1043 ++ x10_3)) else (none)) = some r := by first | (rw [hy1043]; with_reducible exact H) | (have H2_ := (Option.bind_some _ _).symm.trans H; rw [hy1043]; with_reducible exact H2_) | (have H2_ := (Option.bind_some _ _).symm.trans H; with_reducible exact H2_) | with_reducible exact H | (rw [hy1043]; exact H) | exact H
            have Ny1043 := Aside0.mk hy1043
            clear hy1043
            by_cases c35 : y1043.length + x10_3.length < 140737488355328
            rotate_left
            · rw [if_neg c35] at H
              exact absurd H (by simp)
            rw [if_pos c35] at H
            have LMc35 := Aside0.mk c35
            clear c35
            obtain ⟨y1046, hy1046⟩ : ∃ y_ : List Int, y_ = (y1043 ++ x10_3) := ⟨_, rfl⟩
            replace H : (chirographref03_Head.l1 k3 (wrap64 (Int.tdiv x1_3 256)) x6_6 y1046) = some r := by first | (rw [hy1046]; with_reducible exact H) | (have H2_ := (Option.bind_some _ _).symm.trans H; rw [hy1046]; with_reducible exact H2_) | (have H2_ := (Option.bind_some _ _).symm.trans H; with_reducible exact H2_) | with_reducible exact H | (rw [hy1046]; exact H) | exact H
            have Ny1046 := Aside0.mk hy1046
            clear hy1046
            have H' := Aside0.mk H
            clear H
            go_wp2_with (first | ((with_reducible refine gate_dst (N := 65) rfl ?_); refine Kd.R_lit (Kd.int .u8) _ 5 ?hg (N := 65) ?hd (xs := ([(Int.tmod x1_3 256) % 256] : List Int)) (inner := [.int .u8 ((Int.tmod x1_3 256) % 256)]) (ok := fun _ => True) (okp := fun _ => True) ?hr ?hp (fun _ hk => hk) trivial (Below.refl _ _) (Nat.le_refl _) (by simp) ?_; (case hd => rfl); (case hg => rfl); (case hr => first | (go_simp; done) | (go_simp; rfl)); (case hp => exact (Reps.one (show Kd.M (Kd.int .u8) _ _ _ ((Int.tmod x1_3 256) % 256) [.int .u8 ((Int.tmod x1_3 256) % 256)] from rfl) (Reps.none _ _))); intro v1044 w36 ho37 hb hg_ hnew_; clear hg_ hnew_; (first | rw [← Ny1043.out] at ho37 | (simp only [Int.reduceToNat] at ho37; rw [← Ny1043.out] at ho37)); have n0_ := Aside0.mk (Kd.R_elder' (Kd.R_u HO_6.out) (Kd.R_base ho37) hb); have n1_ := Aside0.mk (Kd.R_elder' (Kd.R_u HO_10.out) (Kd.R_base ho37) hb); have n2_ := Aside0.mk (Kd.R_lower (Kd.R_new' (Kd.R_new' ho37 (Kd.R_lt (Kd.R_u HO_6.out))) (Kd.R_lt (Kd.R_u HO_10.out))) (below_size (by repeat (first | (with_reducible first | exact HB.out | apply below_alloc | apply pw_below_drewN | apply below_drew1 | refine below_set ?_ GE1018.out) | exact HB.out)))); have n3_ := Aside0.mk (blk_below (g := gb1018) (o := .cells #[.int .i64 a0_0, .int .i64 a0_1, .int .i64 a0_2, .bool a0_3, .slice A0_4 l0_4.length c0_4] 206 (0, 0)) (by (with_reducible repeat (first | refine blk_drewN ?_ _ | refine blk_drew ?_ | refine blk_alloc ?_ _)); exact BK1018.out) hb); have n4_ := Aside0.mk (below_step (by repeat (first | (with_reducible first | exact HB.out | apply below_alloc | apply pw_below_drewN | apply below_drew1 | refine below_set ?_ GE1018.out) | exact HB.out)) hb); clear HO_6; clear HO_10; clear BK1018; clear HB; have HO_6 := n0_; have HO_10 := n1_; have HO1045 := n2_; have BK1018 := n3_; have HB := n4_; clear n0_ n1_ n2_ n3_ n4_; clear hb ho37; obtain ⟨Ao39, co39, eo39⟩ := Kd.R_slice HO_10.out; subst eo39) | ((with_reducible refine gate_builtin (b := .append) (xs := #[.tmp 65, .tmp 66]) rfl ?_); at_builtin; refine Kd.R_append_rows (Kd.int .u8) (w0 := w) w.heap.size rfl (.tmp 65) (.tmp 66) 22 5 (.int .u8 0) 1 rfl Tryz.underlying22 info5 rfl (by decide) (by omega) v1044 y1043 x10_3 _ _ _ (fun k_ => some k_ ≠ (u6 : Value).ownBlock ∧ some k_ ≠ (.slice Ao39 x10_3.length co39 : Value).ownBlock) (fun _ => False) rfl rfl ?aO ?aR (fun _ _ h => h) (fun _ h => h.elim) ?aF ?aB ?aS ?aL ?_; (case aR => exact Kd.C_u (Kd.R_reads' HO_10.out).2.2); (case aB => exact (by repeat (first | (with_reducible first | exact HB.out | apply below_alloc | apply pw_below_drewN | apply below_drew1 | refine below_set ?_ GE1018.out) | exact HB.out))); (case aF => exact (fun k_ hk => ⟨Kd.fresh' (Kd.R_lt (Kd.R_u HO_6.out)) k_ hk, Kd.fresh' (Kd.R_lt (Kd.R_u HO_10.out)) k_ hk⟩)); (case aO => exact (Kd.R_u (Kd.R_mono HO1045.out (fun _ hk => ⟨hk.1.2, hk.2⟩)))); (case aS => exact (below_size (by repeat (first | (with_reducible first | exact HB.out | apply below_alloc | apply pw_below_drewN | apply below_drew1 | refine below_set ?_ GE1018.out) | exact HB.out)))); (case aL => have := LMc35.out; omega); intro v1047 w38 ho hb hg hat; rw [← Ny1046.out] at ho; have n0_ := Aside0.mk (Kd.R_after (ok := (fun k_ => some k_ ≠ (.slice Ao39 x10_3.length co39 : Value).ownBlock)) (Kd.R_u HO_6.out) hg hat); have n1_ := Aside0.mk (Kd.R_after (ok := (fun k_ => some k_ ≠ (u6 : Value).ownBlock)) (Kd.R_u HO_10.out) hg hat); have n2_ := Aside0.mk (blk_grown (g := gb1018) (o := .cells #[.int .i64 a0_0, .int .i64 a0_1, .int .i64 a0_2, .bool a0_3, .slice A0_4 l0_4.length c0_4] 206 (0, 0)) (by (with_reducible repeat (first | refine blk_drewN ?_ _ | refine blk_drew ?_ | refine blk_alloc ?_ _)); exact BK1018.out) hg (Kd.R_ne HO1045.out BK1018.out (by decide))); have n3_ := Aside0.mk (hb); have n4_ := Aside0.mk (ho); clear HO_6; clear HO_10; clear BK1018; clear HB; clear HO1045; have HO_6 := n0_; have HO_10 := n1_; have BK1018 := n2_; have HB := n3_; have HO1048 := n4_; clear n0_ n1_ n2_ n3_ n4_; clear ho hb hg hat))
            go_roundg k3
            case measure => have := HJ2.out; have := HJ6.out; have := HK3.out; omega
            case rel => exact ⟨(wrap64 (Int.tdiv x1_3 256)), (y1046), (by first | rfl | (simp; done) | (simp [*]; done) | (simp; omega)), H', ⟨by have := HJ2.out; have := HJ6.out; have := HK3.out; omega⟩, ⟨Kd.R_u (Kd.R_mono HO_6.out (fun _ hk => hk.2))⟩, ⟨Kd.R_u (Kd.R_mono HO1048.out (fun _ hk => hk.1))⟩, ⟨by (with_reducible repeat (first | refine blk_drewN ?_ _ | refine blk_drew ?_ | refine blk_alloc ?_ _)); exact BK1018.out⟩, ⟨by repeat (first | (with_reducible first | exact HB.out | apply below_alloc | apply pw_below_drewN | apply below_drew1 | refine below_set ?_ GE1018.out) | exact HB.out)⟩⟩
          rw [if_neg c34] at H
          have c34b0 : decide (0 < x1_3) = false := decide_eq_false c34
          clear c34
          by_cases c40 : x6_6.length < 140737488355328
          rotate_left
          · rw [if_neg c40] at H
            exact absurd H (by simp)
          rw [if_pos c40] at H
          have LMc40 := Aside0.mk c40
          clear c40
          obtain ⟨y1049, hy1049⟩ : ∃ y_ : List Int, y_ = (x6_6 ++ [(wrap64 (128 + (x10_3.length : Int))) % 256]) := ⟨_, rfl⟩
          replace H : (if y1049.length + x10_3.length < 140737488355328 then (some (y1049 ++ x10_3)) else (none)) = some r := by first | (rw [hy1049]; with_reducible exact H) | (have H2_ := (Option.bind_some _ _).symm.trans H; rw [hy1049]; with_reducible exact H2_) | (have H2_ := (Option.bind_some _ _).symm.trans H; with_reducible exact H2_) | with_reducible exact H | (rw [hy1049]; exact H) | exact H
          have Ny1049 := Aside0.mk hy1049
          clear hy1049
          by_cases c41 : y1049.length + x10_3.length < 140737488355328
          rotate_left
          · rw [if_neg c41] at H
            exact absurd H (by simp)
          rw [if_pos c41] at H
          have LMc41 := Aside0.mk c41
          clear c41
          obtain ⟨y1052, hy1052⟩ : ∃ y_ : List Int, y_ = (y1049 ++ x10_3) := ⟨_, rfl⟩
          replace H : (some y1052) = some r := by first | (rw [hy1052]; with_reducible exact H) | (have H2_ := (Option.bind_some _ _).symm.trans H; rw [hy1052]; with_reducible exact H2_) | (have H2_ := (Option.bind_some _ _).symm.trans H; with_reducible exact H2_) | with_reducible exact H | (rw [hy1052]; exact H) | exact H
          have Ny1052 := Aside0.mk hy1052
          clear hy1052
          obtain rfl := Option.some.inj H
          obtain ⟨Ao42, co42, eo42⟩ := Kd.R_slice HO_10.out
          subst eo42
          go_wp2_with (first | ((with_reducible refine gate_builtin (b := .append) (xs := #[.tmp 68, .tmp 73]) rfl ?_); at_builtin; refine Kd.R_append (Kd.int .u8) (w0 := w) w.heap.size rfl (.tmp 68) (.tmp 73) 22 5 (.int .u8 0) 1 rfl Tryz.underlying22 info5 rfl (by decide) (by omega) u6 x6_6 ((wrap64 (128 + (x10_3.length : Int))) % 256) [.int .u8 ((wrap64 (128 + (x10_3.length : Int))) % 256)] (fun k_ => some k_ ≠ (.slice Ao42 x10_3.length co42 : Value).ownBlock) (fun _ => False) rfl rfl ?aP (fun _ hk => hk.elim) ?aF ?aO ?aB ?aS ?aL ?_; (case aP => exact rfl); (case aB => exact (by repeat (first | (with_reducible first | exact HB.out | apply below_alloc | apply pw_below_drewN | apply below_drew1 | refine below_set ?_ GE1018.out) | exact HB.out))); (case aF => exact (fun k_ hk => Kd.fresh' (Kd.R_lt (Kd.R_u HO_10.out)) k_ hk)); (case aO => exact (Kd.R_u HO_6.out)); (case aS => exact (below_size (by repeat (first | (with_reducible first | exact HB.out | apply below_alloc | apply pw_below_drewN | apply below_drew1 | refine below_set ?_ GE1018.out) | exact HB.out)))); (case aL => have := LMc40.out; omega); intro v1050 w43 ho hb hg hat; rw [← Ny1049.out] at ho; have n0_ := Aside0.mk (Kd.R_after (ok := (fun _ => True)) (Kd.R_u (Kd.R_mono HO_10.out (fun _ hk => ⟨trivial, hk⟩))) hg hat); have n1_ := Aside0.mk (blk_grown (g := gb1018) (o := .cells #[.int .i64 a0_0, .int .i64 a0_1, .int .i64 a0_2, .bool a0_3, .slice A0_4 l0_4.length c0_4] 206 (0, 0)) (by (with_reducible repeat (first | refine blk_drewN ?_ _ | refine blk_drew ?_ | refine blk_alloc ?_ _)); exact BK1018.out) hg (Kd.R_ne HO_6.out BK1018.out (by decide))); have n2_ := Aside0.mk (hb); have n3_ := Aside0.mk (ho); clear HO_10; clear BK1018; clear HB; clear HO_6; have HO_10 := n0_; have BK1018 := n1_; have HB := n2_; have HO1051 := n3_; clear n0_ n1_ n2_ n3_; clear ho hb hg hat) | ((with_reducible refine gate_builtin (b := .append) (xs := #[.tmp 74, .tmp 75]) rfl ?_); at_builtin; refine Kd.R_append_rows (Kd.int .u8) (w0 := w) w.heap.size rfl (.tmp 74) (.tmp 75) 22 5 (.int .u8 0) 1 rfl Tryz.underlying22 info5 rfl (by decide) (by omega) v1050 y1049 x10_3 _ _ _ (fun k_ => some k_ ≠ (.slice Ao42 x10_3.length co42 : Value).ownBlock) (fun _ => False) rfl rfl ?aO ?aR (fun _ _ h => h) (fun _ h => h.elim) ?aF ?aB ?aS ?aL ?_; (case aR => exact Kd.C_u (Kd.R_reads' HO_10.out).2.2); (case aB => exact (by repeat (first | (with_reducible first | exact HB.out | apply below_alloc | apply pw_below_drewN | apply below_drew1 | refine below_set ?_ GE1018.out) | exact HB.out))); (case aF => exact (fun k_ hk => Kd.fresh' (Kd.R_lt (Kd.R_u HO_10.out)) k_ hk)); (case aO => exact (Kd.R_u HO1051.out)); (case aS => exact (below_size (by repeat (first | (with_reducible first | exact HB.out | apply below_alloc | apply pw_below_drewN | apply below_drew1 | refine below_set ?_ GE1018.out) | exact HB.out)))); (case aL => have := LMc41.out; omega); intro v1053 w44 ho hb hg hat; rw [← Ny1052.out] at ho; have n0_ := Aside0.mk (Kd.R_after (ok := (fun _ => True)) (Kd.R_u HO_10.out) hg hat); have n1_ := Aside0.mk (blk_grown (g := gb1018) (o := .cells #[.int .i64 a0_0, .int .i64 a0_1, .int .i64 a0_2, .bool a0_3, .slice A0_4 l0_4.length c0_4] 206 (0, 0)) (by (with_reducible repeat (first | refine blk_drewN ?_ _ | refine blk_drew ?_ | refine blk_alloc ?_ _)); exact BK1018.out) hg (Kd.R_ne HO1051.out BK1018.out (by decide))); have n2_ := Aside0.mk (hb); have n3_ := Aside0.mk (ho); clear HO_10; clear BK1018; clear HB; clear HO1051; have HO_10 := n0_; have BK1018 := n1_; have HB := n2_; have HO1054 := n3_; clear n0_ n1_ n2_ n3_; clear ho hb hg hat))
          go_ret
          exact ⟨_, by first | rfl | (simp [errW_none, errW_some] <;> rfl) | (simp [*, errW_none, errW_some] <;> rfl), by (with_reducible repeat (first | apply Kd.R_alloc | apply Kd.R_drewN | apply Kd.R_drew)); exact Kd.R_mono HO1054.out (fun _ hk => trivial), by repeat (first | (with_reducible first | exact HB.out | apply below_alloc | apply pw_below_drewN | apply below_drew1 | refine below_set ?_ GE1018.out) | exact HB.out)⟩
end Go.Proofs.YtkioddjjfifadaaGreatDoor.P
namespace Go.Proofs.YtkioddjjfifadaaGreatDoor.P
open Go.RowKit Go.Proofs.YtkioddjjfifadaaGreatDoorW.PrintWords Go.Proofs.YtkioddjjfifadaaGreatDoorW.PrintLast Go.Proofs.YtkioddjjfifadaaGreatDoorW.PrintMore
attribute [local go_sem] max2_int min2_int max_two min_two max_three min_three max_four min_four   -- for this text's walks alone
set_option linter.unusedVariables false
set_option linter.unusedSimpArgs false
mutual
def chirographref04_Put.j0 : Nat → Int → Int → Bool → List (List Int) → Bool → Option (List Int × Int)
  | 0, _, _, _, _, _ => none
  | k + 1, x0, x1, x2, x3, x33 => if x33 = true then (some (([] : List Int), 1)) else (chirographref04_Put.l0 k x0 x1 x2 x3 ([] : List Int) 0)
def chirographref04_Put.l0 : Nat → Int → Int → Bool → List (List Int) → List Int → Int → Option (List Int × Int)
  | 0, _, _, _, _, _, _ => none
  | k + 1, x0, x1, x2, x3, x10, x11 => if x11 < (x3.length : Int) then (if 0 ≤ x11 then (if ((rd_L1 x3 x11).length : Int) > (wrap64 (16777216 - (x10.length : Int))) then (some (([] : List Int), 3)) else (if x10.length + (rd_L1 x3 x11).length < 140737488355328 then (chirographref04_Put.l0 k x0 x1 x2 x3 (x10 ++ (rd_L1 x3 x11)) (wrap64 (x11 + 1))) else (none))) else (none)) else ((chirographref03_Head.f k 0 x0 x1 x2 ([] : List Int) (x10.length : Int)).bind fun t1060 => (if t1060.length + x10.length < 140737488355328 then (some ((t1060 ++ x10), 0)) else (none)))
end
def chirographref04_Put.f (k : Nat) (a0 : Int) (a1 : Int) (a2 : Bool) (l3 : List (List Int)) : Option (List Int × Int) := if a0 < 0 then (chirographref04_Put.j0 k a0 a1 a2 l3 true) else (if a0 > 3 then (chirographref04_Put.j0 k a0 a1 a2 l3 true) else (if a1 < 0 then (chirographref04_Put.j0 k a0 a1 a2 l3 true) else (if a1 > 268435455 then (chirographref04_Put.j0 k a0 a1 a2 l3 true) else (if a0 = 0 then (chirographref04_Put.j0 k a0 a1 a2 l3 (a1 == 0)) else (chirographref04_Put.j0 k a0 a1 a2 l3 false)))))
set_option maxHeartbeats 8000000 in
set_option maxRecDepth 100000 in
theorem chirographref04_Put.calls (k : Nat) (a0 : Int) (a1 : Int) (a2 : Bool) (A3 : Option Addr) (c3 : Nat) (l3 : List (List Int)) (r1 : List Int) (r2 : Int) (w : World) (hr3 : Kd.C (Kd.slice 5 (Kd.int .u8)) w A3 l3.length l3) (hc3 : l3.length ≤ c3) (h : chirographref04_Put.f k a0 a1 a2 l3 = some (r1, r2)) :
    Calls Tryz.prog 66 #[.int .i64 a0, .int .i64 a1, .bool a2, .slice A3 l3.length c3] w fun e w' => ∃ v0_ : Value, e = .returned (.tuple #[v0_, .int .i64 r2]) ∧ Kd.R (Kd.int .u8) 5 w' w.heap.size (fun _ => True) v0_ r1 ∧ Below w.heap.size w w' := by
  have hu206 := Tryz.underlying206
  have HR3 := Aside0.mk hr3
  have HC3 := Aside0.mk hc3
  clear hr3 hc3
  have HB := Aside0.mk (Below.refl w.heap.size w)
  have H : (if a0 < 0 then (chirographref04_Put.j0 k a0 a1 a2 l3 true) else (if a0 > 3 then (chirographref04_Put.j0 k a0 a1 a2 l3 true) else (if a1 < 0 then (chirographref04_Put.j0 k a0 a1 a2 l3 true) else (if a1 > 268435455 then (chirographref04_Put.j0 k a0 a1 a2 l3 true) else (if a0 = 0 then (chirographref04_Put.j0 k a0 a1 a2 l3 (a1 == 0)) else (chirographref04_Put.j0 k a0 a1 a2 l3 false)))))) = some (r1, r2) := h
  clear h
  have HC5 := Aside0.mk H
  clear H
  go_enter Tryz.func66, Tryz.ntmps66
  go_upto_region 1 with (fail)
  go_cut [33] (fun v33 wc => ∃ (kq : Nat) (x33_4 : Bool), v33 = .bool x33_4 ∧ Aside0 (chirographref04_Put.j0 kq a0 a1 a2 l3 x33_4 = some (r1, r2)) ∧ Aside0 (kq ≤ k) ∧ Aside0 (Below w.heap.size w wc))
  case first =>
    have H := HC5.out
    clear HC5
    by_cases c6 : a0 < 0
    · rw [if_pos c6] at H
      have c6b0 : decide (a0 < 0) = true := decide_eq_true c6
      clear c6
      (first | rw [c6b0] | (simp only [i64_w, i32_w]; rw [c6b0]) | skip)
      have H' := Aside0.mk H
      clear H
      go_wp2
      go_meet
      case rel => exact ⟨_, (true), (by first | rfl | (simp; done) | (simp [*]; done)), H', ⟨by first | omega | exact Nat.le_refl _⟩, ⟨bU HB.out⟩⟩
    rw [if_neg c6] at H
    have c6b0 : decide (a0 < 0) = false := decide_eq_false c6
    clear c6
    (first | rw [c6b0] | (simp only [i64_w, i32_w]; rw [c6b0]) | skip)
    by_cases c7 : a0 > 3
    · rw [if_pos c7] at H
      have c7b0 : decide (3 < a0) = true := decide_eq_true c7
      clear c7
      have H' := Aside0.mk H
      clear H
      go_wp2
      go_meet
      case rel => exact ⟨_, (true), (by first | rfl | (simp; done) | (simp [*]; done)), H', ⟨by first | omega | exact Nat.le_refl _⟩, ⟨bU HB.out⟩⟩
    rw [if_neg c7] at H
    have c7b0 : decide (3 < a0) = false := decide_eq_false c7
    clear c7
    by_cases c8 : a1 < 0
    · rw [if_pos c8] at H
      have c8b0 : decide (a1 < 0) = true := decide_eq_true c8
      clear c8
      have H' := Aside0.mk H
      clear H
      go_wp2
      go_meet
      case rel => exact ⟨_, (true), (by first | rfl | (simp; done) | (simp [*]; done)), H', ⟨by first | omega | exact Nat.le_refl _⟩, ⟨bU HB.out⟩⟩
    rw [if_neg c8] at H
    have c8b0 : decide (a1 < 0) = false := decide_eq_false c8
    clear c8
    by_cases c9 : a1 > 268435455
    · rw [if_pos c9] at H
      have c9b0 : decide (268435455 < a1) = true := decide_eq_true c9
      clear c9
      have H' := Aside0.mk H
      clear H
      go_wp2
      go_meet
      case rel => exact ⟨_, (true), (by first | rfl | (simp; done) | (simp [*]; done)), H', ⟨by first | omega | exact Nat.le_refl _⟩, ⟨bU HB.out⟩⟩
    rw [if_neg c9] at H
    have c9b0 : decide (268435455 < a1) = false := decide_eq_false c9
    clear c9
    by_cases c10 : a0 = 0
    rotate_left
    · rw [if_neg c10] at H
      have c10b0 : (a0 == 0) = false := beq_eq_false_iff_ne.mpr c10
      have c10b1 : (a0 != 0) = true := bne_iff_ne.mpr c10
      have H' := Aside0.mk H
      clear H
      go_wp2
      go_meet
      case rel => exact ⟨_, (false), (by first | rfl | (simp; done) | (simp [*]; done)), H', ⟨by first | omega | exact Nat.le_refl _⟩, ⟨bU HB.out⟩⟩
    rw [if_pos c10] at H
    have c10b0 : (a0 == 0) = true := beq_iff_eq.mpr c10
    have c10b1 : (a0 != 0) = false := bne_eq_false_iff_eq.mpr c10
    clear c10
    have H' := Aside0.mk H
    clear H
    go_wp2
    go_meet
    case rel => exact ⟨_, ((a1 == 0)), (by first | rfl | (simp; done) | (simp [*]; done)), H', ⟨by first | omega | exact Nat.le_refl _⟩, ⟨bU HB.out⟩⟩
  clear HC5
  try clear c1
  try clear p2
  try clear c3
  try clear c6
  try clear c6b0
  try clear c7
  try clear c7b0
  try clear c8
  try clear c8b0
  try clear c9
  try clear c9b0
  try clear c10
  try clear c10b0
  try clear c10b1
  obtain ⟨kq, x33_4, rfl, HA, HJ4, HB⟩ := hcut
  cases kq with
  | zero => exact absurd HA.out (by simp [chirographref04_Put.j0])
  | succ kj4 =>
    have H := HA.out
    clear HA
    simp only [chirographref04_Put.j0] at H
    by_cases c11 : x33_4 = true
    · subst c11
      have H1 : (some (([] : List Int), 1)) = some (r1, r2) := by rw [if_pos rfl] at H; exact H
      clear H
      have H := H1
      clear H1
      simp only [Option.some.injEq, Prod.mk.injEq] at H
      obtain ⟨rfl, rfl⟩ := H
      go_wp2
      go_ret2
      exact ⟨_, by first | rfl | (simp [errW_none, errW_some] <;> rfl) | (simp [*, errW_none, errW_some] <;> rfl), by first | exact Kd.R_nil _ _ _ _ _ | exact Kd.N_nil _ _ _ _ _ | exact Kd.V_nil _ _ _ _ _ | exact Kd.Q_nil _ _ _ _ _ | exact Kd.S_nil _ _ _ _ _, bU HB.out⟩
    replace c11 := Bool.eq_false_iff.mpr c11
    subst c11
    have H1 : (chirographref04_Put.l0 kj4 a0 a1 a2 l3 ([] : List Int) 0) = some (r1, r2) := by rw [if_neg (show ¬ (false = true) by decide)] at H; exact H
    clear H
    have H := H1
    clear H1
    have H' := Aside0.mk H
    clear H
    go_wp2
    go_loopg [10, 11] kj4 (fun kq v10 v11 w' => ∃ (x10_2 : List Int) (x11_2 : Int), v11 = .int .i64 x11_2 ∧ Aside0 (chirographref04_Put.l0 kq a0 a1 a2 l3 x10_2 x11_2 = some (r1, r2)) ∧ Aside0 (kq ≤ kj4) ∧ Aside0 (Kd.R (Kd.int .u8) 5 w' w.heap.size (fun _ => True) v10 x10_2) ∧ Aside0 (Below w.heap.size w w'))
    case atStart => exact ⟨(([] : List Int)), (0), (by first | rfl | (simp; done) | (simp [*]; done)), H', ⟨Nat.le_refl _⟩, ⟨by first | exact Kd.R_nil _ _ _ _ _ | exact Kd.N_nil _ _ _ _ _ | exact Kd.V_nil _ _ _ _ _ | exact Kd.Q_nil _ _ _ _ _ | exact Kd.S_nil _ _ _ _ _⟩, ⟨bU HB.out⟩⟩
    case round =>
      clear H'
      try clear c1
      try clear p2
      try clear c3
      try clear c6
      try clear c6b0
      try clear c7
      try clear c7b0
      try clear c8
      try clear c8b0
      try clear c9
      try clear c9b0
      try clear c10
      try clear c10b0
      try clear c10b1
      try clear c11
      try clear p2
      obtain ⟨x10_2, x11_2, rfl, HA, HK2, HO_10, HB⟩ := hrel
      cases gk with
      | zero => exact absurd HA.out (by simp [chirographref04_Put.l0])
      | succ k2 =>
        have H := HA.out
        clear HA
        simp only [chirographref04_Put.l0] at H
        by_cases c12 : x11_2 < (l3.length : Int)
        rotate_left
        · rw [if_neg c12] at H
          have c12b0 : decide (x11_2 < (l3.length : Int)) = false := decide_eq_false c12
          clear c12
          replace H := Option.bind_eq_some_iff.mp H
          obtain ⟨t1060, A190, H⟩ := H
          replace H : (if t1060.length + x10_2.length < 140737488355328 then (some ((t1060 ++ x10_2), 0)) else (none)) = some (r1, r2) := H
          have A19 := Aside0.mk A190
          clear A190
          by_cases c20 : t1060.length + x10_2.length < 140737488355328
          rotate_left
          · rw [if_neg c20] at H
            exact absurd H (by simp)
          rw [if_pos c20] at H
          have LMc20 := Aside0.mk c20
          clear c20
          obtain ⟨y1063, hy1063⟩ : ∃ y_ : List Int, y_ = (t1060 ++ x10_2) := ⟨_, rfl⟩
          replace H : (some (y1063, 0)) = some (r1, r2) := by first | (rw [hy1063]; with_reducible exact H) | (have H2_ := (Option.bind_some _ _).symm.trans H; rw [hy1063]; with_reducible exact H2_) | (have H2_ := (Option.bind_some _ _).symm.trans H; with_reducible exact H2_) | with_reducible exact H | (rw [hy1063]; exact H) | exact H
          have Ny1063 := Aside0.mk hy1063
          clear hy1063
          simp only [Option.some.injEq, Prod.mk.injEq] at H
          obtain ⟨rfl, rfl⟩ := H
          obtain ⟨Ao21, co21, eo21⟩ := Kd.R_slice HO_10.out
          subst eo21
          go_wp2_with (first | ((with_reducible refine gate_callee (f := 126) rfl ?_); refine goesL_ (some 61) rfl rfl Tryz.func126 (by kernel_rfl) rfl #[.agg #[.int .i64 0, .int .i64 a0, .int .i64 a1, .bool a2, .slice none 0 0], .int .i64 (x10_2.length : Int)] rfl (by (try simp only [List.map_toArray, List.map_cons, List.map_nil]); first | done | rfl | (simp only [List.length_drop, List.length_take]; rfl)) ?_; (refine (chirographref03_Head.calls k2 0 a0 a1 a2 _ _ ([] : List Int) (x10_2.length : Int) t1060 _ ?side1 ?side2 A19.out).mono ?_); (case side1 => exact Kd.C_nil _ _); (case side2 => exact Nat.le_refl _); rintro e w22 ⟨v1061, rfl, ho0, hb⟩; refine ⟨_, rfl, ?_⟩; have n0_ := Aside0.mk (Kd.R_elder' (Kd.R_u HO_10.out) (Kd.R_base ho0) hb); have n1_ := Aside0.mk (Kd.R_lower (Kd.R_new' ho0 (Kd.R_lt (Kd.R_u HO_10.out))) (below_size (bU HB.out))); have n2_ := Aside0.mk (below_step (bU HB.out) hb); clear HO_10; clear HB; have HO_10 := n0_; have HO1062 := n1_; have HB := n2_; clear n0_ n1_ n2_; (try clear hb); (try clear hb2); (try clear hk); (try clear hi); (try clear ho0)) | ((with_reducible refine gate_builtin (b := .append) (xs := #[.tmp 61, .tmp 62]) rfl ?_); at_builtin; refine Kd.R_append_rows (Kd.int .u8) (w0 := w) w.heap.size rfl (.tmp 61) (.tmp 62) 22 5 (.int .u8 0) 1 rfl Tryz.underlying22 info5 rfl (by decide) (by omega) v1061 t1060 x10_2 _ _ _ (fun k_ => some k_ ≠ (.slice Ao21 x10_2.length co21 : Value).ownBlock) (fun _ => False) rfl rfl ?aO ?aR (fun _ _ h => h) (fun _ h => h.elim) ?aF ?aB ?aS ?aL ?_; (case aR => exact Kd.C_u (Kd.R_reads' HO_10.out).2.2); (case aB => exact (bU HB.out)); (case aF => exact (fun k_ hk => Kd.fresh' (Kd.R_lt (Kd.R_u HO_10.out)) k_ hk)); (case aO => exact (Kd.R_u (Kd.R_mono HO1062.out (fun _ hk => hk.2)))); (case aS => exact (below_size (bU HB.out))); (case aL => have := LMc20.out; omega); intro v1064 w23 ho hb hg hat; rw [← Ny1063.out] at ho; have n0_ := Aside0.mk (Kd.R_after (ok := (fun _ => True)) (Kd.R_u HO_10.out) hg hat); have n1_ := Aside0.mk (hb); have n2_ := Aside0.mk (ho); clear HO_10; clear HB; clear HO1062; have HO_10 := n0_; have HB := n1_; have HO1065 := n2_; clear n0_ n1_ n2_; clear ho hb hg hat))
          go_ret2
          exact ⟨_, by first | rfl | (simp [errW_none, errW_some] <;> rfl) | (simp [*, errW_none, errW_some] <;> rfl), by (with_reducible repeat (first | apply Kd.R_alloc | apply Kd.R_drewN | apply Kd.R_drew)); exact Kd.R_mono HO1065.out (fun _ hk => trivial), bU HB.out⟩
        rw [if_pos c12] at H
        have c12b0 : decide (x11_2 < (l3.length : Int)) = true := decide_eq_true c12
        clear c12
        by_cases c13 : 0 ≤ x11_2
        rotate_left
        · rw [if_neg c13] at H
          exact absurd H (by simp)
        rw [if_pos c13] at H
        have c13b0 : decide (0 ≤ x11_2) = true := decide_eq_true c13
        clear c13
        by_cases c14 : ((rd_L1 l3 x11_2).length : Int) > (wrap64 (16777216 - (x10_2.length : Int)))
        · rw [if_pos c14] at H
          have c14b0 : decide ((wrap64 (16777216 - (x10_2.length : Int))) < ((rd_L1 l3 x11_2).length : Int)) = true := decide_eq_true c14
          clear c14
          simp only [Option.some.injEq, Prod.mk.injEq] at H
          obtain ⟨rfl, rfl⟩ := H
          have p1055 : 0 ≤ (x11_2 : Int) := of_decide_eq_true (by first | (with_reducible assumption) | assumption)
          have q1055 : x11_2 < (l3.length : Int) := of_decide_eq_true (by first | (with_reducible assumption) | assumption)
          obtain ⟨ad1055, A1055_0, c1055_0, e1055, hx1055_0, hl1055_0, hi1055_0⟩ := at_L1 HR3.out x11_2 p1055 q1055
          cases e1055
          replace hx1055_0 := (HB.out.cell (World.block_lt_of_cell? w _ hx1055_0)).trans hx1055_0
          have HR1055_0 := Aside0.mk hi1055_0
          have HC1055_0 := Aside0.mk hl1055_0
          clear hi1055_0 hl1055_0
          replace p1055 := eq_true p1055
          replace q1055 := eq_true q1055
          obtain ⟨Ao15, co15, eo15⟩ := Kd.R_slice HO_10.out
          subst eo15
          go_wp2
          go_ret2
          exact ⟨_, by first | rfl | (simp [errW_none, errW_some] <;> rfl) | (simp [*, errW_none, errW_some] <;> rfl), by first | exact Kd.R_nil _ _ _ _ _ | exact Kd.N_nil _ _ _ _ _ | exact Kd.V_nil _ _ _ _ _ | exact Kd.Q_nil _ _ _ _ _ | exact Kd.S_nil _ _ _ _ _, bU HB.out⟩
        rw [if_neg c14] at H
        have c14b0 : decide ((wrap64 (16777216 - (x10_2.length : Int))) < ((rd_L1 l3 x11_2).length : Int)) = false := decide_eq_false c14
        clear c14
        by_cases c16 : x10_2.length + (rd_L1 l3 x11_2).length < 140737488355328
        rotate_left
        · rw [if_neg c16] at H
          exact absurd H (by simp)
        rw [if_pos c16] at H
        have LMc16 := Aside0.mk c16
        clear c16
        obtain ⟨y1057, hy1057⟩ : ∃ y_ : List Int, y_ = (x10_2 ++ (rd_L1 l3 x11_2)) := ⟨_, rfl⟩
        replace H : (chirographref04_Put.l0 k2 a0 a1 a2 l3 y1057 (wrap64 (x11_2 + 1))) = some (r1, r2) := by first | (rw [hy1057]; with_reducible exact H) | (have H2_ := (Option.bind_some _ _).symm.trans H; rw [hy1057]; with_reducible exact H2_) | (have H2_ := (Option.bind_some _ _).symm.trans H; with_reducible exact H2_) | with_reducible exact H | (rw [hy1057]; exact H) | exact H
        have Ny1057 := Aside0.mk hy1057
        clear hy1057
        have H' := Aside0.mk H
        clear H
        have p1055 : 0 ≤ (x11_2 : Int) := of_decide_eq_true (by first | (with_reducible assumption) | assumption)
        have q1055 : x11_2 < (l3.length : Int) := of_decide_eq_true (by first | (with_reducible assumption) | assumption)
        obtain ⟨ad1055, A1055_0, c1055_0, e1055, hx1055_0, hl1055_0, hi1055_0⟩ := at_L1 HR3.out x11_2 p1055 q1055
        cases e1055
        replace hx1055_0 := (HB.out.cell (World.block_lt_of_cell? w _ hx1055_0)).trans hx1055_0
        have HR1055_0 := Aside0.mk hi1055_0
        have HC1055_0 := Aside0.mk hl1055_0
        clear hi1055_0 hl1055_0
        replace p1055 := eq_true p1055
        replace q1055 := eq_true q1055
        obtain ⟨Ao17, co17, eo17⟩ := Kd.R_slice HO_10.out
        subst eo17
        have p1056 : 0 ≤ (x11_2 : Int) := of_decide_eq_true (by first | (with_reducible assumption) | assumption)
        have q1056 : x11_2 < (l3.length : Int) := of_decide_eq_true (by first | (with_reducible assumption) | assumption)
        obtain ⟨ad1056, A1056_0, c1056_0, e1056, hx1056_0, hl1056_0, hi1056_0⟩ := at_L1 HR3.out x11_2 p1056 q1056
        obtain rfl : ad1055 = ad1056 := (by injection e1056)
        replace hx1056_0 := (HB.out.cell (World.block_lt_of_cell? w _ hx1056_0)).trans hx1056_0
        have HR1056_0 := Aside0.mk hi1056_0
        have HC1056_0 := Aside0.mk hl1056_0
        clear hi1056_0 hl1056_0
        replace p1056 := eq_true p1056
        replace q1056 := eq_true q1056
        have ea_ := Option.some.inj (hx1055_0.symm.trans hx1056_0)
        injection ea_ with ea_ en_ ec_
        subst ea_
        subst ec_
        clear en_
        go_wp2_with (first | ((with_reducible refine gate_builtin (b := .append) (xs := #[.tmp 49, .tmp 53]) rfl ?_); at_builtin; refine Kd.R_append_rows (Kd.int .u8) (w0 := w) w.heap.size rfl (.tmp 49) (.tmp 53) 22 5 (.int .u8 0) 1 rfl Tryz.underlying22 info5 rfl (by decide) (by omega) (.slice Ao17 x10_2.length co17) x10_2 (rd_L1 l3 x11_2) _ _ _ (fun _ => True) (fun _ => False) rfl rfl ?aO ?aR (fun _ _ h => h) (fun _ h => h.elim) ?aF ?aB ?aS ?aL ?_; (case aR => exact Kd.C_u (Kd.C_below HR1056_0.out HB.out)); (case aB => exact (bU HB.out)); (case aF => exact (fun _ _ => trivial)); (case aO => exact (Kd.R_u HO_10.out)); (case aS => exact (below_size (bU HB.out))); (case aL => have := LMc16.out; omega); intro v1058 w18 ho hb hg hat; rw [← Ny1057.out] at ho; have n0_ := Aside0.mk (hb); have n1_ := Aside0.mk (ho); clear HB; clear HO_10; have HB := n0_; have HO1059 := n1_; clear n0_ n1_; clear ho hb hg hat))
        go_roundg k2
        case measure => have := HJ4.out; have := HK2.out; omega
        case rel => exact ⟨(y1057), (wrap64 (x11_2 + 1)), (by first | rfl | (simp; done) | (simp [*]; done)), H', ⟨by have := HJ4.out; have := HK2.out; omega⟩, ⟨Kd.R_u HO1059.out⟩, ⟨bU HB.out⟩⟩
end Go.Proofs.YtkioddjjfifadaaGreatDoor.P
namespace Go.Proofs.YtkioddjjfifadaaGreatDoor.P
open Go.RowKit Go.Proofs.YtkioddjjfifadaaGreatDoorW.PrintWords
theorem wb {n : Int} (h0 : -9223372036854775808 ≤ n) (h1 : n ≤ 9223372036854775807) : wrap64 n = n := by unfold wrap64; omega
theorem or128 (c : Int) (h0 : 0 ≤ c) (h1 : c ≤ 255) : Go.bits .or .u8 c 128 = 128 + c % 128 := by
  obtain ⟨n, rfl⟩ : ∃ n : Nat, c = (n : Int) := ⟨c.toNat, by omega⟩
  have hn : n < 256 := by omega
  have key : ∀ m : Fin 256, Go.bits .or .u8 (m.val : Int) 128 = 128 + (m.val : Int) % 128 := by decide +kernel
  exact key ⟨n, hn⟩
theorem and127 (c : Int) (h0 : 0 ≤ c) (h1 : c < 9223372036854775808) : Go.bits .and .u64 c 127 = c % 128 := by
  have h := bits_mask .u64 63 (by decide) (fun n h₀ h₁ => by rw [IntKind.wrap_u64]; omega) 7 (by decide) c h0 (by omega)
  have e : ((2 : Int) ^ 7 - 1) = 127 := by decide
  have e2 : ((2 : Int) ^ 7) = 128 := by decide
  rw [e, e2] at h
  exact h
/-- The digits to the base 128, ahead of those that stand. -/
def sevLoop : Nat → Int → List Int → List Int
  | 0, _, acc => acc
  | f + 1, x, acc => if x > 0 then sevLoop f (x / 128) ((128 + x % 128) :: acc) else acc
def sev (x : Int) : List Int := sevLoop 9 (x / 128) [x % 128]
theorem sevLoop_len : ∀ (f : Nat) (x : Int) (acc : List Int), (sevLoop f x acc).length ≤ acc.length + f
  | 0, x, acc => Nat.le_refl _
  | f + 1, x, acc => by
    rw [sevLoop]
    split
    · have := sevLoop_len f (x / 128) ((128 + x % 128) :: acc)
      simp only [List.length_cons] at this
      omega
    · omega
theorem sev_len (x : Int) : (sev x).length ≤ 10 := by
  have := sevLoop_len 9 (x / 128) [x % 128]
  exact this
theorem pow_step {x : Int} {f : Nat} (h0 : 0 ≤ x) (h : x < 128 ^ (f + 1)) : 0 ≤ x / 128 ∧ x / 128 < 128 ^ f := by
  rw [Int.pow_succ] at h
  exact ⟨by omega, Int.ediv_lt_of_lt_mul (by decide) h⟩
theorem ds_l0 : ∀ (f k : Nat) (x : Int) (acc : List Int), 0 ≤ x → x < 128 ^ f → f < k → acc.length + f < 1000 → der_seven.l0 k x acc = some (sevLoop f x acc)
  | 0, k, x, acc, h0, h1, hk, hl => by
    obtain ⟨k1, rfl⟩ : ∃ k1, k = k1 + 1 := ⟨k - 1, by omega⟩
    rw [Int.pow_zero] at h1
    rw [der_seven.l0, if_neg (by omega), sevLoop]
  | f + 1, k, x, acc, h0, h1, hk, hl => by
    obtain ⟨k1, rfl⟩ : ∃ k1, k = k1 + 1 := ⟨k - 1, by omega⟩
    rw [der_seven.l0, sevLoop]
    by_cases hx : x > 0
    · obtain ⟨g0, g1⟩ := pow_step h0 h1
      rw [if_pos hx, if_pos hx, Option.bind_some, if_pos (by simp only [List.length_cons, List.length_nil]; omega), or128 _ (by omega) (by omega), show x % 256 % 128 = x % 128 by omega]
      exact ds_l0 f k1 _ _ g0 g1 (by omega) (by simp only [List.length_append, List.length_cons, List.length_nil]; omega)
    · rw [if_neg hx, if_neg hx]
theorem der_sev (k : Nat) (x : Int) (h0 : 0 ≤ x) (h1 : x < 9223372036854775808) (hk : 10 ≤ k) : der_seven.f k x = some (sev x) := by
  unfold der_seven.f sev
  rw [and127 x h0 h1, show x % 128 % 256 = x % 128 by omega]
  exact ds_l0 9 k _ _ (by omega) (by rw [show (128 : Int) ^ 9 = 9223372036854775808 by decide]; omega) (by omega) (by simp)
/-- A length's bytes. -/
def lenL (n : Int) : List Int :=
  if n < 128 then [n] else if n < 256 then [129, n] else if n < 65536 then [130, n / 256, n % 256] else if n < 16777216 then [131, n / 65536, n / 256 % 256, n % 256]
  else [132, n / 16777216, n / 65536 % 256, n / 256 % 256, n % 256]
def hdL (c tag : Int) : List Int := if tag < 31 then [c + tag] else (c + 31) :: sev tag
/-- How long together; none: more than an element holds. -/
def sumS : Int → List (List Int) → Option Int
  | s, [] => some s
  | s, y :: r => if (y.length : Int) > 16777216 - s then none else sumS (s + (y.length : Int)) r
theorem sumS_flat : ∀ (l : List (List Int)) (s t : Int), sumS s l = some t → t = s + (l.flatten.length : Int)
  | [], s, t, h => by
    obtain rfl := Option.some.inj h
    simp
  | y :: r, s, t, h => by
    rw [sumS] at h
    split at h
    · cases h
    · have := sumS_flat r _ _ h
      simp only [List.flatten_cons, List.length_append]
      omega
theorem sumS_rng : ∀ (l : List (List Int)) (s t : Int), 0 ≤ s → s ≤ 16777216 → sumS s l = some t → 0 ≤ t ∧ t ≤ 16777216
  | [], s, t, h0, h1, h => by
    obtain rfl := Option.some.inj h
    exact ⟨h0, h1⟩
  | y :: r, s, t, h0, h1, h => by
    rw [sumS] at h
    split at h
    · cases h
    · exact sumS_rng r _ _ (by omega) (by omega) h
/-- An element's bytes. -/
def putS (cons : Bool) (tag : Int) (l : List (List Int)) : List Int × Int :=
  match sumS 0 l with
  | none => ([], 3)
  | some n => (hdL (if cons then 32 else 0) tag ++ lenL n ++ l.flatten, 0)
theorem drop_rdB (l : List (List Int)) (i : Int) (h0 : 0 ≤ i) (h1 : i < (l.length : Int)) : l.drop i.toNat = rd_L1 l i :: l.drop (i + 1).toNat := by
  have e : (i + 1).toNat = i.toNat + 1 := by omega
  rw [e, List.drop_eq_getElem_cons (by omega)]
  congr 1
  unfold rd_L1
  rw [List.getD_eq_getElem?_getD, List.getElem?_eq_getElem (by omega), Option.getD_some]
theorem tl_zero (k : Nat) (l : List Int) : bytes_trimLeftByte.l0 (k + 1) (0 :: l) 0 = bytes_trimLeftByte.l0 k l 0 := by
  rw [bytes_trimLeftByte.l0, if_pos (by simp only [List.length_cons]; omega), if_pos (by simp only [List.length_cons]; omega), if_pos (show rd (0 :: l) 0 = 0 from rfl), if_pos (by simp only [List.length_cons]; omega)]
  rfl
theorem tl_stop (k : Nat) (c : Int) (l : List Int) (h : c ≠ 0) : bytes_trimLeftByte.l0 (k + 1) (c :: l) 0 = some (c :: l) := by
  rw [bytes_trimLeftByte.l0, if_pos (by simp only [List.length_cons]; omega), if_pos (by simp only [List.length_cons]; omega), if_neg (show ¬ rd (c :: l) 0 = 0 from h), if_neg (by simp only [List.length_cons]; omega)]
theorem dp_l1 (l : List (List Int)) (hl : l.length ≤ 1000000) : ∀ (m k : Nat) (i : Int) (acc : List Int), 0 ≤ i → (l.length : Int) - i = m → m < k → acc.length + (l.drop i.toNat).flatten.length < 140737488355328 →
    der_Put.l1 k acc l (l.length : Int) i = some (acc ++ (l.drop i.toNat).flatten, 0)
  | 0, k, i, acc, h0, hm, hk, ha => by
    obtain ⟨k1, rfl⟩ : ∃ k1, k = k1 + 1 := ⟨k - 1, by omega⟩
    rw [der_Put.l1, if_neg (by omega), List.drop_eq_nil_of_le (by omega), List.flatten_nil, List.append_nil]
  | m + 1, k, i, acc, h0, hm, hk, ha => by
    obtain ⟨k1, rfl⟩ : ∃ k1, k = k1 + 1 := ⟨k - 1, by omega⟩
    have hd := drop_rdB l i h0 (by omega)
    rw [hd, List.flatten_cons] at ha ⊢
    rw [List.length_append] at ha
    rw [der_Put.l1, if_pos (by omega), if_pos h0, if_pos (by omega), if_pos (by omega), wb (by omega) (by omega)]
    have := dp_l1 l hl m k1 (i + 1) (acc ++ rd_L1 l i) (by omega) (by omega) (by omega) (by rw [List.length_append]; omega)
    rw [this, List.append_assoc]
/-- The lengths, laid. -/
theorem dp_j3 (k : Nat) (l : List (List Int)) (n : Int) (hd : List Int) (h0 : 0 ≤ n) (h1 : n ≤ 16777216) (hl : l.length ≤ 1000000) (hn : (l.flatten.length : Int) = n) (hh : hd.length ≤ 100) (hk : l.length + 20 ≤ k) :
    der_Put.j3 k l n hd = some (hd ++ lenL n ++ l.flatten, 0) := by
  obtain ⟨k1, rfl⟩ : ∃ k1, k = k1 + 2 := ⟨k - 2, by omega⟩
  have hend : ∀ L : List Int, L.length ≤ 10 → der_Put.j4 (k1 + 1) l (hd ++ L) = some (hd ++ L ++ l.flatten, 0) := fun L hL => by
    rw [der_Put.j4]
    have := dp_l1 l hl l.length k1 0 (hd ++ L) (Int.le_refl _) (by omega) (by omega) (by rw [List.length_append, show (0 : Int).toNat = 0 from rfl, List.drop_zero]; omega)
    rw [this]
    rfl
  rw [der_Put.j3, lenL]
  by_cases c0 : n < 128
  · rw [if_pos c0, if_pos c0, if_pos (by omega), show n % 256 = n by omega]
    exact hend [n] (by simp)
  rw [if_neg c0, if_neg c0]
  unfold bytes_trimLeftByte.f
  obtain ⟨k2, rfl⟩ : ∃ k2, k1 = k2 + 4 := ⟨k1 - 4, by omega⟩
  have fin : ∀ (t : List Int) (z : Int), Go.bits .or .u8 128 (((t.length : Int)) % 256) = z → t.length ≤ 4 → bytes_trimLeftByte.l0 (k2 + 4 + 1) [n / 16777216 % 256, n / 65536 % 256, n / 256 % 256, n % 256] 0 = some t →
      ((bytes_trimLeftByte.l0 (k2 + 4 + 1) [n / 16777216 % 256, n / 65536 % 256, n / 256 % 256, n % 256] 0).bind fun t294 => (if hd.length < 140737488355328 then ((some (hd ++ [Go.bits .or .u8 128 (((t294.length : Int)) % 256)] : List Int)).bind fun y297 => (if y297.length + t294.length < 140737488355328 then (der_Put.j4 (k2 + 4 + 1) l (y297 ++ t294)) else (none))) else (none))) =
      some (hd ++ (z :: t) ++ l.flatten, 0) := fun t z hz ht e => by
    rw [e, Option.bind_some, if_pos (by omega), Option.bind_some, if_pos (by rw [List.length_append]; simp only [List.length_cons, List.length_nil]; omega), List.append_assoc, hz]
    exact hend _ (by simp only [List.length_append, List.length_cons, List.length_nil]; omega)
  by_cases c1 : n < 256
  · rw [if_pos c1]
    refine fin [n] 129 (show Go.bits .or .u8 128 ((1 : Int) % 256) = 129 by decide +kernel) (by simp) ?_
    rw [show n / 16777216 % 256 = 0 by omega, show n / 65536 % 256 = 0 by omega, show n / 256 % 256 = 0 by omega, show n % 256 = n by omega, tl_zero, tl_zero, tl_zero, tl_stop _ _ _ (by omega)]
  rw [if_neg c1]
  by_cases c2 : n < 65536
  · rw [if_pos c2]
    refine fin [n / 256, n % 256] 130 (show Go.bits .or .u8 128 ((2 : Int) % 256) = 130 by decide +kernel) (by simp) ?_
    rw [show n / 16777216 % 256 = 0 by omega, show n / 65536 % 256 = 0 by omega, show n / 256 % 256 = n / 256 by omega, tl_zero, tl_zero, tl_stop _ _ _ (by omega)]
  rw [if_neg c2]
  by_cases c3 : n < 16777216
  rotate_left
  · rw [if_neg c3]
    refine fin [n / 16777216, n / 65536 % 256, n / 256 % 256, n % 256] 132 (show Go.bits .or .u8 128 ((4 : Int) % 256) = 132 by decide +kernel) (by simp) ?_
    rw [show n / 16777216 % 256 = n / 16777216 by omega, tl_stop _ _ _ (by omega)]
  rw [if_pos c3]
  refine fin [n / 65536, n / 256 % 256, n % 256] 131 (show Go.bits .or .u8 128 ((3 : Int) % 256) = 131 by decide +kernel) (by simp) ?_
  rw [show n / 16777216 % 256 = 0 by omega, show n / 65536 % 256 = n / 65536 by omega, tl_zero, tl_stop _ _ _ (by omega)]
theorem or_small (c tag : Int) (hc : c = 0 ∨ c = 32) (h0 : 0 ≤ tag) (h1 : tag < 32) : Go.bits .or .u8 c tag = c + tag := by
  obtain ⟨n, rfl⟩ : ∃ n : Nat, tag = (n : Int) := ⟨tag.toNat, by omega⟩
  have hn : n < 32 := by omega
  have k0 : ∀ m : Fin 32, Go.bits .or .u8 0 (m.val : Int) = 0 + (m.val : Int) := by decide +kernel
  have k1 : ∀ m : Fin 32, Go.bits .or .u8 32 (m.val : Int) = 32 + (m.val : Int) := by decide +kernel
  rcases hc with rfl | rfl
  rotate_left
  · exact k1 ⟨n, hn⟩
  exact k0 ⟨n, hn⟩
theorem hdL_len (c tag : Int) : (hdL c tag).length ≤ 11 := by
  unfold hdL
  split
  · simp
  have := sev_len tag
  simp only [List.length_cons]
  omega
theorem dp_j2 (k : Nat) (l : List (List Int)) (n c tag : Int) (hc : c = 0 ∨ c = 32) (t0 : 0 ≤ tag) (t1 : tag ≤ 268435455) (h0 : 0 ≤ n) (h1 : n ≤ 16777216) (hl : l.length ≤ 1000000) (hn : (l.flatten.length : Int) = n) (hk : l.length + 30 ≤ k) :
    der_Put.j2 k tag l n c = some (hdL c tag ++ lenL n ++ l.flatten, 0) := by
  obtain ⟨k1, rfl⟩ : ∃ k1, k = k1 + 1 := ⟨k - 1, by omega⟩
  have hlen := hdL_len c tag
  rw [der_Put.j2]
  unfold hdL at *
  by_cases c0 : tag < 31
  · rw [if_pos c0] at *
    rw [if_pos c0, if_pos (by decide), show tag % 256 = tag by omega, or_small c tag hc t0 (by omega), List.nil_append]
    exact dp_j3 k1 l n [c + tag] h0 h1 hl hn (by simp) (by omega)
  rw [if_neg c0] at *
  have hu : IntKind.u64.wrap tag = tag := by rw [IntKind.wrap_u64]; omega
  have hs := sev_len tag
  rw [if_neg c0, if_pos (by decide), Option.bind_some, hu, der_sev k1 tag t0 (by omega) (by omega), Option.bind_some, or_small c 31 hc (by decide) (by decide), List.nil_append, if_pos (by simp only [List.length_cons, List.length_nil]; omega)]
  exact dp_j3 k1 l n ((c + 31) :: sev tag) h0 h1 hl hn (by simp only [List.length_cons]; omega) (by omega)
theorem dp_l0 (l : List (List Int)) (hl : l.length ≤ 1000000) (tag : Int) (cons : Bool) (t0 : 0 ≤ tag) (t1 : tag ≤ 268435455) : ∀ (m k : Nat) (i s : Int), 0 ≤ i → (l.length : Int) - i = m → 0 ≤ s → s ≤ 16777216 → m + l.length + 40 ≤ k →
    (∀ t, sumS s (l.drop i.toNat) = some t → t = (l.flatten.length : Int)) →
    der_Put.l0 k 0 tag cons l s l (l.length : Int) i = some (match sumS s (l.drop i.toNat) with | none => ([], 3) | some n => (hdL (if cons then 32 else 0) tag ++ lenL n ++ l.flatten, 0))
  | 0, k, i, s, h0, hm, s0, s1, hk, ht => by
    obtain ⟨k1, rfl⟩ : ∃ k1, k = k1 + 1 := ⟨k - 1, by omega⟩
    rw [List.drop_eq_nil_of_le (by omega)] at ht ⊢
    have := ht s rfl
    rw [der_Put.l0, if_neg (by omega)]
    cases cons with
    | true =>
      rw [if_pos rfl]
      have e : Go.bits .or .u8 (wrap64 (0 * 64) % 256) 32 = 32 := by decide +kernel
      rw [e]
      exact dp_j2 k1 l s 32 tag (Or.inr rfl) t0 t1 s0 s1 hl this.symm (by omega)
    | false =>
      rw [if_neg (show ¬ (false = true) by decide)]
      have e : (wrap64 (0 * 64) % 256) = 0 := by decide +kernel
      rw [e]
      exact dp_j2 k1 l s 0 tag (Or.inl rfl) t0 t1 s0 s1 hl this.symm (by omega)
  | m + 1, k, i, s, h0, hm, s0, s1, hk, ht => by
    obtain ⟨k1, rfl⟩ : ∃ k1, k = k1 + 1 := ⟨k - 1, by omega⟩
    have hd := drop_rdB l i h0 (by omega)
    rw [hd] at ht ⊢
    rw [sumS] at ht ⊢
    rw [der_Put.l0, if_pos (by omega), if_pos h0, if_pos (by omega), wb (by omega) (by omega)]
    by_cases c : ((rd_L1 l i).length : Int) > 16777216 - s
    · rw [if_pos c, if_pos c]
    · rw [if_neg c] at ht
      rw [if_neg c, if_neg c, wb (by omega) (by omega), wb (by omega) (by omega)]
      exact dp_l0 l hl tag cons t0 t1 m k1 (i + 1) _ (by omega) (by omega) (by omega) (by omega) (by omega) ht
/-- der.Put: what it lays. -/
theorem der_put (k : Nat) (tag : Int) (cons : Bool) (l : List (List Int)) (hl : l.length ≤ 1000000) (t0 : 1 ≤ tag) (t1 : tag ≤ 268435455) (hk : 2 * l.length + 50 ≤ k) : der_Put.f k 0 tag cons l = some (putS cons tag l) := by
  obtain ⟨k1, rfl⟩ : ∃ k1, k = k1 + 1 := ⟨k - 1, by omega⟩
  have e : (wrap64 (0 + tag) == 0) = false := by rw [wb (by omega) (by omega)]; exact beq_eq_false_iff_ne.mpr (by omega)
  unfold der_Put.f putS
  rw [if_neg (by decide), if_neg (by decide), if_neg (by omega), if_neg (by omega), e, der_Put.j0, if_neg (show ¬ (false = true) by decide)]
  exact dp_l0 l hl tag cons (by omega) t1 l.length k1 0 0 (Int.le_refl _) (by omega) (Int.le_refl _) (by decide) (by omega) (fun t h => by have := sumS_flat _ _ _ h; rw [show (0 : Int).toNat = 0 from rfl, List.drop_zero] at this; omega)
theorem hl_step (k : Nat) (n : Int) (x6 acc : List Int) (h0 : 0 < n) (h1 : n ≤ 1000000000) (ha : acc.length ≤ 100) : chirographref03_Head.l1 (k + 1) n x6 acc = chirographref03_Head.l1 k (n / 256) x6 ((n % 256) :: acc) := by
  have e1 : Int.tdiv n 256 = n / 256 := Int.tdiv_eq_ediv_of_nonneg (by omega)
  have e2 : Int.tmod n 256 = n % 256 := Int.tmod_eq_emod_of_nonneg (by omega)
  rw [chirographref03_Head.l1, if_pos h0, Option.bind_some, if_pos (by simp only [List.length_cons, List.length_nil]; omega), e1, e2, wb (by omega) (by omega), show n % 256 % 256 = n % 256 by omega]
  rfl
theorem hl_end (k : Nat) (x6 acc : List Int) (hx : x6.length ≤ 100) (ha : acc.length ≤ 100) : chirographref03_Head.l1 (k + 1) 0 x6 acc = some (x6 ++ ((128 + (acc.length : Int)) % 256 :: acc)) := by
  rw [chirographref03_Head.l1, if_neg (by decide), if_pos (by omega), Option.bind_some, if_pos (by simp only [List.length_append, List.length_cons, List.length_nil]; omega), wb (by omega) (by omega), List.append_assoc]
  rfl
theorem hd_j2 (k : Nat) (n : Int) (x6 : List Int) (h0 : 0 ≤ n) (h1 : n ≤ 16777216) (hx : x6.length ≤ 100) (hk : 10 ≤ k) : chirographref03_Head.j2 k n x6 = some (x6 ++ lenL n) := by
  obtain ⟨k1, rfl⟩ : ∃ k1, k = k1 + 6 := ⟨k - 6, by omega⟩
  rw [chirographref03_Head.j2, lenL]
  by_cases c0 : n < 128
  · rw [if_pos c0, if_pos c0, if_pos (by omega), show n % 256 = n by omega]
  rw [if_neg c0, if_neg c0]
  rw [hl_step _ _ _ _ (by omega) (by omega) (by simp)]
  by_cases c1 : n < 256
  · rw [if_pos c1, show n / 256 = 0 by omega, hl_end _ _ _ hx (by simp), show n % 256 = n by omega]
    rfl
  rw [if_neg c1, hl_step _ _ _ _ (by omega) (by omega) (by simp)]
  by_cases c2 : n < 65536
  · rw [if_pos c2, show n / 256 / 256 = 0 by omega, hl_end _ _ _ hx (by simp), show n / 256 % 256 = n / 256 by omega]
    rfl
  rw [if_neg c2, hl_step _ _ _ _ (by omega) (by omega) (by simp)]
  by_cases c3 : n < 16777216
  rotate_left
  · rw [if_neg c3, hl_step _ _ _ _ (by omega) (by omega) (by simp), show n / 256 / 256 / 256 / 256 = 0 by omega, hl_end _ _ _ hx (by simp), show n / 256 / 256 / 256 % 256 = n / 16777216 by omega, show n / 256 / 256 % 256 = n / 65536 % 256 by omega]
    rfl
  rw [if_pos c3, show n / 256 / 256 / 256 = 0 by omega, hl_end _ _ _ hx (by simp), show n / 256 / 256 % 256 = n / 65536 by omega]
  rfl
theorem hd_l0 (n c : Int) (r : List Int) : ∀ (f k : Nat) (acc : List Int) (x : Int), 0 < acc.length → 0 ≤ x → x ≤ 1000000000 → x < 128 ^ f → acc.length + f ≤ 50 → f + 12 ≤ k →
    (∀ k', 10 ≤ k' → chirographref03_Head.j2 k' n ((c + 31) % 256 :: sevLoop f x acc) = some r) → chirographref03_Head.l0 k n c acc x = some r
  | 0, k, acc, x, ha, h0, hb, h1, hl, hk, hr => by
    obtain ⟨k1, rfl⟩ : ∃ k1, k = k1 + 1 := ⟨k - 1, by omega⟩
    rw [Int.pow_zero] at h1
    rw [chirographref03_Head.l0, if_neg (by omega), Option.bind_some, if_pos (by simp only [List.length_cons, List.length_nil]; omega)]
    exact hr k1 (by omega)
  | f + 1, k, acc, x, ha, h0, hb, h1, hl, hk, hr => by
    obtain ⟨k1, rfl⟩ : ∃ k1, k = k1 + 1 := ⟨k - 1, by omega⟩
    rw [chirographref03_Head.l0]
    by_cases hx : x > 0
    · obtain ⟨g0, g1⟩ := pow_step h0 h1
      have e1 : Int.tdiv x 128 = x / 128 := Int.tdiv_eq_ediv_of_nonneg (by omega)
      have e2 : Int.tmod x 128 = x % 128 := Int.tmod_eq_emod_of_nonneg (by omega)
      rw [if_pos hx, if_pos (by omega), Option.bind_some, if_pos (by simp only [List.length_cons, List.length_nil]; omega), e1, e2, wb (by omega) (by omega), show (x % 128 % 256 + 128) % 256 = 128 + x % 128 by omega]
      refine hd_l0 n c r f k1 _ _ (by simp) g0 (by omega) g1 (by simp only [List.length_append, List.length_cons, List.length_nil]; omega) (by omega) (fun k' hk' => ?_)
      have := hr k' hk'
      rw [sevLoop, if_pos hx] at this
      exact this
    · rw [if_neg hx, Option.bind_some, if_pos (by simp only [List.length_cons, List.length_nil]; omega)]
      have := hr k1 (by omega)
      rw [sevLoop, if_neg hx] at this
      exact this
theorem ref_head (k : Nat) (tag : Int) (cons : Bool) (d : List Int) (n : Int) (t0 : 1 ≤ tag) (t1 : tag ≤ 268435455) (h0 : 0 ≤ n) (h1 : n ≤ 16777216) (hk : 50 ≤ k) :
    chirographref03_Head.f k 0 0 tag cons d n = some (hdL (if cons then 32 else 0) tag ++ lenL n) := by
  obtain ⟨k1, rfl⟩ : ∃ k1, k = k1 + 2 := ⟨k - 2, by omega⟩
  have hj : ∀ c : Int, c = 0 ∨ c = 32 → chirographref03_Head.j0 (k1 + 2) n c 0 0 tag cons d = some (hdL c tag ++ lenL n) := fun c hc => by
    have hs := sev_len tag
    rw [chirographref03_Head.j0]
    unfold hdL
    by_cases c0 : tag < 31
    · rw [if_pos c0, if_pos c0, show (c + tag % 256) % 256 = c + tag by omega]
      exact hd_j2 _ n _ h0 h1 (by simp) (by omega)
    · have e1 : Int.tdiv tag 128 = tag / 128 := Int.tdiv_eq_ediv_of_nonneg (by omega)
      have e2 : Int.tmod tag 128 = tag % 128 := Int.tmod_eq_emod_of_nonneg (by omega)
      rw [if_neg c0, if_neg c0, chirographref03_Head.l0, if_pos (by omega), if_neg (show ¬ ((([] : List Int).length : Int) > 0) by decide), Option.bind_some, if_pos (by simp), e1, e2, wb (by omega) (by omega), show tag % 128 % 256 = tag % 128 by omega]
      refine hd_l0 n c _ 9 k1 _ _ (by simp) (by omega) (by omega) (by rw [show (128 : Int) ^ 9 = 9223372036854775808 by decide]; omega) (by simp) (by omega) (fun k' hk' => ?_)
      have e3 : (c + 31) % 256 = c + 31 := by omega
      rw [e3]
      exact hd_j2 k' n _ h0 h1 (by unfold sev at hs; simp only [List.length_cons, List.append_nil]; omega) hk'
  unfold chirographref03_Head.f
  cases cons with
  | true =>
    rw [if_pos rfl]
    exact hj 32 (Or.inr rfl)
  | false =>
    rw [if_neg (show ¬ (false = true) by decide)]
    exact hj 0 (Or.inl rfl)
theorem rp_l0 (l : List (List Int)) (hl : l.length ≤ 1000000) (tag : Int) (cons : Bool) (t0 : 1 ≤ tag) (t1 : tag ≤ 268435455) : ∀ (m k : Nat) (i : Int) (acc : List Int), 0 ≤ i → (l.length : Int) - i = m → acc.length ≤ 16777216 → m + 60 ≤ k →
    chirographref04_Put.l0 k 0 tag cons l acc i = some (match sumS (acc.length : Int) (l.drop i.toNat) with | none => ([], 3) | some n => (hdL (if cons then 32 else 0) tag ++ lenL n ++ (acc ++ (l.drop i.toNat).flatten), 0))
  | 0, k, i, acc, h0, hm, ha, hk => by
    obtain ⟨k1, rfl⟩ : ∃ k1, k = k1 + 1 := ⟨k - 1, by omega⟩
    have hlen := hdL_len (if cons then 32 else 0) tag
    rw [List.drop_eq_nil_of_le (by omega), sumS, List.flatten_nil, List.append_nil]
    have hq : (lenL (acc.length : Int)).length ≤ 5 := by
      unfold lenL
      repeat' split
      all_goals simp
    rw [chirographref04_Put.l0, if_neg (by omega), ref_head k1 tag cons [] _ t0 t1 (by omega) (by omega) (by omega), Option.bind_some, if_pos (by rw [List.length_append]; omega)]
  | m + 1, k, i, acc, h0, hm, ha, hk => by
    obtain ⟨k1, rfl⟩ : ∃ k1, k = k1 + 1 := ⟨k - 1, by omega⟩
    have hd := drop_rdB l i h0 (by omega)
    rw [hd, sumS, List.flatten_cons]
    rw [chirographref04_Put.l0, if_pos (by omega), if_pos h0, wb (by omega) (by omega)]
    by_cases c : ((rd_L1 l i).length : Int) > 16777216 - (acc.length : Int)
    · rw [if_pos c, if_pos c]
    · rw [if_neg c, if_neg c, if_pos (by omega), wb (by omega) (by omega)]
      have := rp_l0 l hl tag cons t0 t1 m k1 (i + 1) (acc ++ rd_L1 l i) (by omega) (by omega) (by rw [List.length_append]; omega) (by omega)
      rw [this, List.length_append, Int.natCast_add, List.append_assoc]
/-- chirographref04.Put: it lays the same. -/
theorem ref_put (k : Nat) (tag : Int) (cons : Bool) (l : List (List Int)) (hl : l.length ≤ 1000000) (t0 : 1 ≤ tag) (t1 : tag ≤ 268435455) (hk : l.length + 70 ≤ k) : chirographref04_Put.f k 0 tag cons l = some (putS cons tag l) := by
  obtain ⟨k1, rfl⟩ : ∃ k1, k = k1 + 1 := ⟨k - 1, by omega⟩
  have e : (tag == 0) = false := beq_eq_false_iff_ne.mpr (by omega)
  unfold chirographref04_Put.f putS
  rw [if_neg (by decide), if_neg (by decide), if_neg (by omega), if_neg (by omega), if_pos rfl, e, chirographref04_Put.j0, if_neg (show ¬ (false = true) by decide)]
  exact rp_l0 l hl tag cons t0 t1 l.length k1 0 [] (Int.le_refl _) (by omega) (by simp) (by omega)
theorem sevLoop_bytes : ∀ (f : Nat) (x : Int) (acc : List Int), (∀ y ∈ acc, 0 ≤ y ∧ y ≤ 255) → ∀ y ∈ sevLoop f x acc, 0 ≤ y ∧ y ≤ 255
  | 0, x, acc, h => h
  | f + 1, x, acc, h => by
    rw [sevLoop]
    split
    · refine sevLoop_bytes f _ _ (fun y hy => ?_)
      rcases List.mem_cons.1 hy with rfl | hy
      · omega
      · exact h y hy
    · exact h
theorem sev_bytes (x : Int) : ∀ y ∈ sev x, 0 ≤ y ∧ y ≤ 255 := sevLoop_bytes 9 _ _ (fun y hy => by obtain rfl := List.mem_singleton.1 hy; omega)
theorem hdL_bytes (c tag : Int) (hc : c = 0 ∨ c = 32) (t0 : 0 ≤ tag) : ∀ y ∈ hdL c tag, 0 ≤ y ∧ y ≤ 255 := by
  unfold hdL
  split
  · intro y hy
    obtain rfl := List.mem_singleton.1 hy
    omega
  intro y hy
  rcases List.mem_cons.1 hy with rfl | hy
  rotate_left
  · exact sev_bytes _ y hy
  omega
theorem lenL_bytes (n : Int) (h0 : 0 ≤ n) (h1 : n ≤ 16777216) : ∀ y ∈ lenL n, 0 ≤ y ∧ y ≤ 255 := by
  unfold lenL
  repeat' split
  all_goals
    intro y hy
    simp only [List.mem_cons, List.not_mem_nil, or_false] at hy
    omega
theorem putS_bytes (cons : Bool) (tag : Int) (l : List (List Int)) (t0 : 0 ≤ tag) (h : ∀ x ∈ l, ∀ y ∈ x, 0 ≤ y ∧ y ≤ 255) : ∀ y ∈ (putS cons tag l).1, 0 ≤ y ∧ y ≤ 255 := by
  unfold putS
  cases e : sumS 0 l with
  | none => intro y hy; cases hy
  | some n =>
    obtain ⟨n0, n1⟩ := sumS_rng l 0 n (Int.le_refl _) (by decide) e
    intro y hy
    rcases List.mem_append.1 hy with hy | hy
    rotate_left
    · obtain ⟨x, hx, hy⟩ := List.mem_flatten.1 hy
      exact h x hx y hy
    rcases List.mem_append.1 hy with hy | hy
    rotate_left
    · exact lenL_bytes n n0 n1 y hy
    exact hdL_bytes _ tag (by cases cons <;> simp) t0 y hy
end Go.Proofs.YtkioddjjfifadaaGreatDoor.P
namespace Go.Proofs.YtkioddjjfifadaaGreatDoor.P
open Go.RowKit Go.Proofs.YtkioddjjfifadaaGreatDoorW.PrintWords Go.Proofs.YtkioddjjfifadaaGreatDoorW.PrintLast Go.Proofs.YtkioddjjfifadaaGreatDoorW.PrintMore
theorem decode_width (s : ByteArray) (pos : Nat) (h : pos < s.size) : 1 ≤ (Utf8.decode s pos).2 ∧ pos + (Utf8.decode s pos).2 ≤ s.size ∧ (Utf8.decode s pos).2 ≤ 4 := by
  unfold Utf8.decode
  simp only []
  split
  · simp; omega
  split
  · rename_i h1
    simp only [Bool.and_eq_true, decide_eq_true_eq, beq_iff_eq] at h1
    split <;> simp <;> omega
  split
  · rename_i h1
    simp only [Bool.and_eq_true, decide_eq_true_eq, beq_iff_eq] at h1
    split <;> simp <;> omega
  split
  rotate_left
  · simp; omega
  rename_i h1
  simp only [Bool.and_eq_true, decide_eq_true_eq, beq_iff_eq] at h1
  split <;> simp <;> omega
/-- A letter made small. -/
def low (c : Int) : Int := if 65 ≤ c ∧ c ≤ 90 then c + 32 else c
def foldOut (bl : Bool) (out : List Int) : List Int := if bl = true ∧ 0 < out.length then out ++ [32] else out
def foldGo (s : ByteArray) : Nat → Nat → Bool → List Int → List Int
  | 0, _, _, out => out
  | f + 1, pos, bl, out =>
    if pos < s.size then
      (if ((Utf8.decode s pos).1 : Int) = 32 then foldGo s f (pos + (Utf8.decode s pos).2) true out
      else if low ((Utf8.decode s pos).1 : Int) = 65533 then foldGo s f (pos + (Utf8.decode s pos).2) false (foldOut bl out ++ bytesOf (s.extract pos (pos + (Utf8.decode s pos).2)))
      else foldGo s f (pos + (Utf8.decode s pos).2) false (foldOut bl out ++ Lib.encodeRuneZ (low ((Utf8.decode s pos).1 : Int))))
    else out
def text_Fold.f (s : ByteArray) : Option ByteArray := if s.size ≤ 1099511627776 then some (strOfNums (foldGo s s.size 0 false [])) else none
theorem R_iter {B kb p : Nat} {s : ByteArray} {w : World} {v : Value} {xs : List Int} (h : (Kd.int .u8).R 5 w B (fun _ => True) v xs) (hb : w.heap[kb]? = some (.stringIter s p)) (p' : Nat) : (Kd.int .u8).R 5 (w.iterAt kb s p') B (fun _ => True) v xs :=
  Kd.R_mono (Kd.R_move (Kd.R_bound h) (fun k hk => by
    refine Lib.iterAt_other w kb k s p' ?_
    rintro rfl
    obtain ⟨_, _, _, _, _, cells, hc⟩ := hk
    rw [hb] at hc
    cases hc)) (fun _ hk => hk.1)
theorem iter_ne {B kb p : Nat} {s : ByteArray} {w : World} {v : Value} {xs : List Int} (h : (Kd.int .u8).R 5 w B (fun _ => True) v xs) (hb : w.heap[kb]? = some (.stringIter s p)) : some kb ≠ v.ownBlock := fun e => by
  obtain ⟨inner, ho⟩ := Kd.R_own h
  obtain ⟨cells, hc⟩ := own_typed ho kb e.symm
  rw [hb] at hc
  cases hc
theorem keep_blk {w w1 : World} {g : Nat} {o : Obj} (hb : Below w.heap.size w w1) (h : w.heap[g]? = some o) : w1.heap[g]? = some o := (hb.block g (blk_lt h)).trans h
theorem ext_size (s : ByteArray) (a b : Nat) (h : b ≤ s.size) : (s.extract a b).size = b - a := by
  rw [ByteArray.size_extract]
  omega
set_option maxRecDepth 100000 in
set_option maxHeartbeats 8000000 in
theorem text_Fold.calls (a0 : ByteArray) (r : ByteArray) (w : World) (h : text_Fold.f a0 = some r) (hH : Tb w) :
    Calls Tryz.prog 211 #[.string a0] w fun e w' => e = .returned (.string r) ∧ Below w.heap.size w w' := by
  unfold text_Fold.f at h
  split at h
  case isFalse => cases h
  case isTrue hlen =>
  obtain rfl := Option.some.inj h
  have HT := Aside0.mk hH
  have HLEN := Aside0.mk hlen
  have HB := Aside0.mk (Below.refl w.heap.size w)
  clear h hH hlen
  go_enter Tryz.func211, Tryz.ntmps211
  go_wp2_with ((with_reducible refine gate_dst (N := 12) rfl ?_); refine make_bytes w rfl rfl rfl a0.size rfl Tryz.underlying22 info5 (by have := HLEN.out; omega) HB.out ?_; intro v w1 hv hb; have HO := Aside0.mk hv; have HB1 := Aside0.mk hb; clear hv hb HB)
  generalize hkb : w1.heap.size = kb
  have HKB : Aside0 (w.heap.size ≤ kb) := ⟨by rw [← hkb]; exact HB1.out.size⟩
  have HIT : Aside0 ((w1.alloc (.stringIter a0 0)).heap[kb]? = some (.stringIter a0 0)) := ⟨by rw [← hkb]; exact heap_alloc_new w1 _⟩
  have HO0 := Aside0.mk (Kd.R_alloc HO.out (.stringIter a0 0))
  have HB0 := Aside0.mk (below_alloc HB1.out (.stringIter a0 0))
  clear HO HB1 hkb
  go_loopg [3, 4] (a0.size + 1) (fun kq v3 v4 w' => ∃ (pos : Nat) (bl : Bool) (acc : List Int) (f : Nat), v4 = .bool bl ∧ Aside0 (foldGo a0 f pos bl acc = foldGo a0 a0.size 0 false []) ∧ Aside0 (pos ≤ a0.size ∧ a0.size ≤ f + pos ∧ a0.size < kq + pos) ∧ Aside0 (acc.length ≤ 5 * pos) ∧
    Aside0 ((Kd.int .u8).R 5 w' w.heap.size (fun _ => True) v3 acc) ∧ Aside0 (w'.heap[kb]? = some (.stringIter a0 pos)) ∧ Aside0 (Below w.heap.size w w'))
  case atStart => exact ⟨0, false, [], a0.size, rfl, ⟨rfl⟩, ⟨⟨Nat.zero_le _, by omega, by omega⟩⟩, ⟨Nat.zero_le _⟩, HO0, HIT, HB0⟩
  case round =>
    clear HO0 HB0 HIT
    obtain ⟨pos, bl, acc, f, rfl, HF, HI, HA, HO, HIT, HB⟩ := hrel
    cases gk with
    | zero => exact absurd HI.out (by omega)
    | succ g1 =>
      by_cases hp : pos < a0.size
      rotate_left
      · have hnx : ∀ ty, (Instr.next (.pointer (some ⟨kb, 0, none⟩)) true ty).run Tryz.prog wr = _ := fun ty => Lib.run_next_end_at wr kb a0 pos ty HIT.out hp
        have hcv := own_string (P := Tryz.prog) Tryz.underlying22 Tryz.underlying5 Tryz.underlying9 (Kd.own_of_R HO.out)
        have hfe : foldGo a0 a0.size 0 false [] = acc := by
          rw [← HF.out]
          cases f with
          | zero => rfl
          | succ f => rw [foldGo, if_neg hp]
        go_wp2_with fail
        go_ret
        exact ⟨by rw [hfe]; rfl, HB.out⟩
      have hnx0 : ∀ ty, (Instr.next (.pointer (some ⟨kb, 0, none⟩)) true ty).run Tryz.prog wr = _ := fun ty => Lib.run_next_any_at wr kb a0 pos ty HIT.out hp
      obtain ⟨n1, n2, n4⟩ := decode_width a0 pos hp
      have hle := decode_le a0 pos
      obtain ⟨f1, rfl⟩ : ∃ f1, f = f1 + 1 := ⟨f - 1, by have := HI.out; omega⟩
      have hf := HF.out
      rw [foldGo, if_pos hp] at hf
      have hdg : Lib.decodeGo (a0.extract pos a0.size) = Utf8.decode a0 pos := by
        unfold Lib.decodeGo
        rw [if_neg (by rw [Lib.tail_size]; omega), Lib.tail_decode]
        first | done | rfl
      have HO1 := Aside0.mk (R_iter HO.out HIT.out (pos + (Utf8.decode a0 pos).2))
      have HIT1 := Aside0.mk (Lib.iterAt_heap wr kb a0 pos (pos + (Utf8.decode a0 pos).2) HIT.out)
      have HB1 := Aside0.mk (Lib.below_iterAt HB.out HKB.out a0 (pos + (Utf8.decode a0 pos).2))
      have hnx := hnx0
      clear HF HO HIT HB hnx0
      generalize wr.iterAt kb a0 (pos + (Utf8.decode a0 pos).2) = W2 at *
      generalize hc : (Utf8.decode a0 pos).1 = C at *
      generalize hn : (Utf8.decode a0 pos).2 = n at *
      have DG1 : Aside0 ((Lib.decodeGo (a0.extract pos a0.size)).1 = C) := ⟨by rw [hdg]; exact hc⟩
      have DG2 : Aside0 ((Lib.decodeGo (a0.extract pos a0.size)).2 = n) := ⟨by rw [hdg]; exact hn⟩
      have HFF := Aside0.mk hf
      have hw : wrap64 ((pos : Int) + (n : Int)) = (pos : Int) + (n : Int) := by unfold wrap64; have := HLEN.out; omega
      clear hdg hc hn hf
      by_cases h32 : (C : Int) = 32
      · have e1 : ((C : Int) == 32) = true := beq_iff_eq.2 h32
        go_wp2_with fail
        go_roundg g1
        case measure => exact Nat.lt_succ_self _
        case rel => exact ⟨pos + n, true, acc, f1, rfl, ⟨by have := HFF.out; rw [if_pos h32] at this; exact this⟩, ⟨by have := HI.out; omega⟩, ⟨by have := HA.out; omega⟩, HO1, HIT1, HB1⟩
      have e1 : ((C : Int) == 32) = false := by simpa using h32
      have HF2 : Aside0 ((if low (C : Int) = 65533 then foldGo a0 f1 (pos + n) false (foldOut bl acc ++ bytesOf (a0.extract pos (pos + n))) else foldGo a0 f1 (pos + n) false (foldOut bl acc ++ Lib.encodeRuneZ (low (C : Int)))) = foldGo a0 a0.size 0 false []) := ⟨by have := HFF.out; rw [if_neg h32] at this; exact this⟩
      clear HFF
      cases bl with
      | true =>
        obtain ⟨Ao, co, hu⟩ := Kd.R_slice HO1.out
        subst hu
        by_cases hlen : 0 < acc.length
        rotate_left
        · have e2 : decide ((0 : Int) < (acc.length : Int)) = false := decide_eq_false (by omega)
          by_cases u1 : (65 : Int) ≤ (C : Int)
          rotate_left
          · have e3 : decide ((65 : Int) ≤ (C : Int)) = false := decide_eq_false u1
            have e5 : ((C : Int) == 65533) = false := by simp; omega
            have hlo : low (C : Int) = (C : Int) := if_neg (by omega)
            have hfo : foldOut true acc = acc := by simp [foldOut, hlen]
            go_wp2_with fail
            refine (append_rune w (.slice Ao acc.length co) (acc) ((C : Int)) (by omega) (by omega) _ HO1.out (by have := HA.out; have := HLEN.out; omega) HB1.out).mono ?_
            rintro e W5 ⟨v5, rfl, hR5, hb5, hk5⟩
            have HO5 := Aside0.mk hR5
            have HB5 := Aside0.mk hb5
            have HIT5 := Aside0.mk (hk5 kb _ HIT1.out (iter_ne HO1.out HIT1.out))
            clear hR5 hb5 hk5
            go_wp2_with fail
            go_roundg g1
            case measure => exact Nat.lt_succ_self _
            case rel => exact ⟨pos + n, false, (acc) ++ Lib.encodeRuneZ ((C : Int)), f1, rfl, ⟨by have := HF2.out; rw [if_neg (by rw [hlo]; omega), hfo, hlo] at this; exact this⟩, ⟨by have := HI.out; omega⟩, ⟨by rw [List.length_append]; have := encodeRuneZ_len ((C : Int)); have := HA.out; omega⟩, HO5, HIT5, HB5⟩
          have e3 : decide ((65 : Int) ≤ (C : Int)) = true := decide_eq_true u1
          by_cases u2 : (C : Int) ≤ 90
          · have e4 : decide ((C : Int) ≤ 90) = true := decide_eq_true u2
            have e5 : ((C : Int) + 32 == 65533) = false := by simp; omega
            have hlo : low (C : Int) = (C : Int) + 32 := if_pos ⟨u1, u2⟩
            have hfo : foldOut true acc = acc := by simp [foldOut, hlen]
            go_wp2_with fail
            refine (append_rune w (.slice Ao acc.length co) (acc) ((C : Int) + 32) (by omega) (by omega) _ HO1.out (by have := HA.out; have := HLEN.out; omega) HB1.out).mono ?_
            rintro e W5 ⟨v5, rfl, hR5, hb5, hk5⟩
            have HO5 := Aside0.mk hR5
            have HB5 := Aside0.mk hb5
            have HIT5 := Aside0.mk (hk5 kb _ HIT1.out (iter_ne HO1.out HIT1.out))
            clear hR5 hb5 hk5
            go_wp2_with fail
            go_roundg g1
            case measure => exact Nat.lt_succ_self _
            case rel => exact ⟨pos + n, false, (acc) ++ Lib.encodeRuneZ ((C : Int) + 32), f1, rfl, ⟨by have := HF2.out; rw [if_neg (by rw [hlo]; omega), hfo, hlo] at this; exact this⟩, ⟨by have := HI.out; omega⟩, ⟨by rw [List.length_append]; have := encodeRuneZ_len ((C : Int) + 32); have := HA.out; omega⟩, HO5, HIT5, HB5⟩
          have e4 : decide ((C : Int) ≤ 90) = false := decide_eq_false u2
          have hl0 : low (C : Int) = (C : Int) := if_neg (by omega)
          by_cases u3_ : (C : Int) = 65533
          rotate_left
          · have e5 : ((C : Int) == 65533) = false := by simpa using u3_
            have hlo : low (C : Int) = (C : Int) := hl0
            have hfo : foldOut true acc = acc := by simp [foldOut, hlen]
            go_wp2_with fail
            refine (append_rune w (.slice Ao acc.length co) (acc) ((C : Int)) (by omega) (by omega) _ HO1.out (by have := HA.out; have := HLEN.out; omega) HB1.out).mono ?_
            rintro e W5 ⟨v5, rfl, hR5, hb5, hk5⟩
            have HO5 := Aside0.mk hR5
            have HB5 := Aside0.mk hb5
            have HIT5 := Aside0.mk (hk5 kb _ HIT1.out (iter_ne HO1.out HIT1.out))
            clear hR5 hb5 hk5
            go_wp2_with fail
            go_roundg g1
            case measure => exact Nat.lt_succ_self _
            case rel => exact ⟨pos + n, false, (acc) ++ Lib.encodeRuneZ ((C : Int)), f1, rfl, ⟨by have := HF2.out; rw [if_neg (by rw [hlo]; omega), hfo, hlo] at this; exact this⟩, ⟨by have := HI.out; omega⟩, ⟨by rw [List.length_append]; have := encodeRuneZ_len ((C : Int)); have := HA.out; omega⟩, HO5, HIT5, HB5⟩
          have e5 : ((C : Int) == 65533) = true := beq_iff_eq.2 u3_
          have hlo : low (C : Int) = 65533 := hl0.trans u3_
          have hfo : foldOut true acc = acc := by simp [foldOut, hlen]
          go_wp2_with fail
          refine (Tryz.utf8_DecodeRuneInString (a0.extract pos a0.size) _ (HT.out.below HB1.out).utf).mono ?_
          rintro e W5 ⟨rfl, hb5⟩
          rw [DG1.out, DG2.out]
          have HO5 := Aside0.mk (Kd.R_below HO1.out hb5)
          have HIT5 := Aside0.mk (keep_blk hb5 HIT1.out)
          have HB5 := Aside0.mk (below_step HB1.out hb5)
          clear hb5
          have hsl : (Instr.slice 9 (.string a0) (some (.int .i64 (pos : Int))) (some (.int .i64 ((pos : Int) + (n : Int)))) none).run Tryz.prog W5 = .ok (.string (a0.extract pos (pos + n))) W5 := by
            have := run_slice_string (P := Tryz.prog) W5 9 a0 .i64 .i64 (pos : Int) ((pos : Int) + (n : Int)) Tryz.underlying9 (by omega) (by omega) (by omega)
            rwa [Int.toNat_natCast, show ((pos : Int) + (n : Int)).toNat = pos + n by omega] at this
          go_wp2_with ((with_reducible refine gate_builtin (b := .append) (xs := #[.tmp 48, .tmp 54]) rfl ?_); at_builtin; refine print_append_str (w0 := w) w.heap.size rfl (.tmp 48) (.tmp 54) 22 9 5 rfl Tryz.underlying22 Tryz.underlying9 info5 (.slice Ao acc.length co) (acc) (a0.extract pos (pos + n)) rfl ?sx ?sO ?sB ?sS ?sL ?_; (case sx => rfl); (case sO => exact Kd.own_of_R HO5.out); (case sB => exact HB5.out); (case sS => exact below_size HB5.out); (case sL => have hz := ext_size a0 pos (pos + n) n2; have := HA.out; have := HLEN.out; omega); intro v6 W6 ho hb hgr; have HO6 : Aside0 ((Kd.int .u8).R 5 W6 w.heap.size (fun _ => True) v6 ((acc) ++ bytesOf (a0.extract pos (pos + n)))) := ⟨Kd.R_of_own ho (fun _ _ => trivial)⟩; have HB6 := Aside0.mk hb; have HIT6 := Aside0.mk (blk_grown HIT5.out hgr (iter_ne HO5.out HIT5.out)); clear ho hb hgr)
          go_roundg g1
          case measure => exact Nat.lt_succ_self _
          case rel => exact ⟨pos + n, false, (acc) ++ bytesOf (a0.extract pos (pos + n)), f1, rfl, ⟨by have := HF2.out; rw [if_pos hlo, hfo] at this; exact this⟩, ⟨by have := HI.out; omega⟩, ⟨by rw [List.length_append, bytesOf_length, ext_size a0 pos (pos + n) n2]; have := HA.out; omega⟩, HO6, HIT6, HB6⟩
        have e2 : decide ((0 : Int) < (acc.length : Int)) = true := decide_eq_true (by omega)
        by_cases u1 : (65 : Int) ≤ (C : Int)
        rotate_left
        · have e3 : decide ((65 : Int) ≤ (C : Int)) = false := decide_eq_false u1
          have e5 : ((C : Int) == 65533) = false := by simp; omega
          have hlo : low (C : Int) = (C : Int) := if_neg (by omega)
          have hfo : foldOut true acc = acc ++ [32] := by simp [foldOut, hlen]
          go_wp2_with (first | ((with_reducible refine gate_builtin (b := .append) (xs := #[.tmp 28, .tmp 29]) rfl ?_); at_builtin; refine Kd.R_append (Kd.int .u8) (w0 := w) w.heap.size rfl (.tmp 28) (.tmp 29) 22 5 (.int .u8 0) 1 rfl Tryz.underlying22 info5 rfl (by decide) (by omega) (.slice Ao acc.length co) acc 32 [.int .u8 32] (fun _ => True) (fun _ => False) rfl rfl ?aP (fun _ hk => hk.elim) ?aF ?aO ?aB ?aS ?aL ?_; (case aP => exact rfl); (case aF => exact (fun _ _ => trivial)); (case aO => exact HO1.out); (case aB => exact HB1.out); (case aS => exact (below_size HB1.out)); (case aL => have := HA.out; have := HLEN.out; omega); intro v2 W3 ho hb hgr hat; have HO2 := Aside0.mk ho; have HB2 := Aside0.mk hb; have HIT2 := Aside0.mk (blk_grown HIT1.out hgr (iter_ne HO1.out HIT1.out)); clear ho hb hgr hat))
          refine (append_rune w v2 (acc ++ [32]) ((C : Int)) (by omega) (by omega) _ HO2.out (by rw [List.length_append, List.length_singleton]; have := HA.out; have := HLEN.out; omega) HB2.out).mono ?_
          rintro e W5 ⟨v5, rfl, hR5, hb5, hk5⟩
          have HO5 := Aside0.mk hR5
          have HB5 := Aside0.mk hb5
          have HIT5 := Aside0.mk (hk5 kb _ HIT2.out (iter_ne HO2.out HIT2.out))
          clear hR5 hb5 hk5
          go_wp2_with fail
          go_roundg g1
          case measure => exact Nat.lt_succ_self _
          case rel => exact ⟨pos + n, false, (acc ++ [32]) ++ Lib.encodeRuneZ ((C : Int)), f1, rfl, ⟨by have := HF2.out; rw [if_neg (by rw [hlo]; omega), hfo, hlo] at this; exact this⟩, ⟨by have := HI.out; omega⟩, ⟨by rw [List.length_append]; rw [List.length_append, List.length_singleton]; have := encodeRuneZ_len ((C : Int)); have := HA.out; omega⟩, HO5, HIT5, HB5⟩
        have e3 : decide ((65 : Int) ≤ (C : Int)) = true := decide_eq_true u1
        by_cases u2 : (C : Int) ≤ 90
        · have e4 : decide ((C : Int) ≤ 90) = true := decide_eq_true u2
          have e5 : ((C : Int) + 32 == 65533) = false := by simp; omega
          have hlo : low (C : Int) = (C : Int) + 32 := if_pos ⟨u1, u2⟩
          have hfo : foldOut true acc = acc ++ [32] := by simp [foldOut, hlen]
          go_wp2_with (first | ((with_reducible refine gate_builtin (b := .append) (xs := #[.tmp 28, .tmp 29]) rfl ?_); at_builtin; refine Kd.R_append (Kd.int .u8) (w0 := w) w.heap.size rfl (.tmp 28) (.tmp 29) 22 5 (.int .u8 0) 1 rfl Tryz.underlying22 info5 rfl (by decide) (by omega) (.slice Ao acc.length co) acc 32 [.int .u8 32] (fun _ => True) (fun _ => False) rfl rfl ?aP (fun _ hk => hk.elim) ?aF ?aO ?aB ?aS ?aL ?_; (case aP => exact rfl); (case aF => exact (fun _ _ => trivial)); (case aO => exact HO1.out); (case aB => exact HB1.out); (case aS => exact (below_size HB1.out)); (case aL => have := HA.out; have := HLEN.out; omega); intro v2 W3 ho hb hgr hat; have HO2 := Aside0.mk ho; have HB2 := Aside0.mk hb; have HIT2 := Aside0.mk (blk_grown HIT1.out hgr (iter_ne HO1.out HIT1.out)); clear ho hb hgr hat))
          refine (append_rune w v2 (acc ++ [32]) ((C : Int) + 32) (by omega) (by omega) _ HO2.out (by rw [List.length_append, List.length_singleton]; have := HA.out; have := HLEN.out; omega) HB2.out).mono ?_
          rintro e W5 ⟨v5, rfl, hR5, hb5, hk5⟩
          have HO5 := Aside0.mk hR5
          have HB5 := Aside0.mk hb5
          have HIT5 := Aside0.mk (hk5 kb _ HIT2.out (iter_ne HO2.out HIT2.out))
          clear hR5 hb5 hk5
          go_wp2_with fail
          go_roundg g1
          case measure => exact Nat.lt_succ_self _
          case rel => exact ⟨pos + n, false, (acc ++ [32]) ++ Lib.encodeRuneZ ((C : Int) + 32), f1, rfl, ⟨by have := HF2.out; rw [if_neg (by rw [hlo]; omega), hfo, hlo] at this; exact this⟩, ⟨by have := HI.out; omega⟩, ⟨by rw [List.length_append]; rw [List.length_append, List.length_singleton]; have := encodeRuneZ_len ((C : Int) + 32); have := HA.out; omega⟩, HO5, HIT5, HB5⟩
        have e4 : decide ((C : Int) ≤ 90) = false := decide_eq_false u2
        have hl0 : low (C : Int) = (C : Int) := if_neg (by omega)
        by_cases u3_ : (C : Int) = 65533
        rotate_left
        · have e5 : ((C : Int) == 65533) = false := by simpa using u3_
          have hlo : low (C : Int) = (C : Int) := hl0
          have hfo : foldOut true acc = acc ++ [32] := by simp [foldOut, hlen]
          go_wp2_with (first | ((with_reducible refine gate_builtin (b := .append) (xs := #[.tmp 28, .tmp 29]) rfl ?_); at_builtin; refine Kd.R_append (Kd.int .u8) (w0 := w) w.heap.size rfl (.tmp 28) (.tmp 29) 22 5 (.int .u8 0) 1 rfl Tryz.underlying22 info5 rfl (by decide) (by omega) (.slice Ao acc.length co) acc 32 [.int .u8 32] (fun _ => True) (fun _ => False) rfl rfl ?aP (fun _ hk => hk.elim) ?aF ?aO ?aB ?aS ?aL ?_; (case aP => exact rfl); (case aF => exact (fun _ _ => trivial)); (case aO => exact HO1.out); (case aB => exact HB1.out); (case aS => exact (below_size HB1.out)); (case aL => have := HA.out; have := HLEN.out; omega); intro v2 W3 ho hb hgr hat; have HO2 := Aside0.mk ho; have HB2 := Aside0.mk hb; have HIT2 := Aside0.mk (blk_grown HIT1.out hgr (iter_ne HO1.out HIT1.out)); clear ho hb hgr hat))
          refine (append_rune w v2 (acc ++ [32]) ((C : Int)) (by omega) (by omega) _ HO2.out (by rw [List.length_append, List.length_singleton]; have := HA.out; have := HLEN.out; omega) HB2.out).mono ?_
          rintro e W5 ⟨v5, rfl, hR5, hb5, hk5⟩
          have HO5 := Aside0.mk hR5
          have HB5 := Aside0.mk hb5
          have HIT5 := Aside0.mk (hk5 kb _ HIT2.out (iter_ne HO2.out HIT2.out))
          clear hR5 hb5 hk5
          go_wp2_with fail
          go_roundg g1
          case measure => exact Nat.lt_succ_self _
          case rel => exact ⟨pos + n, false, (acc ++ [32]) ++ Lib.encodeRuneZ ((C : Int)), f1, rfl, ⟨by have := HF2.out; rw [if_neg (by rw [hlo]; omega), hfo, hlo] at this; exact this⟩, ⟨by have := HI.out; omega⟩, ⟨by rw [List.length_append]; rw [List.length_append, List.length_singleton]; have := encodeRuneZ_len ((C : Int)); have := HA.out; omega⟩, HO5, HIT5, HB5⟩
        have e5 : ((C : Int) == 65533) = true := beq_iff_eq.2 u3_
        have hlo : low (C : Int) = 65533 := hl0.trans u3_
        have hfo : foldOut true acc = acc ++ [32] := by simp [foldOut, hlen]
        go_wp2_with (first | ((with_reducible refine gate_builtin (b := .append) (xs := #[.tmp 28, .tmp 29]) rfl ?_); at_builtin; refine Kd.R_append (Kd.int .u8) (w0 := w) w.heap.size rfl (.tmp 28) (.tmp 29) 22 5 (.int .u8 0) 1 rfl Tryz.underlying22 info5 rfl (by decide) (by omega) (.slice Ao acc.length co) acc 32 [.int .u8 32] (fun _ => True) (fun _ => False) rfl rfl ?aP (fun _ hk => hk.elim) ?aF ?aO ?aB ?aS ?aL ?_; (case aP => exact rfl); (case aF => exact (fun _ _ => trivial)); (case aO => exact HO1.out); (case aB => exact HB1.out); (case aS => exact (below_size HB1.out)); (case aL => have := HA.out; have := HLEN.out; omega); intro v2 W3 ho hb hgr hat; have HO2 := Aside0.mk ho; have HB2 := Aside0.mk hb; have HIT2 := Aside0.mk (blk_grown HIT1.out hgr (iter_ne HO1.out HIT1.out)); clear ho hb hgr hat))
        refine (Tryz.utf8_DecodeRuneInString (a0.extract pos a0.size) _ (HT.out.below HB2.out).utf).mono ?_
        rintro e W5 ⟨rfl, hb5⟩
        rw [DG1.out, DG2.out]
        have HO5 := Aside0.mk (Kd.R_below HO2.out hb5)
        have HIT5 := Aside0.mk (keep_blk hb5 HIT2.out)
        have HB5 := Aside0.mk (below_step HB2.out hb5)
        clear hb5
        have hsl : (Instr.slice 9 (.string a0) (some (.int .i64 (pos : Int))) (some (.int .i64 ((pos : Int) + (n : Int)))) none).run Tryz.prog W5 = .ok (.string (a0.extract pos (pos + n))) W5 := by
          have := run_slice_string (P := Tryz.prog) W5 9 a0 .i64 .i64 (pos : Int) ((pos : Int) + (n : Int)) Tryz.underlying9 (by omega) (by omega) (by omega)
          rwa [Int.toNat_natCast, show ((pos : Int) + (n : Int)).toNat = pos + n by omega] at this
        go_wp2_with ((with_reducible refine gate_builtin (b := .append) (xs := #[.tmp 48, .tmp 54]) rfl ?_); at_builtin; refine print_append_str (w0 := w) w.heap.size rfl (.tmp 48) (.tmp 54) 22 9 5 rfl Tryz.underlying22 Tryz.underlying9 info5 v2 (acc ++ [32]) (a0.extract pos (pos + n)) rfl ?sx ?sO ?sB ?sS ?sL ?_; (case sx => rfl); (case sO => exact Kd.own_of_R HO5.out); (case sB => exact HB5.out); (case sS => exact below_size HB5.out); (case sL => have hz := ext_size a0 pos (pos + n) n2; rw [List.length_append, List.length_singleton]; have := HA.out; have := HLEN.out; omega); intro v6 W6 ho hb hgr; have HO6 : Aside0 ((Kd.int .u8).R 5 W6 w.heap.size (fun _ => True) v6 ((acc ++ [32]) ++ bytesOf (a0.extract pos (pos + n)))) := ⟨Kd.R_of_own ho (fun _ _ => trivial)⟩; have HB6 := Aside0.mk hb; have HIT6 := Aside0.mk (blk_grown HIT5.out hgr (iter_ne HO5.out HIT5.out)); clear ho hb hgr)
        go_roundg g1
        case measure => exact Nat.lt_succ_self _
        case rel => exact ⟨pos + n, false, (acc ++ [32]) ++ bytesOf (a0.extract pos (pos + n)), f1, rfl, ⟨by have := HF2.out; rw [if_pos hlo, hfo] at this; exact this⟩, ⟨by have := HI.out; omega⟩, ⟨by rw [List.length_append, bytesOf_length, ext_size a0 pos (pos + n) n2]; rw [List.length_append, List.length_singleton]; have := HA.out; omega⟩, HO6, HIT6, HB6⟩
      | false =>
        by_cases u1 : (65 : Int) ≤ (C : Int)
        rotate_left
        · have e3 : decide ((65 : Int) ≤ (C : Int)) = false := decide_eq_false u1
          have e5 : ((C : Int) == 65533) = false := by simp; omega
          have hlo : low (C : Int) = (C : Int) := if_neg (by omega)
          have hfo : foldOut false acc = acc := by simp [foldOut]
          go_wp2_with fail
          refine (append_rune w u3 (acc) ((C : Int)) (by omega) (by omega) _ HO1.out (by have := HA.out; have := HLEN.out; omega) HB1.out).mono ?_
          rintro e W5 ⟨v5, rfl, hR5, hb5, hk5⟩
          have HO5 := Aside0.mk hR5
          have HB5 := Aside0.mk hb5
          have HIT5 := Aside0.mk (hk5 kb _ HIT1.out (iter_ne HO1.out HIT1.out))
          clear hR5 hb5 hk5
          go_wp2_with fail
          go_roundg g1
          case measure => exact Nat.lt_succ_self _
          case rel => exact ⟨pos + n, false, (acc) ++ Lib.encodeRuneZ ((C : Int)), f1, rfl, ⟨by have := HF2.out; rw [if_neg (by rw [hlo]; omega), hfo, hlo] at this; exact this⟩, ⟨by have := HI.out; omega⟩, ⟨by rw [List.length_append]; have := encodeRuneZ_len ((C : Int)); have := HA.out; omega⟩, HO5, HIT5, HB5⟩
        have e3 : decide ((65 : Int) ≤ (C : Int)) = true := decide_eq_true u1
        by_cases u2 : (C : Int) ≤ 90
        · have e4 : decide ((C : Int) ≤ 90) = true := decide_eq_true u2
          have e5 : ((C : Int) + 32 == 65533) = false := by simp; omega
          have hlo : low (C : Int) = (C : Int) + 32 := if_pos ⟨u1, u2⟩
          have hfo : foldOut false acc = acc := by simp [foldOut]
          go_wp2_with fail
          refine (append_rune w u3 (acc) ((C : Int) + 32) (by omega) (by omega) _ HO1.out (by have := HA.out; have := HLEN.out; omega) HB1.out).mono ?_
          rintro e W5 ⟨v5, rfl, hR5, hb5, hk5⟩
          have HO5 := Aside0.mk hR5
          have HB5 := Aside0.mk hb5
          have HIT5 := Aside0.mk (hk5 kb _ HIT1.out (iter_ne HO1.out HIT1.out))
          clear hR5 hb5 hk5
          go_wp2_with fail
          go_roundg g1
          case measure => exact Nat.lt_succ_self _
          case rel => exact ⟨pos + n, false, (acc) ++ Lib.encodeRuneZ ((C : Int) + 32), f1, rfl, ⟨by have := HF2.out; rw [if_neg (by rw [hlo]; omega), hfo, hlo] at this; exact this⟩, ⟨by have := HI.out; omega⟩, ⟨by rw [List.length_append]; have := encodeRuneZ_len ((C : Int) + 32); have := HA.out; omega⟩, HO5, HIT5, HB5⟩
        have e4 : decide ((C : Int) ≤ 90) = false := decide_eq_false u2
        have hl0 : low (C : Int) = (C : Int) := if_neg (by omega)
        by_cases u3_ : (C : Int) = 65533
        rotate_left
        · have e5 : ((C : Int) == 65533) = false := by simpa using u3_
          have hlo : low (C : Int) = (C : Int) := hl0
          have hfo : foldOut false acc = acc := by simp [foldOut]
          go_wp2_with fail
          refine (append_rune w u3 (acc) ((C : Int)) (by omega) (by omega) _ HO1.out (by have := HA.out; have := HLEN.out; omega) HB1.out).mono ?_
          rintro e W5 ⟨v5, rfl, hR5, hb5, hk5⟩
          have HO5 := Aside0.mk hR5
          have HB5 := Aside0.mk hb5
          have HIT5 := Aside0.mk (hk5 kb _ HIT1.out (iter_ne HO1.out HIT1.out))
          clear hR5 hb5 hk5
          go_wp2_with fail
          go_roundg g1
          case measure => exact Nat.lt_succ_self _
          case rel => exact ⟨pos + n, false, (acc) ++ Lib.encodeRuneZ ((C : Int)), f1, rfl, ⟨by have := HF2.out; rw [if_neg (by rw [hlo]; omega), hfo, hlo] at this; exact this⟩, ⟨by have := HI.out; omega⟩, ⟨by rw [List.length_append]; have := encodeRuneZ_len ((C : Int)); have := HA.out; omega⟩, HO5, HIT5, HB5⟩
        have e5 : ((C : Int) == 65533) = true := beq_iff_eq.2 u3_
        have hlo : low (C : Int) = 65533 := hl0.trans u3_
        have hfo : foldOut false acc = acc := by simp [foldOut]
        go_wp2_with fail
        refine (Tryz.utf8_DecodeRuneInString (a0.extract pos a0.size) _ (HT.out.below HB1.out).utf).mono ?_
        rintro e W5 ⟨rfl, hb5⟩
        rw [DG1.out, DG2.out]
        have HO5 := Aside0.mk (Kd.R_below HO1.out hb5)
        have HIT5 := Aside0.mk (keep_blk hb5 HIT1.out)
        have HB5 := Aside0.mk (below_step HB1.out hb5)
        clear hb5
        have hsl : (Instr.slice 9 (.string a0) (some (.int .i64 (pos : Int))) (some (.int .i64 ((pos : Int) + (n : Int)))) none).run Tryz.prog W5 = .ok (.string (a0.extract pos (pos + n))) W5 := by
          have := run_slice_string (P := Tryz.prog) W5 9 a0 .i64 .i64 (pos : Int) ((pos : Int) + (n : Int)) Tryz.underlying9 (by omega) (by omega) (by omega)
          rwa [Int.toNat_natCast, show ((pos : Int) + (n : Int)).toNat = pos + n by omega] at this
        go_wp2_with ((with_reducible refine gate_builtin (b := .append) (xs := #[.tmp 48, .tmp 54]) rfl ?_); at_builtin; refine print_append_str (w0 := w) w.heap.size rfl (.tmp 48) (.tmp 54) 22 9 5 rfl Tryz.underlying22 Tryz.underlying9 info5 u3 (acc) (a0.extract pos (pos + n)) rfl ?sx ?sO ?sB ?sS ?sL ?_; (case sx => rfl); (case sO => exact Kd.own_of_R HO5.out); (case sB => exact HB5.out); (case sS => exact below_size HB5.out); (case sL => have hz := ext_size a0 pos (pos + n) n2; have := HA.out; have := HLEN.out; omega); intro v6 W6 ho hb hgr; have HO6 : Aside0 ((Kd.int .u8).R 5 W6 w.heap.size (fun _ => True) v6 ((acc) ++ bytesOf (a0.extract pos (pos + n)))) := ⟨Kd.R_of_own ho (fun _ _ => trivial)⟩; have HB6 := Aside0.mk hb; have HIT6 := Aside0.mk (blk_grown HIT5.out hgr (iter_ne HO5.out HIT5.out)); clear ho hb hgr)
        go_roundg g1
        case measure => exact Nat.lt_succ_self _
        case rel => exact ⟨pos + n, false, (acc) ++ bytesOf (a0.extract pos (pos + n)), f1, rfl, ⟨by have := HF2.out; rw [if_pos hlo, hfo] at this; exact this⟩, ⟨by have := HI.out; omega⟩, ⟨by rw [List.length_append, bytesOf_length, ext_size a0 pos (pos + n) n2]; have := HA.out; omega⟩, HO6, HIT6, HB6⟩
end Go.Proofs.YtkioddjjfifadaaGreatDoor.P
set_option linter.unusedVariables false
set_option linter.unusedSimpArgs false
namespace Go.Proofs.YtkioddjjfifadaaGreatDoor.P
open Go.RowKit Go.Proofs.YtkioddjjfifadaaGreatDoorW.PrintWords Go.Proofs.YtkioddjjfifadaaGreatDoorW.PrintLast Go.Proofs.YtkioddjjfifadaaGreatDoorW.PrintMore
attribute [local go_sem] max2_int min2_int max_two min_two max_three min_three max_four min_four
theorem R_iterG {α : Type} {d : Kd α} {e B kb p : Nat} {ok : Nat → Prop} {s : ByteArray} {w : World} {v : Value} {xs : List α} (h : d.R e w B ok v xs) (hb : w.heap[kb]? = some (.stringIter s p)) (p' : Nat) : d.R e (w.iterAt kb s p') B ok v xs :=
  Kd.R_mono (Kd.R_move (Kd.R_bound h) (fun k hk => by
    refine Lib.iterAt_other w kb k s p' ?_
    rintro rfl
    obtain ⟨_, _, _, _, _, cells, hc⟩ := hk
    rw [hb] at hc
    cases hc)) (fun _ hk => hk.1)
theorem iter_neG {α : Type} {d : Kd α} {e B kb p : Nat} {ok : Nat → Prop} {s : ByteArray} {w : World} {v : Value} {xs : List α} (h : d.R e w B ok v xs) (hb : w.heap[kb]? = some (.stringIter s p)) : some kb ≠ v.ownBlock := fun e => by
  obtain ⟨inner, ho⟩ := Kd.R_own h
  obtain ⟨cells, hc⟩ := own_typed ho kb e.symm
  rw [hb] at hc
  cases hc
def arcsGo (s : ByteArray) : Nat → Nat → List Int → Int → Int → Option (List Int)
  | 0, _, _, _, _ => none
  | f + 1, pos, l, v, n =>
    if pos < s.size then
      (if ((Utf8.decode s pos).1 : Int) = 46 ∧ 0 < n then arcsGo s f (pos + (Utf8.decode s pos).2) (l ++ [v]) 0 0
       else if ((Utf8.decode s pos).1 : Int) < 48 ∨ 57 < ((Utf8.decode s pos).1 : Int) ∨ (n = 1 ∧ v = 0) then none
       else arcsGo s f (pos + (Utf8.decode s pos).2) l (min (10 * v + (((Utf8.decode s pos).1 : Int) - 48)) 1099511627776) (min (n + 1) 20))
    else some l
def arcsEnd (l : List Int) : List Int × Bool :=
  if (l.length : Int) < 2 then ([], false) else if 2 < rd l 0 then ([], false) else if rd l 0 < 2 then (if 40 ≤ rd l 1 then ([], false) else (l, true)) else (l, true)
def der_arcs.f (a0 : ByteArray) : Option (List Int × Bool) :=
  if a0.size < 8796093022208 then some (match arcsGo (a0 ++ ⟨#[46]⟩) (a0.size + 2) 0 [] 0 0 with | none => ([], false) | some l => arcsEnd l) else none
set_option maxRecDepth 100000 in
set_option maxHeartbeats 8000000 in
theorem der_arcs.calls (a0 : ByteArray) (r1 : List Int) (r2 : Bool) (w : World) (h : der_arcs.f a0 = some (r1, r2)) :
    Calls Tryz.prog 238 #[.string a0] w fun e w' => ∃ v0_ : Value, e = .returned (.tuple #[v0_, .bool r2]) ∧ Kd.R (Kd.int .u64) 278 w' w.heap.size (fun _ => True) v0_ r1 ∧ Below w.heap.size w w' := by
  unfold der_arcs.f at h
  split at h
  case isFalse => cases h
  case isTrue hlen =>
  have h := Option.some.inj h
  have HLEN := Aside0.mk hlen
  have z46 : (⟨#[46]⟩ : ByteArray).size = 1 := rfl
  have hsz : (a0 ++ (⟨#[46]⟩ : ByteArray)).size = a0.size + 1 := by rw [ByteArray.size_append, z46]
  have yy : (9223372036854775807 < a0.size + 1) = False := eq_false (by omega)
  have HB0 := Aside0.mk (below_alloc (Below.refl w.heap.size w) (.stringIter (a0 ++ (⟨#[46]⟩ : ByteArray)) 0))
  have HIT : Aside0 ((w.alloc (.stringIter (a0 ++ (⟨#[46]⟩ : ByteArray)) 0)).heap[w.heap.size]? = some (.stringIter (a0 ++ (⟨#[46]⟩ : ByteArray)) 0)) := ⟨heap_alloc_new w _⟩
  have HE := Aside0.mk h
  have HSZ := Aside0.mk hsz
  clear h hsz hlen
  go_enter Tryz.func238, Tryz.ntmps238
  go_wp2_with fail
  generalize hS : a0 ++ (⟨#[46]⟩ : ByteArray) = S at *
  clear hS yy z46
  go_loopg [4, 5, 6] (S.size + 1) (fun kq v4 v5 v6 w' => ∃ (pos : Nat) (l : List Int) (v n : Int) (f : Nat), v5 = .int .u64 v ∧ v6 = .int .i64 n ∧ Aside0 (arcsGo S f pos l v n = arcsGo S (a0.size + 2) 0 [] 0 0) ∧ Aside0 (pos ≤ S.size ∧ S.size < f + pos ∧ S.size < kq + pos) ∧ Aside0 (l.length ≤ pos) ∧
    Aside0 (0 ≤ v ∧ v ≤ 1099511627776 ∧ 0 ≤ n ∧ n ≤ 20) ∧ Aside0 ((Kd.int .u64).R 278 w' w.heap.size (fun _ => True) v4 l) ∧ Aside0 (w'.heap[w.heap.size]? = some (.stringIter S pos)) ∧ Aside0 (Below w.heap.size w w'))
  case atStart => exact ⟨0, [], 0, 0, a0.size + 2, rfl, rfl, ⟨rfl⟩, ⟨⟨Nat.zero_le _, by have := HSZ.out; omega, by omega⟩⟩, ⟨Nat.zero_le _⟩, ⟨by decide⟩, ⟨Kd.R_nil _ _ _ _ _⟩, HIT, HB0⟩
  case round =>
    clear HB0 HIT
    obtain ⟨pos, l, v, n, f, rfl, rfl, HF, HI, HA, HV, HO, HIT, HB⟩ := hrel
    cases gk with
    | zero => exact absurd HI.out (by omega)
    | succ g1 =>
      obtain ⟨f1, rfl⟩ : ∃ f1, f = f1 + 1 := ⟨f - 1, by have := HI.out; omega⟩
      by_cases hp : pos < S.size
      rotate_left
      · have he : pos = S.size := by have := HI.out; omega
        have HR : Aside0 (arcsGo S (a0.size + 2) 0 [] 0 0 = some l) := ⟨by have := HF.out; rw [arcsGo, if_neg hp] at this; exact this.symm⟩
        have hE := HE.out
        rw [HR.out] at hE
        have HE2 : Aside0 (arcsEnd l = (r1, r2)) := ⟨hE⟩
        have hnx0 : ∀ ty, (Instr.next (.pointer (some ⟨w.heap.size, 0, none⟩)) true ty).run Tryz.prog wr = _ := fun ty => Lib.run_next_end_at wr w.heap.size S pos ty HIT.out (by omega)
        obtain ⟨Ao, co, hu⟩ := Kd.R_slice HO.out
        subst hu
        have HC := Aside0.mk (Kd.R_reads' HO.out).2.2
        have hnx := hnx0
        clear hnx0 hE
        by_cases hl : (l.length : Int) < 2
        · have e1 : decide ((l.length : Int) < 2) = true := decide_eq_true hl
          have HX : Aside0 (([], false) = (r1, r2)) := ⟨by have := HE2.out; rw [arcsEnd, if_pos hl] at this; exact this⟩
          clear hl
          go_wp2_with fail
          go_ret2
          obtain ⟨rfl, rfl⟩ := Prod.mk.inj (HX.out)
          exact ⟨_, rfl, Kd.R_nil _ _ _ _ _, HB.out⟩
        have e1 : decide ((l.length : Int) < 2) = false := decide_eq_false hl
        have p244 : 0 ≤ (0 : Int) := (by omega)
        have q244 : 0 < (l.length : Int) := by omega
        obtain ⟨ad244, e244, hx244_0⟩ := Kd.at_int HC.out 0 p244 q244
        cases e244
        have qi244 : (0 < l.length) = True := eq_true (by omega)
        (try rw [show ((0 : Int)).toNat = 0 from rfl] at hx244_0)
        (try rw [Addr.add_zero'] at hx244_0)
        replace p244 := eq_true p244
        replace q244 := eq_true q244
        by_cases h2 : 2 < rd l 0
        · have e2 : decide (2 < rd l 0) = true := decide_eq_true h2
          have HX : Aside0 (([], false) = (r1, r2)) := ⟨by have := HE2.out; rw [arcsEnd, if_neg hl, if_pos h2] at this; exact this⟩
          clear h2
          clear hl
          go_wp2_with fail
          go_ret2
          obtain ⟨rfl, rfl⟩ := Prod.mk.inj (HX.out)
          exact ⟨_, rfl, Kd.R_nil _ _ _ _ _, HB.out⟩
        have e2 : decide (2 < rd l 0) = false := decide_eq_false h2
        by_cases h3 : rd l 0 < 2
        rotate_left
        · have e3 : decide (rd l 0 < 2) = false := decide_eq_false h3
          have HX : Aside0 ((l, true) = (r1, r2)) := ⟨by have := HE2.out; rw [arcsEnd, if_neg hl, if_neg h2, if_neg h3] at this; exact this⟩
          clear h2 h3
          clear hl
          go_wp2_with fail
          go_ret2
          obtain ⟨rfl, rfl⟩ := Prod.mk.inj (HX.out)
          exact ⟨_, rfl, HO.out, HB.out⟩
        have e3 : decide (rd l 0 < 2) = true := decide_eq_true h3
        have p245 : 0 ≤ (1 : Int) := (by omega)
        have q245 : 1 < (l.length : Int) := by omega
        obtain ⟨ad245, e245, hx245_0⟩ := Kd.at_int HC.out 1 p245 q245
        obtain rfl : ad244 = ad245 := (by injection e245)
        (try simp only [show (1 : Int).toNat = 1 from rfl, Nat.reduceMul, Nat.reduceEqDiff, Go.Addr.add, ↓reduceIte] at hx245_0)
        have qi245 : (1 < l.length) = True := eq_true (by omega)
        (try rw [show ((1 : Int)).toNat = 1 from rfl] at hx245_0)
        replace p245 := eq_true p245
        replace q245 := eq_true q245
        by_cases h4 : 40 ≤ rd l 1
        rotate_left
        · have e4 : decide (40 ≤ rd l 1) = false := decide_eq_false h4
          have HX : Aside0 ((l, true) = (r1, r2)) := ⟨by have := HE2.out; rw [arcsEnd, if_neg hl, if_neg h2, if_pos h3, if_neg h4] at this; exact this⟩
          clear h2 h3 h4
          clear hl
          go_wp2_with fail
          go_ret2
          obtain ⟨rfl, rfl⟩ := Prod.mk.inj (HX.out)
          exact ⟨_, rfl, HO.out, HB.out⟩
        have e4 : decide (40 ≤ rd l 1) = true := decide_eq_true h4
        have HX : Aside0 (([], false) = (r1, r2)) := ⟨by have := HE2.out; rw [arcsEnd, if_neg hl, if_neg h2, if_pos h3, if_pos h4] at this; exact this⟩
        clear h2 h3 h4
        clear hl
        go_wp2_with fail
        go_ret2
        obtain ⟨rfl, rfl⟩ := Prod.mk.inj (HX.out)
        exact ⟨_, rfl, Kd.R_nil _ _ _ _ _, HB.out⟩
      have hnx0 : ∀ ty, (Instr.next (.pointer (some ⟨w.heap.size, 0, none⟩)) true ty).run Tryz.prog wr = _ := fun ty => Lib.run_next_any_at wr w.heap.size S pos ty HIT.out hp
      obtain ⟨n1, n2, n4⟩ := decode_width S pos hp
      have hle := decode_le S pos
      have hf := HF.out
      rw [arcsGo, if_pos hp] at hf
      have HO1 := Aside0.mk (R_iterG HO.out HIT.out (pos + (Utf8.decode S pos).2))
      have HIT1 := Aside0.mk (Lib.iterAt_heap wr w.heap.size S pos (pos + (Utf8.decode S pos).2) HIT.out)
      have HB1 := Aside0.mk (Lib.below_iterAt HB.out (Nat.le_refl _) S (pos + (Utf8.decode S pos).2))
      have hnx := hnx0
      clear HF HO HIT HB hnx0
      generalize wr.iterAt w.heap.size S (pos + (Utf8.decode S pos).2) = W2 at *
      generalize hc : (Utf8.decode S pos).1 = C at *
      generalize hn : (Utf8.decode S pos).2 = m at *
      have HFF := Aside0.mk hf
      clear hc hn hf
      have hv0 := HV.out.1
      have hv1 := HV.out.2.1
      have hn0 := HV.out.2.2.1
      have hn2 := HV.out.2.2.2
      obtain ⟨Ao, co, hu⟩ := Kd.R_slice HO1.out
      subst hu
      by_cases h46 : (C : Int) = 46
      · have e1 : ((C : Int) == 46) = true := beq_iff_eq.2 h46
        by_cases hn3 : 0 < n
        · have e2 : decide (0 < n) = true := decide_eq_true hn3
          clear hv0 hv1 hn0 hn2
          go_wp2_with ((with_reducible refine gate_builtin (b := .append) (xs := #[.tmp 32, .tmp 34]) rfl ?_); at_builtin; refine Kd.R_append (Kd.int .u64) (w0 := w) w.heap.size rfl (.tmp 32) (.tmp 34) 277 278 (.int .u64 0) 8 rfl Tryz.underlying277 info278 rfl (by decide) (by omega) (.slice Ao l.length co) l v [.int .u64 v] (fun _ => True) (fun _ => False) rfl rfl ?aP (fun _ hk => hk.elim) ?aF ?aO ?aB ?aS ?aL ?_; (case aP => exact rfl); (case aF => exact (fun _ _ => trivial)); (case aO => exact HO1.out); (case aB => exact HB1.out); (case aS => exact (below_size HB1.out)); (case aL => have := HA.out; have := HI.out; have := HLEN.out; have := HSZ.out; omega); intro v2 W3 ho hb hgr hat; have HO2 := Aside0.mk ho; have HB2 := Aside0.mk hb; have HIT2 := Aside0.mk (blk_grown HIT1.out hgr (iter_neG HO1.out HIT1.out)); clear ho hb hgr hat)
          go_roundg g1
          case measure => exact Nat.lt_succ_self _
          case rel => exact ⟨pos + m, l ++ [v], 0, 0, f1, rfl, rfl, ⟨by have := HFF.out; rw [if_pos ⟨h46, hn3⟩] at this; exact this⟩, ⟨by have := HI.out; omega⟩, ⟨by rw [List.length_append, List.length_singleton]; have := HA.out; omega⟩, ⟨by decide⟩, HO2, HIT2, HB2⟩
        have e2 : decide (0 < n) = false := decide_eq_false hn3
        have e3 : decide ((C : Int) < 48) = true := decide_eq_true (by omega)
        have HR : Aside0 (arcsGo S (a0.size + 2) 0 [] 0 0 = none) := ⟨by have := HFF.out; rw [if_neg (fun q => hn3 q.2), if_pos (Or.inl (by omega))] at this; exact this.symm⟩
        clear hv0 hv1 hn0 hn2
        go_wp2_with fail
        go_ret2
        have hE := HE.out
        rw [HR.out] at hE
        obtain ⟨rfl, rfl⟩ := Prod.mk.inj hE
        exact ⟨_, rfl, Kd.R_nil _ _ _ _ _, HB1.out⟩
      have e1 : ((C : Int) == 46) = false := by simpa using h46
      by_cases h48 : (C : Int) < 48
      · have e3 : decide ((C : Int) < 48) = true := decide_eq_true h48
        have HR : Aside0 (arcsGo S (a0.size + 2) 0 [] 0 0 = none) := ⟨by have := HFF.out; rw [if_neg (fun q => h46 q.1), if_pos (Or.inl h48)] at this; exact this.symm⟩
        clear hv0 hv1 hn0 hn2
        go_wp2_with fail
        go_ret2
        have hE := HE.out
        rw [HR.out] at hE
        obtain ⟨rfl, rfl⟩ := Prod.mk.inj hE
        exact ⟨_, rfl, Kd.R_nil _ _ _ _ _, HB1.out⟩
      have e3 : decide ((C : Int) < 48) = false := decide_eq_false h48
      by_cases h57 : 57 < (C : Int)
      · have e4 : decide (57 < (C : Int)) = true := decide_eq_true h57
        have HR : Aside0 (arcsGo S (a0.size + 2) 0 [] 0 0 = none) := ⟨by have := HFF.out; rw [if_neg (fun q => h46 q.1), if_pos (Or.inr (Or.inl h57))] at this; exact this.symm⟩
        clear hv0 hv1 hn0 hn2
        go_wp2_with fail
        go_ret2
        have hE := HE.out
        rw [HR.out] at hE
        obtain ⟨rfl, rfl⟩ := Prod.mk.inj hE
        exact ⟨_, rfl, Kd.R_nil _ _ _ _ _, HB1.out⟩
      have e4 : decide (57 < (C : Int)) = false := decide_eq_false h57
      by_cases hq : n = 1 ∧ v = 0
      · have e5 : (n == 1) = true := beq_iff_eq.2 hq.1
        have e6 : (v == 0) = true := beq_iff_eq.2 hq.2
        have HR : Aside0 (arcsGo S (a0.size + 2) 0 [] 0 0 = none) := ⟨by have := HFF.out; rw [if_neg (fun q => h46 q.1), if_pos (Or.inr (Or.inr hq))] at this; exact this.symm⟩
        clear hv0 hv1 hn0 hn2 hq
        go_wp2_with fail
        go_ret2
        have hE := HE.out
        rw [HR.out] at hE
        obtain ⟨rfl, rfl⟩ := Prod.mk.inj hE
        exact ⟨_, rfl, Kd.R_nil _ _ _ _ _, HB1.out⟩
      have HN : Aside0 (arcsGo S f1 (pos + m) l (min (10 * v + ((C : Int) - 48)) 1099511627776) (min (n + 1) 20) = arcsGo S (a0.size + 2) 0 [] 0 0) := ⟨by have := HFF.out; rw [if_neg (fun q => h46 q.1), if_neg (fun q => by rcases q with q | q | q; exact h48 q; exact h57 q; exact hq q)] at this; exact this⟩
      have h48' : (48 : Int) ≤ (C : Int) := by omega
      have h57' : (C : Int) ≤ 57 := by omega
      have hm0 : 0 ≤ (C : Int) - 48 := by omega
      have hm1 : (C : Int) - 48 ≤ 9 := by omega
      have hk0 : 0 ≤ 10 * v + ((C : Int) - 48) := by omega
      have hk1 : 10 * v + ((C : Int) - 48) ≤ 10995116277769 := by omega
      have HN0 : Aside0 (0 ≤ min (10 * v + ((C : Int) - 48)) 1099511627776 ∧ min (10 * v + ((C : Int) - 48)) 1099511627776 ≤ 1099511627776 ∧ 0 ≤ min (n + 1) 20 ∧ min (n + 1) 20 ≤ 20) := ⟨by omega⟩
      have u1 : IntKind.u64.wrap (10 * v) = 10 * v := by simp [IntKind.wrap, show IntKind.u64.signed = false from rfl, show IntKind.u64.bits = 64 from rfl]; omega
      have u2 : IntKind.i32.wrap ((C : Int) - 48) = (C : Int) - 48 := by simp [IntKind.wrap, show IntKind.i32.signed = true from rfl, show IntKind.i32.bits = 32 from rfl]; omega
      have u3 : IntKind.u64.wrap ((C : Int) - 48) = (C : Int) - 48 := by simp [IntKind.wrap, show IntKind.u64.signed = false from rfl, show IntKind.u64.bits = 64 from rfl]; omega
      have u4 : IntKind.u64.wrap (10 * v + ((C : Int) - 48)) = 10 * v + ((C : Int) - 48) := by simp [IntKind.wrap, show IntKind.u64.signed = false from rfl, show IntKind.u64.bits = 64 from rfl]; omega
      have u5 : wrap64 (n + 1) = n + 1 := by unfold wrap64; omega
      by_cases q5 : n = 1
      rotate_left
      · have e5 : (n == 1) = false := by simpa using q5
        clear hq q5 hv0 hv1 hn0 hn2 h48 h57
        go_wp2_with fail
        all_goals
          clear u1 u2 u3 u4 u5
          go_roundg g1
          case measure => exact Nat.lt_succ_self _
          case rel => exact ⟨pos + m, l, _, _, f1, rfl, rfl, ⟨(congr (congrArg (arcsGo S f1 (pos + m) l) (by omega)) (by omega)).trans HN.out⟩, ⟨by have := HI.out; omega⟩, ⟨by have := HA.out; omega⟩, ⟨by have := HV.out; omega⟩, HO1, HIT1, HB1⟩
      have e5 : (n == 1) = true := beq_iff_eq.2 q5
      have e6 : (v == 0) = false := by simpa using (fun q => hq ⟨q5, q⟩ : ¬ v = 0)
      clear hq q5 hv0 hv1 hn0 hn2 h48 h57
      go_wp2_with fail
      all_goals
        clear u1 u2 u3 u4 u5
        go_roundg g1
        case measure => exact Nat.lt_succ_self _
        case rel => exact ⟨pos + m, l, _, _, f1, rfl, rfl, ⟨(congr (congrArg (arcsGo S f1 (pos + m) l) (by omega)) (by omega)).trans HN.out⟩, ⟨by have := HI.out; omega⟩, ⟨by have := HA.out; omega⟩, ⟨by have := HV.out; omega⟩, HO1, HIT1, HB1⟩
end Go.Proofs.YtkioddjjfifadaaGreatDoor.P
namespace Go.Proofs.YtkioddjjfifadaaGreatDoor.P
open Go.RowKit Go.Proofs.YtkioddjjfifadaaGreatDoorW.PrintWords Go.Proofs.YtkioddjjfifadaaGreatDoorW.PrintLast Go.Proofs.YtkioddjjfifadaaGreatDoorW.PrintMore
attribute [local go_sem] max2_int min2_int max_two min_two max_three min_three max_four min_four   -- for this text's walks alone
set_option linter.unusedVariables false
set_option linter.unusedSimpArgs false
mutual
def der_PutOid.l0 : Nat → List Int → List Int → Int → Int → Option (List Int × Int)
  | 0, _, _, _, _ => none
  | k + 1, x4, x18, x19, x20 => if x20 < x19 then (if 0 ≤ x20 then (if x20 < (x18.length : Int) then (if (rd x18 x20) > 2147483647 then (some (([] : List Int), 3)) else (der_PutOid.l0 k x4 x18 x19 (wrap64 (x20 + 1)))) else (none)) else (none)) else (if 0 < (x4.length : Int) then (if 1 < (x4.length : Int) then ((der_seven.f k (IntKind.u64.wrap ((IntKind.u64.wrap (40 * (rd x4 0))) + (rd x4 1)))).bind fun t318 => (if 2 ≤ (x4.length : Int) then ((some (x4.drop 2 : List Int)).bind fun y321 => (der_PutOid.l1 k t318 y321 (y321.length : Int) 0)) else (none))) else (none)) else (none))
def der_PutOid.l1 : Nat → List Int → List Int → Int → Int → Option (List Int × Int)
  | 0, _, _, _, _ => none
  | k + 1, x8, x37, x38, x39 => if x39 < x38 then (if 0 ≤ x39 then (if x39 < (x37.length : Int) then ((der_seven.f k (rd x37 x39)).bind fun t326 => (if x8.length + t326.length < 140737488355328 then (der_PutOid.l1 k (x8 ++ t326) x37 x38 (wrap64 (x39 + 1))) else (none))) else (none)) else (none)) else (some (x8, 0))
end
def der_PutOid.f (k : Nat) (a0 : ByteArray) : Option (List Int × Int) := (der_arcs.f a0).bind fun bt311 => (if bt311.2 = true then (der_PutOid.l0 k bt311.1 bt311.1 (bt311.1.length : Int) 0) else (some (([] : List Int), 6)))
def der_PutOid.T10 : Bool × List (List Nat × List Nat) := (true, [([], []), ([0], [0]), ([1], [1]), ([2], [2]), ([], []), ([4], [4]), ([5], [5]), ([3, 6], [3, 6]), ([7], [7]), ([8, 8, 0, 1, 2, 3, 4, 5, 6, 7, 8], [8])])
def der_PutOid.B10 : List Nat := [0, 1, 3, 7, 0, 16, 48, 127, 255, 511]
theorem der_PutOid.tab10 : rtab .any (opsOf Tryz.f199 10) = der_PutOid.T10 := by kernel_rfl
theorem der_PutOid.bits10 : waitsOk der_PutOid.T10.2 der_PutOid.B10 = true := by kernel_rfl
set_option maxHeartbeats 8000000 in
set_option maxRecDepth 100000 in
theorem der_PutOid.calls (k : Nat) (a0 : ByteArray) (r1 : List Int) (r2 : Int) (w : World) (h : der_PutOid.f k a0 = some (r1, r2)) :
    Calls Tryz.prog 199 #[.string a0] w fun e w' => ∃ v0_ : Value, e = .returned (.tuple #[v0_, .int .i64 r2]) ∧ Kd.R (Kd.int .u8) 5 w' w.heap.size (fun _ => True) v0_ r1 ∧ Below w.heap.size w w' := by
  have HB := Aside0.mk (Below.refl w.heap.size w)
  have H : ((der_arcs.f a0).bind fun bt311 => (if bt311.2 = true then (der_PutOid.l0 k bt311.1 bt311.1 (bt311.1.length : Int) 0) else (some (([] : List Int), 6)))) = some (r1, r2) := h
  clear h
  replace H := Option.bind_eq_some_iff.mp H
  obtain ⟨⟨t311, t312⟩, A20, H⟩ := H
  replace H : (if t312 = true then (der_PutOid.l0 k t311 t311 (t311.length : Int) 0) else (some (([] : List Int), 6))) = some (r1, r2) := H
  have A2 := Aside0.mk A20
  clear A20
  by_cases c3 : t312 = true
  rotate_left
  · replace c3 := Bool.eq_false_iff.mpr c3
    subst c3
    have H1 : (some (([] : List Int), 6)) = some (r1, r2) := by rw [if_neg (show ¬ (false = true) by decide)] at H; exact H
    clear H
    have H := H1
    clear H1
    simp only [Option.some.injEq, Prod.mk.injEq] at H
    obtain ⟨rfl, rfl⟩ := H
    go_enter Tryz.func199, Tryz.ntmps199
    go_wp2_with (first | ((with_reducible refine gate_callee (f := 238) rfl ?_); refine goesL_ (some 13) rfl rfl Tryz.func238 (by kernel_rfl) rfl #[.string a0] rfl (by (try simp only [List.map_toArray, List.map_cons, List.map_nil]); first | done | rfl | (simp only [List.length_drop, List.length_take]; rfl)) ?_; (with_reducible refine (der_arcs.calls a0 t311 false _ A2.out).mono ?_); rintro e w25 ⟨v313, rfl, ho0, hb⟩; refine ⟨_, rfl, ?_⟩; have n0_ := Aside0.mk (Kd.R_lower ho0 (below_size (bU HB.out))); have n1_ := Aside0.mk (below_step (bU HB.out) hb); clear HB; have HO314 := n0_; have HB := n1_; clear n0_ n1_; (try clear hb); (try clear hb2); (try clear hk); (try clear hi); (try clear ho0)))
    go_ret2
    exact ⟨_, by first | rfl | (simp [errW_none, errW_some] <;> rfl) | (simp [*, errW_none, errW_some] <;> rfl), by first | exact Kd.R_nil _ _ _ _ _ | exact Kd.N_nil _ _ _ _ _ | exact Kd.V_nil _ _ _ _ _ | exact Kd.Q_nil _ _ _ _ _ | exact Kd.S_nil _ _ _ _ _, bU HB.out⟩
  subst c3
  have H1 : (der_PutOid.l0 k t311 t311 (t311.length : Int) 0) = some (r1, r2) := by rw [if_pos rfl] at H; exact H
  clear H
  have H := H1
  clear H1
  have H' := Aside0.mk H
  clear H
  go_enter Tryz.func199, Tryz.ntmps199
  go_wp2_with (first | ((with_reducible refine gate_callee (f := 238) rfl ?_); refine goesL_ (some 13) rfl rfl Tryz.func238 (by kernel_rfl) rfl #[.string a0] rfl (by (try simp only [List.map_toArray, List.map_cons, List.map_nil]); first | done | rfl | (simp only [List.length_drop, List.length_take]; rfl)) ?_; (with_reducible refine (der_arcs.calls a0 t311 true _ A2.out).mono ?_); rintro e w4 ⟨v313, rfl, ho0, hb⟩; refine ⟨_, rfl, ?_⟩; have n0_ := Aside0.mk (Kd.R_lower ho0 (below_size (bU HB.out))); have n1_ := Aside0.mk (below_step (bU HB.out) hb); clear HB; have HO314 := n0_; have HB := n1_; clear n0_ n1_; (try clear hb); (try clear hb2); (try clear hk); (try clear hi); (try clear ho0); obtain ⟨Ao5, co5, eo5⟩ := Kd.R_slice HO314.out; subst eo5))
  go_loopg [20] k (fun kq v20 w' => ∃ (x20_1 : Int), v20 = .int .i64 x20_1 ∧ Aside0 (der_PutOid.l0 kq t311 t311 (t311.length : Int) x20_1 = some (r1, r2)) ∧ Aside0 (kq ≤ k) ∧ Aside0 (Kd.R (Kd.int .u64) 278 w' w.heap.size (fun _ => True) (.slice Ao5 t311.length co5) t311) ∧ Aside0 (Kd.R (Kd.int .u64) 278 w' w.heap.size (fun _ => True) (.slice Ao5 t311.length co5) t311) ∧ Aside0 (Below w.heap.size w w'))
  case atStart => exact ⟨(0), (by first | rfl | (simp; done) | (simp [*]; done)), H', ⟨Nat.le_refl _⟩, ⟨Kd.R_u HO314.out⟩, ⟨Kd.R_u HO314.out⟩, ⟨bU HB.out⟩⟩
  case round =>
    clear H'
    try clear c1
    try clear c2
    try clear p2
    try clear c3
    obtain ⟨x20_1, rfl, HA, HK1, HO_4, HO_18, HB⟩ := hrel
    cases gk with
    | zero => exact absurd HA.out (by simp [der_PutOid.l0])
    | succ k1 =>
      have H := HA.out
      clear HA
      simp only [der_PutOid.l0] at H
      by_cases c6 : x20_1 < (t311.length : Int)
      · rw [if_pos c6] at H
        have c6b0 : decide (x20_1 < (t311.length : Int)) = true := decide_eq_true c6
        clear c6
        by_cases c7 : 0 ≤ x20_1
        rotate_left
        · rw [if_neg c7] at H
          exact absurd H (by simp)
        rw [if_pos c7] at H
        have c7b0 : decide (0 ≤ x20_1) = true := decide_eq_true c7
        clear c7
        by_cases c8 : x20_1 < (t311.length : Int)
        rotate_left
        · rw [if_neg c8] at H
          exact absurd H (by simp)
        rw [if_pos c8] at H
        have c8b0 : decide (x20_1 < (t311.length : Int)) = true := decide_eq_true c8
        clear c8
        by_cases c9 : (rd t311 x20_1) > 2147483647
        · rw [if_pos c9] at H
          have c9b0 : decide (2147483647 < (rd t311 x20_1)) = true := decide_eq_true c9
          clear c9
          simp only [Option.some.injEq, Prod.mk.injEq] at H
          obtain ⟨rfl, rfl⟩ := H
          have p315 : 0 ≤ (x20_1 : Int) := of_decide_eq_true (by first | (with_reducible assumption) | assumption)
          have q315 : x20_1 < (t311.length : Int) := of_decide_eq_true (by first | (with_reducible assumption) | assumption)
          obtain ⟨ad315, e315, hx315_0⟩ := Kd.at_int (Kd.R_reads' HO_18.out).2.2 x20_1 p315 q315
          cases e315
          replace p315 := eq_true p315
          replace q315 := eq_true q315
          go_wp2
          go_ret2
          exact ⟨_, by first | rfl | (simp [errW_none, errW_some] <;> rfl) | (simp [*, errW_none, errW_some] <;> rfl), by first | exact Kd.R_nil _ _ _ _ _ | exact Kd.N_nil _ _ _ _ _ | exact Kd.V_nil _ _ _ _ _ | exact Kd.Q_nil _ _ _ _ _ | exact Kd.S_nil _ _ _ _ _, bU HB.out⟩
        rw [if_neg c9] at H
        have c9b0 : decide (2147483647 < (rd t311 x20_1)) = false := decide_eq_false c9
        clear c9
        have H' := Aside0.mk H
        clear H
        have p315 : 0 ≤ (x20_1 : Int) := of_decide_eq_true (by first | (with_reducible assumption) | assumption)
        have q315 : x20_1 < (t311.length : Int) := of_decide_eq_true (by first | (with_reducible assumption) | assumption)
        obtain ⟨ad315, e315, hx315_0⟩ := Kd.at_int (Kd.R_reads' HO_18.out).2.2 x20_1 p315 q315
        cases e315
        replace p315 := eq_true p315
        replace q315 := eq_true q315
        go_wp2
        go_roundg k1
        case measure => have := HK1.out; omega
        case rel => exact ⟨(wrap64 (x20_1 + 1)), (by first | rfl | (simp; done) | (simp [*]; done)), H', ⟨by have := HK1.out; omega⟩, ⟨Kd.R_u HO_4.out⟩, ⟨Kd.R_u HO_18.out⟩, ⟨bU HB.out⟩⟩
      rw [if_neg c6] at H
      have c6b0 : decide (x20_1 < (t311.length : Int)) = false := decide_eq_false c6
      clear c6
      by_cases c10 : 0 < (t311.length : Int)
      rotate_left
      · rw [if_neg c10] at H
        exact absurd H (by simp)
      rw [if_pos c10] at H
      have c10b0 : decide (0 < (t311.length : Int)) = true := decide_eq_true c10
      have c10b1 : decide (0 < t311.length) = true := decide_eq_true (by omega)
      clear c10
      by_cases c11 : 1 < (t311.length : Int)
      rotate_left
      · rw [if_neg c11] at H
        exact absurd H (by simp)
      rw [if_pos c11] at H
      have c11b0 : decide (1 < (t311.length : Int)) = true := decide_eq_true c11
      have c11b1 : decide (1 < t311.length) = true := decide_eq_true (by omega)
      clear c11
      replace H := Option.bind_eq_some_iff.mp H
      obtain ⟨t318, A120, H⟩ := H
      replace H : (if 2 ≤ (t311.length : Int) then ((some (t311.drop 2 : List Int)).bind fun y321 => (der_PutOid.l1 k1 t318 y321 (y321.length : Int) 0)) else (none)) = some (r1, r2) := H
      have A12 := Aside0.mk A120
      clear A120
      by_cases c13 : 2 ≤ (t311.length : Int)
      rotate_left
      · rw [if_neg c13] at H
        exact absurd H (by simp)
      rw [if_pos c13] at H
      have c13b0 := eq_true c13
      have c13b1 : decide (2 ≤ (t311.length : Int)) = true := decide_eq_true c13
      clear c13
      obtain ⟨y321, hy321⟩ : ∃ y_ : List Int, y_ = (t311.drop 2) := ⟨_, rfl⟩
      replace H : (der_PutOid.l1 k1 t318 y321 (y321.length : Int) 0) = some (r1, r2) := by first | (rw [hy321]; with_reducible exact H) | (have H2_ := (Option.bind_some _ _).symm.trans H; rw [hy321]; with_reducible exact H2_) | (have H2_ := (Option.bind_some _ _).symm.trans H; with_reducible exact H2_) | with_reducible exact H | (rw [hy321]; exact H) | exact H
      have Ny321 := Aside0.mk hy321
      clear hy321
      have H' := Aside0.mk H
      clear H
      try go_wp2
      have n0_ := Aside0.mk (Kd.R_drew HO_4.out)
      have n1_ := Aside0.mk (Kd.R_drew HO_18.out)
      have n2_ := Aside0.mk (below_drew1 HB.out)
      clear HO_4
      clear HO_18
      clear HB
      have HO_4 := n0_
      have HO_18 := n1_
      have HB := n2_
      clear n0_ n1_ n2_
      have p316 : 0 ≤ (0 : Int) := (by omega)
      have q316 : 0 < (t311.length : Int) := of_decide_eq_true (by first | (with_reducible assumption) | assumption)
      obtain ⟨ad316, e316, hx316_0⟩ := Kd.at_int (Kd.R_reads' HO_4.out).2.2 0 p316 q316
      cases e316
      have qi316 : (0 < t311.length) = True := eq_true (by omega)
      (try rw [show ((0 : Int)).toNat = 0 from rfl] at hx316_0)
      (try rw [Addr.add_zero'] at hx316_0)
      replace p316 := eq_true p316
      replace q316 := eq_true q316
      have p317 : 0 ≤ (1 : Int) := (by omega)
      have q317 : 1 < (t311.length : Int) := of_decide_eq_true (by first | (with_reducible assumption) | assumption)
      obtain ⟨ad317, e317, hx317_0⟩ := Kd.at_int (Kd.R_reads' HO_4.out).2.2 1 p317 q317
      obtain rfl : ad316 = ad317 := (by injection e317)
      (try simp only [show (1 : Int).toNat = 1 from rfl, Nat.reduceMul, Nat.reduceEqDiff, Go.Addr.add, ↓reduceIte] at hx317_0)
      have qi317 : (1 < t311.length) = True := eq_true (by omega)
      (try rw [show ((1 : Int)).toNat = 1 from rfl] at hx317_0)
      replace p317 := eq_true p317
      replace q317 := eq_true q317
      refine start_ (n := 10) (S := fun w' => w'.cell? ad316 = some (.int .u64 (rd t311 0)) ∧ w'.cell? ⟨ad316.block, ad316.off + 1, none⟩ = some (.int .u64 (rd t311 1))) (ds := []) #[false, false, false, false, false, false, false, false, false, false] (by kernel_rfl) rfl rfl ⟨hx316_0, hx317_0⟩ (fun hHeld => ?_); refine with_tabW der_PutOid.tab10 der_PutOid.bits10 (fun HT_ HW_ => ?_)
      generalize wr.drew = w14 at HO_4 HO_18 HB hx316_0 hx317_0 hHeld ⊢
      refine pure_ (i := 0) (N := some 27) (v := ?_) (a' := ?_) #[true, false, false, false, false, false, false, false, false, false] rfl rfl (any_of HT_.out (by kernel_rfl)) (fun _ _ _ h => h) (Or.inl ⟨by rfl, ?_⟩) ?_ ?_; rotate_left; (intro w'; go_simp; with_reducible rfl); rotate_left; (simp only [Act.put, List.setIfInBounds_toArray, List.set_cons_zero, List.set_cons_succ, i64_w, i32_w]; rfl)
      refine pure_ (i := 1) (N := some 28) (v := ?_) (a' := ?_) #[true, true, false, false, false, false, false, false, false, false] rfl rfl (any_of HT_.out (by kernel_rfl)) (fun _ _ _ h => h) (Or.inl ⟨by rfl, ?_⟩) ?_ ?_; rotate_left; (intro w'; go_simp; with_reducible rfl); rotate_left; (simp only [Act.put, List.setIfInBounds_toArray, List.set_cons_zero, List.set_cons_succ, i64_w, i32_w]; rfl)
      refine pure_ (i := 4) (N := some 31) (v := ?_) (a' := ?_) #[true, true, false, false, true, false, false, false, false, false] rfl rfl (any_of HT_.out (by kernel_rfl)) (fun _ _ _ h => h) (Or.inl ⟨by rfl, ?_⟩) ?_ ?_; rotate_left; (intro w'; go_simp; with_reducible rfl); rotate_left; (simp only [Act.put, List.setIfInBounds_toArray, List.set_cons_zero, List.set_cons_succ, i64_w, i32_w]; rfl)
      refine pure_ (i := 5) (N := some 32) (v := ?_) (a' := ?_) #[true, true, false, false, true, true, false, false, false, false] rfl rfl (any_of HT_.out (by kernel_rfl)) (fun _ _ _ h => h) (Or.inl ⟨by rfl, ?_⟩) ?_ ?_; rotate_left; (intro w'; go_simp; with_reducible rfl); rotate_left; (simp only [Act.put, List.setIfInBounds_toArray, List.set_cons_zero, List.set_cons_succ, i64_w, i32_w]; rfl)
      refine take_ (i := 2) (N := some 29) (v := ?_) (a' := ?_) #[true, true, true, false, true, true, false, false, false, false] rfl rfl (take_ofW HT_.out HW_.out (by kernel_rfl)) (fun _ _ _ h => h) (Or.inl ⟨by rfl, ?_⟩) hHeld ?_ ?_; rotate_left; (rintro w' ⟨s0, s1⟩; go_simp; with_reducible rfl); rotate_left; (simp only [Act.put, List.setIfInBounds_toArray, List.set_cons_zero, List.set_cons_succ, i64_w, i32_w]; rfl)
      refine pure_ (i := 3) (N := some 30) (v := ?_) (a' := ?_) #[true, true, true, true, true, true, false, false, false, false] rfl rfl (any_of HT_.out (by kernel_rfl)) (fun _ _ _ h => h) (Or.inl ⟨by rfl, ?_⟩) ?_ ?_; rotate_left; (intro w'; go_simp; with_reducible rfl); rotate_left; (simp only [Act.put, List.setIfInBounds_toArray, List.set_cons_zero, List.set_cons_succ, i64_w, i32_w]; rfl)
      refine take_ (i := 6) (N := some 33) (v := ?_) (a' := ?_) #[true, true, true, true, true, true, true, false, false, false] rfl rfl (take_ofW HT_.out HW_.out (by kernel_rfl)) (fun _ _ _ h => h) (Or.inl ⟨by rfl, ?_⟩) hHeld ?_ ?_; rotate_left; (rintro w' ⟨s0, s1⟩; go_simp; with_reducible rfl); rotate_left; (simp only [Act.put, List.setIfInBounds_toArray, List.set_cons_zero, List.set_cons_succ, i64_w, i32_w]; rfl)
      refine pure_ (i := 7) (N := some 34) (v := ?_) (a' := ?_) #[true, true, true, true, true, true, true, true, false, false] rfl rfl (any_of HT_.out (by kernel_rfl)) (fun _ _ _ h => h) (Or.inl ⟨by rfl, ?_⟩) ?_ ?_; rotate_left; (intro w'; go_simp; with_reducible rfl); rotate_left; (simp only [Act.put, List.setIfInBounds_toArray, List.set_cons_zero, List.set_cons_succ, i64_w, i32_w]; rfl)
      refine one_ (i := 8) (N := some 35) #[true, true, true, true, true, true, true, true, true, false] rfl rfl (one_of HT_.out (by kernel_rfl)) (by decide) (fun K hK => ?_)
      refine goes_ Tryz.func219 (by kernel_rfl) rfl #[.int .u64 (IntKind.u64.wrap ((IntKind.u64.wrap (40 * (rd t311 0))) + (rd t311 1)))] (by rfl) rfl rfl (by (try simp only [List.map_toArray, List.map_cons, List.map_nil]); first | done | rfl | (simp only [List.length_drop, List.length_take]; rfl)) ?_
      with_reducible refine (der_seven.calls k1 (IntKind.u64.wrap ((IntKind.u64.wrap (40 * (rd t311 0))) + (rd t311 1))) t318 _ A12.out).mono ?_
      rintro e w15 ⟨v319, rfl, ho0, hb⟩
      have HS0_ := (hb.cell (World.block_lt_of_cell? _ _ (hHeld.1))).trans (hHeld.1)
      have HS1_ := (hb.cell (World.block_lt_of_cell? _ _ (hHeld.2))).trans (hHeld.2)
      refine ⟨_, rfl, ?_⟩
      have n0_ := Aside0.mk (Kd.R_below (Kd.R_u HO_4.out) hb)
      have n1_ := Aside0.mk (Kd.R_below (Kd.R_u HO_18.out) hb)
      have n2_ := Aside0.mk (Kd.R_lower ho0 (below_size (bU HB.out)))
      have n3_ := Aside0.mk (below_step (bU HB.out) hb)
      clear HO_4
      clear HO_18
      clear HB
      have HO_4 := n0_
      have HO_18 := n1_
      have HO320 := n2_
      have HB := n3_
      clear n0_ n1_ n2_ n3_
      (try clear hb)
      (try clear hb2)
      (try clear hk)
      (try clear hi)
      (try clear ho0)
      refine hK.out _ _ ⟨HS0_, HS1_⟩ (fun hHeld => ?_)
      clear hK K
      refine norm_ (a' := ?_) ?_ ?_; rotate_left; (show Act.put _ (some 35) _ = _; simp only [Act.put, List.setIfInBounds_toArray, List.set_cons_zero, List.set_cons_succ, i64_w, i32_w]; rfl)
      refine pure_ (i := 9) (N := some 8) (v := ?_) (a' := ?_) #[true, true, true, true, true, true, true, true, true, true] rfl rfl (any_of HT_.out (by kernel_rfl)) (fun _ _ _ h => h) (Or.inl ⟨by rfl, ?_⟩) ?_ ?_; rotate_left; (intro w'; go_simp; with_reducible rfl); rotate_left; (simp only [Act.put, List.setIfInBounds_toArray, List.set_cons_zero, List.set_cons_succ, i64_w, i32_w]; rfl)
      refine done_ (done_of HT_.out (by kernel_rfl)) ?_
      have q16 : (2 : Int) ≤ ((t311.length : Int) : Int) := of_decide_eq_true (by first | (with_reducible assumption) | assumption)
      obtain ⟨i016, hi016, _, hsz16, _⟩ := info_parts info278
      have hroom16 : t311.length ≤ co5 := (Kd.R_reads' HO_4.out).2.1
      have hC16 : Kd.C (Kd.int .u64) _ (some ad316) t311.length t311 := (Kd.R_reads' HO_4.out).2.2
      have hcut16 := cut_from (P := Tryz.prog) 277 278 .i64 Tryz.underlying277 hi016 1 hsz16 (some ad316) t311.length co5 2 (by omega) q16
      have hr16 := Kd.C_drop (m := (2 : Int).toNat) (c := co5) hC16 (by omega) hroom16
      obtain ⟨A16, hA16⟩ : ∃ A1, A1 = (if co5 = (2 : Int).toNat then (some ad316) else ((some ad316) : Option Addr).map (·.add ((2 : Int).toNat * 1))) := ⟨_, rfl⟩
      obtain ⟨c16, hc16⟩ : ∃ c1, c1 = co5 - (2 : Int).toNat := ⟨_, rfl⟩
      have hy16 : y321.length = t311.length - (2 : Int).toNat := (by rw [Ny321.out, List.length_drop] <;> omega)
      rw [show (t311).drop (2 : Int).toNat = y321 from Ny321.out.symm] at hr16
      replace hr16 : Kd.C (Kd.int .u64) _ A16 y321.length y321 := (by rw [hA16]; exact hr16)
      rw [← hy16, ← hA16, ← hc16] at hcut16
      have HDR : Aside0 (∀ W' : World, Kd.C (Kd.int .u64) W' (some ad316) t311.length t311 → Kd.C (Kd.int .u64) W' A16 y321.length y321) := ⟨fun W' hC_ => by
        have h_ := Kd.C_drop (m := (2 : Int).toNat) (c := co5) hC_ (by omega) hroom16
        rw [show (t311).drop (2 : Int).toNat = y321 from Ny321.out.symm] at h_
        rw [hA16]; exact h_⟩
      have HR324 := Aside0.mk hr16
      have HC324 := Aside0.mk (show y321.length ≤ c16 from by rw [hy16, hc16]; exact Nat.sub_le_sub_right hroom16 _)
      clear hr16 hC16 hroom16 hi016 hsz16 hc16
      have KY16 := Aside0.mk hy16
      have KA16 := Aside0.mk hA16
      clear hy16 hA16
      have KL16 := Aside0.mk (show 2 ≤ t311.length from by omega)
      replace q16 := eq_true q16
      try go_wp2
      go_loopg [8, 39] k1 (fun kq v8 v39 w' => ∃ (x8_2 : List Int) (x39_2 : Int), v39 = .int .i64 x39_2 ∧ Aside0 (der_PutOid.l1 kq x8_2 y321 (y321.length : Int) x39_2 = some (r1, r2)) ∧ Aside0 (kq ≤ k1) ∧ Aside0 (Kd.R (Kd.int .u8) 5 w' w.heap.size (fun _ => True) v8 x8_2) ∧ Aside0 (Below w.heap.size w w') ∧ Aside0 (Kd.R (Kd.int .u64) 278 w' w.heap.size (fun _ => True) (.slice (some ad316) t311.length co5) t311))
      case atStart => exact ⟨(t318), (0), (by first | rfl | (simp; done) | (simp [*]; done)), H', ⟨Nat.le_refl _⟩, ⟨Kd.R_u HO320.out⟩, ⟨bU HB.out⟩, ⟨Kd.R_u (Kd.R_mono HO_4.out (fun _ _ => trivial))⟩⟩
      case round =>
        clear H'
        try clear c1
        try clear q1
        try clear c2
        try clear p2
        try clear c3
        try clear p3
        try clear q3
        try clear hx3
        try clear qi3
        try clear c6
        try clear c6b0
        try clear p6
        try clear c7
        try clear c7b0
        try clear c8
        try clear c8b0
        try clear c9
        try clear c9b0
        try clear c10
        try clear c10b0
        try clear c10b1
        try clear c11
        try clear c11b0
        try clear c11b1
        try clear c13
        try clear c13b0
        try clear c13b1
        try clear c16
        try clear q16
        try clear hx315_0
        try clear hx316_0
        try clear hx317_0
        try clear p2
        try clear p315
        try clear p316
        try clear p317
        try clear q16
        try clear q315
        try clear q316
        try clear q317
        obtain ⟨x8_2, x39_2, rfl, HA, HK2, HO_8, HB, HO_4⟩ := hrel
        cases gk with
        | zero => exact absurd HA.out (by simp [der_PutOid.l1])
        | succ k2 =>
          have H := HA.out
          clear HA
          simp only [der_PutOid.l1] at H
          by_cases c17 : x39_2 < (y321.length : Int)
          rotate_left
          · rw [if_neg c17] at H
            have c17b0 : decide (x39_2 < (y321.length : Int)) = false := decide_eq_false c17
            clear c17
            simp only [Option.some.injEq, Prod.mk.injEq] at H
            obtain ⟨rfl, rfl⟩ := H
            go_wp2
            go_ret2
            exact ⟨_, by first | rfl | (simp [errW_none, errW_some] <;> rfl) | (simp [*, errW_none, errW_some] <;> rfl), by (with_reducible repeat (first | apply Kd.R_alloc | apply Kd.R_drewN | apply Kd.R_drew)); exact HO_8.out, bU HB.out⟩
          rw [if_pos c17] at H
          have c17b0 : decide (x39_2 < (y321.length : Int)) = true := decide_eq_true c17
          clear c17
          by_cases c18 : 0 ≤ x39_2
          rotate_left
          · rw [if_neg c18] at H
            exact absurd H (by simp)
          rw [if_pos c18] at H
          have c18b0 : decide (0 ≤ x39_2) = true := decide_eq_true c18
          clear c18
          by_cases c19 : x39_2 < (y321.length : Int)
          rotate_left
          · rw [if_neg c19] at H
            exact absurd H (by simp)
          rw [if_pos c19] at H
          have c19b0 : decide (x39_2 < (y321.length : Int)) = true := decide_eq_true c19
          clear c19
          replace H := Option.bind_eq_some_iff.mp H
          obtain ⟨t326, A200, H⟩ := H
          replace H : (if x8_2.length + t326.length < 140737488355328 then (der_PutOid.l1 k2 (x8_2 ++ t326) y321 (y321.length : Int) (wrap64 (x39_2 + 1))) else (none)) = some (r1, r2) := H
          have A20 := Aside0.mk A200
          clear A200
          by_cases c21 : x8_2.length + t326.length < 140737488355328
          rotate_left
          · rw [if_neg c21] at H
            exact absurd H (by simp)
          rw [if_pos c21] at H
          have LMc21 := Aside0.mk c21
          clear c21
          obtain ⟨y329, hy329⟩ : ∃ y_ : List Int, y_ = (x8_2 ++ t326) := ⟨_, rfl⟩
          replace H : (der_PutOid.l1 k2 y329 y321 (y321.length : Int) (wrap64 (x39_2 + 1))) = some (r1, r2) := by first | (rw [hy329]; with_reducible exact H) | (have H2_ := (Option.bind_some _ _).symm.trans H; rw [hy329]; with_reducible exact H2_) | (have H2_ := (Option.bind_some _ _).symm.trans H; with_reducible exact H2_) | with_reducible exact H | (rw [hy329]; exact H) | exact H
          have Ny329 := Aside0.mk hy329
          clear hy329
          have H' := Aside0.mk H
          clear H
          have p325 : 0 ≤ (x39_2 : Int) := of_decide_eq_true (by first | (with_reducible assumption) | assumption)
          have q325 : x39_2 < (y321.length : Int) := of_decide_eq_true (by first | (with_reducible assumption) | assumption)
          obtain ⟨ad325, e325, hx325_0⟩ := Kd.at_int (HDR.out _ (Kd.R_reads' HO_4.out).2.2) x39_2 p325 q325
          cases e325
          replace p325 := eq_true p325
          replace q325 := eq_true q325
          go_wp2_with (first | ((with_reducible refine gate_callee (f := 219) rfl ?_); refine goesL_ (some 45) rfl rfl Tryz.func219 (by kernel_rfl) rfl #[.int .u64 (rd y321 x39_2)] rfl (by (try simp only [List.map_toArray, List.map_cons, List.map_nil]); first | done | rfl | (simp only [List.length_drop, List.length_take]; rfl)) ?_; (with_reducible refine (der_seven.calls k2 (rd y321 x39_2) t326 _ A20.out).mono ?_); rintro e w22 ⟨v327, rfl, ho0, hb⟩; refine ⟨_, rfl, ?_⟩; have n0_ := Aside0.mk (Kd.R_elder' (Kd.R_u HO_8.out) (Kd.R_base ho0) hb); have n1_ := Aside0.mk (Kd.R_lower (Kd.R_new' ho0 (Kd.R_lt (Kd.R_u HO_8.out))) (below_size (bU HB.out))); have n2_ := Aside0.mk (below_step (bU HB.out) hb); have n9_ := Aside0.mk (Kd.R_below (Kd.R_u HO_4.out) hb); clear HO_4; have HO_4 := n9_; clear n9_; clear HO_8; clear HB; have HO_8 := n0_; have HO328 := n1_; have HB := n2_; clear n0_ n1_ n2_; (try clear hb); (try clear hb2); (try clear hk); (try clear hi); (try clear ho0); obtain ⟨Ao24, co24, eo24⟩ := Kd.R_slice HO328.out; subst eo24) | ((with_reducible refine gate_builtin (b := .append) (xs := #[.tmp 43, .tmp 45]) rfl ?_); at_builtin; refine Kd.R_append_rows (Kd.int .u8) (w0 := w) w.heap.size rfl (.tmp 43) (.tmp 45) 22 5 (.int .u8 0) 1 rfl Tryz.underlying22 info5 rfl (by decide) (by omega) u8 x8_2 t326 _ _ _ (fun k_ => some k_ ≠ (.slice Ao24 t326.length co24 : Value).ownBlock) (fun _ => False) rfl rfl ?aO ?aR (fun _ _ h => h) (fun _ h => h.elim) ?aF ?aB ?aS ?aL ?_; (case aR => exact Kd.C_u (Kd.R_reads' HO328.out).2.2); (case aB => exact (bU HB.out)); (case aF => exact (fun k_ hk => Kd.fresh' (Kd.R_lt (Kd.R_u HO328.out)) k_ hk)); (case aO => exact (Kd.R_u (Kd.R_mono HO_8.out (fun _ hk => hk.2)))); (case aS => exact (below_size (bU HB.out))); (case aL => have := LMc21.out; omega); intro v330 w23 ho hb hg hat; rw [← Ny329.out] at ho; have n9_ := Aside0.mk (Kd.R_mono (Kd.R_grown (Kd.R_apart' (Kd.R_u HO_4.out) (Kd.R_typed (Kd.R_u (Kd.R_mono HO_8.out (fun _ hk => hk.2)))) (by decide)) hg (fun _ hk => hk.2)) (fun _ _ => trivial)); clear HO_4; have HO_4 := n9_; clear n9_; have n0_ := Aside0.mk (Kd.R_after (ok := (fun _ => True)) (Kd.R_u HO328.out) hg hat); have n1_ := Aside0.mk (hb); have n2_ := Aside0.mk (ho); clear HO328; clear HB; clear HO_8; have HO328 := n0_; have HB := n1_; have HO331 := n2_; clear n0_ n1_ n2_; clear ho hb hg hat))
          go_roundg k2
          case measure => have := HK1.out; have := HK2.out; omega
          case rel => exact ⟨(y329), (wrap64 (x39_2 + 1)), (by first | rfl | (simp; done) | (simp [*]; done)), H', ⟨by have := HK1.out; have := HK2.out; omega⟩, ⟨Kd.R_u (Kd.R_mono HO331.out (fun _ hk => trivial))⟩, ⟨bU HB.out⟩, ⟨Kd.R_u HO_4.out⟩⟩
end Go.Proofs.YtkioddjjfifadaaGreatDoor.P
