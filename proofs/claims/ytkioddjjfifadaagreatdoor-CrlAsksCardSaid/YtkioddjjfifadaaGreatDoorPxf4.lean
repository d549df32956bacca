/- Printed by a program of this session (a turned copy of the kit's print) out of the translation: functions, each as a Lean function, and that the Go call does what that function says, under what is asked ahead of the colon. -/
import Derived.Test.YtkioddjjfifadaaGreatDoorPx0
import Derived.Test.YtkioddjjfifadaaGreatDoorPxf20
import Derived.Test.YtkioddjjfifadaaGreatDoorPxf21
import Derived.Test.YtkioddjjfifadaaGreatDoorPxf22
import Derived.Test.YtkioddjjfifadaaGreatDoorPxf23
import Derived.Test.YtkioddjjfifadaaGreatDoorPxf24
import Derived.Test.YtkioddjjfifadaaGreatDoorPxf25
import Derived.Test.YtkioddjjfifadaaGreatDoorPxf26
import Derived.Test.YtkioddjjfifadaaGreatDoorG1
namespace Go.Proofs.YtkioddjjfifadaaGreatDoor.P
open Go.RowKit Go.Proofs.YtkioddjjfifadaaGreatDoorW.PrintWords Go.Proofs.YtkioddjjfifadaaGreatDoorW.PrintLast Go.Proofs.YtkioddjjfifadaaGreatDoorW.PrintMore
attribute [local go_sem] max2_int min2_int max_two min_two max_three min_three max_four min_four   -- for this text's walks alone
set_option linter.unusedVariables false
set_option linter.unusedSimpArgs false

/-! ### chirographlaw13_CrlAsks: function 4 -/
def chirographlaw13_CrlAsks.j0 : Nat → Int → List Int → List Int → Bool → List Int → List Int → List (List (S64)) → Int → Int → Bool → Int → Int → Int → Int → List Int → List (S30) → List Int → Bool → Option (Bool)
  | 0, _, _, _, _, _, _, _, _, _, _, _, _, _, _, _, _, _, _ => none
  | k + 1, x1, x2, x3, x26, x431000, x431001, x431002, x431003, x431004, x431005, x431006, x431007, x431008, x431009, x431010, x431011, x431012, x431013 => if x26 = true then ((chirographlaw13_live.f).bind fun t431 => (some t431)) else ((crl_Find.f k x431000 x431001 x431002 x431003 x431004 x431005 x431006 x431007 x431008 x431009 x431010 x431011 x431012 x431013 x2).bind fun bt432 => ((chirographref13_Find.f k x431000 x431001 x431002 x431003 x431004 x431005 x431006 x431007 x431008 x431009 x431010 x431011 x431012 x431013 x2).bind fun bt439 => ((chirographref13_SameGone.f k (([(⟨bt432.1, bt432.2.1, bt432.2.2.1⟩ : S30)] : List (S30))) (([(⟨bt439.1, bt439.2.1, bt439.2.2.1⟩ : S30)] : List (S30)))).bind fun t452 => (if t452 = true then (if (bt432.2.2.2 == bt439.2.2.2) = true then ((crl_Fresh.f x431000 x431001 x431002 x431003 x431004 x431005 x431006 x431007 x431008 x431009 x431010 x431011 x431012 x431013 x1).bind fun t453 => ((chirographref13_Fresh.f x431000 x431001 x431002 x431003 x431004 x431005 x431006 x431007 x431008 x431009 x431010 x431011 x431012 x431013 x1).bind fun t454 => (if (t453 == t454) = true then ((crl_Counts.f k bt439.1 bt439.2.1 bt439.2.2.1 x1 x3).bind fun t455 => ((chirographref13_Counts.f k bt439.1 bt439.2.1 bt439.2.2.1 x1 x3).bind fun t456 => (if (t455 == t456) = true then ((chirographlaw13_live.f).bind fun t457 => (some t457)) else (some false)))) else (some false)))) else (some false)) else (some false)))))
def chirographlaw13_CrlAsks.f (k : Nat) (l0_0 : List Int) (l0_1 : List Int) (l0_2 : List (List (S64))) (a0_3 : Int) (a0_4 : Int) (a0_5 : Bool) (a0_6 : Int) (a0_7 : Int) (a0_8 : Int) (a0_9 : Int) (l0_10 : List Int) (l0_11 : List (S30)) (l0_12 : List Int) (a0_13 : Bool) (a1 : Int) (l2 : List Int) (l3 : List Int) : Option (Bool) := if (l0_11.length : Int) > 2000 then (chirographlaw13_CrlAsks.j0 k a1 l2 l3 true l0_0 l0_1 l0_2 a0_3 a0_4 a0_5 a0_6 a0_7 a0_8 a0_9 l0_10 l0_11 l0_12 a0_13) else (if (l3.length : Int) > 2000 then (chirographlaw13_CrlAsks.j0 k a1 l2 l3 true l0_0 l0_1 l0_2 a0_3 a0_4 a0_5 a0_6 a0_7 a0_8 a0_9 l0_10 l0_11 l0_12 a0_13) else (chirographlaw13_CrlAsks.j0 k a1 l2 l3 (decide ((l2.length : Int) > 8192)) l0_0 l0_1 l0_2 a0_3 a0_4 a0_5 a0_6 a0_7 a0_8 a0_9 l0_10 l0_11 l0_12 a0_13))
theorem chirographlaw13_CrlAsks.mono_l : ∀ k, (∀ y0 y1 y2 y3 y4 y5 y6 y7 y8 y9 y10 y11 y12 y13 y14 y15 y16 y17, LeO (chirographlaw13_CrlAsks.j0 k y0 y1 y2 y3 y4 y5 y6 y7 y8 y9 y10 y11 y12 y13 y14 y15 y16 y17) (chirographlaw13_CrlAsks.j0 (k + 1) y0 y1 y2 y3 y4 y5 y6 y7 y8 y9 y10 y11 y12 y13 y14 y15 y16 y17))
  | 0 => fun _ _ _ _ _ _ _ _ _ _ _ _ _ _ _ _ _ _ r h => by simp [chirographlaw13_CrlAsks.j0] at h
  | k + 1 => by
    have ih0 := chirographlaw13_CrlAsks.mono_l k
    · intro y0 y1 y2 y3 y4 y5 y6 y7 y8 y9 y10 y11 y12 y13 y14 y15 y16 y17
      unfold chirographlaw13_CrlAsks.j0
      repeat' first
      | (with_reducible exact ih0 _ _ _ _ _ _ _ _ _ _ _ _ _ _ _ _ _ _)
      | (with_reducible exact chirographref13_Counts.mono _ _ _ _ _ _)
      | (with_reducible exact chirographref13_Find.mono _ _ _ _ _ _ _ _ _ _ _ _ _ _ _ _)
      | (with_reducible exact chirographref13_SameGone.mono _ _ _)
      | (with_reducible exact crl_Counts.mono _ _ _ _ _ _)
      | (with_reducible exact crl_Find.mono _ _ _ _ _ _ _ _ _ _ _ _ _ _ _ _)
      | (with_reducible exact LeO.refl _)
      | (with_reducible exact LeO.none _)
      | (with_reducible refine LeO.ite ?_ ?_)
      | (with_reducible refine LeO.bind ?_ (fun _ => ?_))
      | exact ih0 _ _ _ _ _ _ _ _ _ _ _ _ _ _ _ _ _ _
      | exact chirographref13_Counts.mono _ _ _ _ _ _
      | exact chirographref13_Find.mono _ _ _ _ _ _ _ _ _ _ _ _ _ _ _ _
      | exact chirographref13_SameGone.mono _ _ _
      | exact crl_Counts.mono _ _ _ _ _ _
      | exact crl_Find.mono _ _ _ _ _ _ _ _ _ _ _ _ _ _ _ _
      | exact LeO.none _
      | refine LeO.ite ?_ ?_
      | refine LeO.bind ?_ (fun _ => ?_)
theorem chirographlaw13_CrlAsks.mono : ∀ a0 a1 a2 a3 a4 a5 a6 a7 a8 a9 a10 a11 a12 a13 a14 a15 a16 k, LeO (chirographlaw13_CrlAsks.f k a0 a1 a2 a3 a4 a5 a6 a7 a8 a9 a10 a11 a12 a13 a14 a15 a16) (chirographlaw13_CrlAsks.f (k + 1) a0 a1 a2 a3 a4 a5 a6 a7 a8 a9 a10 a11 a12 a13 a14 a15 a16) := by
  intro a0 a1 a2 a3 a4 a5 a6 a7 a8 a9 a10 a11 a12 a13 a14 a15 a16 k
  have ih0 := chirographlaw13_CrlAsks.mono_l k
  unfold chirographlaw13_CrlAsks.f
  repeat' first
      | (with_reducible exact ih0 _ _ _ _ _ _ _ _ _ _ _ _ _ _ _ _ _ _)
      | (with_reducible exact chirographref13_Counts.mono _ _ _ _ _ _)
      | (with_reducible exact chirographref13_Find.mono _ _ _ _ _ _ _ _ _ _ _ _ _ _ _ _)
      | (with_reducible exact chirographref13_SameGone.mono _ _ _)
      | (with_reducible exact crl_Counts.mono _ _ _ _ _ _)
      | (with_reducible exact crl_Find.mono _ _ _ _ _ _ _ _ _ _ _ _ _ _ _ _)
      | (with_reducible exact LeO.refl _)
      | (with_reducible exact LeO.none _)
      | (with_reducible refine LeO.ite ?_ ?_)
      | (with_reducible refine LeO.bind ?_ (fun _ => ?_))
      | exact ih0 _ _ _ _ _ _ _ _ _ _ _ _ _ _ _ _ _ _
      | exact chirographref13_Counts.mono _ _ _ _ _ _
      | exact chirographref13_Find.mono _ _ _ _ _ _ _ _ _ _ _ _ _ _ _ _
      | exact chirographref13_SameGone.mono _ _ _
      | exact crl_Counts.mono _ _ _ _ _ _
      | exact crl_Find.mono _ _ _ _ _ _ _ _ _ _ _ _ _ _ _ _
      | exact LeO.none _
      | refine LeO.ite ?_ ?_
      | refine LeO.bind ?_ (fun _ => ?_)
def chirographlaw13_CrlAsks.T5 : Bool × List (List Nat × List Nat) := (true, [([], []), ([0], [0]), ([], []), ([2], [2]), ([1, 3], [1, 3]), ([4, 4], [4]), ([5], [5]), ([5], [5]), ([6, 7, 5], [5, 6, 7]), ([5, 8], [5, 8]), ([9, 5], [9]), ([10], [10]), ([10], [10]), ([11, 12, 10, 10], [10, 11, 12]), ([10], [10]), ([10], [10]), ([14, 15, 13, 10], [10, 14, 15]), ([13, 16, 10], [10, 13, 16]), ([10, 17], [10, 17]), ([18, 16], [18]), ([19], [19]), ([19], [19]), ([19], [19]), ([20, 21, 22, 19, 19], [19, 20, 21, 22]), ([19], [19]), ([19], [19]), ([19], [19]), ([24, 25, 26, 23, 19], [19, 24, 25, 26]), ([23, 27, 19], [19, 23, 27]), ([19, 28], [19, 28]), ([29, 27], [29]), ([30, 30], [30]), ([30, 31], [30, 31]), ([32, 31, 0, 1, 2, 3, 4, 5, 6, 7, 8, 9, 10, 11, 12, 13, 14, 15, 16, 17, 18, 19, 20, 21, 22, 23, 24, 25, 26, 27, 28, 29, 30, 31, 32], [32])])
def chirographlaw13_CrlAsks.B5 : List Nat := [0, 1, 0, 4, 15, 31, 63, 63, 255, 511, 1023, 2047, 2047, 8191, 2047, 2047, 65535, 131071, 262143, 524287, 1048575, 1048575, 1048575, 8388607, 1048575, 1048575, 1048575, 134217727, 268435455, 536870911, 1073741823, 2147483647, 4294967295, 8589934591]
theorem chirographlaw13_CrlAsks.tab5 : rtab .any (opsOf Tryz.f4 5) = chirographlaw13_CrlAsks.T5 := by kernel_rfl
theorem chirographlaw13_CrlAsks.bits5 : waitsOk chirographlaw13_CrlAsks.T5.2 chirographlaw13_CrlAsks.B5 = true := by kernel_rfl
set_option maxHeartbeats 8000000 in
set_option maxRecDepth 100000 in
theorem chirographlaw13_CrlAsks.calls (k : Nat) (A0_0 : Option Addr) (c0_0 : Nat) (l0_0 : List Int) (A0_1 : Option Addr) (c0_1 : Nat) (l0_1 : List Int) (A0_2 : Option Addr) (c0_2 : Nat) (l0_2 : List (List (S64))) (a0_3 : Int) (a0_4 : Int) (a0_5 : Bool) (a0_6 : Int) (a0_7 : Int) (a0_8 : Int) (a0_9 : Int) (A0_10 : Option Addr) (c0_10 : Nat) (l0_10 : List Int) (A0_11 : Option Addr) (c0_11 : Nat) (l0_11 : List (S30)) (A0_12 : Option Addr) (c0_12 : Nat) (l0_12 : List Int) (a0_13 : Bool) (a1 : Int) (A2 : Option Addr) (c2 : Nat) (l2 : List Int) (A3 : Option Addr) (c3 : Nat) (l3 : List Int) (r : Bool) (w : World) (hr0_0 : Kd.C (Kd.int .u8) w A0_0 l0_0.length l0_0) (hc0_0 : l0_0.length ≤ c0_0) (hr0_1 : Kd.C (Kd.int .u8) w A0_1 l0_1.length l0_1) (hc0_1 : l0_1.length ≤ c0_1) (hr0_2 : Kd.C (Kd.slice 64 k64) w A0_2 l0_2.length l0_2) (hc0_2 : l0_2.length ≤ c0_2) (hr0_10 : Kd.C (Kd.int .u8) w A0_10 l0_10.length l0_10) (hc0_10 : l0_10.length ≤ c0_10) (hr0_11 : Kd.C k30 w A0_11 l0_11.length l0_11) (hc0_11 : l0_11.length ≤ c0_11) (hr0_12 : Kd.C (Kd.int .u8) w A0_12 l0_12.length l0_12) (hc0_12 : l0_12.length ≤ c0_12) (hr2 : Kd.C (Kd.int .u8) w A2 l2.length l2) (hc2 : l2.length ≤ c2) (hr3 : Kd.C (Kd.int .i64) w A3 l3.length l3) (hc3 : l3.length ≤ c3) (h : chirographlaw13_CrlAsks.f k l0_0 l0_1 l0_2 a0_3 a0_4 a0_5 a0_6 a0_7 a0_8 a0_9 l0_10 l0_11 l0_12 a0_13 a1 l2 l3 = some r) (hrt : Aside0 (r = true)) :
    Calls Tryz.prog 4 #[.agg #[.slice A0_0 l0_0.length c0_0, .slice A0_1 l0_1.length c0_1, .slice A0_2 l0_2.length c0_2, .int .i64 a0_3, .int .i64 a0_4, .bool a0_5, .int .i64 a0_6, .int .i64 a0_7, .int .i64 a0_8, .int .i64 a0_9, .slice A0_10 l0_10.length c0_10, .slice A0_11 l0_11.length c0_11, .slice A0_12 l0_12.length c0_12, .bool a0_13], .int .i64 a1, .slice A2 l2.length c2, .slice A3 l3.length c3] w fun e w' => e = .returned (.bool r) ∧ Below w.heap.size w w' := by
  have hu28 := Tryz.underlying28
  have hu30 := Tryz.underlying30
  have HR0_0 := Aside0.mk hr0_0
  have HC0_0 := Aside0.mk hc0_0
  clear hr0_0 hc0_0
  have HR0_1 := Aside0.mk hr0_1
  have HC0_1 := Aside0.mk hc0_1
  clear hr0_1 hc0_1
  have HR0_2 := Aside0.mk hr0_2
  have HC0_2 := Aside0.mk hc0_2
  clear hr0_2 hc0_2
  have HR0_10 := Aside0.mk hr0_10
  have HC0_10 := Aside0.mk hc0_10
  clear hr0_10 hc0_10
  have HR0_11 := Aside0.mk hr0_11
  have HC0_11 := Aside0.mk hc0_11
  clear hr0_11 hc0_11
  have HR0_12 := Aside0.mk hr0_12
  have HC0_12 := Aside0.mk hc0_12
  clear hr0_12 hc0_12
  have HR2 := Aside0.mk hr2
  have HC2 := Aside0.mk hc2
  clear hr2 hc2
  have HR3 := Aside0.mk hr3
  have HC3 := Aside0.mk hc3
  clear hr3 hc3
  have HB := Aside0.mk (Below.refl w.heap.size w)
  have H : (if (l0_11.length : Int) > 2000 then (chirographlaw13_CrlAsks.j0 k a1 l2 l3 true l0_0 l0_1 l0_2 a0_3 a0_4 a0_5 a0_6 a0_7 a0_8 a0_9 l0_10 l0_11 l0_12 a0_13) else (if (l3.length : Int) > 2000 then (chirographlaw13_CrlAsks.j0 k a1 l2 l3 true l0_0 l0_1 l0_2 a0_3 a0_4 a0_5 a0_6 a0_7 a0_8 a0_9 l0_10 l0_11 l0_12 a0_13) else (chirographlaw13_CrlAsks.j0 k a1 l2 l3 (decide ((l2.length : Int) > 8192)) l0_0 l0_1 l0_2 a0_3 a0_4 a0_5 a0_6 a0_7 a0_8 a0_9 l0_10 l0_11 l0_12 a0_13))) = some r := h
  clear h
  have HC5 := Aside0.mk H
  clear H
  go_enter Tryz.func4, Tryz.ntmps4
  go_upto_region 1 with (first | ((with_reducible refine gate_dst (N := 4) rfl ?_); (try (refine gate_guard (by rfl) ?_; dsimp only)); refine box_event ?hg (N := 4) ?hd (cs := #[.slice A0_0 l0_0.length c0_0, .slice A0_1 l0_1.length c0_1, .slice A0_2 l0_2.length c0_2, .int .i64 a0_3, .int .i64 a0_4, .bool a0_5, .int .i64 a0_6, .int .i64 a0_7, .int .i64 a0_8, .int .i64 a0_9, .slice A0_10 l0_10.length c0_10, .slice A0_11 l0_11.length c0_11, .slice A0_12 l0_12.length c0_12, .bool a0_13]) (t := 28) ?hr ?_; (case hd => rfl); (case hg => rfl); (case hr => first | (go_simp; done) | (go_simp; rfl)); intro gb430 hg w6 hbox hb; have n0_ := Aside0.mk (below_step (by repeat (first | (with_reducible first | exact HB.out | apply below_alloc | apply pw_below_drewN | apply below_drew1) | exact HB.out)) hb); have n1_ := Aside0.mk (hbox); have n2_ := Aside0.mk ((by rw [hg]; exact (below_size (by repeat (first | (with_reducible first | exact HB.out | apply below_alloc | apply pw_below_drewN | apply below_drew1) | exact HB.out))) : w.heap.size ≤ gb430)); have n3_ := Aside0.mk ((by rw [hg]; exact (below_size (by repeat (first | (with_reducible first | exact HB.out | apply below_alloc | apply pw_below_drewN | apply below_drew1) | exact HB.out))) : w.heap.size ≤ gb430)); clear HB; have HB := n0_; have BK430 := n1_; have GW430 := n2_; have GE430 := n3_; clear n0_ n1_ n2_ n3_; clear hb hbox hg))
  (try simp only [Act.put, List.setIfInBounds_toArray, List.set_cons_zero, List.set_cons_succ])
  go_cut [26] (fun v26 wc => ∃ (kq : Nat) (x26_4 : Bool), v26 = .bool x26_4 ∧ Aside0 (chirographlaw13_CrlAsks.j0 kq a1 l2 l3 x26_4 l0_0 l0_1 l0_2 a0_3 a0_4 a0_5 a0_6 a0_7 a0_8 a0_9 l0_10 l0_11 l0_12 a0_13 = some r) ∧ Aside0 (kq ≤ k) ∧ Aside0 (wc.heap[gb430]? = some (.cells #[(.slice A0_0 l0_0.length c0_0), (.slice A0_1 l0_1.length c0_1), (.slice A0_2 l0_2.length c0_2), .int .i64 a0_3, .int .i64 a0_4, .bool a0_5, .int .i64 a0_6, .int .i64 a0_7, .int .i64 a0_8, .int .i64 a0_9, (.slice A0_10 l0_10.length c0_10), (.slice A0_11 l0_11.length c0_11), (.slice A0_12 l0_12.length c0_12), .bool a0_13] 28 (0, 0))) ∧ Aside0 (Below w.heap.size w wc))
  case first =>
    have H := HC5.out
    clear HC5
    by_cases c7 : (l0_11.length : Int) > 2000
    · rw [if_pos c7] at H
      have c7b0 : decide (2000 < (l0_11.length : Int)) = true := decide_eq_true c7
      have c7b1 : decide (2000 < l0_11.length) = true := decide_eq_true (by omega)
      clear c7
      (first | rw [c7b0] | (simp only [i64_w, i32_w]; rw [c7b0]) | skip)
      have H' := Aside0.mk H
      clear H
      have hcz8_0 : w6.cell? ⟨gb430, 0, none⟩ = some (.slice A0_0 l0_0.length c0_0) := (blk_cell BK430.out 0).trans rfl
      have hcz8_1 : w6.cell? ⟨gb430, 1, none⟩ = some (.slice A0_1 l0_1.length c0_1) := (blk_cell BK430.out 1).trans rfl
      have hcz8_2 : w6.cell? ⟨gb430, 2, none⟩ = some (.slice A0_2 l0_2.length c0_2) := (blk_cell BK430.out 2).trans rfl
      have hcz8_3 : w6.cell? ⟨gb430, 3, none⟩ = some (.int .i64 a0_3) := (blk_cell BK430.out 3).trans rfl
      have hcz8_4 : w6.cell? ⟨gb430, 4, none⟩ = some (.int .i64 a0_4) := (blk_cell BK430.out 4).trans rfl
      have hcz8_5 : w6.cell? ⟨gb430, 5, none⟩ = some (.bool a0_5) := (blk_cell BK430.out 5).trans rfl
      have hcz8_6 : w6.cell? ⟨gb430, 6, none⟩ = some (.int .i64 a0_6) := (blk_cell BK430.out 6).trans rfl
      have hcz8_7 : w6.cell? ⟨gb430, 7, none⟩ = some (.int .i64 a0_7) := (blk_cell BK430.out 7).trans rfl
      have hcz8_8 : w6.cell? ⟨gb430, 8, none⟩ = some (.int .i64 a0_8) := (blk_cell BK430.out 8).trans rfl
      have hcz8_9 : w6.cell? ⟨gb430, 9, none⟩ = some (.int .i64 a0_9) := (blk_cell BK430.out 9).trans rfl
      have hcz8_10 : w6.cell? ⟨gb430, 10, none⟩ = some (.slice A0_10 l0_10.length c0_10) := (blk_cell BK430.out 10).trans rfl
      have hcz8_11 : w6.cell? ⟨gb430, 11, none⟩ = some (.slice A0_11 l0_11.length c0_11) := (blk_cell BK430.out 11).trans rfl
      have hcz8_12 : w6.cell? ⟨gb430, 12, none⟩ = some (.slice A0_12 l0_12.length c0_12) := (blk_cell BK430.out 12).trans rfl
      have hcz8_13 : w6.cell? ⟨gb430, 13, none⟩ = some (.bool a0_13) := (blk_cell BK430.out 13).trans rfl
      have hfz8_0 := blk_frozen BK430.out 0
      have hfz8_1 := blk_frozen BK430.out 1
      have hfz8_2 := blk_frozen BK430.out 2
      have hfz8_3 := blk_frozen BK430.out 3
      have hfz8_4 := blk_frozen BK430.out 4
      have hfz8_5 := blk_frozen BK430.out 5
      have hfz8_6 := blk_frozen BK430.out 6
      have hfz8_7 := blk_frozen BK430.out 7
      have hfz8_8 := blk_frozen BK430.out 8
      have hfz8_9 := blk_frozen BK430.out 9
      have hfz8_10 := blk_frozen BK430.out 10
      have hfz8_11 := blk_frozen BK430.out 11
      have hfz8_12 := blk_frozen BK430.out 12
      have hfz8_13 := blk_frozen BK430.out 13
      go_wp2
      go_meet
      case rel => exact ⟨_, (true), (by first | rfl | (simp; done) | (simp [*]; done)), H', ⟨by first | omega | exact Nat.le_refl _⟩, ⟨by (with_reducible repeat (first | refine blk_drewN ?_ _ | refine blk_drew ?_ | refine blk_alloc ?_ _)); exact BK430.out⟩, ⟨by repeat (first | (with_reducible first | exact HB.out | apply below_alloc | apply pw_below_drewN | apply below_drew1 | refine below_set ?_ GE430.out) | exact HB.out)⟩⟩
    · rw [if_neg c7] at H
      have c7b0 : decide (2000 < (l0_11.length : Int)) = false := decide_eq_false c7
      have c7b1 : decide (2000 < l0_11.length) = false := decide_eq_false (by omega)
      clear c7
      (first | rw [c7b0] | (simp only [i64_w, i32_w]; rw [c7b0]) | skip)
      by_cases c9 : (l3.length : Int) > 2000
      · rw [if_pos c9] at H
        have c9b0 : decide (2000 < (l3.length : Int)) = true := decide_eq_true c9
        have c9b1 : decide (2000 < l3.length) = true := decide_eq_true (by omega)
        clear c9
        have H' := Aside0.mk H
        clear H
        have hcz10_0 : w6.cell? ⟨gb430, 0, none⟩ = some (.slice A0_0 l0_0.length c0_0) := (blk_cell BK430.out 0).trans rfl
        have hcz10_1 : w6.cell? ⟨gb430, 1, none⟩ = some (.slice A0_1 l0_1.length c0_1) := (blk_cell BK430.out 1).trans rfl
        have hcz10_2 : w6.cell? ⟨gb430, 2, none⟩ = some (.slice A0_2 l0_2.length c0_2) := (blk_cell BK430.out 2).trans rfl
        have hcz10_3 : w6.cell? ⟨gb430, 3, none⟩ = some (.int .i64 a0_3) := (blk_cell BK430.out 3).trans rfl
        have hcz10_4 : w6.cell? ⟨gb430, 4, none⟩ = some (.int .i64 a0_4) := (blk_cell BK430.out 4).trans rfl
        have hcz10_5 : w6.cell? ⟨gb430, 5, none⟩ = some (.bool a0_5) := (blk_cell BK430.out 5).trans rfl
        have hcz10_6 : w6.cell? ⟨gb430, 6, none⟩ = some (.int .i64 a0_6) := (blk_cell BK430.out 6).trans rfl
        have hcz10_7 : w6.cell? ⟨gb430, 7, none⟩ = some (.int .i64 a0_7) := (blk_cell BK430.out 7).trans rfl
        have hcz10_8 : w6.cell? ⟨gb430, 8, none⟩ = some (.int .i64 a0_8) := (blk_cell BK430.out 8).trans rfl
        have hcz10_9 : w6.cell? ⟨gb430, 9, none⟩ = some (.int .i64 a0_9) := (blk_cell BK430.out 9).trans rfl
        have hcz10_10 : w6.cell? ⟨gb430, 10, none⟩ = some (.slice A0_10 l0_10.length c0_10) := (blk_cell BK430.out 10).trans rfl
        have hcz10_11 : w6.cell? ⟨gb430, 11, none⟩ = some (.slice A0_11 l0_11.length c0_11) := (blk_cell BK430.out 11).trans rfl
        have hcz10_12 : w6.cell? ⟨gb430, 12, none⟩ = some (.slice A0_12 l0_12.length c0_12) := (blk_cell BK430.out 12).trans rfl
        have hcz10_13 : w6.cell? ⟨gb430, 13, none⟩ = some (.bool a0_13) := (blk_cell BK430.out 13).trans rfl
        have hfz10_0 := blk_frozen BK430.out 0
        have hfz10_1 := blk_frozen BK430.out 1
        have hfz10_2 := blk_frozen BK430.out 2
        have hfz10_3 := blk_frozen BK430.out 3
        have hfz10_4 := blk_frozen BK430.out 4
        have hfz10_5 := blk_frozen BK430.out 5
        have hfz10_6 := blk_frozen BK430.out 6
        have hfz10_7 := blk_frozen BK430.out 7
        have hfz10_8 := blk_frozen BK430.out 8
        have hfz10_9 := blk_frozen BK430.out 9
        have hfz10_10 := blk_frozen BK430.out 10
        have hfz10_11 := blk_frozen BK430.out 11
        have hfz10_12 := blk_frozen BK430.out 12
        have hfz10_13 := blk_frozen BK430.out 13
        go_wp2
        go_meet
        case rel => exact ⟨_, (true), (by first | rfl | (simp; done) | (simp [*]; done)), H', ⟨by first | omega | exact Nat.le_refl _⟩, ⟨by (with_reducible repeat (first | refine blk_drewN ?_ _ | refine blk_drew ?_ | refine blk_alloc ?_ _)); exact BK430.out⟩, ⟨by repeat (first | (with_reducible first | exact HB.out | apply below_alloc | apply pw_below_drewN | apply below_drew1 | refine below_set ?_ GE430.out) | exact HB.out)⟩⟩
      · rw [if_neg c9] at H
        have c9b0 : decide (2000 < (l3.length : Int)) = false := decide_eq_false c9
        have c9b1 : decide (2000 < l3.length) = false := decide_eq_false (by omega)
        clear c9
        have H' := Aside0.mk H
        clear H
        have hcz11_0 : w6.cell? ⟨gb430, 0, none⟩ = some (.slice A0_0 l0_0.length c0_0) := (blk_cell BK430.out 0).trans rfl
        have hcz11_1 : w6.cell? ⟨gb430, 1, none⟩ = some (.slice A0_1 l0_1.length c0_1) := (blk_cell BK430.out 1).trans rfl
        have hcz11_2 : w6.cell? ⟨gb430, 2, none⟩ = some (.slice A0_2 l0_2.length c0_2) := (blk_cell BK430.out 2).trans rfl
        have hcz11_3 : w6.cell? ⟨gb430, 3, none⟩ = some (.int .i64 a0_3) := (blk_cell BK430.out 3).trans rfl
        have hcz11_4 : w6.cell? ⟨gb430, 4, none⟩ = some (.int .i64 a0_4) := (blk_cell BK430.out 4).trans rfl
        have hcz11_5 : w6.cell? ⟨gb430, 5, none⟩ = some (.bool a0_5) := (blk_cell BK430.out 5).trans rfl
        have hcz11_6 : w6.cell? ⟨gb430, 6, none⟩ = some (.int .i64 a0_6) := (blk_cell BK430.out 6).trans rfl
        have hcz11_7 : w6.cell? ⟨gb430, 7, none⟩ = some (.int .i64 a0_7) := (blk_cell BK430.out 7).trans rfl
        have hcz11_8 : w6.cell? ⟨gb430, 8, none⟩ = some (.int .i64 a0_8) := (blk_cell BK430.out 8).trans rfl
        have hcz11_9 : w6.cell? ⟨gb430, 9, none⟩ = some (.int .i64 a0_9) := (blk_cell BK430.out 9).trans rfl
        have hcz11_10 : w6.cell? ⟨gb430, 10, none⟩ = some (.slice A0_10 l0_10.length c0_10) := (blk_cell BK430.out 10).trans rfl
        have hcz11_11 : w6.cell? ⟨gb430, 11, none⟩ = some (.slice A0_11 l0_11.length c0_11) := (blk_cell BK430.out 11).trans rfl
        have hcz11_12 : w6.cell? ⟨gb430, 12, none⟩ = some (.slice A0_12 l0_12.length c0_12) := (blk_cell BK430.out 12).trans rfl
        have hcz11_13 : w6.cell? ⟨gb430, 13, none⟩ = some (.bool a0_13) := (blk_cell BK430.out 13).trans rfl
        have hfz11_0 := blk_frozen BK430.out 0
        have hfz11_1 := blk_frozen BK430.out 1
        have hfz11_2 := blk_frozen BK430.out 2
        have hfz11_3 := blk_frozen BK430.out 3
        have hfz11_4 := blk_frozen BK430.out 4
        have hfz11_5 := blk_frozen BK430.out 5
        have hfz11_6 := blk_frozen BK430.out 6
        have hfz11_7 := blk_frozen BK430.out 7
        have hfz11_8 := blk_frozen BK430.out 8
        have hfz11_9 := blk_frozen BK430.out 9
        have hfz11_10 := blk_frozen BK430.out 10
        have hfz11_11 := blk_frozen BK430.out 11
        have hfz11_12 := blk_frozen BK430.out 12
        have hfz11_13 := blk_frozen BK430.out 13
        go_wp2
        go_meet
        case rel => exact ⟨_, (decide ((l2.length : Int) > 8192)), (by first | rfl | (simp; done) | (simp [*]; done)), H', ⟨by first | omega | exact Nat.le_refl _⟩, ⟨by (with_reducible repeat (first | refine blk_drewN ?_ _ | refine blk_drew ?_ | refine blk_alloc ?_ _)); exact BK430.out⟩, ⟨by repeat (first | (with_reducible first | exact HB.out | apply below_alloc | apply pw_below_drewN | apply below_drew1 | refine below_set ?_ GE430.out) | exact HB.out)⟩⟩
  case rest =>
    clear HC5
    try clear c2
    try clear p2
    try clear c3
    try clear c4
    try clear c7
    try clear c7b0
    try clear c7b1
    try clear c9
    try clear c9b0
    try clear c9b1
    try clear hcz10_0
    try clear hcz10_1
    try clear hcz10_10
    try clear hcz10_11
    try clear hcz10_12
    try clear hcz10_13
    try clear hcz10_2
    try clear hcz10_3
    try clear hcz10_4
    try clear hcz10_5
    try clear hcz10_6
    try clear hcz10_7
    try clear hcz10_8
    try clear hcz10_9
    try clear hcz11_0
    try clear hcz11_1
    try clear hcz11_10
    try clear hcz11_11
    try clear hcz11_12
    try clear hcz11_13
    try clear hcz11_2
    try clear hcz11_3
    try clear hcz11_4
    try clear hcz11_5
    try clear hcz11_6
    try clear hcz11_7
    try clear hcz11_8
    try clear hcz11_9
    try clear hcz8_0
    try clear hcz8_1
    try clear hcz8_10
    try clear hcz8_11
    try clear hcz8_12
    try clear hcz8_13
    try clear hcz8_2
    try clear hcz8_3
    try clear hcz8_4
    try clear hcz8_5
    try clear hcz8_6
    try clear hcz8_7
    try clear hcz8_8
    try clear hcz8_9
    try clear hfz10_0
    try clear hfz10_1
    try clear hfz10_10
    try clear hfz10_11
    try clear hfz10_12
    try clear hfz10_13
    try clear hfz10_2
    try clear hfz10_3
    try clear hfz10_4
    try clear hfz10_5
    try clear hfz10_6
    try clear hfz10_7
    try clear hfz10_8
    try clear hfz10_9
    try clear hfz11_0
    try clear hfz11_1
    try clear hfz11_10
    try clear hfz11_11
    try clear hfz11_12
    try clear hfz11_13
    try clear hfz11_2
    try clear hfz11_3
    try clear hfz11_4
    try clear hfz11_5
    try clear hfz11_6
    try clear hfz11_7
    try clear hfz11_8
    try clear hfz11_9
    try clear hfz8_0
    try clear hfz8_1
    try clear hfz8_10
    try clear hfz8_11
    try clear hfz8_12
    try clear hfz8_13
    try clear hfz8_2
    try clear hfz8_3
    try clear hfz8_4
    try clear hfz8_5
    try clear hfz8_6
    try clear hfz8_7
    try clear hfz8_8
    try clear hfz8_9
    obtain ⟨kq, x26_4, rfl, HA, HJ4, BK430, HB⟩ := hcut
    cases kq with
    | zero => exact absurd HA.out (by simp [chirographlaw13_CrlAsks.j0])
    | succ kj4 =>
      have H := HA.out
      clear HA
      simp only [chirographlaw13_CrlAsks.j0] at H
      by_cases c12 : x26_4 = true
      · subst c12
        have H1 : ((chirographlaw13_live.f).bind fun t431 => (some t431)) = some r := by rw [if_pos rfl] at H; exact H
        clear H
        have H := H1
        clear H1
        replace H := Option.bind_eq_some_iff.mp H
        obtain ⟨t431, A130, H⟩ := H
        replace H : (some t431) = some r := H
        have A13 := Aside0.mk A130
        clear A130
        obtain rfl := Option.some.inj H
        go_wp2_with (first | ((with_reducible refine gate_callee (f := 19) rfl ?_); refine goesL_ (some 27) rfl rfl Tryz.func19 (by kernel_rfl) rfl #[] rfl (by (try simp only [List.map_toArray, List.map_cons, List.map_nil]); first | done | rfl | (simp only [List.length_drop, List.length_take]; rfl)) ?_; (with_reducible refine (chirographlaw13_live.calls  t431 _ A13.out).mono ?_); rintro e w14 ⟨rfl, hb⟩; refine ⟨_, rfl, ?_⟩; have n0_ := Aside0.mk (blk_below (g := gb430) (o := .cells #[.slice A0_0 l0_0.length c0_0, .slice A0_1 l0_1.length c0_1, .slice A0_2 l0_2.length c0_2, .int .i64 a0_3, .int .i64 a0_4, .bool a0_5, .int .i64 a0_6, .int .i64 a0_7, .int .i64 a0_8, .int .i64 a0_9, .slice A0_10 l0_10.length c0_10, .slice A0_11 l0_11.length c0_11, .slice A0_12 l0_12.length c0_12, .bool a0_13] 28 (0, 0)) (by (with_reducible repeat (first | refine blk_drewN ?_ _ | refine blk_drew ?_ | refine blk_alloc ?_ _)); exact BK430.out) hb); have n1_ := Aside0.mk (below_step (by repeat (first | (with_reducible first | exact HB.out | apply below_alloc | apply pw_below_drewN | apply below_drew1 | refine below_set ?_ GE430.out) | exact HB.out)) hb); clear BK430; clear HB; have BK430 := n0_; have HB := n1_; clear n0_ n1_; (try clear hb); (try clear hb2); (try clear hk); (try clear hi)))
        go_ret
        exact ⟨by first | rfl | (simp [errW_none, errW_some] <;> rfl) | (simp [*, errW_none, errW_some] <;> rfl), by repeat (first | (with_reducible first | exact HB.out | apply below_alloc | apply pw_below_drewN | apply below_drew1 | refine below_set ?_ GE430.out) | exact HB.out)⟩
      · replace c12 := Bool.eq_false_iff.mpr c12
        subst c12
        have H1 : ((crl_Find.f kj4 l0_0 l0_1 l0_2 a0_3 a0_4 a0_5 a0_6 a0_7 a0_8 a0_9 l0_10 l0_11 l0_12 a0_13 l2).bind fun bt432 => ((chirographref13_Find.f kj4 l0_0 l0_1 l0_2 a0_3 a0_4 a0_5 a0_6 a0_7 a0_8 a0_9 l0_10 l0_11 l0_12 a0_13 l2).bind fun bt439 => ((chirographref13_SameGone.f kj4 (([(⟨bt432.1, bt432.2.1, bt432.2.2.1⟩ : S30)] : List (S30))) (([(⟨bt439.1, bt439.2.1, bt439.2.2.1⟩ : S30)] : List (S30)))).bind fun t452 => (if t452 = true then (if (bt432.2.2.2 == bt439.2.2.2) = true then ((crl_Fresh.f l0_0 l0_1 l0_2 a0_3 a0_4 a0_5 a0_6 a0_7 a0_8 a0_9 l0_10 l0_11 l0_12 a0_13 a1).bind fun t453 => ((chirographref13_Fresh.f l0_0 l0_1 l0_2 a0_3 a0_4 a0_5 a0_6 a0_7 a0_8 a0_9 l0_10 l0_11 l0_12 a0_13 a1).bind fun t454 => (if (t453 == t454) = true then ((crl_Counts.f kj4 bt439.1 bt439.2.1 bt439.2.2.1 a1 l3).bind fun t455 => ((chirographref13_Counts.f kj4 bt439.1 bt439.2.1 bt439.2.2.1 a1 l3).bind fun t456 => (if (t455 == t456) = true then ((chirographlaw13_live.f).bind fun t457 => (some t457)) else (some false)))) else (some false)))) else (some false)) else (some false))))) = some r := by rw [if_neg (show ¬ (false = true) by decide)] at H; exact H
        clear H
        have H := H1
        clear H1
        replace H := Option.bind_eq_some_iff.mp H
        obtain ⟨⟨t432, t435, t436, t437⟩, A150, H⟩ := H
        replace H : ((chirographref13_Find.f kj4 l0_0 l0_1 l0_2 a0_3 a0_4 a0_5 a0_6 a0_7 a0_8 a0_9 l0_10 l0_11 l0_12 a0_13 l2).bind fun bt439 => ((chirographref13_SameGone.f kj4 (([(⟨t432, t435, t436⟩ : S30)] : List (S30))) (([(⟨bt439.1, bt439.2.1, bt439.2.2.1⟩ : S30)] : List (S30)))).bind fun t452 => (if t452 = true then (if (t437 == bt439.2.2.2) = true then ((crl_Fresh.f l0_0 l0_1 l0_2 a0_3 a0_4 a0_5 a0_6 a0_7 a0_8 a0_9 l0_10 l0_11 l0_12 a0_13 a1).bind fun t453 => ((chirographref13_Fresh.f l0_0 l0_1 l0_2 a0_3 a0_4 a0_5 a0_6 a0_7 a0_8 a0_9 l0_10 l0_11 l0_12 a0_13 a1).bind fun t454 => (if (t453 == t454) = true then ((crl_Counts.f kj4 bt439.1 bt439.2.1 bt439.2.2.1 a1 l3).bind fun t455 => ((chirographref13_Counts.f kj4 bt439.1 bt439.2.1 bt439.2.2.1 a1 l3).bind fun t456 => (if (t455 == t456) = true then ((chirographlaw13_live.f).bind fun t457 => (some t457)) else (some false)))) else (some false)))) else (some false)) else (some false)))) = some r := H
        have A15 := Aside0.mk A150
        clear A150
        replace H := Option.bind_eq_some_iff.mp H
        obtain ⟨⟨t439, t442, t443, t444⟩, A160, H⟩ := H
        replace H : ((chirographref13_SameGone.f kj4 (([(⟨t432, t435, t436⟩ : S30)] : List (S30))) (([(⟨t439, t442, t443⟩ : S30)] : List (S30)))).bind fun t452 => (if t452 = true then (if (t437 == t444) = true then ((crl_Fresh.f l0_0 l0_1 l0_2 a0_3 a0_4 a0_5 a0_6 a0_7 a0_8 a0_9 l0_10 l0_11 l0_12 a0_13 a1).bind fun t453 => ((chirographref13_Fresh.f l0_0 l0_1 l0_2 a0_3 a0_4 a0_5 a0_6 a0_7 a0_8 a0_9 l0_10 l0_11 l0_12 a0_13 a1).bind fun t454 => (if (t453 == t454) = true then ((crl_Counts.f kj4 t439 t442 t443 a1 l3).bind fun t455 => ((chirographref13_Counts.f kj4 t439 t442 t443 a1 l3).bind fun t456 => (if (t455 == t456) = true then ((chirographlaw13_live.f).bind fun t457 => (some t457)) else (some false)))) else (some false)))) else (some false)) else (some false))) = some r := H
        have A16 := Aside0.mk A160
        clear A160
        obtain ⟨y446, hy446⟩ : ∃ y_ : List (S30), y_ = (([(⟨t432, t435, t436⟩ : S30)] : List (S30))) := ⟨_, rfl⟩
        replace H : ((chirographref13_SameGone.f kj4 y446 (([(⟨t439, t442, t443⟩ : S30)] : List (S30)))).bind fun t452 => (if t452 = true then (if (t437 == t444) = true then ((crl_Fresh.f l0_0 l0_1 l0_2 a0_3 a0_4 a0_5 a0_6 a0_7 a0_8 a0_9 l0_10 l0_11 l0_12 a0_13 a1).bind fun t453 => ((chirographref13_Fresh.f l0_0 l0_1 l0_2 a0_3 a0_4 a0_5 a0_6 a0_7 a0_8 a0_9 l0_10 l0_11 l0_12 a0_13 a1).bind fun t454 => (if (t453 == t454) = true then ((crl_Counts.f kj4 t439 t442 t443 a1 l3).bind fun t455 => ((chirographref13_Counts.f kj4 t439 t442 t443 a1 l3).bind fun t456 => (if (t455 == t456) = true then ((chirographlaw13_live.f).bind fun t457 => (some t457)) else (some false)))) else (some false)))) else (some false)) else (some false))) = some r := by first | (rw [hy446]; with_reducible exact H) | (have H2_ := (Option.bind_some _ _).symm.trans H; rw [hy446]; with_reducible exact H2_) | (have H2_ := (Option.bind_some _ _).symm.trans H; with_reducible exact H2_) | with_reducible exact H | (rw [hy446]; exact H) | exact H
        have Ny446 := Aside0.mk hy446
        clear hy446
        obtain ⟨y449, hy449⟩ : ∃ y_ : List (S30), y_ = (([(⟨t439, t442, t443⟩ : S30)] : List (S30))) := ⟨_, rfl⟩
        replace H : ((chirographref13_SameGone.f kj4 y446 y449).bind fun t452 => (if t452 = true then (if (t437 == t444) = true then ((crl_Fresh.f l0_0 l0_1 l0_2 a0_3 a0_4 a0_5 a0_6 a0_7 a0_8 a0_9 l0_10 l0_11 l0_12 a0_13 a1).bind fun t453 => ((chirographref13_Fresh.f l0_0 l0_1 l0_2 a0_3 a0_4 a0_5 a0_6 a0_7 a0_8 a0_9 l0_10 l0_11 l0_12 a0_13 a1).bind fun t454 => (if (t453 == t454) = true then ((crl_Counts.f kj4 t439 t442 t443 a1 l3).bind fun t455 => ((chirographref13_Counts.f kj4 t439 t442 t443 a1 l3).bind fun t456 => (if (t455 == t456) = true then ((chirographlaw13_live.f).bind fun t457 => (some t457)) else (some false)))) else (some false)))) else (some false)) else (some false))) = some r := by first | (rw [hy449]; with_reducible exact H) | (have H2_ := (Option.bind_some _ _).symm.trans H; rw [hy449]; with_reducible exact H2_) | (have H2_ := (Option.bind_some _ _).symm.trans H; with_reducible exact H2_) | with_reducible exact H | (rw [hy449]; exact H) | exact H
        have Ny449 := Aside0.mk hy449
        clear hy449
        replace H := Option.bind_eq_some_iff.mp H
        obtain ⟨t452, A170, H⟩ := H
        replace H : (if t452 = true then (if (t437 == t444) = true then ((crl_Fresh.f l0_0 l0_1 l0_2 a0_3 a0_4 a0_5 a0_6 a0_7 a0_8 a0_9 l0_10 l0_11 l0_12 a0_13 a1).bind fun t453 => ((chirographref13_Fresh.f l0_0 l0_1 l0_2 a0_3 a0_4 a0_5 a0_6 a0_7 a0_8 a0_9 l0_10 l0_11 l0_12 a0_13 a1).bind fun t454 => (if (t453 == t454) = true then ((crl_Counts.f kj4 t439 t442 t443 a1 l3).bind fun t455 => ((chirographref13_Counts.f kj4 t439 t442 t443 a1 l3).bind fun t456 => (if (t455 == t456) = true then ((chirographlaw13_live.f).bind fun t457 => (some t457)) else (some false)))) else (some false)))) else (some false)) else (some false)) = some r := H
        have A17 := Aside0.mk A170
        clear A170
        by_cases c18 : t452 = true
        · subst c18
          have H1 : (if (t437 == t444) = true then ((crl_Fresh.f l0_0 l0_1 l0_2 a0_3 a0_4 a0_5 a0_6 a0_7 a0_8 a0_9 l0_10 l0_11 l0_12 a0_13 a1).bind fun t453 => ((chirographref13_Fresh.f l0_0 l0_1 l0_2 a0_3 a0_4 a0_5 a0_6 a0_7 a0_8 a0_9 l0_10 l0_11 l0_12 a0_13 a1).bind fun t454 => (if (t453 == t454) = true then ((crl_Counts.f kj4 t439 t442 t443 a1 l3).bind fun t455 => ((chirographref13_Counts.f kj4 t439 t442 t443 a1 l3).bind fun t456 => (if (t455 == t456) = true then ((chirographlaw13_live.f).bind fun t457 => (some t457)) else (some false)))) else (some false)))) else (some false)) = some r := by rw [if_pos rfl] at H; exact H
          clear H
          have H := H1
          clear H1
          by_cases c19 : (t437 == t444) = true
          · rw [if_pos c19] at H
            have c19b0 : (t437 == t444) = true := c19
            (try (have c19b1 : decide (t437 = t444) = true := by simpa using c19))
            (try (have c19b2 : (t437 == t444) = true := by simpa using c19))
            clear c19
            replace H := Option.bind_eq_some_iff.mp H
            obtain ⟨t453, A200, H⟩ := H
            replace H : ((chirographref13_Fresh.f l0_0 l0_1 l0_2 a0_3 a0_4 a0_5 a0_6 a0_7 a0_8 a0_9 l0_10 l0_11 l0_12 a0_13 a1).bind fun t454 => (if (t453 == t454) = true then ((crl_Counts.f kj4 t439 t442 t443 a1 l3).bind fun t455 => ((chirographref13_Counts.f kj4 t439 t442 t443 a1 l3).bind fun t456 => (if (t455 == t456) = true then ((chirographlaw13_live.f).bind fun t457 => (some t457)) else (some false)))) else (some false))) = some r := H
            have A20 := Aside0.mk A200
            clear A200
            replace H := Option.bind_eq_some_iff.mp H
            obtain ⟨t454, A210, H⟩ := H
            replace H : (if (t453 == t454) = true then ((crl_Counts.f kj4 t439 t442 t443 a1 l3).bind fun t455 => ((chirographref13_Counts.f kj4 t439 t442 t443 a1 l3).bind fun t456 => (if (t455 == t456) = true then ((chirographlaw13_live.f).bind fun t457 => (some t457)) else (some false)))) else (some false)) = some r := H
            have A21 := Aside0.mk A210
            clear A210
            by_cases c22 : (t453 == t454) = true
            · rw [if_pos c22] at H
              have c22b0 : (t453 == t454) = true := c22
              (try (have c22b1 : decide (t453 = t454) = true := by simpa using c22))
              (try (have c22b2 : (t453 == t454) = true := by simpa using c22))
              clear c22
              replace H := Option.bind_eq_some_iff.mp H
              obtain ⟨t455, A230, H⟩ := H
              replace H : ((chirographref13_Counts.f kj4 t439 t442 t443 a1 l3).bind fun t456 => (if (t455 == t456) = true then ((chirographlaw13_live.f).bind fun t457 => (some t457)) else (some false))) = some r := H
              have A23 := Aside0.mk A230
              clear A230
              replace H := Option.bind_eq_some_iff.mp H
              obtain ⟨t456, A240, H⟩ := H
              replace H : (if (t455 == t456) = true then ((chirographlaw13_live.f).bind fun t457 => (some t457)) else (some false)) = some r := H
              have A24 := Aside0.mk A240
              clear A240
              by_cases c25 : (t455 == t456) = true
              · rw [if_pos c25] at H
                have c25b0 : (t455 == t456) = true := c25
                (try (have c25b1 : decide (t455 = t456) = true := by simpa using c25))
                (try (have c25b2 : (t455 == t456) = true := by simpa using c25))
                clear c25
                replace H := Option.bind_eq_some_iff.mp H
                obtain ⟨t457, A260, H⟩ := H
                replace H : (some t457) = some r := H
                have A26 := Aside0.mk A260
                clear A260
                obtain rfl := Option.some.inj H
                have hcz27_0 : wc.cell? ⟨gb430, 0, none⟩ = some (.slice A0_0 l0_0.length c0_0) := (blk_cell BK430.out 0).trans rfl
                have hcz27_1 : wc.cell? ⟨gb430, 1, none⟩ = some (.slice A0_1 l0_1.length c0_1) := (blk_cell BK430.out 1).trans rfl
                have hcz27_2 : wc.cell? ⟨gb430, 2, none⟩ = some (.slice A0_2 l0_2.length c0_2) := (blk_cell BK430.out 2).trans rfl
                have hcz27_3 : wc.cell? ⟨gb430, 3, none⟩ = some (.int .i64 a0_3) := (blk_cell BK430.out 3).trans rfl
                have hcz27_4 : wc.cell? ⟨gb430, 4, none⟩ = some (.int .i64 a0_4) := (blk_cell BK430.out 4).trans rfl
                have hcz27_5 : wc.cell? ⟨gb430, 5, none⟩ = some (.bool a0_5) := (blk_cell BK430.out 5).trans rfl
                have hcz27_6 : wc.cell? ⟨gb430, 6, none⟩ = some (.int .i64 a0_6) := (blk_cell BK430.out 6).trans rfl
                have hcz27_7 : wc.cell? ⟨gb430, 7, none⟩ = some (.int .i64 a0_7) := (blk_cell BK430.out 7).trans rfl
                have hcz27_8 : wc.cell? ⟨gb430, 8, none⟩ = some (.int .i64 a0_8) := (blk_cell BK430.out 8).trans rfl
                have hcz27_9 : wc.cell? ⟨gb430, 9, none⟩ = some (.int .i64 a0_9) := (blk_cell BK430.out 9).trans rfl
                have hcz27_10 : wc.cell? ⟨gb430, 10, none⟩ = some (.slice A0_10 l0_10.length c0_10) := (blk_cell BK430.out 10).trans rfl
                have hcz27_11 : wc.cell? ⟨gb430, 11, none⟩ = some (.slice A0_11 l0_11.length c0_11) := (blk_cell BK430.out 11).trans rfl
                have hcz27_12 : wc.cell? ⟨gb430, 12, none⟩ = some (.slice A0_12 l0_12.length c0_12) := (blk_cell BK430.out 12).trans rfl
                have hcz27_13 : wc.cell? ⟨gb430, 13, none⟩ = some (.bool a0_13) := (blk_cell BK430.out 13).trans rfl
                have hfz27_0 := blk_frozen BK430.out 0
                have hfz27_1 := blk_frozen BK430.out 1
                have hfz27_2 := blk_frozen BK430.out 2
                have hfz27_3 := blk_frozen BK430.out 3
                have hfz27_4 := blk_frozen BK430.out 4
                have hfz27_5 := blk_frozen BK430.out 5
                have hfz27_6 := blk_frozen BK430.out 6
                have hfz27_7 := blk_frozen BK430.out 7
                have hfz27_8 := blk_frozen BK430.out 8
                have hfz27_9 := blk_frozen BK430.out 9
                have hfz27_10 := blk_frozen BK430.out 10
                have hfz27_11 := blk_frozen BK430.out 11
                have hfz27_12 := blk_frozen BK430.out 12
                have hfz27_13 := blk_frozen BK430.out 13
                try go_wp2_with (first | ((with_reducible refine gate_callee (f := 22) rfl ?_); refine goesL_ (some 31) rfl rfl Tryz.func22 (by kernel_rfl) rfl #[.agg #[.slice A0_0 l0_0.length c0_0, .slice A0_1 l0_1.length c0_1, .slice A0_2 l0_2.length c0_2, .int .i64 a0_3, .int .i64 a0_4, .bool a0_5, .int .i64 a0_6, .int .i64 a0_7, .int .i64 a0_8, .int .i64 a0_9, .slice A0_10 l0_10.length c0_10, .slice A0_11 l0_11.length c0_11, .slice A0_12 l0_12.length c0_12, .bool a0_13], .slice A2 l2.length c2] rfl (by (try simp only [List.map_toArray, List.map_cons, List.map_nil]); first | done | rfl | (simp only [List.length_drop, List.length_take]; rfl)) ?_; (with_reducible refine (crl_Find.calls kj4 _ _ l0_0 _ _ l0_1 _ _ l0_2 a0_3 a0_4 a0_5 a0_6 a0_7 a0_8 a0_9 _ _ l0_10 _ _ l0_11 _ _ l0_12 a0_13 _ _ l2 t432 t435 t436 t437 _ ?side1 ?side2 ?side3 ?side4 ?side5 ?side6 ?side7 ?side8 ?side9 ?side10 ?side11 ?side12 ?side13 ?side14 A15.out).mono ?_); (case side1 => repeat (first | exact (Kd.C_below HR0_0.out HB.out) | (with_reducible refine Kd.C_alloc ?_ _) | (with_reducible refine Kd.C_drewN ?_ _) | (with_reducible refine Kd.C_drew ?_))); (case side2 => exact HC0_0.out); (case side3 => repeat (first | exact (Kd.C_below HR0_1.out HB.out) | (with_reducible refine Kd.C_alloc ?_ _) | (with_reducible refine Kd.C_drewN ?_ _) | (with_reducible refine Kd.C_drew ?_))); (case side4 => exact HC0_1.out); (case side5 => repeat (first | exact (Kd.C_below HR0_2.out HB.out) | (with_reducible refine Kd.C_alloc ?_ _) | (with_reducible refine Kd.C_drewN ?_ _) | (with_reducible refine Kd.C_drew ?_))); (case side6 => exact HC0_2.out); (case side7 => repeat (first | exact (Kd.C_below HR0_10.out HB.out) | (with_reducible refine Kd.C_alloc ?_ _) | (with_reducible refine Kd.C_drewN ?_ _) | (with_reducible refine Kd.C_drew ?_))); (case side8 => exact HC0_10.out); (case side9 => repeat (first | exact (Kd.C_below HR0_11.out HB.out) | (with_reducible refine Kd.C_alloc ?_ _) | (with_reducible refine Kd.C_drewN ?_ _) | (with_reducible refine Kd.C_drew ?_))); (case side10 => exact HC0_11.out); (case side11 => repeat (first | exact (Kd.C_below HR0_12.out HB.out) | (with_reducible refine Kd.C_alloc ?_ _) | (with_reducible refine Kd.C_drewN ?_ _) | (with_reducible refine Kd.C_drew ?_))); (case side12 => exact HC0_12.out); (case side13 => repeat (first | exact (Kd.C_below HR2.out HB.out) | (with_reducible refine Kd.C_alloc ?_ _) | (with_reducible refine Kd.C_drewN ?_ _) | (with_reducible refine Kd.C_drew ?_))); (case side14 => exact HC2.out); rintro e w28 ⟨v433, rfl, ho0, hb⟩; refine ⟨_, rfl, ?_⟩; have n0_ := Aside0.mk (Kd.R_lower ho0 (below_size (by repeat (first | (with_reducible first | exact HB.out | apply below_alloc | apply pw_below_drewN | apply below_drew1 | refine below_set ?_ GE430.out) | exact HB.out)))); have n1_ := Aside0.mk (blk_below (g := gb430) (o := .cells #[.slice A0_0 l0_0.length c0_0, .slice A0_1 l0_1.length c0_1, .slice A0_2 l0_2.length c0_2, .int .i64 a0_3, .int .i64 a0_4, .bool a0_5, .int .i64 a0_6, .int .i64 a0_7, .int .i64 a0_8, .int .i64 a0_9, .slice A0_10 l0_10.length c0_10, .slice A0_11 l0_11.length c0_11, .slice A0_12 l0_12.length c0_12, .bool a0_13] 28 (0, 0)) (by (with_reducible repeat (first | refine blk_drewN ?_ _ | refine blk_drew ?_ | refine blk_alloc ?_ _)); exact BK430.out) hb); have n2_ := Aside0.mk (below_step (by repeat (first | (with_reducible first | exact HB.out | apply below_alloc | apply pw_below_drewN | apply below_drew1 | refine below_set ?_ GE430.out) | exact HB.out)) hb); clear BK430; clear HB; have HO434 := n0_; have BK430 := n1_; have HB := n2_; clear n0_ n1_ n2_; (try clear hb); (try clear hb2); (try clear hk); (try clear hi); (try clear ho0)) | ((with_reducible refine gate_dst (N := 9) rfl ?_); (try (refine gate_guard (by rfl) ?_; dsimp only)); refine box_event ?hg (N := 9) ?hd (cs := #[.slice none 0 0, .int .i64 0, .int .i64 0]) (t := 30) ?hr ?_; (case hd => rfl); (case hg => rfl); (case hr => first | (go_simp; done) | (go_simp; rfl)); intro gb438 hg w29 hbox hb; have n0_ := Aside0.mk (Kd.R_below (by (with_reducible repeat (first | apply Kd.R_alloc | apply Kd.R_drewN | apply Kd.R_drew)); exact HO434.out) hb); have n1_ := Aside0.mk (blk_below (g := gb430) (o := .cells #[.slice A0_0 l0_0.length c0_0, .slice A0_1 l0_1.length c0_1, .slice A0_2 l0_2.length c0_2, .int .i64 a0_3, .int .i64 a0_4, .bool a0_5, .int .i64 a0_6, .int .i64 a0_7, .int .i64 a0_8, .int .i64 a0_9, .slice A0_10 l0_10.length c0_10, .slice A0_11 l0_11.length c0_11, .slice A0_12 l0_12.length c0_12, .bool a0_13] 28 (0, 0)) (by (with_reducible repeat (first | refine blk_drewN ?_ _ | refine blk_drew ?_ | refine blk_alloc ?_ _)); exact BK430.out) hb); have n2_ := Aside0.mk (below_step (by repeat (first | (with_reducible first | exact HB.out | apply below_alloc | apply pw_below_drewN | apply below_drew1 | refine below_set ?_ GE430.out) | exact HB.out)) hb); have n3_ := Aside0.mk (hbox); have n4_ := Aside0.mk ((by rw [hg]; exact (below_size (by repeat (first | (with_reducible first | exact HB.out | apply below_alloc | apply pw_below_drewN | apply below_drew1 | refine below_set ?_ GE430.out) | exact HB.out))) : w.heap.size ≤ gb438)); have n5_ := Aside0.mk ((by rw [hg]; exact (below_size (by repeat (first | (with_reducible first | exact HB.out | apply below_alloc | apply pw_below_drewN | apply below_drew1 | refine below_set ?_ GE430.out) | exact HB.out))) : w.heap.size ≤ gb438)); have n6_ := Aside0.mk ((by rw [hg]; exact Nat.ne_of_lt (blk_lt (g := gb430) (o := .cells #[.slice A0_0 l0_0.length c0_0, .slice A0_1 l0_1.length c0_1, .slice A0_2 l0_2.length c0_2, .int .i64 a0_3, .int .i64 a0_4, .bool a0_5, .int .i64 a0_6, .int .i64 a0_7, .int .i64 a0_8, .int .i64 a0_9, .slice A0_10 l0_10.length c0_10, .slice A0_11 l0_11.length c0_11, .slice A0_12 l0_12.length c0_12, .bool a0_13] 28 (0, 0)) (by (with_reducible repeat (first | refine blk_drewN ?_ _ | refine blk_drew ?_ | refine blk_alloc ?_ _)); exact BK430.out)) : gb430 ≠ gb438)); have n7_ := Aside0.mk ((by rw [hg]; exact Nat.ne_of_gt (blk_lt (g := gb430) (o := .cells #[.slice A0_0 l0_0.length c0_0, .slice A0_1 l0_1.length c0_1, .slice A0_2 l0_2.length c0_2, .int .i64 a0_3, .int .i64 a0_4, .bool a0_5, .int .i64 a0_6, .int .i64 a0_7, .int .i64 a0_8, .int .i64 a0_9, .slice A0_10 l0_10.length c0_10, .slice A0_11 l0_11.length c0_11, .slice A0_12 l0_12.length c0_12, .bool a0_13] 28 (0, 0)) (by (with_reducible repeat (first | refine blk_drewN ?_ _ | refine blk_drew ?_ | refine blk_alloc ?_ _)); exact BK430.out)) : gb438 ≠ gb430)); clear HO434; clear BK430; clear HB; have HO434 := n0_; have BK430 := n1_; have HB := n2_; have BK438 := n3_; have GW438 := n4_; have GE438 := n5_; have NB430_438 := n6_; have NB438_430 := n7_; clear n0_ n1_ n2_ n3_ n4_ n5_ n6_ n7_; clear hb hbox hg; obtain ⟨Ao30, co30, eo30⟩ := Kd.R_slice HO434.out; subst eo30; have hnb31 := NB438_430.out; have hnc31 := NB430_438.out; have hcz32_0 : w29.cell? ⟨gb438, 0, none⟩ = some (.slice none 0 0) := (blk_cell BK438.out 0).trans rfl; have hcz32_1 : w29.cell? ⟨gb438, 1, none⟩ = some (.int .i64 0) := (blk_cell BK438.out 1).trans rfl; have hcz32_2 : w29.cell? ⟨gb438, 2, none⟩ = some (.int .i64 0) := (blk_cell BK438.out 2).trans rfl; have hfz32_0 := blk_frozen BK438.out 0; have hfz32_1 := blk_frozen BK438.out 1; have hfz32_2 := blk_frozen BK438.out 2) | ((with_reducible refine gate_store (t := 30) (p := 9) rfl ?_); refine store_event (t := 30) (p := 9) (v := ?vo_w33) (w1 := (((w29.setCell ⟨gb438, 0, none⟩ (.slice Ao30 t432.length co30)).setCell ⟨gb438, 1, none⟩ (.int .i64 t435)).setCell ⟨gb438, 2, none⟩ (.int .i64 t436))) ?hg ?ho ?hn ?hr ?_; (case ho => rfl); (case hg => rfl); (case hn => rfl); (case hr => first | (go_simp; done) | (go_simp; rfl)); intro w33 hw; have n0_ : Aside0 (Kd.R (Kd.int .u8) 5 w33 w.heap.size (fun _ => True) (.slice Ao30 t432.length co30) t432) := ⟨(by rw [hw]; exact (by (with_reducible repeat (first | apply Kd.R_alloc | apply Kd.R_drewN | apply Kd.R_drew)); exact Kd.R_mono (Kd.R_far (p := ⟨gb438, 2, none⟩) (Kd.R_far (p := ⟨gb438, 1, none⟩) (Kd.R_far (p := ⟨gb438, 0, none⟩) (Kd.R_types HO434.out BK438.out (by decide)) (fun _ hk => hk.2) (.slice Ao30 t432.length co30)) (fun _ hk => hk.2) (.int .i64 t435)) (fun _ hk => hk.2) (.int .i64 t436)) (fun _ hk => trivial)))⟩; have n1_ : Aside0 (w33.heap[gb430]? = some (.cells #[.slice A0_0 l0_0.length c0_0, .slice A0_1 l0_1.length c0_1, .slice A0_2 l0_2.length c0_2, .int .i64 a0_3, .int .i64 a0_4, .bool a0_5, .int .i64 a0_6, .int .i64 a0_7, .int .i64 a0_8, .int .i64 a0_9, .slice A0_10 l0_10.length c0_10, .slice A0_11 l0_11.length c0_11, .slice A0_12 l0_12.length c0_12, .bool a0_13] 28 (0, 0))) := ⟨(by rw [hw]; exact (by (with_reducible repeat (first | refine blk_drewN ?_ _ | refine blk_drew ?_ | refine blk_alloc ?_ _)); refine blk_far ?_ NB430_438.out _; (with_reducible repeat (first | refine blk_drewN ?_ _ | refine blk_drew ?_ | refine blk_alloc ?_ _)); refine blk_far ?_ NB430_438.out _; (with_reducible repeat (first | refine blk_drewN ?_ _ | refine blk_drew ?_ | refine blk_alloc ?_ _)); refine blk_far ?_ NB430_438.out _; (with_reducible repeat (first | refine blk_drewN ?_ _ | refine blk_drew ?_ | refine blk_alloc ?_ _)); exact BK430.out))⟩; have n2_ : Aside0 (w33.heap[gb438]? = some (.cells #[.slice Ao30 t432.length co30, .int .i64 t435, .int .i64 t436] 30 (0, 0))) := ⟨(by rw [hw]; exact (by (with_reducible repeat (first | refine blk_drewN ?_ _ | refine blk_drew ?_ | refine blk_alloc ?_ _)); refine blk_put (cs := #[.slice Ao30 t432.length co30, .int .i64 t435, .int .i64 0]) ?_ 2 _ rfl; (with_reducible repeat (first | refine blk_drewN ?_ _ | refine blk_drew ?_ | refine blk_alloc ?_ _)); refine blk_put (cs := #[.slice Ao30 t432.length co30, .int .i64 0, .int .i64 0]) ?_ 1 _ rfl; (with_reducible repeat (first | refine blk_drewN ?_ _ | refine blk_drew ?_ | refine blk_alloc ?_ _)); refine blk_put (cs := #[.slice none 0 0, .int .i64 0, .int .i64 0]) ?_ 0 _ rfl; (with_reducible repeat (first | refine blk_drewN ?_ _ | refine blk_drew ?_ | refine blk_alloc ?_ _)); exact BK438.out))⟩; have n3_ : Aside0 (Below w.heap.size w w33) := ⟨(by rw [hw]; exact (by repeat (first | (with_reducible first | exact HB.out | apply below_alloc | apply pw_below_drewN | apply below_drew1 | refine below_set ?_ GE430.out | refine below_set ?_ GE438.out) | exact HB.out)))⟩; clear hw; clear HO434; clear BK430; clear BK438; clear HB; have HO434 := n0_; have BK430 := n1_; have BK438 := n2_; have HB := n3_; clear n0_ n1_ n2_ n3_; have hcz34_0 : w33.cell? ⟨gb430, 0, none⟩ = some (.slice A0_0 l0_0.length c0_0) := (blk_cell BK430.out 0).trans rfl; have hcz34_1 : w33.cell? ⟨gb430, 1, none⟩ = some (.slice A0_1 l0_1.length c0_1) := (blk_cell BK430.out 1).trans rfl; have hcz34_2 : w33.cell? ⟨gb430, 2, none⟩ = some (.slice A0_2 l0_2.length c0_2) := (blk_cell BK430.out 2).trans rfl; have hcz34_3 : w33.cell? ⟨gb430, 3, none⟩ = some (.int .i64 a0_3) := (blk_cell BK430.out 3).trans rfl; have hcz34_4 : w33.cell? ⟨gb430, 4, none⟩ = some (.int .i64 a0_4) := (blk_cell BK430.out 4).trans rfl; have hcz34_5 : w33.cell? ⟨gb430, 5, none⟩ = some (.bool a0_5) := (blk_cell BK430.out 5).trans rfl; have hcz34_6 : w33.cell? ⟨gb430, 6, none⟩ = some (.int .i64 a0_6) := (blk_cell BK430.out 6).trans rfl; have hcz34_7 : w33.cell? ⟨gb430, 7, none⟩ = some (.int .i64 a0_7) := (blk_cell BK430.out 7).trans rfl; have hcz34_8 : w33.cell? ⟨gb430, 8, none⟩ = some (.int .i64 a0_8) := (blk_cell BK430.out 8).trans rfl; have hcz34_9 : w33.cell? ⟨gb430, 9, none⟩ = some (.int .i64 a0_9) := (blk_cell BK430.out 9).trans rfl; have hcz34_10 : w33.cell? ⟨gb430, 10, none⟩ = some (.slice A0_10 l0_10.length c0_10) := (blk_cell BK430.out 10).trans rfl; have hcz34_11 : w33.cell? ⟨gb430, 11, none⟩ = some (.slice A0_11 l0_11.length c0_11) := (blk_cell BK430.out 11).trans rfl; have hcz34_12 : w33.cell? ⟨gb430, 12, none⟩ = some (.slice A0_12 l0_12.length c0_12) := (blk_cell BK430.out 12).trans rfl; have hcz34_13 : w33.cell? ⟨gb430, 13, none⟩ = some (.bool a0_13) := (blk_cell BK430.out 13).trans rfl; have hfz34_0 := blk_frozen BK430.out 0; have hfz34_1 := blk_frozen BK430.out 1; have hfz34_2 := blk_frozen BK430.out 2; have hfz34_3 := blk_frozen BK430.out 3; have hfz34_4 := blk_frozen BK430.out 4; have hfz34_5 := blk_frozen BK430.out 5; have hfz34_6 := blk_frozen BK430.out 6; have hfz34_7 := blk_frozen BK430.out 7; have hfz34_8 := blk_frozen BK430.out 8; have hfz34_9 := blk_frozen BK430.out 9; have hfz34_10 := blk_frozen BK430.out 10; have hfz34_11 := blk_frozen BK430.out 11; have hfz34_12 := blk_frozen BK430.out 12; have hfz34_13 := blk_frozen BK430.out 13) | ((with_reducible refine gate_callee (f := 23) rfl ?_); refine goesL_ (some 37) rfl rfl Tryz.func23 (by kernel_rfl) rfl #[.agg #[.slice A0_0 l0_0.length c0_0, .slice A0_1 l0_1.length c0_1, .slice A0_2 l0_2.length c0_2, .int .i64 a0_3, .int .i64 a0_4, .bool a0_5, .int .i64 a0_6, .int .i64 a0_7, .int .i64 a0_8, .int .i64 a0_9, .slice A0_10 l0_10.length c0_10, .slice A0_11 l0_11.length c0_11, .slice A0_12 l0_12.length c0_12, .bool a0_13], .slice A2 l2.length c2] rfl (by (try simp only [List.map_toArray, List.map_cons, List.map_nil]); first | done | rfl | (simp only [List.length_drop, List.length_take]; rfl)) ?_; (with_reducible refine (chirographref13_Find.calls kj4 _ _ l0_0 _ _ l0_1 _ _ l0_2 a0_3 a0_4 a0_5 a0_6 a0_7 a0_8 a0_9 _ _ l0_10 (fun k_ => k_ < w.heap.size) _ _ l0_11 _ _ l0_12 a0_13 _ _ l2 t439 t442 t443 t444 _ ?side1 ?side2 ?side3 ?side4 ?side5 ?side6 ?side7 ?side8 ?side9 ?side10 ?side11 ?side12 ?side13 A16.out).mono ?_); (case side1 => repeat (first | exact (Kd.C_below HR0_0.out HB.out) | (with_reducible refine Kd.C_alloc ?_ _) | (with_reducible refine Kd.C_drewN ?_ _) | (with_reducible refine Kd.C_drew ?_))); (case side2 => exact HC0_0.out); (case side3 => repeat (first | exact (Kd.C_below HR0_1.out HB.out) | (with_reducible refine Kd.C_alloc ?_ _) | (with_reducible refine Kd.C_drewN ?_ _) | (with_reducible refine Kd.C_drew ?_))); (case side4 => exact HC0_1.out); (case side5 => repeat (first | exact (Kd.C_below HR0_2.out HB.out) | (with_reducible refine Kd.C_alloc ?_ _) | (with_reducible refine Kd.C_drewN ?_ _) | (with_reducible refine Kd.C_drew ?_))); (case side6 => exact HC0_2.out); (case side7 => repeat (first | exact (Kd.C_below HR0_10.out HB.out) | (with_reducible refine Kd.C_alloc ?_ _) | (with_reducible refine Kd.C_drewN ?_ _) | (with_reducible refine Kd.C_drew ?_))); (case side8 => exact HC0_10.out); (case side9 => exact Kd.V_mk HC0_11.out (Kd.F_below (Kd.C_F k30_heap HR0_11.out) (by repeat (first | (with_reducible first | exact HB.out | apply below_alloc | apply pw_below_drewN | apply below_drew1 | refine below_set ?_ GE430.out | refine below_set ?_ GE438.out) | exact HB.out)))); (case side10 => repeat (first | exact (Kd.C_below HR0_12.out HB.out) | (with_reducible refine Kd.C_alloc ?_ _) | (with_reducible refine Kd.C_drewN ?_ _) | (with_reducible refine Kd.C_drew ?_))); (case side11 => exact HC0_12.out); (case side12 => repeat (first | exact (Kd.C_below HR2.out HB.out) | (with_reducible refine Kd.C_alloc ?_ _) | (with_reducible refine Kd.C_drewN ?_ _) | (with_reducible refine Kd.C_drew ?_))); (case side13 => exact HC2.out); rintro e w35 ⟨v440, rfl, ho0, hb⟩; refine ⟨_, rfl, ?_⟩; have n0_ := Aside0.mk (Kd.R_below (by (with_reducible repeat (first | apply Kd.R_alloc | apply Kd.R_drewN | apply Kd.R_drew)); exact HO434.out) hb); have n1_ := Aside0.mk (Kd.V_lower (Kd.V_mono (ok' := fun k_ => some k_ ≠ (.slice Ao30 t432.length co30 : Value).ownBlock ∧ k_ ≠ gb430 ∧ k_ ≠ gb438) ho0 (fun k_ hk_ => ⟨Or.elim hk_ (fun hs_ => fun e_ => Nat.not_le.2 hs_ (Kd.R_base HO434.out k_ e_.symm)) (fun hn_ => (Kd.fresh' (Kd.R_lt (by (with_reducible repeat (first | apply Kd.R_alloc | apply Kd.R_drewN | apply Kd.R_drew)); exact HO434.out)) k_ hn_)), Or.elim hk_ (fun hs_ => fun e_ => Nat.not_le.2 hs_ (by rw [e_]; exact GW430.out)) (fun hn_ => (Kd.freshB (g := gb430) (o := .cells #[.slice A0_0 l0_0.length c0_0, .slice A0_1 l0_1.length c0_1, .slice A0_2 l0_2.length c0_2, .int .i64 a0_3, .int .i64 a0_4, .bool a0_5, .int .i64 a0_6, .int .i64 a0_7, .int .i64 a0_8, .int .i64 a0_9, .slice A0_10 l0_10.length c0_10, .slice A0_11 l0_11.length c0_11, .slice A0_12 l0_12.length c0_12, .bool a0_13] 28 (0, 0)) (by (with_reducible repeat (first | refine blk_drewN ?_ _ | refine blk_drew ?_ | refine blk_alloc ?_ _)); exact BK430.out) k_ hn_)), Or.elim hk_ (fun hs_ => fun e_ => Nat.not_le.2 hs_ (by rw [e_]; exact GW438.out)) (fun hn_ => (Kd.freshB (g := gb438) (o := .cells #[.slice Ao30 t432.length co30, .int .i64 t435, .int .i64 t436] 30 (0, 0)) (by (with_reducible repeat (first | refine blk_drewN ?_ _ | refine blk_drew ?_ | refine blk_alloc ?_ _)); exact BK438.out) k_ hn_))⟩)) (below_size (by repeat (first | (with_reducible first | exact HB.out | apply below_alloc | apply pw_below_drewN | apply below_drew1 | refine below_set ?_ GE430.out | refine below_set ?_ GE438.out) | exact HB.out)))); have n2_ := Aside0.mk (blk_below (g := gb430) (o := .cells #[.slice A0_0 l0_0.length c0_0, .slice A0_1 l0_1.length c0_1, .slice A0_2 l0_2.length c0_2, .int .i64 a0_3, .int .i64 a0_4, .bool a0_5, .int .i64 a0_6, .int .i64 a0_7, .int .i64 a0_8, .int .i64 a0_9, .slice A0_10 l0_10.length c0_10, .slice A0_11 l0_11.length c0_11, .slice A0_12 l0_12.length c0_12, .bool a0_13] 28 (0, 0)) (by (with_reducible repeat (first | refine blk_drewN ?_ _ | refine blk_drew ?_ | refine blk_alloc ?_ _)); exact BK430.out) hb); have n3_ := Aside0.mk (blk_below (g := gb438) (o := .cells #[.slice Ao30 t432.length co30, .int .i64 t435, .int .i64 t436] 30 (0, 0)) (by (with_reducible repeat (first | refine blk_drewN ?_ _ | refine blk_drew ?_ | refine blk_alloc ?_ _)); exact BK438.out) hb); have n4_ := Aside0.mk (below_step (by repeat (first | (with_reducible first | exact HB.out | apply below_alloc | apply pw_below_drewN | apply below_drew1 | refine below_set ?_ GE430.out | refine below_set ?_ GE438.out) | exact HB.out)) hb); clear HO434; clear BK430; clear BK438; clear HB; have HO434 := n0_; have HO441 := n1_; have BK430 := n2_; have BK438 := n3_; have HB := n4_; clear n0_ n1_ n2_ n3_ n4_; (try clear hb); (try clear hb2); (try clear hk); (try clear hi); (try clear ho0)) | ((with_reducible refine gate_dst (N := 11) rfl ?_); (try (refine gate_guard (by rfl) ?_; dsimp only)); refine box_event ?hg (N := 11) ?hd (cs := #[.slice none 0 0, .int .i64 0, .int .i64 0]) (t := 30) ?hr ?_; (case hd => rfl); (case hg => rfl); (case hr => first | (go_simp; done) | (go_simp; rfl)); intro gb445 hg w36 hbox hb; have n0_ := Aside0.mk (Kd.R_below (by (with_reducible repeat (first | apply Kd.R_alloc | apply Kd.R_drewN | apply Kd.R_drew)); exact HO434.out) hb); have n1_ := Aside0.mk (Kd.V_below (Kd.V_elderB (by (with_reducible repeat (first | apply Kd.V_alloc | apply Kd.V_drewN | apply Kd.V_drew)); exact HO441.out) gb445 (Nat.le_of_eq hg.symm)) hb); have n2_ := Aside0.mk (blk_below (g := gb430) (o := .cells #[.slice A0_0 l0_0.length c0_0, .slice A0_1 l0_1.length c0_1, .slice A0_2 l0_2.length c0_2, .int .i64 a0_3, .int .i64 a0_4, .bool a0_5, .int .i64 a0_6, .int .i64 a0_7, .int .i64 a0_8, .int .i64 a0_9, .slice A0_10 l0_10.length c0_10, .slice A0_11 l0_11.length c0_11, .slice A0_12 l0_12.length c0_12, .bool a0_13] 28 (0, 0)) (by (with_reducible repeat (first | refine blk_drewN ?_ _ | refine blk_drew ?_ | refine blk_alloc ?_ _)); exact BK430.out) hb); have n3_ := Aside0.mk (blk_below (g := gb438) (o := .cells #[.slice Ao30 t432.length co30, .int .i64 t435, .int .i64 t436] 30 (0, 0)) (by (with_reducible repeat (first | refine blk_drewN ?_ _ | refine blk_drew ?_ | refine blk_alloc ?_ _)); exact BK438.out) hb); have n4_ := Aside0.mk (below_step (by repeat (first | (with_reducible first | exact HB.out | apply below_alloc | apply pw_below_drewN | apply below_drew1 | refine below_set ?_ GE430.out | refine below_set ?_ GE438.out) | exact HB.out)) hb); have n5_ := Aside0.mk (hbox); have n6_ := Aside0.mk ((by rw [hg]; exact (below_size (by repeat (first | (with_reducible first | exact HB.out | apply below_alloc | apply pw_below_drewN | apply below_drew1 | refine below_set ?_ GE430.out | refine below_set ?_ GE438.out) | exact HB.out))) : w.heap.size ≤ gb445)); have n7_ := Aside0.mk ((by rw [hg]; exact (below_size (by repeat (first | (with_reducible first | exact HB.out | apply below_alloc | apply pw_below_drewN | apply below_drew1 | refine below_set ?_ GE430.out | refine below_set ?_ GE438.out) | exact HB.out))) : w.heap.size ≤ gb445)); have n8_ := Aside0.mk ((by rw [hg]; exact Nat.ne_of_lt (blk_lt (g := gb430) (o := .cells #[.slice A0_0 l0_0.length c0_0, .slice A0_1 l0_1.length c0_1, .slice A0_2 l0_2.length c0_2, .int .i64 a0_3, .int .i64 a0_4, .bool a0_5, .int .i64 a0_6, .int .i64 a0_7, .int .i64 a0_8, .int .i64 a0_9, .slice A0_10 l0_10.length c0_10, .slice A0_11 l0_11.length c0_11, .slice A0_12 l0_12.length c0_12, .bool a0_13] 28 (0, 0)) (by (with_reducible repeat (first | refine blk_drewN ?_ _ | refine blk_drew ?_ | refine blk_alloc ?_ _)); exact BK430.out)) : gb430 ≠ gb445)); have n9_ := Aside0.mk ((by rw [hg]; exact Nat.ne_of_gt (blk_lt (g := gb430) (o := .cells #[.slice A0_0 l0_0.length c0_0, .slice A0_1 l0_1.length c0_1, .slice A0_2 l0_2.length c0_2, .int .i64 a0_3, .int .i64 a0_4, .bool a0_5, .int .i64 a0_6, .int .i64 a0_7, .int .i64 a0_8, .int .i64 a0_9, .slice A0_10 l0_10.length c0_10, .slice A0_11 l0_11.length c0_11, .slice A0_12 l0_12.length c0_12, .bool a0_13] 28 (0, 0)) (by (with_reducible repeat (first | refine blk_drewN ?_ _ | refine blk_drew ?_ | refine blk_alloc ?_ _)); exact BK430.out)) : gb445 ≠ gb430)); have n10_ := Aside0.mk ((by rw [hg]; exact Nat.ne_of_lt (blk_lt (g := gb438) (o := .cells #[.slice Ao30 t432.length co30, .int .i64 t435, .int .i64 t436] 30 (0, 0)) (by (with_reducible repeat (first | refine blk_drewN ?_ _ | refine blk_drew ?_ | refine blk_alloc ?_ _)); exact BK438.out)) : gb438 ≠ gb445)); have n11_ := Aside0.mk ((by rw [hg]; exact Nat.ne_of_gt (blk_lt (g := gb438) (o := .cells #[.slice Ao30 t432.length co30, .int .i64 t435, .int .i64 t436] 30 (0, 0)) (by (with_reducible repeat (first | refine blk_drewN ?_ _ | refine blk_drew ?_ | refine blk_alloc ?_ _)); exact BK438.out)) : gb445 ≠ gb438)); clear HO434; clear HO441; clear BK430; clear BK438; clear HB; have HO434 := n0_; have HO441 := n1_; have BK430 := n2_; have BK438 := n3_; have HB := n4_; have BK445 := n5_; have GW445 := n6_; have GE445 := n7_; have NB430_445 := n8_; have NB445_430 := n9_; have NB438_445 := n10_; have NB445_438 := n11_; clear n0_ n1_ n2_ n3_ n4_ n5_ n6_ n7_ n8_ n9_ n10_ n11_; clear hb hbox hg; obtain ⟨Ao37, co37, eo37⟩ := Kd.V_slice HO441.out; subst eo37; have hnb38 := NB445_430.out; have hnc38 := NB430_445.out; have hnb39 := NB445_438.out; have hnc39 := NB438_445.out; have hcz40_0 : w36.cell? ⟨gb445, 0, none⟩ = some (.slice none 0 0) := (blk_cell BK445.out 0).trans rfl; have hcz40_1 : w36.cell? ⟨gb445, 1, none⟩ = some (.int .i64 0) := (blk_cell BK445.out 1).trans rfl; have hcz40_2 : w36.cell? ⟨gb445, 2, none⟩ = some (.int .i64 0) := (blk_cell BK445.out 2).trans rfl; have hfz40_0 := blk_frozen BK445.out 0; have hfz40_1 := blk_frozen BK445.out 1; have hfz40_2 := blk_frozen BK445.out 2))
                have n0_ : Aside0 (Kd.R (Kd.int .u8) 5 (((w36.setCell ⟨gb445, 0, none⟩ (.slice Ao37 t439.length co37)).setCell ⟨gb445, 1, none⟩ (.int .i64 t442)).setCell ⟨gb445, 2, none⟩ (.int .i64 t443)) w.heap.size (fun _ => True) (.slice Ao30 t432.length co30) t432) := ⟨by (with_reducible repeat (first | apply Kd.R_alloc | apply Kd.R_drewN | apply Kd.R_drew)); exact Kd.R_mono (Kd.R_far (p := ⟨gb445, 2, none⟩) (Kd.R_far (p := ⟨gb445, 1, none⟩) (Kd.R_far (p := ⟨gb445, 0, none⟩) (Kd.R_types HO434.out BK445.out (by decide)) (fun _ hk => hk.2) (.slice Ao37 t439.length co37)) (fun _ hk => hk.2) (.int .i64 t442)) (fun _ hk => hk.2) (.int .i64 t443)) (fun _ hk => trivial)⟩
                have n1_ : Aside0 (Kd.V (Kd.int .u8) 5 (((w36.setCell ⟨gb445, 0, none⟩ (.slice Ao37 t439.length co37)).setCell ⟨gb445, 1, none⟩ (.int .i64 t442)).setCell ⟨gb445, 2, none⟩ (.int .i64 t443)) w.heap.size (fun k_ => some k_ ≠ (.slice Ao30 t432.length co30 : Value).ownBlock ∧ k_ ≠ gb430 ∧ k_ ≠ gb438 ∧ k_ ≠ gb445) (.slice Ao37 t439.length co37) t439) := ⟨by (with_reducible repeat (first | apply Kd.V_alloc | apply Kd.V_drewN | apply Kd.V_drew)); exact Kd.V_mono (Kd.V_far (p := ⟨gb445, 2, none⟩) (Kd.V_far (p := ⟨gb445, 1, none⟩) (Kd.V_far (p := ⟨gb445, 0, none⟩) (Kd.V_mono HO441.out (fun k_ hk => (⟨hk, hk.2⟩ : _ ∧ k_ ≠ gb445))) (fun _ hk => hk.2) (.slice Ao37 t439.length co37)) (fun _ hk => hk.2) (.int .i64 t442)) (fun _ hk => hk.2) (.int .i64 t443)) (fun _ hk => ⟨hk.1.1.1, ⟨hk.1.1.2.1, ⟨hk.1.1.2.2, hk.1.2⟩⟩⟩)⟩
                have n2_ : Aside0 ((((w36.setCell ⟨gb445, 0, none⟩ (.slice Ao37 t439.length co37)).setCell ⟨gb445, 1, none⟩ (.int .i64 t442)).setCell ⟨gb445, 2, none⟩ (.int .i64 t443)).heap[gb430]? = some (.cells #[.slice A0_0 l0_0.length c0_0, .slice A0_1 l0_1.length c0_1, .slice A0_2 l0_2.length c0_2, .int .i64 a0_3, .int .i64 a0_4, .bool a0_5, .int .i64 a0_6, .int .i64 a0_7, .int .i64 a0_8, .int .i64 a0_9, .slice A0_10 l0_10.length c0_10, .slice A0_11 l0_11.length c0_11, .slice A0_12 l0_12.length c0_12, .bool a0_13] 28 (0, 0))) := ⟨by (with_reducible repeat (first | refine blk_drewN ?_ _ | refine blk_drew ?_ | refine blk_alloc ?_ _)); refine blk_far ?_ NB430_445.out _; (with_reducible repeat (first | refine blk_drewN ?_ _ | refine blk_drew ?_ | refine blk_alloc ?_ _)); refine blk_far ?_ NB430_445.out _; (with_reducible repeat (first | refine blk_drewN ?_ _ | refine blk_drew ?_ | refine blk_alloc ?_ _)); refine blk_far ?_ NB430_445.out _; (with_reducible repeat (first | refine blk_drewN ?_ _ | refine blk_drew ?_ | refine blk_alloc ?_ _)); exact BK430.out⟩
                have n3_ : Aside0 ((((w36.setCell ⟨gb445, 0, none⟩ (.slice Ao37 t439.length co37)).setCell ⟨gb445, 1, none⟩ (.int .i64 t442)).setCell ⟨gb445, 2, none⟩ (.int .i64 t443)).heap[gb438]? = some (.cells #[.slice Ao30 t432.length co30, .int .i64 t435, .int .i64 t436] 30 (0, 0))) := ⟨by (with_reducible repeat (first | refine blk_drewN ?_ _ | refine blk_drew ?_ | refine blk_alloc ?_ _)); refine blk_far ?_ NB438_445.out _; (with_reducible repeat (first | refine blk_drewN ?_ _ | refine blk_drew ?_ | refine blk_alloc ?_ _)); refine blk_far ?_ NB438_445.out _; (with_reducible repeat (first | refine blk_drewN ?_ _ | refine blk_drew ?_ | refine blk_alloc ?_ _)); refine blk_far ?_ NB438_445.out _; (with_reducible repeat (first | refine blk_drewN ?_ _ | refine blk_drew ?_ | refine blk_alloc ?_ _)); exact BK438.out⟩
                have n4_ : Aside0 ((((w36.setCell ⟨gb445, 0, none⟩ (.slice Ao37 t439.length co37)).setCell ⟨gb445, 1, none⟩ (.int .i64 t442)).setCell ⟨gb445, 2, none⟩ (.int .i64 t443)).heap[gb445]? = some (.cells #[.slice Ao37 t439.length co37, .int .i64 t442, .int .i64 t443] 30 (0, 0))) := ⟨by (with_reducible repeat (first | refine blk_drewN ?_ _ | refine blk_drew ?_ | refine blk_alloc ?_ _)); refine blk_put (cs := #[.slice Ao37 t439.length co37, .int .i64 t442, .int .i64 0]) ?_ 2 _ rfl; (with_reducible repeat (first | refine blk_drewN ?_ _ | refine blk_drew ?_ | refine blk_alloc ?_ _)); refine blk_put (cs := #[.slice Ao37 t439.length co37, .int .i64 0, .int .i64 0]) ?_ 1 _ rfl; (with_reducible repeat (first | refine blk_drewN ?_ _ | refine blk_drew ?_ | refine blk_alloc ?_ _)); refine blk_put (cs := #[.slice none 0 0, .int .i64 0, .int .i64 0]) ?_ 0 _ rfl; (with_reducible repeat (first | refine blk_drewN ?_ _ | refine blk_drew ?_ | refine blk_alloc ?_ _)); exact BK445.out⟩
                have n5_ : Aside0 (Below w.heap.size w (((w36.setCell ⟨gb445, 0, none⟩ (.slice Ao37 t439.length co37)).setCell ⟨gb445, 1, none⟩ (.int .i64 t442)).setCell ⟨gb445, 2, none⟩ (.int .i64 t443))) := ⟨by repeat (first | (with_reducible first | exact HB.out | apply below_alloc | apply pw_below_drewN | apply below_drew1 | refine below_set ?_ GE430.out | refine below_set ?_ GE438.out | refine below_set ?_ GE445.out) | exact HB.out)⟩
                (try clear HO434)
                (try clear HO441)
                (try clear BK430)
                (try clear BK438)
                (try clear BK445)
                (try clear HB)
                generalize (((w36.setCell ⟨gb445, 0, none⟩ (.slice Ao37 t439.length co37)).setCell ⟨gb445, 1, none⟩ (.int .i64 t442)).setCell ⟨gb445, 2, none⟩ (.int .i64 t443)) = w41 at n0_ n1_ n2_ n3_ n4_ n5_ ⊢
                have HO434 := n0_
                have HO441 := n1_
                have BK430 := n2_
                have BK438 := n3_
                have BK445 := n4_
                have HB := n5_
                clear n0_ n1_ n2_ n3_ n4_ n5_
                have n0_ := Aside0.mk (Kd.R_drew HO434.out)
                have n1_ := Aside0.mk (Kd.V_drew HO441.out)
                have n2_ := Aside0.mk (blk_drew BK430.out)
                have n3_ := Aside0.mk (blk_drew BK438.out)
                have n4_ := Aside0.mk (blk_drew BK445.out)
                have n5_ := Aside0.mk (below_drew1 HB.out)
                clear HO434
                clear HO441
                clear BK430
                clear BK438
                clear BK445
                clear HB
                have HO434 := n0_
                have HO441 := n1_
                have BK430 := n2_
                have BK438 := n3_
                have BK445 := n4_
                have HB := n5_
                clear n0_ n1_ n2_ n3_ n4_ n5_
                refine start_ (n := 34) (S := fun w' => w'.cell? ⟨gb438, 0, none⟩ = some (.slice Ao30 t432.length co30) ∧ w'.cell? ⟨gb438, 1, none⟩ = some (.int .i64 t435) ∧ w'.cell? ⟨gb438, 2, none⟩ = some (.int .i64 t436) ∧ w'.cell? ⟨gb445, 0, none⟩ = some (.slice Ao37 t439.length co37) ∧ w'.cell? ⟨gb445, 1, none⟩ = some (.int .i64 t442) ∧ w'.cell? ⟨gb445, 2, none⟩ = some (.int .i64 t443) ∧ w'.cell? ⟨gb430, 0, none⟩ = some (.slice A0_0 l0_0.length c0_0) ∧ w'.cell? ⟨gb430, 1, none⟩ = some (.slice A0_1 l0_1.length c0_1) ∧ w'.cell? ⟨gb430, 2, none⟩ = some (.slice A0_2 l0_2.length c0_2) ∧ w'.cell? ⟨gb430, 3, none⟩ = some (.int .i64 a0_3) ∧ w'.cell? ⟨gb430, 4, none⟩ = some (.int .i64 a0_4) ∧ w'.cell? ⟨gb430, 5, none⟩ = some (.bool a0_5) ∧ w'.cell? ⟨gb430, 6, none⟩ = some (.int .i64 a0_6) ∧ w'.cell? ⟨gb430, 7, none⟩ = some (.int .i64 a0_7) ∧ w'.cell? ⟨gb430, 8, none⟩ = some (.int .i64 a0_8) ∧ w'.cell? ⟨gb430, 9, none⟩ = some (.int .i64 a0_9) ∧ w'.cell? ⟨gb430, 10, none⟩ = some (.slice A0_10 l0_10.length c0_10) ∧ w'.cell? ⟨gb430, 11, none⟩ = some (.slice A0_11 l0_11.length c0_11) ∧ w'.cell? ⟨gb430, 12, none⟩ = some (.slice A0_12 l0_12.length c0_12) ∧ w'.cell? ⟨gb430, 13, none⟩ = some (.bool a0_13)) (ds := []) #[false, false, false, false, false, false, false, false, false, false, false, false, false, false, false, false, false, false, false, false, false, false, false, false, false, false, false, false, false, false, false, false, false, false] (by kernel_rfl) rfl rfl ⟨(blk_cell BK438.out 0).trans rfl, (blk_cell BK438.out 1).trans rfl, (blk_cell BK438.out 2).trans rfl, (blk_cell BK445.out 0).trans rfl, (blk_cell BK445.out 1).trans rfl, (blk_cell BK445.out 2).trans rfl, (blk_cell BK430.out 0).trans rfl, (blk_cell BK430.out 1).trans rfl, (blk_cell BK430.out 2).trans rfl, (blk_cell BK430.out 3).trans rfl, (blk_cell BK430.out 4).trans rfl, (blk_cell BK430.out 5).trans rfl, (blk_cell BK430.out 6).trans rfl, (blk_cell BK430.out 7).trans rfl, (blk_cell BK430.out 8).trans rfl, (blk_cell BK430.out 9).trans rfl, (blk_cell BK430.out 10).trans rfl, (blk_cell BK430.out 11).trans rfl, (blk_cell BK430.out 12).trans rfl, (blk_cell BK430.out 13).trans rfl⟩ (fun hHeld => ?_); refine with_tabW chirographlaw13_CrlAsks.tab5 chirographlaw13_CrlAsks.bits5 (fun HT_ HW_ => ?_)
                generalize w41.drew = w42 at HO434 HO441 BK430 BK438 BK445 HB hHeld ⊢
                refine take_ (i := 0) (N := some 40) (v := ?_) (a' := ?_) #[true, false, false, false, false, false, false, false, false, false, false, false, false, false, false, false, false, false, false, false, false, false, false, false, false, false, false, false, false, false, false, false, false, false] rfl rfl (take_ofW HT_.out HW_.out (by kernel_rfl)) (fun _ _ _ h => h) (Or.inl ⟨by rfl, ?_⟩) hHeld ?_ ?_
                rotate_left
                · rintro w' ⟨s0, s1, s2, s3, s4, s5, s6, s7, s8, s9, s10, s11, s12, s13, s14, s15, s16, s17, s18, s19⟩
                  go_simp
                  with_reducible rfl
                rotate_left
                · simp only [Act.put, List.setIfInBounds_toArray, List.set_cons_zero, List.set_cons_succ, i64_w, i32_w]
                  rfl
                refine take_ (i := 2) (N := some 42) (v := ?_) (a' := ?_) #[true, false, true, false, false, false, false, false, false, false, false, false, false, false, false, false, false, false, false, false, false, false, false, false, false, false, false, false, false, false, false, false, false, false] rfl rfl (take_ofW HT_.out HW_.out (by kernel_rfl)) (fun _ _ _ h => h) (Or.inl ⟨by rfl, ?_⟩) hHeld ?_ ?_
                rotate_left
                · rintro w' ⟨s0, s1, s2, s3, s4, s5, s6, s7, s8, s9, s10, s11, s12, s13, s14, s15, s16, s17, s18, s19⟩
                  go_simp
                  with_reducible rfl
                rotate_left
                · simp only [Act.put, List.setIfInBounds_toArray, List.set_cons_zero, List.set_cons_succ, i64_w, i32_w]
                  rfl
                refine join_ (σ := Value × Value) 30 #[true, true, true, true, false, false, false, false, false, false, false, false, false, false, false, false, false, false, false, false, false, false, false, false, false, false, false, false, false, false, false, false, false, false] (fun s_ => [(41, s_.1), (43, s_.2)]) (fun s_ w' => (w'.cell? ⟨gb438, 0, none⟩ = some (.slice Ao30 t432.length co30) ∧ w'.cell? ⟨gb438, 1, none⟩ = some (.int .i64 t435) ∧ w'.cell? ⟨gb438, 2, none⟩ = some (.int .i64 t436) ∧ w'.cell? ⟨gb445, 0, none⟩ = some (.slice Ao37 t439.length co37) ∧ w'.cell? ⟨gb445, 1, none⟩ = some (.int .i64 t442) ∧ w'.cell? ⟨gb445, 2, none⟩ = some (.int .i64 t443) ∧ w'.cell? ⟨gb430, 0, none⟩ = some (.slice A0_0 l0_0.length c0_0) ∧ w'.cell? ⟨gb430, 1, none⟩ = some (.slice A0_1 l0_1.length c0_1) ∧ w'.cell? ⟨gb430, 2, none⟩ = some (.slice A0_2 l0_2.length c0_2) ∧ w'.cell? ⟨gb430, 3, none⟩ = some (.int .i64 a0_3) ∧ w'.cell? ⟨gb430, 4, none⟩ = some (.int .i64 a0_4) ∧ w'.cell? ⟨gb430, 5, none⟩ = some (.bool a0_5) ∧ w'.cell? ⟨gb430, 6, none⟩ = some (.int .i64 a0_6) ∧ w'.cell? ⟨gb430, 7, none⟩ = some (.int .i64 a0_7) ∧ w'.cell? ⟨gb430, 8, none⟩ = some (.int .i64 a0_8) ∧ w'.cell? ⟨gb430, 9, none⟩ = some (.int .i64 a0_9) ∧ w'.cell? ⟨gb430, 10, none⟩ = some (.slice A0_10 l0_10.length c0_10) ∧ w'.cell? ⟨gb430, 11, none⟩ = some (.slice A0_11 l0_11.length c0_11) ∧ w'.cell? ⟨gb430, 12, none⟩ = some (.slice A0_12 l0_12.length c0_12) ∧ w'.cell? ⟨gb430, 13, none⟩ = some (.bool a0_13)) ∧ (Kd.V (Kd.int .u8) 5 w' w.heap.size (fun k_ => some k_ ≠ (s_.1 : Value).ownBlock ∧ some k_ ≠ (s_.2 : Value).ownBlock ∧ k_ ≠ gb430 ∧ k_ ≠ gb438 ∧ k_ ≠ gb445) (.slice Ao37 t439.length co37) t439) ∧ (Kd.N k30 30 w' w.heap.size (fun k_ => some k_ ≠ (s_.2 : Value).ownBlock ∧ k_ ≠ gb430 ∧ k_ ≠ gb438 ∧ k_ ≠ gb445) s_.1 y446) ∧ (Kd.N k30 30 w' w.heap.size (fun k_ => some k_ ≠ (s_.1 : Value).ownBlock ∧ k_ ≠ gb430 ∧ k_ ≠ gb438 ∧ k_ ≠ gb445) s_.2 y449) ∧ (w'.heap[gb430]? = some (.cells #[.slice A0_0 l0_0.length c0_0, .slice A0_1 l0_1.length c0_1, .slice A0_2 l0_2.length c0_2, .int .i64 a0_3, .int .i64 a0_4, .bool a0_5, .int .i64 a0_6, .int .i64 a0_7, .int .i64 a0_8, .int .i64 a0_9, .slice A0_10 l0_10.length c0_10, .slice A0_11 l0_11.length c0_11, .slice A0_12 l0_12.length c0_12, .bool a0_13] 28 (0, 0))) ∧ (w'.heap[gb438]? = some (.cells #[.slice Ao30 t432.length co30, .int .i64 t435, .int .i64 t436] 30 (0, 0))) ∧ (w'.heap[gb445]? = some (.cells #[.slice Ao37 t439.length co37, .int .i64 t442, .int .i64 t443] 30 (0, 0))) ∧ (Below w.heap.size w w')) ?_ ?_
                rotate_left
                · intro hCont
                  refine two_ (i := 1) (j := 3) (Ni := some 41) (Nj := some 43) #[true, true, true, false, false, false, false, false, false, false, false, false, false, false, false, false, false, false, false, false, false, false, false, false, false, false, false, false, false, false, false, false, false, false] #[true, false, true, true, false, false, false, false, false, false, false, false, false, false, false, false, false, false, false, false, false, false, false, false, false, false, false, false, false, false, false, false, false, false] rfl rfl rfl rfl (two_of HT_.out (by kernel_rfl)) (by decide) (by decide) (fun K hK => ?_) (fun K hK => ?_)
                  · skip
                    refine Kd.N_lit_step k30 _ 30 ?hg (N' := 41) ?hd (xs := ([(⟨t432, t435, t436⟩ : S30)] : List (S30))) (inner := [.slice Ao30 t432.length co30, .int .i64 t435, .int .i64 t436]) (ok := (fun k_ => k_ ≠ gb430 ∧ k_ ≠ gb438 ∧ k_ ≠ gb445)) (okp := (fun k_ => k_ ≠ gb430 ∧ k_ ≠ gb438 ∧ k_ ≠ gb445)) ?hr ?hp (fun _ hk => hk) ((show ∀ k_, w42.heap.size ≤ k_ → (fun k_ => k_ ≠ gb430 ∧ k_ ≠ gb438 ∧ k_ ≠ gb445) k_ from fun k_ hk => ⟨Kd.freshB (g := gb430) (o := .cells #[.slice A0_0 l0_0.length c0_0, .slice A0_1 l0_1.length c0_1, .slice A0_2 l0_2.length c0_2, .int .i64 a0_3, .int .i64 a0_4, .bool a0_5, .int .i64 a0_6, .int .i64 a0_7, .int .i64 a0_8, .int .i64 a0_9, .slice A0_10 l0_10.length c0_10, .slice A0_11 l0_11.length c0_11, .slice A0_12 l0_12.length c0_12, .bool a0_13] 28 (0, 0)) (by (with_reducible repeat (first | refine blk_drewN ?_ _ | refine blk_drew ?_ | refine blk_alloc ?_ _)); exact BK430.out) k_ hk, Kd.freshB (g := gb438) (o := .cells #[.slice Ao30 t432.length co30, .int .i64 t435, .int .i64 t436] 30 (0, 0)) (by (with_reducible repeat (first | refine blk_drewN ?_ _ | refine blk_drew ?_ | refine blk_alloc ?_ _)); exact BK438.out) k_ hk, Kd.freshB (g := gb445) (o := .cells #[.slice Ao37 t439.length co37, .int .i64 t442, .int .i64 t443] 30 (0, 0)) (by (with_reducible repeat (first | refine blk_drewN ?_ _ | refine blk_drew ?_ | refine blk_alloc ?_ _)); exact BK445.out) k_ hk⟩) _ (Nat.le_refl _)) (Below.refl _ _) (Nat.le_refl _) (by simp) ?_; (case hd => rfl); (case hg => rfl); (case hr => first | (go_simp; done) | (go_simp; rfl)); (case hp => exact (Reps.c3 (show Kd.FK k30 _ _ (⟨t432, t435, t436⟩ : S30) [.slice Ao30 t432.length co30, .int .i64 t435, .int .i64 t436] from (k30_mkF _ _ (⟨t432, t435, t436⟩ : S30) (Kd.R_reads' (Kd.R_mono (ok' := (fun k_ => k_ ≠ gb430 ∧ k_ ≠ gb438 ∧ k_ ≠ gb445)) (Kd.R_types (Kd.R_types (Kd.R_types (HO434.out) BK430.out (by decide)) BK438.out (by decide)) BK445.out (by decide)) (fun k_ hk => ⟨hk.1.1.2, ⟨hk.1.2, hk.2⟩⟩))).2.1 (Kd.R_F (Kd.R_mono (ok' := (fun k_ => k_ ≠ gb430 ∧ k_ ≠ gb438 ∧ k_ ≠ gb445)) (Kd.R_types (Kd.R_types (Kd.R_types (HO434.out) BK430.out (by decide)) BK438.out (by decide)) BK445.out (by decide)) (fun k_ hk => ⟨hk.1.1.2, ⟨hk.1.2, hk.2⟩⟩))))) (Reps.none _ _)))
                    intro v447 w43 ho44 hb hg_ hnew_
                    clear hg_ hnew_
                    (first | rw [← Ny446.out] at ho44 | (simp only [Int.reduceToNat] at ho44; rw [← Ny446.out] at ho44))
                    have n0_ := Aside0.mk (Kd.V_elder' (by (with_reducible repeat (first | apply Kd.V_alloc | apply Kd.V_drewN | apply Kd.V_drew)); exact HO441.out) (Kd.N_base ho44) hb)
                    have n1_ := Aside0.mk (Kd.N_lower ho44 (below_size (by repeat (first | (with_reducible first | exact HB.out | apply below_alloc | apply pw_below_drewN | apply below_drew1 | refine below_set ?_ GE430.out | refine below_set ?_ GE438.out | refine below_set ?_ GE445.out) | exact HB.out))))
                    have n2_ := Aside0.mk (blk_below (g := gb430) (o := .cells #[.slice A0_0 l0_0.length c0_0, .slice A0_1 l0_1.length c0_1, .slice A0_2 l0_2.length c0_2, .int .i64 a0_3, .int .i64 a0_4, .bool a0_5, .int .i64 a0_6, .int .i64 a0_7, .int .i64 a0_8, .int .i64 a0_9, .slice A0_10 l0_10.length c0_10, .slice A0_11 l0_11.length c0_11, .slice A0_12 l0_12.length c0_12, .bool a0_13] 28 (0, 0)) (by (with_reducible repeat (first | refine blk_drewN ?_ _ | refine blk_drew ?_ | refine blk_alloc ?_ _)); exact BK430.out) hb)
                    have n3_ := Aside0.mk (blk_below (g := gb438) (o := .cells #[.slice Ao30 t432.length co30, .int .i64 t435, .int .i64 t436] 30 (0, 0)) (by (with_reducible repeat (first | refine blk_drewN ?_ _ | refine blk_drew ?_ | refine blk_alloc ?_ _)); exact BK438.out) hb)
                    have n4_ := Aside0.mk (blk_below (g := gb445) (o := .cells #[.slice Ao37 t439.length co37, .int .i64 t442, .int .i64 t443] 30 (0, 0)) (by (with_reducible repeat (first | refine blk_drewN ?_ _ | refine blk_drew ?_ | refine blk_alloc ?_ _)); exact BK445.out) hb)
                    have n5_ := Aside0.mk (below_step (by repeat (first | (with_reducible first | exact HB.out | apply below_alloc | apply pw_below_drewN | apply below_drew1 | refine below_set ?_ GE430.out | refine below_set ?_ GE438.out | refine below_set ?_ GE445.out) | exact HB.out)) hb)
                    clear HO441
                    clear BK430
                    clear BK438
                    clear BK445
                    clear HB
                    clear HO434
                    have HO441 := n0_
                    have HO448 := n1_
                    have BK430 := n2_
                    have BK438 := n3_
                    have BK445 := n4_
                    have HB := n5_
                    clear n0_ n1_ n2_ n3_ n4_ n5_
                    clear hb ho44
                    refine hK.out _ _ ⟨(blk_cell BK438.out 0).trans rfl, (blk_cell BK438.out 1).trans rfl, (blk_cell BK438.out 2).trans rfl, (blk_cell BK445.out 0).trans rfl, (blk_cell BK445.out 1).trans rfl, (blk_cell BK445.out 2).trans rfl, (blk_cell BK430.out 0).trans rfl, (blk_cell BK430.out 1).trans rfl, (blk_cell BK430.out 2).trans rfl, (blk_cell BK430.out 3).trans rfl, (blk_cell BK430.out 4).trans rfl, (blk_cell BK430.out 5).trans rfl, (blk_cell BK430.out 6).trans rfl, (blk_cell BK430.out 7).trans rfl, (blk_cell BK430.out 8).trans rfl, (blk_cell BK430.out 9).trans rfl, (blk_cell BK430.out 10).trans rfl, (blk_cell BK430.out 11).trans rfl, (blk_cell BK430.out 12).trans rfl, (blk_cell BK430.out 13).trans rfl⟩ (fun hHeld => ?_)
                    clear hK K
                    refine norm_ (a' := ?_) ?_ ?_
                    rotate_left
                    · show Act.put _ (some 41) _ = _
                      simp only [Act.put, List.setIfInBounds_toArray, List.set_cons_zero, List.set_cons_succ, i64_w, i32_w]
                      rfl
                    refine one_ (i := 3) (N := some 43) #[true, true, true, true, false, false, false, false, false, false, false, false, false, false, false, false, false, false, false, false, false, false, false, false, false, false, false, false, false, false, false, false, false, false] rfl rfl (one_of HT_.out (by kernel_rfl)) (by decide) (fun K hK => ?_)
                    refine Kd.N_lit_step k30 _ 30 ?hg (N' := 43) ?hd (xs := ([(⟨t439, t442, t443⟩ : S30)] : List (S30))) (inner := [.slice Ao37 t439.length co37, .int .i64 t442, .int .i64 t443]) (ok := (fun k_ => some k_ ≠ (v447 : Value).ownBlock ∧ k_ ≠ gb430 ∧ k_ ≠ gb438 ∧ k_ ≠ gb445)) (okp := (fun k_ => some k_ ≠ (v447 : Value).ownBlock ∧ k_ ≠ gb430 ∧ k_ ≠ gb438 ∧ k_ ≠ gb445)) ?hr ?hp (fun _ hk => hk) ((show ∀ k_, w43.heap.size ≤ k_ → (fun k_ => some k_ ≠ (v447 : Value).ownBlock ∧ k_ ≠ gb430 ∧ k_ ≠ gb438 ∧ k_ ≠ gb445) k_ from fun k_ hk => ⟨Kd.fresh' (Kd.N_lt (by (with_reducible repeat (first | apply Kd.N_alloc | apply Kd.N_drewN | apply Kd.N_drew)); exact HO448.out)) k_ hk, Kd.freshB (g := gb430) (o := .cells #[.slice A0_0 l0_0.length c0_0, .slice A0_1 l0_1.length c0_1, .slice A0_2 l0_2.length c0_2, .int .i64 a0_3, .int .i64 a0_4, .bool a0_5, .int .i64 a0_6, .int .i64 a0_7, .int .i64 a0_8, .int .i64 a0_9, .slice A0_10 l0_10.length c0_10, .slice A0_11 l0_11.length c0_11, .slice A0_12 l0_12.length c0_12, .bool a0_13] 28 (0, 0)) (by (with_reducible repeat (first | refine blk_drewN ?_ _ | refine blk_drew ?_ | refine blk_alloc ?_ _)); exact BK430.out) k_ hk, Kd.freshB (g := gb438) (o := .cells #[.slice Ao30 t432.length co30, .int .i64 t435, .int .i64 t436] 30 (0, 0)) (by (with_reducible repeat (first | refine blk_drewN ?_ _ | refine blk_drew ?_ | refine blk_alloc ?_ _)); exact BK438.out) k_ hk, Kd.freshB (g := gb445) (o := .cells #[.slice Ao37 t439.length co37, .int .i64 t442, .int .i64 t443] 30 (0, 0)) (by (with_reducible repeat (first | refine blk_drewN ?_ _ | refine blk_drew ?_ | refine blk_alloc ?_ _)); exact BK445.out) k_ hk⟩) _ (Nat.le_refl _)) (Below.refl _ _) (Nat.le_refl _) (by simp) ?_; (case hd => rfl); (case hg => rfl); (case hr => first | (go_simp; done) | (go_simp; rfl)); (case hp => exact (Reps.c3 (show Kd.FK k30 _ _ (⟨t439, t442, t443⟩ : S30) [.slice Ao37 t439.length co37, .int .i64 t442, .int .i64 t443] from (k30_mkF _ _ (⟨t439, t442, t443⟩ : S30) (Kd.V_reads' (Kd.V_mono (ok' := (fun k_ => some k_ ≠ (v447 : Value).ownBlock ∧ k_ ≠ gb430 ∧ k_ ≠ gb438 ∧ k_ ≠ gb445)) (HO441.out) (fun k_ hk => ⟨hk.2, ⟨hk.1.2.1, ⟨hk.1.2.2.1, hk.1.2.2.2⟩⟩⟩))).2.1 (Kd.V_F (Kd.V_mono (ok' := (fun k_ => some k_ ≠ (v447 : Value).ownBlock ∧ k_ ≠ gb430 ∧ k_ ≠ gb438 ∧ k_ ≠ gb445)) (HO441.out) (fun k_ hk => ⟨hk.2, ⟨hk.1.2.1, ⟨hk.1.2.2.1, hk.1.2.2.2⟩⟩⟩))))) (Reps.none _ _)))
                    intro v450 w45 ho46 hb hg_ hnew_
                    clear hg_ hnew_
                    (first | rw [← Ny449.out] at ho46 | (simp only [Int.reduceToNat] at ho46; rw [← Ny449.out] at ho46))
                    have n0_ := Aside0.mk (Kd.V_elder' (by (with_reducible repeat (first | apply Kd.V_alloc | apply Kd.V_drewN | apply Kd.V_drew)); exact HO441.out) (Kd.N_base ho46) hb)
                    have n1_ := Aside0.mk (Kd.N_elder' (by (with_reducible repeat (first | apply Kd.N_alloc | apply Kd.N_drewN | apply Kd.N_drew)); exact HO448.out) (Kd.N_base ho46) hb)
                    have n2_ := Aside0.mk (Kd.N_lower ho46 (below_size (by repeat (first | (with_reducible first | exact HB.out | apply below_alloc | apply pw_below_drewN | apply below_drew1 | refine below_set ?_ GE430.out | refine below_set ?_ GE438.out | refine below_set ?_ GE445.out) | exact HB.out))))
                    have n3_ := Aside0.mk (blk_below (g := gb430) (o := .cells #[.slice A0_0 l0_0.length c0_0, .slice A0_1 l0_1.length c0_1, .slice A0_2 l0_2.length c0_2, .int .i64 a0_3, .int .i64 a0_4, .bool a0_5, .int .i64 a0_6, .int .i64 a0_7, .int .i64 a0_8, .int .i64 a0_9, .slice A0_10 l0_10.length c0_10, .slice A0_11 l0_11.length c0_11, .slice A0_12 l0_12.length c0_12, .bool a0_13] 28 (0, 0)) (by (with_reducible repeat (first | refine blk_drewN ?_ _ | refine blk_drew ?_ | refine blk_alloc ?_ _)); exact BK430.out) hb)
                    have n4_ := Aside0.mk (blk_below (g := gb438) (o := .cells #[.slice Ao30 t432.length co30, .int .i64 t435, .int .i64 t436] 30 (0, 0)) (by (with_reducible repeat (first | refine blk_drewN ?_ _ | refine blk_drew ?_ | refine blk_alloc ?_ _)); exact BK438.out) hb)
                    have n5_ := Aside0.mk (blk_below (g := gb445) (o := .cells #[.slice Ao37 t439.length co37, .int .i64 t442, .int .i64 t443] 30 (0, 0)) (by (with_reducible repeat (first | refine blk_drewN ?_ _ | refine blk_drew ?_ | refine blk_alloc ?_ _)); exact BK445.out) hb)
                    have n6_ := Aside0.mk (below_step (by repeat (first | (with_reducible first | exact HB.out | apply below_alloc | apply pw_below_drewN | apply below_drew1 | refine below_set ?_ GE430.out | refine below_set ?_ GE438.out | refine below_set ?_ GE445.out) | exact HB.out)) hb)
                    clear HO441
                    clear HO448
                    clear BK430
                    clear BK438
                    clear BK445
                    clear HB
                    have HO441 := n0_
                    have HO448 := n1_
                    have HO451 := n2_
                    have BK430 := n3_
                    have BK438 := n4_
                    have BK445 := n5_
                    have HB := n6_
                    clear n0_ n1_ n2_ n3_ n4_ n5_ n6_
                    clear hb ho46
                    refine hK.out _ _ ⟨(blk_cell BK438.out 0).trans rfl, (blk_cell BK438.out 1).trans rfl, (blk_cell BK438.out 2).trans rfl, (blk_cell BK445.out 0).trans rfl, (blk_cell BK445.out 1).trans rfl, (blk_cell BK445.out 2).trans rfl, (blk_cell BK430.out 0).trans rfl, (blk_cell BK430.out 1).trans rfl, (blk_cell BK430.out 2).trans rfl, (blk_cell BK430.out 3).trans rfl, (blk_cell BK430.out 4).trans rfl, (blk_cell BK430.out 5).trans rfl, (blk_cell BK430.out 6).trans rfl, (blk_cell BK430.out 7).trans rfl, (blk_cell BK430.out 8).trans rfl, (blk_cell BK430.out 9).trans rfl, (blk_cell BK430.out 10).trans rfl, (blk_cell BK430.out 11).trans rfl, (blk_cell BK430.out 12).trans rfl, (blk_cell BK430.out 13).trans rfl⟩ (fun hHeld => ?_)
                    clear hK K
                    refine norm_ (a' := ?_) ?_ ?_
                    rotate_left
                    · show Act.put _ (some 43) _ = _
                      simp only [Act.put, List.setIfInBounds_toArray, List.set_cons_zero, List.set_cons_succ, i64_w, i32_w]
                      rfl
                    exact norm_ (by simp only [putAll, Act.put, List.setIfInBounds_toArray, List.set_cons_zero, List.set_cons_succ]) (hCont (v447, v450) _ ⟨hHeld, (by (with_reducible repeat (first | apply Kd.V_alloc | apply Kd.V_drewN | apply Kd.V_drew)); exact Kd.V_mono HO441.out (fun _ hk => ⟨hk.1.2, ⟨hk.2, ⟨hk.1.1.2.1, ⟨hk.1.1.2.2.1, hk.1.1.2.2.2⟩⟩⟩⟩)), (by (with_reducible repeat (first | apply Kd.N_alloc | apply Kd.N_drewN | apply Kd.N_drew)); exact Kd.N_mono HO448.out (fun _ hk => ⟨hk.2, ⟨hk.1.1, ⟨hk.1.2.1, hk.1.2.2⟩⟩⟩)), (by (with_reducible repeat (first | apply Kd.N_alloc | apply Kd.N_drewN | apply Kd.N_drew)); exact HO451.out), (by (with_reducible repeat (first | refine blk_drewN ?_ _ | refine blk_drew ?_ | refine blk_alloc ?_ _)); exact BK430.out), (by (with_reducible repeat (first | refine blk_drewN ?_ _ | refine blk_drew ?_ | refine blk_alloc ?_ _)); exact BK438.out), (by (with_reducible repeat (first | refine blk_drewN ?_ _ | refine blk_drew ?_ | refine blk_alloc ?_ _)); exact BK445.out), (by repeat (first | (with_reducible first | exact HB.out | apply below_alloc | apply pw_below_drewN | apply below_drew1 | refine below_set ?_ GE430.out | refine below_set ?_ GE438.out | refine below_set ?_ GE445.out) | exact HB.out))⟩)
                  · skip
                    refine Kd.N_lit_step k30 _ 30 ?hg (N' := 43) ?hd (xs := ([(⟨t439, t442, t443⟩ : S30)] : List (S30))) (inner := [.slice Ao37 t439.length co37, .int .i64 t442, .int .i64 t443]) (ok := (fun k_ => some k_ ≠ (.slice Ao30 t432.length co30 : Value).ownBlock ∧ k_ ≠ gb430 ∧ k_ ≠ gb438 ∧ k_ ≠ gb445)) (okp := (fun k_ => some k_ ≠ (.slice Ao30 t432.length co30 : Value).ownBlock ∧ k_ ≠ gb430 ∧ k_ ≠ gb438 ∧ k_ ≠ gb445)) ?hr ?hp (fun _ hk => hk) ((show ∀ k_, w42.heap.size ≤ k_ → (fun k_ => some k_ ≠ (.slice Ao30 t432.length co30 : Value).ownBlock ∧ k_ ≠ gb430 ∧ k_ ≠ gb438 ∧ k_ ≠ gb445) k_ from fun k_ hk => ⟨Kd.fresh' (Kd.R_lt (by (with_reducible repeat (first | apply Kd.R_alloc | apply Kd.R_drewN | apply Kd.R_drew)); exact HO434.out)) k_ hk, Kd.freshB (g := gb430) (o := .cells #[.slice A0_0 l0_0.length c0_0, .slice A0_1 l0_1.length c0_1, .slice A0_2 l0_2.length c0_2, .int .i64 a0_3, .int .i64 a0_4, .bool a0_5, .int .i64 a0_6, .int .i64 a0_7, .int .i64 a0_8, .int .i64 a0_9, .slice A0_10 l0_10.length c0_10, .slice A0_11 l0_11.length c0_11, .slice A0_12 l0_12.length c0_12, .bool a0_13] 28 (0, 0)) (by (with_reducible repeat (first | refine blk_drewN ?_ _ | refine blk_drew ?_ | refine blk_alloc ?_ _)); exact BK430.out) k_ hk, Kd.freshB (g := gb438) (o := .cells #[.slice Ao30 t432.length co30, .int .i64 t435, .int .i64 t436] 30 (0, 0)) (by (with_reducible repeat (first | refine blk_drewN ?_ _ | refine blk_drew ?_ | refine blk_alloc ?_ _)); exact BK438.out) k_ hk, Kd.freshB (g := gb445) (o := .cells #[.slice Ao37 t439.length co37, .int .i64 t442, .int .i64 t443] 30 (0, 0)) (by (with_reducible repeat (first | refine blk_drewN ?_ _ | refine blk_drew ?_ | refine blk_alloc ?_ _)); exact BK445.out) k_ hk⟩) _ (Nat.le_refl _)) (Below.refl _ _) (Nat.le_refl _) (by simp) ?_; (case hd => rfl); (case hg => rfl); (case hr => first | (go_simp; done) | (go_simp; rfl)); (case hp => exact (Reps.c3 (show Kd.FK k30 _ _ (⟨t439, t442, t443⟩ : S30) [.slice Ao37 t439.length co37, .int .i64 t442, .int .i64 t443] from (k30_mkF _ _ (⟨t439, t442, t443⟩ : S30) (Kd.V_reads' (Kd.V_mono (ok' := (fun k_ => some k_ ≠ (.slice Ao30 t432.length co30 : Value).ownBlock ∧ k_ ≠ gb430 ∧ k_ ≠ gb438 ∧ k_ ≠ gb445)) (HO441.out) (fun k_ hk => ⟨hk.1, ⟨hk.2.1, ⟨hk.2.2.1, hk.2.2.2⟩⟩⟩))).2.1 (Kd.V_F (Kd.V_mono (ok' := (fun k_ => some k_ ≠ (.slice Ao30 t432.length co30 : Value).ownBlock ∧ k_ ≠ gb430 ∧ k_ ≠ gb438 ∧ k_ ≠ gb445)) (HO441.out) (fun k_ hk => ⟨hk.1, ⟨hk.2.1, ⟨hk.2.2.1, hk.2.2.2⟩⟩⟩))))) (Reps.none _ _)))
                    intro v450 w43 ho44 hb hg_ hnew_
                    clear hg_ hnew_
                    (first | rw [← Ny449.out] at ho44 | (simp only [Int.reduceToNat] at ho44; rw [← Ny449.out] at ho44))
                    have n0_ := Aside0.mk (Kd.R_below (by (with_reducible repeat (first | apply Kd.R_alloc | apply Kd.R_drewN | apply Kd.R_drew)); exact HO434.out) hb)
                    have n1_ := Aside0.mk (Kd.V_elder' (by (with_reducible repeat (first | apply Kd.V_alloc | apply Kd.V_drewN | apply Kd.V_drew)); exact HO441.out) (Kd.N_base ho44) hb)
                    have n2_ := Aside0.mk (Kd.N_lower ho44 (below_size (by repeat (first | (with_reducible first | exact HB.out | apply below_alloc | apply pw_below_drewN | apply below_drew1 | refine below_set ?_ GE430.out | refine below_set ?_ GE438.out | refine below_set ?_ GE445.out) | exact HB.out))))
                    have n3_ := Aside0.mk (blk_below (g := gb430) (o := .cells #[.slice A0_0 l0_0.length c0_0, .slice A0_1 l0_1.length c0_1, .slice A0_2 l0_2.length c0_2, .int .i64 a0_3, .int .i64 a0_4, .bool a0_5, .int .i64 a0_6, .int .i64 a0_7, .int .i64 a0_8, .int .i64 a0_9, .slice A0_10 l0_10.length c0_10, .slice A0_11 l0_11.length c0_11, .slice A0_12 l0_12.length c0_12, .bool a0_13] 28 (0, 0)) (by (with_reducible repeat (first | refine blk_drewN ?_ _ | refine blk_drew ?_ | refine blk_alloc ?_ _)); exact BK430.out) hb)
                    have n4_ := Aside0.mk (blk_below (g := gb438) (o := .cells #[.slice Ao30 t432.length co30, .int .i64 t435, .int .i64 t436] 30 (0, 0)) (by (with_reducible repeat (first | refine blk_drewN ?_ _ | refine blk_drew ?_ | refine blk_alloc ?_ _)); exact BK438.out) hb)
                    have n5_ := Aside0.mk (blk_below (g := gb445) (o := .cells #[.slice Ao37 t439.length co37, .int .i64 t442, .int .i64 t443] 30 (0, 0)) (by (with_reducible repeat (first | refine blk_drewN ?_ _ | refine blk_drew ?_ | refine blk_alloc ?_ _)); exact BK445.out) hb)
                    have n6_ := Aside0.mk (below_step (by repeat (first | (with_reducible first | exact HB.out | apply below_alloc | apply pw_below_drewN | apply below_drew1 | refine below_set ?_ GE430.out | refine below_set ?_ GE438.out | refine below_set ?_ GE445.out) | exact HB.out)) hb)
                    clear HO434
                    clear HO441
                    clear BK430
                    clear BK438
                    clear BK445
                    clear HB
                    have HO434 := n0_
                    have HO441 := n1_
                    have HO451 := n2_
                    have BK430 := n3_
                    have BK438 := n4_
                    have BK445 := n5_
                    have HB := n6_
                    clear n0_ n1_ n2_ n3_ n4_ n5_ n6_
                    clear hb ho44
                    refine hK.out _ _ ⟨(blk_cell BK438.out 0).trans rfl, (blk_cell BK438.out 1).trans rfl, (blk_cell BK438.out 2).trans rfl, (blk_cell BK445.out 0).trans rfl, (blk_cell BK445.out 1).trans rfl, (blk_cell BK445.out 2).trans rfl, (blk_cell BK430.out 0).trans rfl, (blk_cell BK430.out 1).trans rfl, (blk_cell BK430.out 2).trans rfl, (blk_cell BK430.out 3).trans rfl, (blk_cell BK430.out 4).trans rfl, (blk_cell BK430.out 5).trans rfl, (blk_cell BK430.out 6).trans rfl, (blk_cell BK430.out 7).trans rfl, (blk_cell BK430.out 8).trans rfl, (blk_cell BK430.out 9).trans rfl, (blk_cell BK430.out 10).trans rfl, (blk_cell BK430.out 11).trans rfl, (blk_cell BK430.out 12).trans rfl, (blk_cell BK430.out 13).trans rfl⟩ (fun hHeld => ?_)
                    clear hK K
                    refine norm_ (a' := ?_) ?_ ?_
                    rotate_left
                    · show Act.put _ (some 43) _ = _
                      simp only [Act.put, List.setIfInBounds_toArray, List.set_cons_zero, List.set_cons_succ, i64_w, i32_w]
                      rfl
                    refine one_ (i := 1) (N := some 41) #[true, true, true, true, false, false, false, false, false, false, false, false, false, false, false, false, false, false, false, false, false, false, false, false, false, false, false, false, false, false, false, false, false, false] rfl rfl (one_of HT_.out (by kernel_rfl)) (by decide) (fun K hK => ?_)
                    refine Kd.N_lit_step k30 _ 30 ?hg (N' := 41) ?hd (xs := ([(⟨t432, t435, t436⟩ : S30)] : List (S30))) (inner := [.slice Ao30 t432.length co30, .int .i64 t435, .int .i64 t436]) (ok := (fun k_ => some k_ ≠ (v450 : Value).ownBlock ∧ k_ ≠ gb430 ∧ k_ ≠ gb438 ∧ k_ ≠ gb445)) (okp := (fun k_ => some k_ ≠ (v450 : Value).ownBlock ∧ k_ ≠ gb430 ∧ k_ ≠ gb438 ∧ k_ ≠ gb445)) ?hr ?hp (fun _ hk => hk) ((show ∀ k_, w43.heap.size ≤ k_ → (fun k_ => some k_ ≠ (v450 : Value).ownBlock ∧ k_ ≠ gb430 ∧ k_ ≠ gb438 ∧ k_ ≠ gb445) k_ from fun k_ hk => ⟨Kd.fresh' (Kd.N_lt (by (with_reducible repeat (first | apply Kd.N_alloc | apply Kd.N_drewN | apply Kd.N_drew)); exact HO451.out)) k_ hk, Kd.freshB (g := gb430) (o := .cells #[.slice A0_0 l0_0.length c0_0, .slice A0_1 l0_1.length c0_1, .slice A0_2 l0_2.length c0_2, .int .i64 a0_3, .int .i64 a0_4, .bool a0_5, .int .i64 a0_6, .int .i64 a0_7, .int .i64 a0_8, .int .i64 a0_9, .slice A0_10 l0_10.length c0_10, .slice A0_11 l0_11.length c0_11, .slice A0_12 l0_12.length c0_12, .bool a0_13] 28 (0, 0)) (by (with_reducible repeat (first | refine blk_drewN ?_ _ | refine blk_drew ?_ | refine blk_alloc ?_ _)); exact BK430.out) k_ hk, Kd.freshB (g := gb438) (o := .cells #[.slice Ao30 t432.length co30, .int .i64 t435, .int .i64 t436] 30 (0, 0)) (by (with_reducible repeat (first | refine blk_drewN ?_ _ | refine blk_drew ?_ | refine blk_alloc ?_ _)); exact BK438.out) k_ hk, Kd.freshB (g := gb445) (o := .cells #[.slice Ao37 t439.length co37, .int .i64 t442, .int .i64 t443] 30 (0, 0)) (by (with_reducible repeat (first | refine blk_drewN ?_ _ | refine blk_drew ?_ | refine blk_alloc ?_ _)); exact BK445.out) k_ hk⟩) _ (Nat.le_refl _)) (Below.refl _ _) (Nat.le_refl _) (by simp) ?_; (case hd => rfl); (case hg => rfl); (case hr => first | (go_simp; done) | (go_simp; rfl)); (case hp => exact (Reps.c3 (show Kd.FK k30 _ _ (⟨t432, t435, t436⟩ : S30) [.slice Ao30 t432.length co30, .int .i64 t435, .int .i64 t436] from (k30_mkF _ _ (⟨t432, t435, t436⟩ : S30) (Kd.R_reads' (Kd.R_mono (ok' := (fun k_ => some k_ ≠ (v450 : Value).ownBlock ∧ k_ ≠ gb430 ∧ k_ ≠ gb438 ∧ k_ ≠ gb445)) (Kd.R_types (Kd.R_types (Kd.R_types (Kd.R_apart' (HO434.out) (Kd.N_typed HO451.out) (by decide)) BK430.out (by decide)) BK438.out (by decide)) BK445.out (by decide)) (fun k_ hk => ⟨hk.1.1.1.2, ⟨hk.1.1.2, ⟨hk.1.2, hk.2⟩⟩⟩))).2.1 (Kd.R_F (Kd.R_mono (ok' := (fun k_ => some k_ ≠ (v450 : Value).ownBlock ∧ k_ ≠ gb430 ∧ k_ ≠ gb438 ∧ k_ ≠ gb445)) (Kd.R_types (Kd.R_types (Kd.R_types (Kd.R_apart' (HO434.out) (Kd.N_typed HO451.out) (by decide)) BK430.out (by decide)) BK438.out (by decide)) BK445.out (by decide)) (fun k_ hk => ⟨hk.1.1.1.2, ⟨hk.1.1.2, ⟨hk.1.2, hk.2⟩⟩⟩))))) (Reps.none _ _)))
                    intro v447 w45 ho46 hb hg_ hnew_
                    clear hg_ hnew_
                    (first | rw [← Ny446.out] at ho46 | (simp only [Int.reduceToNat] at ho46; rw [← Ny446.out] at ho46))
                    have n0_ := Aside0.mk (Kd.V_elder' (by (with_reducible repeat (first | apply Kd.V_alloc | apply Kd.V_drewN | apply Kd.V_drew)); exact HO441.out) (Kd.N_base ho46) hb)
                    have n1_ := Aside0.mk (Kd.N_elder' (by (with_reducible repeat (first | apply Kd.N_alloc | apply Kd.N_drewN | apply Kd.N_drew)); exact HO451.out) (Kd.N_base ho46) hb)
                    have n2_ := Aside0.mk (Kd.N_lower ho46 (below_size (by repeat (first | (with_reducible first | exact HB.out | apply below_alloc | apply pw_below_drewN | apply below_drew1 | refine below_set ?_ GE430.out | refine below_set ?_ GE438.out | refine below_set ?_ GE445.out) | exact HB.out))))
                    have n3_ := Aside0.mk (blk_below (g := gb430) (o := .cells #[.slice A0_0 l0_0.length c0_0, .slice A0_1 l0_1.length c0_1, .slice A0_2 l0_2.length c0_2, .int .i64 a0_3, .int .i64 a0_4, .bool a0_5, .int .i64 a0_6, .int .i64 a0_7, .int .i64 a0_8, .int .i64 a0_9, .slice A0_10 l0_10.length c0_10, .slice A0_11 l0_11.length c0_11, .slice A0_12 l0_12.length c0_12, .bool a0_13] 28 (0, 0)) (by (with_reducible repeat (first | refine blk_drewN ?_ _ | refine blk_drew ?_ | refine blk_alloc ?_ _)); exact BK430.out) hb)
                    have n4_ := Aside0.mk (blk_below (g := gb438) (o := .cells #[.slice Ao30 t432.length co30, .int .i64 t435, .int .i64 t436] 30 (0, 0)) (by (with_reducible repeat (first | refine blk_drewN ?_ _ | refine blk_drew ?_ | refine blk_alloc ?_ _)); exact BK438.out) hb)
                    have n5_ := Aside0.mk (blk_below (g := gb445) (o := .cells #[.slice Ao37 t439.length co37, .int .i64 t442, .int .i64 t443] 30 (0, 0)) (by (with_reducible repeat (first | refine blk_drewN ?_ _ | refine blk_drew ?_ | refine blk_alloc ?_ _)); exact BK445.out) hb)
                    have n6_ := Aside0.mk (below_step (by repeat (first | (with_reducible first | exact HB.out | apply below_alloc | apply pw_below_drewN | apply below_drew1 | refine below_set ?_ GE430.out | refine below_set ?_ GE438.out | refine below_set ?_ GE445.out) | exact HB.out)) hb)
                    clear HO441
                    clear HO451
                    clear BK430
                    clear BK438
                    clear BK445
                    clear HB
                    clear HO434
                    have HO441 := n0_
                    have HO451 := n1_
                    have HO448 := n2_
                    have BK430 := n3_
                    have BK438 := n4_
                    have BK445 := n5_
                    have HB := n6_
                    clear n0_ n1_ n2_ n3_ n4_ n5_ n6_
                    clear hb ho46
                    refine hK.out _ _ ⟨(blk_cell BK438.out 0).trans rfl, (blk_cell BK438.out 1).trans rfl, (blk_cell BK438.out 2).trans rfl, (blk_cell BK445.out 0).trans rfl, (blk_cell BK445.out 1).trans rfl, (blk_cell BK445.out 2).trans rfl, (blk_cell BK430.out 0).trans rfl, (blk_cell BK430.out 1).trans rfl, (blk_cell BK430.out 2).trans rfl, (blk_cell BK430.out 3).trans rfl, (blk_cell BK430.out 4).trans rfl, (blk_cell BK430.out 5).trans rfl, (blk_cell BK430.out 6).trans rfl, (blk_cell BK430.out 7).trans rfl, (blk_cell BK430.out 8).trans rfl, (blk_cell BK430.out 9).trans rfl, (blk_cell BK430.out 10).trans rfl, (blk_cell BK430.out 11).trans rfl, (blk_cell BK430.out 12).trans rfl, (blk_cell BK430.out 13).trans rfl⟩ (fun hHeld => ?_)
                    clear hK K
                    refine norm_ (a' := ?_) ?_ ?_
                    rotate_left
                    · show Act.put _ (some 41) _ = _
                      simp only [Act.put, List.setIfInBounds_toArray, List.set_cons_zero, List.set_cons_succ, i64_w, i32_w]
                      rfl
                    exact norm_ (by simp only [putAll, Act.put, List.setIfInBounds_toArray, List.set_cons_zero, List.set_cons_succ]) (hCont (v447, v450) _ ⟨hHeld, (by (with_reducible repeat (first | apply Kd.V_alloc | apply Kd.V_drewN | apply Kd.V_drew)); exact Kd.V_mono HO441.out (fun _ hk => ⟨hk.2, ⟨hk.1.2, ⟨hk.1.1.2.1, ⟨hk.1.1.2.2.1, hk.1.1.2.2.2⟩⟩⟩⟩)), (by (with_reducible repeat (first | apply Kd.N_alloc | apply Kd.N_drewN | apply Kd.N_drew)); exact HO448.out), (by (with_reducible repeat (first | apply Kd.N_alloc | apply Kd.N_drewN | apply Kd.N_drew)); exact Kd.N_mono HO451.out (fun _ hk => ⟨hk.2, ⟨hk.1.2.1, ⟨hk.1.2.2.1, hk.1.2.2.2⟩⟩⟩)), (by (with_reducible repeat (first | refine blk_drewN ?_ _ | refine blk_drew ?_ | refine blk_alloc ?_ _)); exact BK430.out), (by (with_reducible repeat (first | refine blk_drewN ?_ _ | refine blk_drew ?_ | refine blk_alloc ?_ _)); exact BK438.out), (by (with_reducible repeat (first | refine blk_drewN ?_ _ | refine blk_drew ?_ | refine blk_alloc ?_ _)); exact BK445.out), (by repeat (first | (with_reducible first | exact HB.out | apply below_alloc | apply pw_below_drewN | apply below_drew1 | refine below_set ?_ GE430.out | refine below_set ?_ GE438.out | refine below_set ?_ GE445.out) | exact HB.out))⟩)
                rintro ⟨v447, v450⟩ w47 ⟨hS_, h0_, h1_, h2_, h3_, h4_, h5_, h6_⟩
                have n0_ : Aside0 (Kd.V (Kd.int .u8) 5 w47 w.heap.size (fun k_ => some k_ ≠ (v447 : Value).ownBlock ∧ some k_ ≠ (v450 : Value).ownBlock ∧ k_ ≠ gb430 ∧ k_ ≠ gb438 ∧ k_ ≠ gb445) (.slice Ao37 t439.length co37) t439) := ⟨h0_⟩
                have n1_ : Aside0 (Kd.N k30 30 w47 w.heap.size (fun k_ => some k_ ≠ (v450 : Value).ownBlock ∧ k_ ≠ gb430 ∧ k_ ≠ gb438 ∧ k_ ≠ gb445) v447 y446) := ⟨h1_⟩
                have n2_ : Aside0 (Kd.N k30 30 w47 w.heap.size (fun k_ => some k_ ≠ (v447 : Value).ownBlock ∧ k_ ≠ gb430 ∧ k_ ≠ gb438 ∧ k_ ≠ gb445) v450 y449) := ⟨h2_⟩
                have n3_ : Aside0 (w47.heap[gb430]? = some (.cells #[.slice A0_0 l0_0.length c0_0, .slice A0_1 l0_1.length c0_1, .slice A0_2 l0_2.length c0_2, .int .i64 a0_3, .int .i64 a0_4, .bool a0_5, .int .i64 a0_6, .int .i64 a0_7, .int .i64 a0_8, .int .i64 a0_9, .slice A0_10 l0_10.length c0_10, .slice A0_11 l0_11.length c0_11, .slice A0_12 l0_12.length c0_12, .bool a0_13] 28 (0, 0))) := ⟨h3_⟩
                have n4_ : Aside0 (w47.heap[gb438]? = some (.cells #[.slice Ao30 t432.length co30, .int .i64 t435, .int .i64 t436] 30 (0, 0))) := ⟨h4_⟩
                have n5_ : Aside0 (w47.heap[gb445]? = some (.cells #[.slice Ao37 t439.length co37, .int .i64 t442, .int .i64 t443] 30 (0, 0))) := ⟨h5_⟩
                have n6_ : Aside0 (Below w.heap.size w w47) := ⟨h6_⟩
                clear HO434
                clear HO441
                clear BK430
                clear BK438
                clear BK445
                clear HB
                clear h0_ h1_ h2_ h3_ h4_ h5_ h6_
                have HO441 := n0_
                have HO448 := n1_
                have HO451 := n2_
                have BK430 := n3_
                have BK438 := n4_
                have BK445 := n5_
                have HB := n6_
                clear n0_ n1_ n2_ n3_ n4_ n5_ n6_
                have hHeld : w47.cell? ⟨gb438, 0, none⟩ = some (.slice Ao30 t432.length co30) ∧ w47.cell? ⟨gb438, 1, none⟩ = some (.int .i64 t435) ∧ w47.cell? ⟨gb438, 2, none⟩ = some (.int .i64 t436) ∧ w47.cell? ⟨gb445, 0, none⟩ = some (.slice Ao37 t439.length co37) ∧ w47.cell? ⟨gb445, 1, none⟩ = some (.int .i64 t442) ∧ w47.cell? ⟨gb445, 2, none⟩ = some (.int .i64 t443) ∧ w47.cell? ⟨gb430, 0, none⟩ = some (.slice A0_0 l0_0.length c0_0) ∧ w47.cell? ⟨gb430, 1, none⟩ = some (.slice A0_1 l0_1.length c0_1) ∧ w47.cell? ⟨gb430, 2, none⟩ = some (.slice A0_2 l0_2.length c0_2) ∧ w47.cell? ⟨gb430, 3, none⟩ = some (.int .i64 a0_3) ∧ w47.cell? ⟨gb430, 4, none⟩ = some (.int .i64 a0_4) ∧ w47.cell? ⟨gb430, 5, none⟩ = some (.bool a0_5) ∧ w47.cell? ⟨gb430, 6, none⟩ = some (.int .i64 a0_6) ∧ w47.cell? ⟨gb430, 7, none⟩ = some (.int .i64 a0_7) ∧ w47.cell? ⟨gb430, 8, none⟩ = some (.int .i64 a0_8) ∧ w47.cell? ⟨gb430, 9, none⟩ = some (.int .i64 a0_9) ∧ w47.cell? ⟨gb430, 10, none⟩ = some (.slice A0_10 l0_10.length c0_10) ∧ w47.cell? ⟨gb430, 11, none⟩ = some (.slice A0_11 l0_11.length c0_11) ∧ w47.cell? ⟨gb430, 12, none⟩ = some (.slice A0_12 l0_12.length c0_12) ∧ w47.cell? ⟨gb430, 13, none⟩ = some (.bool a0_13) := hS_
                obtain ⟨Ao48, co48, eo48⟩ := Kd.N_slice HO448.out
                (first | subst eo48 | (injection eo48 with f1_ f2_ f3_; have f4_ := f1_.symm; have f5_ := f3_.symm; clear f1_ f2_ f3_; subst f4_; subst f5_))
                obtain ⟨Ao49, co49, eo49⟩ := Kd.N_slice HO451.out
                (first | subst eo49 | (injection eo49 with f1_ f2_ f3_; have f4_ := f1_.symm; have f5_ := f3_.symm; clear f1_ f2_ f3_; subst f4_; subst f5_))
                refine norm_ (a' := ?_) ?_ ?_
                rotate_left
                · simp only [putAll, Act.put, List.setIfInBounds_toArray, List.set_cons_zero, List.set_cons_succ]
                  rfl
                refine one_ (i := 4) (N := some 44) #[true, true, true, true, true, false, false, false, false, false, false, false, false, false, false, false, false, false, false, false, false, false, false, false, false, false, false, false, false, false, false, false, false, false] rfl rfl (one_of HT_.out (by kernel_rfl)) (by decide) (fun K hK => ?_)
                refine goes_ Tryz.func24 (by kernel_rfl) rfl #[.slice Ao48 y446.length co48, .slice Ao49 y449.length co49] (by rfl) rfl rfl (by (try simp only [List.map_toArray, List.map_cons, List.map_nil]); first | done | rfl | (simp only [List.length_drop, List.length_take]; rfl)) ?_
                with_reducible refine (chirographref13_SameGone.calls kj4 _ _ y446 _ _ y449 true _ ?side1 ?side2 ?side3 ?side4 A17.out).mono ?_
                (case side1 => repeat (first | exact (Kd.N_reads' HO448.out).2.2 | (with_reducible refine Kd.C_alloc ?_ _) | (with_reducible refine Kd.C_drewN ?_ _) | (with_reducible refine Kd.C_drew ?_)))
                (case side2 => exact (Kd.N_reads' HO448.out).2.1)
                (case side3 => repeat (first | exact (Kd.N_reads' HO451.out).2.2 | (with_reducible refine Kd.C_alloc ?_ _) | (with_reducible refine Kd.C_drewN ?_ _) | (with_reducible refine Kd.C_drew ?_)))
                (case side4 => exact (Kd.N_reads' HO451.out).2.1)
                rintro e w50 ⟨rfl, hb⟩
                refine ⟨_, rfl, ?_⟩
                have n0_ := Aside0.mk (Kd.V_below (by (with_reducible repeat (first | apply Kd.V_alloc | apply Kd.V_drewN | apply Kd.V_drew)); exact HO441.out) hb)
                have n1_ := Aside0.mk (Kd.N_below (by (with_reducible repeat (first | apply Kd.N_alloc | apply Kd.N_drewN | apply Kd.N_drew)); exact HO448.out) hb)
                have n2_ := Aside0.mk (Kd.N_below (by (with_reducible repeat (first | apply Kd.N_alloc | apply Kd.N_drewN | apply Kd.N_drew)); exact HO451.out) hb)
                have n3_ := Aside0.mk (blk_below (g := gb430) (o := .cells #[.slice A0_0 l0_0.length c0_0, .slice A0_1 l0_1.length c0_1, .slice A0_2 l0_2.length c0_2, .int .i64 a0_3, .int .i64 a0_4, .bool a0_5, .int .i64 a0_6, .int .i64 a0_7, .int .i64 a0_8, .int .i64 a0_9, .slice A0_10 l0_10.length c0_10, .slice A0_11 l0_11.length c0_11, .slice A0_12 l0_12.length c0_12, .bool a0_13] 28 (0, 0)) (by (with_reducible repeat (first | refine blk_drewN ?_ _ | refine blk_drew ?_ | refine blk_alloc ?_ _)); exact BK430.out) hb)
                have n4_ := Aside0.mk (blk_below (g := gb438) (o := .cells #[.slice Ao30 t432.length co30, .int .i64 t435, .int .i64 t436] 30 (0, 0)) (by (with_reducible repeat (first | refine blk_drewN ?_ _ | refine blk_drew ?_ | refine blk_alloc ?_ _)); exact BK438.out) hb)
                have n5_ := Aside0.mk (blk_below (g := gb445) (o := .cells #[.slice Ao37 t439.length co37, .int .i64 t442, .int .i64 t443] 30 (0, 0)) (by (with_reducible repeat (first | refine blk_drewN ?_ _ | refine blk_drew ?_ | refine blk_alloc ?_ _)); exact BK445.out) hb)
                have n6_ := Aside0.mk (below_step (by repeat (first | (with_reducible first | exact HB.out | apply below_alloc | apply pw_below_drewN | apply below_drew1 | refine below_set ?_ GE430.out | refine below_set ?_ GE438.out | refine below_set ?_ GE445.out) | exact HB.out)) hb)
                clear HO441
                clear HO448
                clear HO451
                clear BK430
                clear BK438
                clear BK445
                clear HB
                have HO441 := n0_
                have HO448 := n1_
                have HO451 := n2_
                have BK430 := n3_
                have BK438 := n4_
                have BK445 := n5_
                have HB := n6_
                clear n0_ n1_ n2_ n3_ n4_ n5_ n6_
                (try clear hb)
                (try clear hb2)
                (try clear hk)
                (try clear hi)
                refine hK.out _ _ ⟨(blk_cell BK438.out 0).trans rfl, (blk_cell BK438.out 1).trans rfl, (blk_cell BK438.out 2).trans rfl, (blk_cell BK445.out 0).trans rfl, (blk_cell BK445.out 1).trans rfl, (blk_cell BK445.out 2).trans rfl, (blk_cell BK430.out 0).trans rfl, (blk_cell BK430.out 1).trans rfl, (blk_cell BK430.out 2).trans rfl, (blk_cell BK430.out 3).trans rfl, (blk_cell BK430.out 4).trans rfl, (blk_cell BK430.out 5).trans rfl, (blk_cell BK430.out 6).trans rfl, (blk_cell BK430.out 7).trans rfl, (blk_cell BK430.out 8).trans rfl, (blk_cell BK430.out 9).trans rfl, (blk_cell BK430.out 10).trans rfl, (blk_cell BK430.out 11).trans rfl, (blk_cell BK430.out 12).trans rfl, (blk_cell BK430.out 13).trans rfl⟩ (fun hHeld => ?_)
                clear hK K
                refine norm_ (a' := ?_) ?_ ?_
                rotate_left
                · show Act.put _ (some 44) _ = _
                  simp only [Act.put, List.setIfInBounds_toArray, List.set_cons_zero, List.set_cons_succ, i64_w, i32_w]
                  rfl
                refine pure_ (i := 5) (N := some 45) (v := ?_) (a' := ?_) #[true, true, true, true, true, true, false, false, false, false, false, false, false, false, false, false, false, false, false, false, false, false, false, false, false, false, false, false, false, false, false, false, false, false] rfl rfl (any_of HT_.out (by kernel_rfl)) (fun _ _ _ h => h) (Or.inl ⟨by rfl, ?_⟩) ?_ ?_
                rotate_left
                · intro w'
                  go_simp
                  with_reducible rfl
                rotate_left
                · simp only [Act.put, List.setIfInBounds_toArray, List.set_cons_zero, List.set_cons_succ, i64_w, i32_w]
                  rfl
                refine pure_ (i := 6) (N := some 46) (v := ?_) (a' := ?_) #[true, true, true, true, true, true, true, false, false, false, false, false, false, false, false, false, false, false, false, false, false, false, false, false, false, false, false, false, false, false, false, false, false, false] rfl rfl (any_of HT_.out (by kernel_rfl)) (fun _ _ _ h => h) (Or.inl ⟨by rfl, ?_⟩) ?_ ?_
                rotate_left
                · intro w'
                  go_simp
                  with_reducible rfl
                rotate_left
                · simp only [Act.put, List.setIfInBounds_toArray, List.set_cons_zero, List.set_cons_succ, i64_w, i32_w]
                  rfl
                refine pure_ (i := 7) (N := some 47) (v := ?_) (a' := ?_) #[true, true, true, true, true, true, true, true, false, false, false, false, false, false, false, false, false, false, false, false, false, false, false, false, false, false, false, false, false, false, false, false, false, false] rfl rfl (any_of HT_.out (by kernel_rfl)) (fun _ _ _ h => h) (Or.inl ⟨by rfl, ?_⟩) ?_ ?_
                rotate_left
                · intro w'
                  go_simp
                  with_reducible rfl
                rotate_left
                · simp only [Act.put, List.setIfInBounds_toArray, List.set_cons_zero, List.set_cons_succ, i64_w, i32_w]
                  rfl
                refine pure_ (i := 8) (N := some 48) (v := ?_) (a' := ?_) #[true, true, true, true, true, true, true, true, true, false, false, false, false, false, false, false, false, false, false, false, false, false, false, false, false, false, false, false, false, false, false, false, false, false] rfl rfl (any_of HT_.out (by kernel_rfl)) (fun _ _ _ h => h) (Or.inl ⟨by rfl, ?_⟩) ?_ ?_
                rotate_left
                · intro w'
                  go_simp
                  with_reducible rfl
                rotate_left
                · simp only [Act.put, List.setIfInBounds_toArray, List.set_cons_zero, List.set_cons_succ, i64_w, i32_w]
                  rfl
                refine pure_ (i := 9) (N := some 49) (v := ?_) (a' := ?_) #[true, true, true, true, true, true, true, true, true, true, false, false, false, false, false, false, false, false, false, false, false, false, false, false, false, false, false, false, false, false, false, false, false, false] rfl rfl (any_of HT_.out (by kernel_rfl)) (fun _ _ _ h => h) (Or.inl ⟨by rfl, ?_⟩) ?_ ?_
                rotate_left
                · intro w'
                  go_simp
                  with_reducible rfl
                rotate_left
                · simp only [Act.put, List.setIfInBounds_toArray, List.set_cons_zero, List.set_cons_succ, i64_w, i32_w]
                  rfl
                refine pure_ (i := 10) (N := some 50) (v := ?_) (a' := ?_) #[true, true, true, true, true, true, true, true, true, true, true, false, false, false, false, false, false, false, false, false, false, false, false, false, false, false, false, false, false, false, false, false, false, false] rfl rfl (any_of HT_.out (by kernel_rfl)) (fun _ _ _ h => h) (Or.inl ⟨by rfl, ?_⟩) ?_ ?_
                rotate_left
                · intro w'
                  go_simp
                  with_reducible rfl
                rotate_left
                · simp only [Act.put, List.setIfInBounds_toArray, List.set_cons_zero, List.set_cons_succ, i64_w, i32_w]
                  rfl
                refine pure_ (i := 12) (N := some 52) (v := ?_) (a' := ?_) #[true, true, true, true, true, true, true, true, true, true, true, false, true, false, false, false, false, false, false, false, false, false, false, false, false, false, false, false, false, false, false, false, false, false] rfl rfl (any_of HT_.out (by kernel_rfl)) (fun _ _ _ h => h) (Or.inl ⟨by rfl, ?_⟩) ?_ ?_
                rotate_left
                · intro w'
                  go_simp
                  with_reducible rfl
                rotate_left
                · simp only [Act.put, List.setIfInBounds_toArray, List.set_cons_zero, List.set_cons_succ, i64_w, i32_w]
                  rfl
                refine pure_ (i := 15) (N := some 55) (v := ?_) (a' := ?_) #[true, true, true, true, true, true, true, true, true, true, true, false, true, false, false, true, false, false, false, false, false, false, false, false, false, false, false, false, false, false, false, false, false, false] rfl rfl (any_of HT_.out (by kernel_rfl)) (fun _ _ _ h => h) (Or.inl ⟨by rfl, ?_⟩) ?_ ?_
                rotate_left
                · intro w'
                  go_simp
                  with_reducible rfl
                rotate_left
                · simp only [Act.put, List.setIfInBounds_toArray, List.set_cons_zero, List.set_cons_succ, i64_w, i32_w]
                  rfl
                refine take_ (i := 11) (N := some 51) (v := ?_) (a' := ?_) #[true, true, true, true, true, true, true, true, true, true, true, true, true, false, false, true, false, false, false, false, false, false, false, false, false, false, false, false, false, false, false, false, false, false] rfl rfl (take_ofW HT_.out HW_.out (by kernel_rfl)) (fun _ _ _ h => h) (Or.inl ⟨by rfl, ?_⟩) hHeld ?_ ?_
                rotate_left
                · rintro w' ⟨s0, s1, s2, s3, s4, s5, s6, s7, s8, s9, s10, s11, s12, s13, s14, s15, s16, s17, s18, s19⟩
                  go_simp
                  with_reducible rfl
                rotate_left
                · simp only [Act.put, List.setIfInBounds_toArray, List.set_cons_zero, List.set_cons_succ, i64_w, i32_w]
                  rfl
                refine take_ (i := 14) (N := some 54) (v := ?_) (a' := ?_) #[true, true, true, true, true, true, true, true, true, true, true, true, true, false, true, true, false, false, false, false, false, false, false, false, false, false, false, false, false, false, false, false, false, false] rfl rfl (take_ofW HT_.out HW_.out (by kernel_rfl)) (fun _ _ _ h => h) (Or.inl ⟨by rfl, ?_⟩) hHeld ?_ ?_
                rotate_left
                · rintro w' ⟨s0, s1, s2, s3, s4, s5, s6, s7, s8, s9, s10, s11, s12, s13, s14, s15, s16, s17, s18, s19⟩
                  go_simp
                  with_reducible rfl
                rotate_left
                · simp only [Act.put, List.setIfInBounds_toArray, List.set_cons_zero, List.set_cons_succ, i64_w, i32_w]
                  rfl
                refine one_ (i := 13) (N := some 53) #[true, true, true, true, true, true, true, true, true, true, true, true, true, true, true, true, false, false, false, false, false, false, false, false, false, false, false, false, false, false, false, false, false, false] rfl rfl (one_of HT_.out (by kernel_rfl)) (by decide) (fun K hK => ?_)
                refine goes_ Tryz.func21 (by kernel_rfl) rfl #[.agg #[.slice A0_0 l0_0.length c0_0, .slice A0_1 l0_1.length c0_1, .slice A0_2 l0_2.length c0_2, .int .i64 a0_3, .int .i64 a0_4, .bool a0_5, .int .i64 a0_6, .int .i64 a0_7, .int .i64 a0_8, .int .i64 a0_9, .slice A0_10 l0_10.length c0_10, .slice A0_11 l0_11.length c0_11, .slice A0_12 l0_12.length c0_12, .bool a0_13], .int .i64 a1] (by rfl) rfl rfl (by (try simp only [List.map_toArray, List.map_cons, List.map_nil]); first | done | rfl | (simp only [List.length_drop, List.length_take]; rfl)) ?_
                with_reducible refine (crl_Fresh.calls _ _ l0_0 _ _ l0_1 _ _ l0_2 a0_3 a0_4 a0_5 a0_6 a0_7 a0_8 a0_9 _ _ l0_10 _ _ l0_11 _ _ l0_12 a0_13 a1 t453 _ ?side1 ?side2 ?side3 ?side4 ?side5 ?side6 ?side7 ?side8 ?side9 ?side10 ?side11 ?side12 A20.out).mono ?_
                (case side1 => repeat (first | exact (Kd.C_below HR0_0.out HB.out) | (with_reducible refine Kd.C_alloc ?_ _) | (with_reducible refine Kd.C_drewN ?_ _) | (with_reducible refine Kd.C_drew ?_)))
                (case side2 => exact HC0_0.out)
                (case side3 => repeat (first | exact (Kd.C_below HR0_1.out HB.out) | (with_reducible refine Kd.C_alloc ?_ _) | (with_reducible refine Kd.C_drewN ?_ _) | (with_reducible refine Kd.C_drew ?_)))
                (case side4 => exact HC0_1.out)
                (case side5 => repeat (first | exact (Kd.C_below HR0_2.out HB.out) | (with_reducible refine Kd.C_alloc ?_ _) | (with_reducible refine Kd.C_drewN ?_ _) | (with_reducible refine Kd.C_drew ?_)))
                (case side6 => exact HC0_2.out)
                (case side7 => repeat (first | exact (Kd.C_below HR0_10.out HB.out) | (with_reducible refine Kd.C_alloc ?_ _) | (with_reducible refine Kd.C_drewN ?_ _) | (with_reducible refine Kd.C_drew ?_)))
                (case side8 => exact HC0_10.out)
                (case side9 => repeat (first | exact (Kd.C_below HR0_11.out HB.out) | (with_reducible refine Kd.C_alloc ?_ _) | (with_reducible refine Kd.C_drewN ?_ _) | (with_reducible refine Kd.C_drew ?_)))
                (case side10 => exact HC0_11.out)
                (case side11 => repeat (first | exact (Kd.C_below HR0_12.out HB.out) | (with_reducible refine Kd.C_alloc ?_ _) | (with_reducible refine Kd.C_drewN ?_ _) | (with_reducible refine Kd.C_drew ?_)))
                (case side12 => exact HC0_12.out)
                rintro e w51 ⟨rfl, hb⟩
                refine ⟨_, rfl, ?_⟩
                have n0_ := Aside0.mk (Kd.V_below (by (with_reducible repeat (first | apply Kd.V_alloc | apply Kd.V_drewN | apply Kd.V_drew)); exact HO441.out) hb)
                have n1_ := Aside0.mk (Kd.N_below (by (with_reducible repeat (first | apply Kd.N_alloc | apply Kd.N_drewN | apply Kd.N_drew)); exact HO448.out) hb)
                have n2_ := Aside0.mk (Kd.N_below (by (with_reducible repeat (first | apply Kd.N_alloc | apply Kd.N_drewN | apply Kd.N_drew)); exact HO451.out) hb)
                have n3_ := Aside0.mk (blk_below (g := gb430) (o := .cells #[.slice A0_0 l0_0.length c0_0, .slice A0_1 l0_1.length c0_1, .slice A0_2 l0_2.length c0_2, .int .i64 a0_3, .int .i64 a0_4, .bool a0_5, .int .i64 a0_6, .int .i64 a0_7, .int .i64 a0_8, .int .i64 a0_9, .slice A0_10 l0_10.length c0_10, .slice A0_11 l0_11.length c0_11, .slice A0_12 l0_12.length c0_12, .bool a0_13] 28 (0, 0)) (by (with_reducible repeat (first | refine blk_drewN ?_ _ | refine blk_drew ?_ | refine blk_alloc ?_ _)); exact BK430.out) hb)
                have n4_ := Aside0.mk (blk_below (g := gb438) (o := .cells #[.slice Ao30 t432.length co30, .int .i64 t435, .int .i64 t436] 30 (0, 0)) (by (with_reducible repeat (first | refine blk_drewN ?_ _ | refine blk_drew ?_ | refine blk_alloc ?_ _)); exact BK438.out) hb)
                have n5_ := Aside0.mk (blk_below (g := gb445) (o := .cells #[.slice Ao37 t439.length co37, .int .i64 t442, .int .i64 t443] 30 (0, 0)) (by (with_reducible repeat (first | refine blk_drewN ?_ _ | refine blk_drew ?_ | refine blk_alloc ?_ _)); exact BK445.out) hb)
                have n6_ := Aside0.mk (below_step (by repeat (first | (with_reducible first | exact HB.out | apply below_alloc | apply pw_below_drewN | apply below_drew1 | refine below_set ?_ GE430.out | refine below_set ?_ GE438.out | refine below_set ?_ GE445.out) | exact HB.out)) hb)
                clear HO441
                clear HO448
                clear HO451
                clear BK430
                clear BK438
                clear BK445
                clear HB
                have HO441 := n0_
                have HO448 := n1_
                have HO451 := n2_
                have BK430 := n3_
                have BK438 := n4_
                have BK445 := n5_
                have HB := n6_
                clear n0_ n1_ n2_ n3_ n4_ n5_ n6_
                (try clear hb)
                (try clear hb2)
                (try clear hk)
                (try clear hi)
                refine hK.out _ _ ⟨(blk_cell BK438.out 0).trans rfl, (blk_cell BK438.out 1).trans rfl, (blk_cell BK438.out 2).trans rfl, (blk_cell BK445.out 0).trans rfl, (blk_cell BK445.out 1).trans rfl, (blk_cell BK445.out 2).trans rfl, (blk_cell BK430.out 0).trans rfl, (blk_cell BK430.out 1).trans rfl, (blk_cell BK430.out 2).trans rfl, (blk_cell BK430.out 3).trans rfl, (blk_cell BK430.out 4).trans rfl, (blk_cell BK430.out 5).trans rfl, (blk_cell BK430.out 6).trans rfl, (blk_cell BK430.out 7).trans rfl, (blk_cell BK430.out 8).trans rfl, (blk_cell BK430.out 9).trans rfl, (blk_cell BK430.out 10).trans rfl, (blk_cell BK430.out 11).trans rfl, (blk_cell BK430.out 12).trans rfl, (blk_cell BK430.out 13).trans rfl⟩ (fun hHeld => ?_)
                clear hK K
                refine norm_ (a' := ?_) ?_ ?_
                rotate_left
                · show Act.put _ (some 53) _ = _
                  simp only [Act.put, List.setIfInBounds_toArray, List.set_cons_zero, List.set_cons_succ, i64_w, i32_w]
                  rfl
                refine one_ (i := 16) (N := some 56) #[true, true, true, true, true, true, true, true, true, true, true, true, true, true, true, true, true, false, false, false, false, false, false, false, false, false, false, false, false, false, false, false, false, false] rfl rfl (one_of HT_.out (by kernel_rfl)) (by decide) (fun K hK => ?_)
                refine goes_ Tryz.func25 (by kernel_rfl) rfl #[.agg #[.slice A0_0 l0_0.length c0_0, .slice A0_1 l0_1.length c0_1, .slice A0_2 l0_2.length c0_2, .int .i64 a0_3, .int .i64 a0_4, .bool a0_5, .int .i64 a0_6, .int .i64 a0_7, .int .i64 a0_8, .int .i64 a0_9, .slice A0_10 l0_10.length c0_10, .slice A0_11 l0_11.length c0_11, .slice A0_12 l0_12.length c0_12, .bool a0_13], .int .i64 a1] (by rfl) rfl rfl (by (try simp only [List.map_toArray, List.map_cons, List.map_nil]); first | done | rfl | (simp only [List.length_drop, List.length_take]; rfl)) ?_
                with_reducible refine (chirographref13_Fresh.calls _ _ l0_0 _ _ l0_1 _ _ l0_2 a0_3 a0_4 a0_5 a0_6 a0_7 a0_8 a0_9 _ _ l0_10 _ _ l0_11 _ _ l0_12 a0_13 a1 t454 _ ?side1 ?side2 ?side3 ?side4 ?side5 ?side6 ?side7 ?side8 ?side9 ?side10 ?side11 ?side12 A21.out).mono ?_
                (case side1 => repeat (first | exact (Kd.C_below HR0_0.out HB.out) | (with_reducible refine Kd.C_alloc ?_ _) | (with_reducible refine Kd.C_drewN ?_ _) | (with_reducible refine Kd.C_drew ?_)))
                (case side2 => exact HC0_0.out)
                (case side3 => repeat (first | exact (Kd.C_below HR0_1.out HB.out) | (with_reducible refine Kd.C_alloc ?_ _) | (with_reducible refine Kd.C_drewN ?_ _) | (with_reducible refine Kd.C_drew ?_)))
                (case side4 => exact HC0_1.out)
                (case side5 => repeat (first | exact (Kd.C_below HR0_2.out HB.out) | (with_reducible refine Kd.C_alloc ?_ _) | (with_reducible refine Kd.C_drewN ?_ _) | (with_reducible refine Kd.C_drew ?_)))
                (case side6 => exact HC0_2.out)
                (case side7 => repeat (first | exact (Kd.C_below HR0_10.out HB.out) | (with_reducible refine Kd.C_alloc ?_ _) | (with_reducible refine Kd.C_drewN ?_ _) | (with_reducible refine Kd.C_drew ?_)))
                (case side8 => exact HC0_10.out)
                (case side9 => repeat (first | exact (Kd.C_below HR0_11.out HB.out) | (with_reducible refine Kd.C_alloc ?_ _) | (with_reducible refine Kd.C_drewN ?_ _) | (with_reducible refine Kd.C_drew ?_)))
                (case side10 => exact HC0_11.out)
                (case side11 => repeat (first | exact (Kd.C_below HR0_12.out HB.out) | (with_reducible refine Kd.C_alloc ?_ _) | (with_reducible refine Kd.C_drewN ?_ _) | (with_reducible refine Kd.C_drew ?_)))
                (case side12 => exact HC0_12.out)
                rintro e w52 ⟨rfl, hb⟩
                refine ⟨_, rfl, ?_⟩
                have n0_ := Aside0.mk (Kd.V_below (by (with_reducible repeat (first | apply Kd.V_alloc | apply Kd.V_drewN | apply Kd.V_drew)); exact HO441.out) hb)
                have n1_ := Aside0.mk (Kd.N_below (by (with_reducible repeat (first | apply Kd.N_alloc | apply Kd.N_drewN | apply Kd.N_drew)); exact HO448.out) hb)
                have n2_ := Aside0.mk (Kd.N_below (by (with_reducible repeat (first | apply Kd.N_alloc | apply Kd.N_drewN | apply Kd.N_drew)); exact HO451.out) hb)
                have n3_ := Aside0.mk (blk_below (g := gb430) (o := .cells #[.slice A0_0 l0_0.length c0_0, .slice A0_1 l0_1.length c0_1, .slice A0_2 l0_2.length c0_2, .int .i64 a0_3, .int .i64 a0_4, .bool a0_5, .int .i64 a0_6, .int .i64 a0_7, .int .i64 a0_8, .int .i64 a0_9, .slice A0_10 l0_10.length c0_10, .slice A0_11 l0_11.length c0_11, .slice A0_12 l0_12.length c0_12, .bool a0_13] 28 (0, 0)) (by (with_reducible repeat (first | refine blk_drewN ?_ _ | refine blk_drew ?_ | refine blk_alloc ?_ _)); exact BK430.out) hb)
                have n4_ := Aside0.mk (blk_below (g := gb438) (o := .cells #[.slice Ao30 t432.length co30, .int .i64 t435, .int .i64 t436] 30 (0, 0)) (by (with_reducible repeat (first | refine blk_drewN ?_ _ | refine blk_drew ?_ | refine blk_alloc ?_ _)); exact BK438.out) hb)
                have n5_ := Aside0.mk (blk_below (g := gb445) (o := .cells #[.slice Ao37 t439.length co37, .int .i64 t442, .int .i64 t443] 30 (0, 0)) (by (with_reducible repeat (first | refine blk_drewN ?_ _ | refine blk_drew ?_ | refine blk_alloc ?_ _)); exact BK445.out) hb)
                have n6_ := Aside0.mk (below_step (by repeat (first | (with_reducible first | exact HB.out | apply below_alloc | apply pw_below_drewN | apply below_drew1 | refine below_set ?_ GE430.out | refine below_set ?_ GE438.out | refine below_set ?_ GE445.out) | exact HB.out)) hb)
                clear HO441
                clear HO448
                clear HO451
                clear BK430
                clear BK438
                clear BK445
                clear HB
                have HO441 := n0_
                have HO448 := n1_
                have HO451 := n2_
                have BK430 := n3_
                have BK438 := n4_
                have BK445 := n5_
                have HB := n6_
                clear n0_ n1_ n2_ n3_ n4_ n5_ n6_
                (try clear hb)
                (try clear hb2)
                (try clear hk)
                (try clear hi)
                refine hK.out _ _ ⟨(blk_cell BK438.out 0).trans rfl, (blk_cell BK438.out 1).trans rfl, (blk_cell BK438.out 2).trans rfl, (blk_cell BK445.out 0).trans rfl, (blk_cell BK445.out 1).trans rfl, (blk_cell BK445.out 2).trans rfl, (blk_cell BK430.out 0).trans rfl, (blk_cell BK430.out 1).trans rfl, (blk_cell BK430.out 2).trans rfl, (blk_cell BK430.out 3).trans rfl, (blk_cell BK430.out 4).trans rfl, (blk_cell BK430.out 5).trans rfl, (blk_cell BK430.out 6).trans rfl, (blk_cell BK430.out 7).trans rfl, (blk_cell BK430.out 8).trans rfl, (blk_cell BK430.out 9).trans rfl, (blk_cell BK430.out 10).trans rfl, (blk_cell BK430.out 11).trans rfl, (blk_cell BK430.out 12).trans rfl, (blk_cell BK430.out 13).trans rfl⟩ (fun hHeld => ?_)
                clear hK K
                refine norm_ (a' := ?_) ?_ ?_
                rotate_left
                · show Act.put _ (some 56) _ = _
                  simp only [Act.put, List.setIfInBounds_toArray, List.set_cons_zero, List.set_cons_succ, i64_w, i32_w]
                  rfl
                refine pure_ (i := 17) (N := some 57) (v := ?_) (a' := ?_) #[true, true, true, true, true, true, true, true, true, true, true, true, true, true, true, true, true, true, false, false, false, false, false, false, false, false, false, false, false, false, false, false, false, false] rfl rfl (any_of HT_.out (by kernel_rfl)) (fun _ _ _ h => h) (Or.inl ⟨by rfl, ?_⟩) ?_ ?_
                rotate_left
                · intro w'
                  go_simp
                  with_reducible rfl
                rotate_left
                · simp only [Act.put, List.setIfInBounds_toArray, List.set_cons_zero, List.set_cons_succ, i64_w, i32_w]
                  rfl
                refine pure_ (i := 18) (N := some 58) (v := ?_) (a' := ?_) #[true, true, true, true, true, true, true, true, true, true, true, true, true, true, true, true, true, true, true, false, false, false, false, false, false, false, false, false, false, false, false, false, false, false] rfl rfl (any_of HT_.out (by kernel_rfl)) (fun _ _ _ h => h) (Or.inl ⟨by rfl, ?_⟩) ?_ ?_
                rotate_left
                · intro w'
                  go_simp
                  with_reducible rfl
                rotate_left
                · simp only [Act.put, List.setIfInBounds_toArray, List.set_cons_zero, List.set_cons_succ, i64_w, i32_w]
                  rfl
                refine pure_ (i := 19) (N := some 59) (v := ?_) (a' := ?_) #[true, true, true, true, true, true, true, true, true, true, true, true, true, true, true, true, true, true, true, true, false, false, false, false, false, false, false, false, false, false, false, false, false, false] rfl rfl (any_of HT_.out (by kernel_rfl)) (fun _ _ _ h => h) (Or.inl ⟨by rfl, ?_⟩) ?_ ?_
                rotate_left
                · intro w'
                  go_simp
                  with_reducible rfl
                rotate_left
                · simp only [Act.put, List.setIfInBounds_toArray, List.set_cons_zero, List.set_cons_succ, i64_w, i32_w]
                  rfl
                refine pure_ (i := 21) (N := some 61) (v := ?_) (a' := ?_) #[true, true, true, true, true, true, true, true, true, true, true, true, true, true, true, true, true, true, true, true, false, true, false, false, false, false, false, false, false, false, false, false, false, false] rfl rfl (any_of HT_.out (by kernel_rfl)) (fun _ _ _ h => h) (Or.inl ⟨by rfl, ?_⟩) ?_ ?_
                rotate_left
                · intro w'
                  go_simp
                  with_reducible rfl
                rotate_left
                · simp only [Act.put, List.setIfInBounds_toArray, List.set_cons_zero, List.set_cons_succ, i64_w, i32_w]
                  rfl
                refine pure_ (i := 22) (N := some 62) (v := ?_) (a' := ?_) #[true, true, true, true, true, true, true, true, true, true, true, true, true, true, true, true, true, true, true, true, false, true, true, false, false, false, false, false, false, false, false, false, false, false] rfl rfl (any_of HT_.out (by kernel_rfl)) (fun _ _ _ h => h) (Or.inl ⟨by rfl, ?_⟩) ?_ ?_
                rotate_left
                · intro w'
                  go_simp
                  with_reducible rfl
                rotate_left
                · simp only [Act.put, List.setIfInBounds_toArray, List.set_cons_zero, List.set_cons_succ, i64_w, i32_w]
                  rfl
                refine pure_ (i := 25) (N := some 65) (v := ?_) (a' := ?_) #[true, true, true, true, true, true, true, true, true, true, true, true, true, true, true, true, true, true, true, true, false, true, true, false, false, true, false, false, false, false, false, false, false, false] rfl rfl (any_of HT_.out (by kernel_rfl)) (fun _ _ _ h => h) (Or.inl ⟨by rfl, ?_⟩) ?_ ?_
                rotate_left
                · intro w'
                  go_simp
                  with_reducible rfl
                rotate_left
                · simp only [Act.put, List.setIfInBounds_toArray, List.set_cons_zero, List.set_cons_succ, i64_w, i32_w]
                  rfl
                refine pure_ (i := 26) (N := some 66) (v := ?_) (a' := ?_) #[true, true, true, true, true, true, true, true, true, true, true, true, true, true, true, true, true, true, true, true, false, true, true, false, false, true, true, false, false, false, false, false, false, false] rfl rfl (any_of HT_.out (by kernel_rfl)) (fun _ _ _ h => h) (Or.inl ⟨by rfl, ?_⟩) ?_ ?_
                rotate_left
                · intro w'
                  go_simp
                  with_reducible rfl
                rotate_left
                · simp only [Act.put, List.setIfInBounds_toArray, List.set_cons_zero, List.set_cons_succ, i64_w, i32_w]
                  rfl
                refine take_ (i := 20) (N := some 60) (v := ?_) (a' := ?_) #[true, true, true, true, true, true, true, true, true, true, true, true, true, true, true, true, true, true, true, true, true, true, true, false, false, true, true, false, false, false, false, false, false, false] rfl rfl (take_ofW HT_.out HW_.out (by kernel_rfl)) (fun _ _ _ h => h) (Or.inl ⟨by rfl, ?_⟩) hHeld ?_ ?_
                rotate_left
                · rintro w' ⟨s0, s1, s2, s3, s4, s5, s6, s7, s8, s9, s10, s11, s12, s13, s14, s15, s16, s17, s18, s19⟩
                  go_simp
                  with_reducible rfl
                rotate_left
                · simp only [Act.put, List.setIfInBounds_toArray, List.set_cons_zero, List.set_cons_succ, i64_w, i32_w]
                  rfl
                refine take_ (i := 24) (N := some 64) (v := ?_) (a' := ?_) #[true, true, true, true, true, true, true, true, true, true, true, true, true, true, true, true, true, true, true, true, true, true, true, false, true, true, true, false, false, false, false, false, false, false] rfl rfl (take_ofW HT_.out HW_.out (by kernel_rfl)) (fun _ _ _ h => h) (Or.inl ⟨by rfl, ?_⟩) hHeld ?_ ?_
                rotate_left
                · rintro w' ⟨s0, s1, s2, s3, s4, s5, s6, s7, s8, s9, s10, s11, s12, s13, s14, s15, s16, s17, s18, s19⟩
                  go_simp
                  with_reducible rfl
                rotate_left
                · simp only [Act.put, List.setIfInBounds_toArray, List.set_cons_zero, List.set_cons_succ, i64_w, i32_w]
                  rfl
                refine one_ (i := 23) (N := some 63) #[true, true, true, true, true, true, true, true, true, true, true, true, true, true, true, true, true, true, true, true, true, true, true, true, true, true, true, false, false, false, false, false, false, false] rfl rfl (one_of HT_.out (by kernel_rfl)) (by decide) (fun K hK => ?_)
                refine goes_ Tryz.func20 (by kernel_rfl) rfl #[.agg #[.slice Ao37 t439.length co37, .int .i64 t442, .int .i64 t443], .int .i64 a1, .slice A3 l3.length c3] (by rfl) rfl rfl (by (try simp only [List.map_toArray, List.map_cons, List.map_nil]); first | done | rfl | (simp only [List.length_drop, List.length_take]; rfl)) ?_
                with_reducible refine (crl_Counts.calls kj4 _ _ t439 t442 t443 a1 _ _ l3 t455 _ ?side1 ?side2 ?side3 ?side4 A23.out).mono ?_
                (case side1 => repeat (first | exact (Kd.V_reads' HO441.out).2.2 | (with_reducible refine Kd.C_alloc ?_ _) | (with_reducible refine Kd.C_drewN ?_ _) | (with_reducible refine Kd.C_drew ?_)))
                (case side2 => exact (Kd.V_reads' HO441.out).2.1)
                (case side3 => repeat (first | exact (Kd.C_below HR3.out HB.out) | (with_reducible refine Kd.C_alloc ?_ _) | (with_reducible refine Kd.C_drewN ?_ _) | (with_reducible refine Kd.C_drew ?_)))
                (case side4 => exact HC3.out)
                rintro e w53 ⟨rfl, hb⟩
                refine ⟨_, rfl, ?_⟩
                have n0_ := Aside0.mk (Kd.V_below (by (with_reducible repeat (first | apply Kd.V_alloc | apply Kd.V_drewN | apply Kd.V_drew)); exact HO441.out) hb)
                have n1_ := Aside0.mk (Kd.N_below (by (with_reducible repeat (first | apply Kd.N_alloc | apply Kd.N_drewN | apply Kd.N_drew)); exact HO448.out) hb)
                have n2_ := Aside0.mk (Kd.N_below (by (with_reducible repeat (first | apply Kd.N_alloc | apply Kd.N_drewN | apply Kd.N_drew)); exact HO451.out) hb)
                have n3_ := Aside0.mk (blk_below (g := gb430) (o := .cells #[.slice A0_0 l0_0.length c0_0, .slice A0_1 l0_1.length c0_1, .slice A0_2 l0_2.length c0_2, .int .i64 a0_3, .int .i64 a0_4, .bool a0_5, .int .i64 a0_6, .int .i64 a0_7, .int .i64 a0_8, .int .i64 a0_9, .slice A0_10 l0_10.length c0_10, .slice A0_11 l0_11.length c0_11, .slice A0_12 l0_12.length c0_12, .bool a0_13] 28 (0, 0)) (by (with_reducible repeat (first | refine blk_drewN ?_ _ | refine blk_drew ?_ | refine blk_alloc ?_ _)); exact BK430.out) hb)
                have n4_ := Aside0.mk (blk_below (g := gb438) (o := .cells #[.slice Ao30 t432.length co30, .int .i64 t435, .int .i64 t436] 30 (0, 0)) (by (with_reducible repeat (first | refine blk_drewN ?_ _ | refine blk_drew ?_ | refine blk_alloc ?_ _)); exact BK438.out) hb)
                have n5_ := Aside0.mk (blk_below (g := gb445) (o := .cells #[.slice Ao37 t439.length co37, .int .i64 t442, .int .i64 t443] 30 (0, 0)) (by (with_reducible repeat (first | refine blk_drewN ?_ _ | refine blk_drew ?_ | refine blk_alloc ?_ _)); exact BK445.out) hb)
                have n6_ := Aside0.mk (below_step (by repeat (first | (with_reducible first | exact HB.out | apply below_alloc | apply pw_below_drewN | apply below_drew1 | refine below_set ?_ GE430.out | refine below_set ?_ GE438.out | refine below_set ?_ GE445.out) | exact HB.out)) hb)
                clear HO441
                clear HO448
                clear HO451
                clear BK430
                clear BK438
                clear BK445
                clear HB
                have HO441 := n0_
                have HO448 := n1_
                have HO451 := n2_
                have BK430 := n3_
                have BK438 := n4_
                have BK445 := n5_
                have HB := n6_
                clear n0_ n1_ n2_ n3_ n4_ n5_ n6_
                (try clear hb)
                (try clear hb2)
                (try clear hk)
                (try clear hi)
                refine hK.out _ _ ⟨(blk_cell BK438.out 0).trans rfl, (blk_cell BK438.out 1).trans rfl, (blk_cell BK438.out 2).trans rfl, (blk_cell BK445.out 0).trans rfl, (blk_cell BK445.out 1).trans rfl, (blk_cell BK445.out 2).trans rfl, (blk_cell BK430.out 0).trans rfl, (blk_cell BK430.out 1).trans rfl, (blk_cell BK430.out 2).trans rfl, (blk_cell BK430.out 3).trans rfl, (blk_cell BK430.out 4).trans rfl, (blk_cell BK430.out 5).trans rfl, (blk_cell BK430.out 6).trans rfl, (blk_cell BK430.out 7).trans rfl, (blk_cell BK430.out 8).trans rfl, (blk_cell BK430.out 9).trans rfl, (blk_cell BK430.out 10).trans rfl, (blk_cell BK430.out 11).trans rfl, (blk_cell BK430.out 12).trans rfl, (blk_cell BK430.out 13).trans rfl⟩ (fun hHeld => ?_)
                clear hK K
                refine norm_ (a' := ?_) ?_ ?_
                rotate_left
                · show Act.put _ (some 63) _ = _
                  simp only [Act.put, List.setIfInBounds_toArray, List.set_cons_zero, List.set_cons_succ, i64_w, i32_w]
                  rfl
                refine one_ (i := 27) (N := some 67) #[true, true, true, true, true, true, true, true, true, true, true, true, true, true, true, true, true, true, true, true, true, true, true, true, true, true, true, true, false, false, false, false, false, false] rfl rfl (one_of HT_.out (by kernel_rfl)) (by decide) (fun K hK => ?_)
                refine goes_ Tryz.func26 (by kernel_rfl) rfl #[.agg #[.slice Ao37 t439.length co37, .int .i64 t442, .int .i64 t443], .int .i64 a1, .slice A3 l3.length c3] (by rfl) rfl rfl (by (try simp only [List.map_toArray, List.map_cons, List.map_nil]); first | done | rfl | (simp only [List.length_drop, List.length_take]; rfl)) ?_
                with_reducible refine (chirographref13_Counts.calls kj4 _ _ t439 t442 t443 a1 _ _ l3 t456 _ ?side1 ?side2 ?side3 ?side4 A24.out).mono ?_
                (case side1 => repeat (first | exact (Kd.V_reads' HO441.out).2.2 | (with_reducible refine Kd.C_alloc ?_ _) | (with_reducible refine Kd.C_drewN ?_ _) | (with_reducible refine Kd.C_drew ?_)))
                (case side2 => exact (Kd.V_reads' HO441.out).2.1)
                (case side3 => repeat (first | exact (Kd.C_below HR3.out HB.out) | (with_reducible refine Kd.C_alloc ?_ _) | (with_reducible refine Kd.C_drewN ?_ _) | (with_reducible refine Kd.C_drew ?_)))
                (case side4 => exact HC3.out)
                rintro e w54 ⟨rfl, hb⟩
                refine ⟨_, rfl, ?_⟩
                have n0_ := Aside0.mk (Kd.V_below (by (with_reducible repeat (first | apply Kd.V_alloc | apply Kd.V_drewN | apply Kd.V_drew)); exact HO441.out) hb)
                have n1_ := Aside0.mk (Kd.N_below (by (with_reducible repeat (first | apply Kd.N_alloc | apply Kd.N_drewN | apply Kd.N_drew)); exact HO448.out) hb)
                have n2_ := Aside0.mk (Kd.N_below (by (with_reducible repeat (first | apply Kd.N_alloc | apply Kd.N_drewN | apply Kd.N_drew)); exact HO451.out) hb)
                have n3_ := Aside0.mk (blk_below (g := gb430) (o := .cells #[.slice A0_0 l0_0.length c0_0, .slice A0_1 l0_1.length c0_1, .slice A0_2 l0_2.length c0_2, .int .i64 a0_3, .int .i64 a0_4, .bool a0_5, .int .i64 a0_6, .int .i64 a0_7, .int .i64 a0_8, .int .i64 a0_9, .slice A0_10 l0_10.length c0_10, .slice A0_11 l0_11.length c0_11, .slice A0_12 l0_12.length c0_12, .bool a0_13] 28 (0, 0)) (by (with_reducible repeat (first | refine blk_drewN ?_ _ | refine blk_drew ?_ | refine blk_alloc ?_ _)); exact BK430.out) hb)
                have n4_ := Aside0.mk (blk_below (g := gb438) (o := .cells #[.slice Ao30 t432.length co30, .int .i64 t435, .int .i64 t436] 30 (0, 0)) (by (with_reducible repeat (first | refine blk_drewN ?_ _ | refine blk_drew ?_ | refine blk_alloc ?_ _)); exact BK438.out) hb)
                have n5_ := Aside0.mk (blk_below (g := gb445) (o := .cells #[.slice Ao37 t439.length co37, .int .i64 t442, .int .i64 t443] 30 (0, 0)) (by (with_reducible repeat (first | refine blk_drewN ?_ _ | refine blk_drew ?_ | refine blk_alloc ?_ _)); exact BK445.out) hb)
                have n6_ := Aside0.mk (below_step (by repeat (first | (with_reducible first | exact HB.out | apply below_alloc | apply pw_below_drewN | apply below_drew1 | refine below_set ?_ GE430.out | refine below_set ?_ GE438.out | refine below_set ?_ GE445.out) | exact HB.out)) hb)
                clear HO441
                clear HO448
                clear HO451
                clear BK430
                clear BK438
                clear BK445
                clear HB
                have HO441 := n0_
                have HO448 := n1_
                have HO451 := n2_
                have BK430 := n3_
                have BK438 := n4_
                have BK445 := n5_
                have HB := n6_
                clear n0_ n1_ n2_ n3_ n4_ n5_ n6_
                (try clear hb)
                (try clear hb2)
                (try clear hk)
                (try clear hi)
                refine hK.out _ _ ⟨(blk_cell BK438.out 0).trans rfl, (blk_cell BK438.out 1).trans rfl, (blk_cell BK438.out 2).trans rfl, (blk_cell BK445.out 0).trans rfl, (blk_cell BK445.out 1).trans rfl, (blk_cell BK445.out 2).trans rfl, (blk_cell BK430.out 0).trans rfl, (blk_cell BK430.out 1).trans rfl, (blk_cell BK430.out 2).trans rfl, (blk_cell BK430.out 3).trans rfl, (blk_cell BK430.out 4).trans rfl, (blk_cell BK430.out 5).trans rfl, (blk_cell BK430.out 6).trans rfl, (blk_cell BK430.out 7).trans rfl, (blk_cell BK430.out 8).trans rfl, (blk_cell BK430.out 9).trans rfl, (blk_cell BK430.out 10).trans rfl, (blk_cell BK430.out 11).trans rfl, (blk_cell BK430.out 12).trans rfl, (blk_cell BK430.out 13).trans rfl⟩ (fun hHeld => ?_)
                clear hK K
                refine norm_ (a' := ?_) ?_ ?_
                rotate_left
                · show Act.put _ (some 67) _ = _
                  simp only [Act.put, List.setIfInBounds_toArray, List.set_cons_zero, List.set_cons_succ, i64_w, i32_w]
                  rfl
                refine pure_ (i := 28) (N := some 68) (v := ?_) (a' := ?_) #[true, true, true, true, true, true, true, true, true, true, true, true, true, true, true, true, true, true, true, true, true, true, true, true, true, true, true, true, true, false, false, false, false, false] rfl rfl (any_of HT_.out (by kernel_rfl)) (fun _ _ _ h => h) (Or.inl ⟨by rfl, ?_⟩) ?_ ?_
                rotate_left
                · intro w'
                  go_simp
                  with_reducible rfl
                rotate_left
                · simp only [Act.put, List.setIfInBounds_toArray, List.set_cons_zero, List.set_cons_succ, i64_w, i32_w]
                  rfl
                refine pure_ (i := 29) (N := some 69) (v := ?_) (a' := ?_) #[true, true, true, true, true, true, true, true, true, true, true, true, true, true, true, true, true, true, true, true, true, true, true, true, true, true, true, true, true, true, false, false, false, false] rfl rfl (any_of HT_.out (by kernel_rfl)) (fun _ _ _ h => h) (Or.inl ⟨by rfl, ?_⟩) ?_ ?_
                rotate_left
                · intro w'
                  go_simp
                  with_reducible rfl
                rotate_left
                · simp only [Act.put, List.setIfInBounds_toArray, List.set_cons_zero, List.set_cons_succ, i64_w, i32_w]
                  rfl
                refine pure_ (i := 30) (N := some 70) (v := ?_) (a' := ?_) #[true, true, true, true, true, true, true, true, true, true, true, true, true, true, true, true, true, true, true, true, true, true, true, true, true, true, true, true, true, true, true, false, false, false] rfl rfl (any_of HT_.out (by kernel_rfl)) (fun _ _ _ h => h) (Or.inl ⟨by rfl, ?_⟩) ?_ ?_
                rotate_left
                · intro w'
                  go_simp
                  with_reducible rfl
                rotate_left
                · simp only [Act.put, List.setIfInBounds_toArray, List.set_cons_zero, List.set_cons_succ, i64_w, i32_w]
                  rfl
                refine one_ (i := 31) (N := some 71) #[true, true, true, true, true, true, true, true, true, true, true, true, true, true, true, true, true, true, true, true, true, true, true, true, true, true, true, true, true, true, true, true, false, false] rfl rfl (one_of HT_.out (by kernel_rfl)) (by decide) (fun K hK => ?_)
                refine goes_ Tryz.func19 (by kernel_rfl) rfl #[] (by rfl) rfl rfl (by (try simp only [List.map_toArray, List.map_cons, List.map_nil]); first | done | rfl | (simp only [List.length_drop, List.length_take]; rfl)) ?_
                with_reducible refine (chirographlaw13_live.calls  t457 _ A26.out).mono ?_
                rintro e w55 ⟨rfl, hb⟩
                refine ⟨_, rfl, ?_⟩
                have n0_ := Aside0.mk (Kd.V_below (by (with_reducible repeat (first | apply Kd.V_alloc | apply Kd.V_drewN | apply Kd.V_drew)); exact HO441.out) hb)
                have n1_ := Aside0.mk (Kd.N_below (by (with_reducible repeat (first | apply Kd.N_alloc | apply Kd.N_drewN | apply Kd.N_drew)); exact HO448.out) hb)
                have n2_ := Aside0.mk (Kd.N_below (by (with_reducible repeat (first | apply Kd.N_alloc | apply Kd.N_drewN | apply Kd.N_drew)); exact HO451.out) hb)
                have n3_ := Aside0.mk (blk_below (g := gb430) (o := .cells #[.slice A0_0 l0_0.length c0_0, .slice A0_1 l0_1.length c0_1, .slice A0_2 l0_2.length c0_2, .int .i64 a0_3, .int .i64 a0_4, .bool a0_5, .int .i64 a0_6, .int .i64 a0_7, .int .i64 a0_8, .int .i64 a0_9, .slice A0_10 l0_10.length c0_10, .slice A0_11 l0_11.length c0_11, .slice A0_12 l0_12.length c0_12, .bool a0_13] 28 (0, 0)) (by (with_reducible repeat (first | refine blk_drewN ?_ _ | refine blk_drew ?_ | refine blk_alloc ?_ _)); exact BK430.out) hb)
                have n4_ := Aside0.mk (blk_below (g := gb438) (o := .cells #[.slice Ao30 t432.length co30, .int .i64 t435, .int .i64 t436] 30 (0, 0)) (by (with_reducible repeat (first | refine blk_drewN ?_ _ | refine blk_drew ?_ | refine blk_alloc ?_ _)); exact BK438.out) hb)
                have n5_ := Aside0.mk (blk_below (g := gb445) (o := .cells #[.slice Ao37 t439.length co37, .int .i64 t442, .int .i64 t443] 30 (0, 0)) (by (with_reducible repeat (first | refine blk_drewN ?_ _ | refine blk_drew ?_ | refine blk_alloc ?_ _)); exact BK445.out) hb)
                have n6_ := Aside0.mk (below_step (by repeat (first | (with_reducible first | exact HB.out | apply below_alloc | apply pw_below_drewN | apply below_drew1 | refine below_set ?_ GE430.out | refine below_set ?_ GE438.out | refine below_set ?_ GE445.out) | exact HB.out)) hb)
                clear HO441
                clear HO448
                clear HO451
                clear BK430
                clear BK438
                clear BK445
                clear HB
                have HO441 := n0_
                have HO448 := n1_
                have HO451 := n2_
                have BK430 := n3_
                have BK438 := n4_
                have BK445 := n5_
                have HB := n6_
                clear n0_ n1_ n2_ n3_ n4_ n5_ n6_
                (try clear hb)
                (try clear hb2)
                (try clear hk)
                (try clear hi)
                refine hK.out _ _ ⟨(blk_cell BK438.out 0).trans rfl, (blk_cell BK438.out 1).trans rfl, (blk_cell BK438.out 2).trans rfl, (blk_cell BK445.out 0).trans rfl, (blk_cell BK445.out 1).trans rfl, (blk_cell BK445.out 2).trans rfl, (blk_cell BK430.out 0).trans rfl, (blk_cell BK430.out 1).trans rfl, (blk_cell BK430.out 2).trans rfl, (blk_cell BK430.out 3).trans rfl, (blk_cell BK430.out 4).trans rfl, (blk_cell BK430.out 5).trans rfl, (blk_cell BK430.out 6).trans rfl, (blk_cell BK430.out 7).trans rfl, (blk_cell BK430.out 8).trans rfl, (blk_cell BK430.out 9).trans rfl, (blk_cell BK430.out 10).trans rfl, (blk_cell BK430.out 11).trans rfl, (blk_cell BK430.out 12).trans rfl, (blk_cell BK430.out 13).trans rfl⟩ (fun hHeld => ?_)
                clear hK K
                refine norm_ (a' := ?_) ?_ ?_
                rotate_left
                · show Act.put _ (some 71) _ = _
                  simp only [Act.put, List.setIfInBounds_toArray, List.set_cons_zero, List.set_cons_succ, i64_w, i32_w]
                  rfl
                refine pure_ (i := 32) (N := some 72) (v := ?_) (a' := ?_) #[true, true, true, true, true, true, true, true, true, true, true, true, true, true, true, true, true, true, true, true, true, true, true, true, true, true, true, true, true, true, true, true, true, false] rfl rfl (any_of HT_.out (by kernel_rfl)) (fun _ _ _ h => h) (Or.inl ⟨by rfl, ?_⟩) ?_ ?_
                rotate_left
                · intro w'
                  go_simp
                  with_reducible rfl
                rotate_left
                · simp only [Act.put, List.setIfInBounds_toArray, List.set_cons_zero, List.set_cons_succ, i64_w, i32_w]
                  rfl
                refine pure_ (i := 33) (N := some 8) (v := ?_) (a' := ?_) #[true, true, true, true, true, true, true, true, true, true, true, true, true, true, true, true, true, true, true, true, true, true, true, true, true, true, true, true, true, true, true, true, true, true] rfl rfl (any_of HT_.out (by kernel_rfl)) (fun _ _ _ h => h) (Or.inl ⟨by rfl, ?_⟩) ?_ ?_
                rotate_left
                · intro w'
                  go_simp
                  with_reducible rfl
                rotate_left
                · simp only [Act.put, List.setIfInBounds_toArray, List.set_cons_zero, List.set_cons_succ, i64_w, i32_w]
                  rfl
                refine done_ (done_of HT_.out (by kernel_rfl)) ?_
                try go_wp2
                go_ret
                exact ⟨by first | rfl | (simp [errW_none, errW_some] <;> rfl) | (simp [*, errW_none, errW_some] <;> rfl), by repeat (first | (with_reducible first | exact HB.out | apply below_alloc | apply pw_below_drewN | apply below_drew1 | refine below_set ?_ GE430.out | refine below_set ?_ GE438.out | refine below_set ?_ GE445.out) | exact HB.out)⟩
              · rw [if_neg c25] at H
                have c25b0 : (t455 == t456) = false := by simpa using c25
                (try (have c25b1 : decide (t455 = t456) = false := by simpa using c25))
                (try (have c25b2 : (t455 == t456) = false := by simpa using c25))
                (try (have c25b3 : ¬ (t455 = t456) := by simpa using c25))
                clear c25
                exact absurd ((Option.some.inj H).trans hrt.out) (by decide)
            · rw [if_neg c22] at H
              have c22b0 : (t453 == t454) = false := by simpa using c22
              (try (have c22b1 : decide (t453 = t454) = false := by simpa using c22))
              (try (have c22b2 : (t453 == t454) = false := by simpa using c22))
              (try (have c22b3 : ¬ (t453 = t454) := by simpa using c22))
              clear c22
              exact absurd ((Option.some.inj H).trans hrt.out) (by decide)
          · rw [if_neg c19] at H
            have c19b0 : (t437 == t444) = false := by simpa using c19
            (try (have c19b1 : decide (t437 = t444) = false := by simpa using c19))
            (try (have c19b2 : (t437 == t444) = false := by simpa using c19))
            (try (have c19b3 : ¬ (t437 = t444) := by simpa using c19))
            clear c19
            exact absurd ((Option.some.inj H).trans hrt.out) (by decide)
        · replace c18 := Bool.eq_false_iff.mpr c18
          subst c18
          have H1 : (some false) = some r := by rw [if_neg (show ¬ (false = true) by decide)] at H; exact H
          clear H
          have H := H1
          clear H1
          exact absurd ((Option.some.inj H).trans hrt.out) (by decide)
end Go.Proofs.YtkioddjjfifadaaGreatDoor.P
