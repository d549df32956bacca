/- Printed by a program of this session (a turned copy of the kit's print) out of the translation: functions, each as a Lean function, and that the Go call does what that function says, under what is asked ahead of the colon. -/
import Derived.Test.YtkioddjjfifadaaGreatDoorPx0
namespace Go.Proofs.YtkioddjjfifadaaGreatDoor.P
open Go.RowKit Go.Proofs.YtkioddjjfifadaaGreatDoorW.PrintWords Go.Proofs.YtkioddjjfifadaaGreatDoorW.PrintLast Go.Proofs.YtkioddjjfifadaaGreatDoorW.PrintMore
attribute [local go_sem] max2_int min2_int max_two min_two max_three min_three max_four min_four   -- for this text's walks alone
set_option linter.unusedVariables false
set_option linter.unusedSimpArgs false

/-! ### chirographref17_One: function 60 -/
def chirographref17_One.l0 : Nat → List (S163) → ByteArray → Int → Int → Int → Option (List Int × Int)
  | 0, _, _, _, _, _ => none
  | k + 1, x0, x1, x6, x7, x8 => if x8 < (x0.length : Int) then (if 0 ≤ x8 then (if ((rd_T163 x0 x8).f0).toList = x1.toList then (chirographref17_One.l0 k x0 x1 (wrap64 (x6 + 1)) x8 (wrap64 (x8 + 1))) else (chirographref17_One.l0 k x0 x1 x6 x7 (wrap64 (x8 + 1)))) else (none)) else (if x6 = 0 then (some (([] : List Int), 5)) else (if x6 > 1 then (some (([] : List Int), 121)) else (if 0 ≤ x7 then (if x7 < (x0.length : Int) then (if (((rd_T163 x0 x7).f1).length : Int) = 1 then (if 0 < (((rd_T163 x0 x7).f1).length : Int) then (some (rd_L1 ((rd_T163 x0 x7).f1) 0, 0)) else (none)) else (some (([] : List Int), 121))) else (none)) else (none))))
def chirographref17_One.f (k : Nat) (l0 : List (S163)) (a1 : ByteArray) : Option (List Int × Int) := chirographref17_One.l0 k l0 a1 0 0 0
theorem chirographref17_One.mono_l : ∀ k, (∀ y0 y1 y2 y3 y4, LeO (chirographref17_One.l0 k y0 y1 y2 y3 y4) (chirographref17_One.l0 (k + 1) y0 y1 y2 y3 y4))
  | 0 => fun _ _ _ _ _ r h => by simp [chirographref17_One.l0] at h
  | k + 1 => by
    have ih0 := chirographref17_One.mono_l k
    · intro y0 y1 y2 y3 y4
      unfold chirographref17_One.l0
      repeat' first
      | (with_reducible exact ih0 _ _ _ _ _)
      | (with_reducible exact LeO.refl _)
      | (with_reducible exact LeO.none _)
      | (with_reducible refine LeO.ite ?_ ?_)
      | (with_reducible refine LeO.bind ?_ (fun _ => ?_))
      | exact ih0 _ _ _ _ _
      | exact LeO.none _
      | refine LeO.ite ?_ ?_
      | refine LeO.bind ?_ (fun _ => ?_)
theorem chirographref17_One.mono : ∀ a0 a1 k, LeO (chirographref17_One.f k a0 a1) (chirographref17_One.f (k + 1) a0 a1) := by
  intro a0 a1 k
  have ih0 := chirographref17_One.mono_l k
  unfold chirographref17_One.f
  repeat' first
      | (with_reducible exact ih0 _ _ _ _ _)
      | (with_reducible exact LeO.refl _)
      | (with_reducible exact LeO.none _)
      | (with_reducible refine LeO.ite ?_ ?_)
      | (with_reducible refine LeO.bind ?_ (fun _ => ?_))
      | exact ih0 _ _ _ _ _
      | exact LeO.none _
      | refine LeO.ite ?_ ?_
      | refine LeO.bind ?_ (fun _ => ?_)
set_option maxHeartbeats 8000000 in
set_option maxRecDepth 100000 in
theorem chirographref17_One.calls (k : Nat) (P0_ : Nat → Prop) (A0 : Option Addr) (c0 : Nat) (l0 : List (S163)) (a1 : ByteArray) (r1 : List Int) (r2 : Int) (w : World) (hs0 : Kd.V k163 163 w w.heap.size (fun k_ => P0_ k_) (.slice A0 l0.length c0) l0) (h : chirographref17_One.f k l0 a1 = some (r1, r2)) :
    Calls Tryz.prog 60 #[.slice A0 l0.length c0, .string a1] w fun e w' => ∃ v0_ : Value, e = .returned (.tuple #[v0_, .int .i64 r2]) ∧ Kd.V (Kd.int .u8) 5 w' w.heap.size (fun k_ => (P0_ k_ ∨ w.heap.size ≤ k_)) v0_ r1 ∧ Below w.heap.size w w' := by
  have HO0 := Aside0.mk (show Kd.V k163 163 w w.heap.size (fun k_ => (P0_ k_ ∨ w.heap.size ≤ k_)) (.slice A0 l0.length c0) l0 from Kd.V_mono hs0 (fun k_ hk => .inl hk))
  have HB := Aside0.mk (Below.refl w.heap.size w)
  have H : (chirographref17_One.l0 k l0 a1 0 0 0) = some (r1, r2) := h
  clear h
  have H' := Aside0.mk H
  clear H
  go_enter Tryz.func60, Tryz.ntmps60
  go_wp2
  go_loopg [6, 7, 8] k (fun kq v6 v7 v8 w' => ∃ (x6_1 : Int) (x7_1 : Int) (x8_1 : Int), v6 = .int .i64 x6_1 ∧ v7 = .int .i64 x7_1 ∧ v8 = .int .i64 x8_1 ∧ Aside0 (chirographref17_One.l0 kq l0 a1 x6_1 x7_1 x8_1 = some (r1, r2)) ∧ Aside0 (kq ≤ k) ∧ Aside0 (Kd.V k163 163 w' w.heap.size (fun k_ => (P0_ k_ ∨ w.heap.size ≤ k_)) (.slice A0 l0.length c0) l0) ∧ Aside0 (Below w.heap.size w w'))
  case atStart => exact ⟨(0), (0), (0), (by first | rfl | (simp; done) | (simp [*]; done)), (by first | rfl | (simp; done) | (simp [*]; done)), (by first | rfl | (simp; done) | (simp [*]; done)), H', ⟨Nat.le_refl _⟩, ⟨by (with_reducible repeat (first | apply Kd.V_alloc | apply Kd.V_drewN | apply Kd.V_drew)); exact HO0.out⟩, ⟨by repeat (first | (with_reducible first | exact HB.out | apply below_alloc | apply pw_below_drewN | apply below_drew1) | exact HB.out)⟩⟩
  case round =>
    clear H'
    try clear p2
    obtain ⟨x6_1, x7_1, x8_1, rfl, rfl, rfl, HA, HK1, HO_0, HB⟩ := hrel
    cases gk with
    | zero => exact absurd HA.out (by simp [chirographref17_One.l0])
    | succ k1 =>
      have H := HA.out
      clear HA
      simp only [chirographref17_One.l0] at H
      by_cases c3 : x8_1 < (l0.length : Int)
      · rw [if_pos c3] at H
        have c3b0 : decide (x8_1 < (l0.length : Int)) = true := decide_eq_true c3
        clear c3
        by_cases c4 : 0 ≤ x8_1
        · rw [if_pos c4] at H
          have c4b0 : decide (0 ≤ x8_1) = true := decide_eq_true c4
          clear c4
          by_cases c5 : ((rd_T163 l0 x8_1).f0).toList = a1.toList
          · rw [if_pos c5] at H
            have c5b0 : (((rd_T163 l0 x8_1).f0).toList == a1.toList) = true := beq_iff_eq.mpr c5
            have c5b1 : (((rd_T163 l0 x8_1).f0).toList != a1.toList) = false := bne_eq_false_iff_eq.mpr c5
            clear c5
            have H' := Aside0.mk H
            clear H
            have p1381 : 0 ≤ (x8_1 : Int) := of_decide_eq_true (by first | (with_reducible assumption) | assumption)
            have q1381 : x8_1 < (l0.length : Int) := of_decide_eq_true (by first | (with_reducible assumption) | assumption)
            obtain ⟨ad1381, A1381_1, c1381_1, e1381, hx1381_0, hx1381_1, hl1381_1, hi1381_1⟩ := at_T163 (Kd.V_reads' HO_0.out).2.2 x8_1 p1381 q1381
            cases e1381
            obtain ⟨ce1381, hce1381, hMe1381, hcc1381⟩ := Kd.V_get HO_0.out z163 x8_1 p1381 (by first | exact q1381 | exact of_decide_eq_true (by first | (with_reducible assumption) | assumption) | (have e_ := (Kd.V_reads' HO_0.out).1; omega))
            obtain ⟨ua1381_1, uc1381_1, rfl, ul1381_1, ge1381_1⟩ := k163_openF hMe1381
            have hv1381_1 := hcc1381 1 _ rfl
            rw [add_field _ _ 1 (by omega)] at hv1381_1
            replace hv1381_1 := Option.some.inj (hv1381_1.symm.trans hx1381_1)
            injection hv1381_1 with hva_ hvn_ hvc_
            rw [hva_] at ge1381_1
            rw [hvc_] at ul1381_1
            have HL1381_1 := Aside0.mk (show Kd.V (Kd.slice 5 (Kd.int .u8)) 22 _ w.heap.size _ _ ((rd_T163 l0 x8_1).f1) from Kd.V_mk ul1381_1 ge1381_1)
            clear hva_ hvn_ hvc_ ge1381_1 ul1381_1
            clear hcc1381 hce1381
            have HR1381_1 := Aside0.mk hi1381_1
            have HC1381_1 := Aside0.mk hl1381_1
            clear hi1381_1 hl1381_1
            replace p1381 := eq_true p1381
            replace q1381 := eq_true q1381
            go_wp2
            go_roundg k1
            case measure => have := HK1.out; omega
            case rel => exact ⟨(wrap64 (x6_1 + 1)), (x8_1), (wrap64 (x8_1 + 1)), (by first | rfl | (simp; done) | (simp [*]; done)), (by first | rfl | (simp; done) | (simp [*]; done)), (by first | rfl | (simp; done) | (simp [*]; done)), H', ⟨by have := HK1.out; omega⟩, ⟨by (with_reducible repeat (first | apply Kd.V_alloc | apply Kd.V_drewN | apply Kd.V_drew)); exact HO_0.out⟩, ⟨by repeat (first | (with_reducible first | exact HB.out | apply below_alloc | apply pw_below_drewN | apply below_drew1) | exact HB.out)⟩⟩
          · rw [if_neg c5] at H
            have c5b0 : (((rd_T163 l0 x8_1).f0).toList == a1.toList) = false := beq_eq_false_iff_ne.mpr c5
            have c5b1 : (((rd_T163 l0 x8_1).f0).toList != a1.toList) = true := bne_iff_ne.mpr c5
            have H' := Aside0.mk H
            clear H
            have p1381 : 0 ≤ (x8_1 : Int) := of_decide_eq_true (by first | (with_reducible assumption) | assumption)
            have q1381 : x8_1 < (l0.length : Int) := of_decide_eq_true (by first | (with_reducible assumption) | assumption)
            obtain ⟨ad1381, A1381_1, c1381_1, e1381, hx1381_0, hx1381_1, hl1381_1, hi1381_1⟩ := at_T163 (Kd.V_reads' HO_0.out).2.2 x8_1 p1381 q1381
            cases e1381
            obtain ⟨ce1381, hce1381, hMe1381, hcc1381⟩ := Kd.V_get HO_0.out z163 x8_1 p1381 (by first | exact q1381 | exact of_decide_eq_true (by first | (with_reducible assumption) | assumption) | (have e_ := (Kd.V_reads' HO_0.out).1; omega))
            obtain ⟨ua1381_1, uc1381_1, rfl, ul1381_1, ge1381_1⟩ := k163_openF hMe1381
            have hv1381_1 := hcc1381 1 _ rfl
            rw [add_field _ _ 1 (by omega)] at hv1381_1
            replace hv1381_1 := Option.some.inj (hv1381_1.symm.trans hx1381_1)
            injection hv1381_1 with hva_ hvn_ hvc_
            rw [hva_] at ge1381_1
            rw [hvc_] at ul1381_1
            have HL1381_1 := Aside0.mk (show Kd.V (Kd.slice 5 (Kd.int .u8)) 22 _ w.heap.size _ _ ((rd_T163 l0 x8_1).f1) from Kd.V_mk ul1381_1 ge1381_1)
            clear hva_ hvn_ hvc_ ge1381_1 ul1381_1
            clear hcc1381 hce1381
            have HR1381_1 := Aside0.mk hi1381_1
            have HC1381_1 := Aside0.mk hl1381_1
            clear hi1381_1 hl1381_1
            replace p1381 := eq_true p1381
            replace q1381 := eq_true q1381
            go_wp2
            go_roundg k1
            case measure => have := HK1.out; omega
            case rel => exact ⟨(x6_1), (x7_1), (wrap64 (x8_1 + 1)), (by first | rfl | (simp; done) | (simp [*]; done)), (by first | rfl | (simp; done) | (simp [*]; done)), (by first | rfl | (simp; done) | (simp [*]; done)), H', ⟨by have := HK1.out; omega⟩, ⟨by (with_reducible repeat (first | apply Kd.V_alloc | apply Kd.V_drewN | apply Kd.V_drew)); exact HO_0.out⟩, ⟨by repeat (first | (with_reducible first | exact HB.out | apply below_alloc | apply pw_below_drewN | apply below_drew1) | exact HB.out)⟩⟩
        · rw [if_neg c4] at H
          exact absurd H (by simp)
      · rw [if_neg c3] at H
        have c3b0 : decide (x8_1 < (l0.length : Int)) = false := decide_eq_false c3
        clear c3
        by_cases c6 : x6_1 = 0
        · rw [if_pos c6] at H
          have c6b0 : (x6_1 == 0) = true := beq_iff_eq.mpr c6
          have c6b1 : (x6_1 != 0) = false := bne_eq_false_iff_eq.mpr c6
          clear c6
          simp only [Option.some.injEq, Prod.mk.injEq] at H
          obtain ⟨rfl, rfl⟩ := H
          go_wp2
          go_ret2
          exact ⟨_, by first | rfl | (simp [errW_none, errW_some] <;> rfl) | (simp [*, errW_none, errW_some] <;> rfl), (Kd.V_nil _ _ _ _ _), by repeat (first | (with_reducible first | exact HB.out | apply below_alloc | apply pw_below_drewN | apply below_drew1) | exact HB.out)⟩
        · rw [if_neg c6] at H
          have c6b0 : (x6_1 == 0) = false := beq_eq_false_iff_ne.mpr c6
          have c6b1 : (x6_1 != 0) = true := bne_iff_ne.mpr c6
          by_cases c7 : x6_1 > 1
          · rw [if_pos c7] at H
            have c7b0 : decide (1 < x6_1) = true := decide_eq_true c7
            clear c7
            simp only [Option.some.injEq, Prod.mk.injEq] at H
            obtain ⟨rfl, rfl⟩ := H
            go_wp2
            go_ret2
            exact ⟨_, by first | rfl | (simp [errW_none, errW_some] <;> rfl) | (simp [*, errW_none, errW_some] <;> rfl), (Kd.V_nil _ _ _ _ _), by repeat (first | (with_reducible first | exact HB.out | apply below_alloc | apply pw_below_drewN | apply below_drew1) | exact HB.out)⟩
          · rw [if_neg c7] at H
            have c7b0 : decide (1 < x6_1) = false := decide_eq_false c7
            clear c7
            by_cases c8 : 0 ≤ x7_1
            · rw [if_pos c8] at H
              have c8b0 : decide (0 ≤ x7_1) = true := decide_eq_true c8
              clear c8
              by_cases c9 : x7_1 < (l0.length : Int)
              · rw [if_pos c9] at H
                have c9b0 : decide (x7_1 < (l0.length : Int)) = true := decide_eq_true c9
                clear c9
                by_cases c10 : (((rd_T163 l0 x7_1).f1).length : Int) = 1
                · rw [if_pos c10] at H
                  have c10b0 : ((((rd_T163 l0 x7_1).f1).length : Int) == 1) = true := beq_iff_eq.mpr c10
                  have c10b1 : ((((rd_T163 l0 x7_1).f1).length : Int) != 1) = false := bne_eq_false_iff_eq.mpr c10
                  clear c10
                  by_cases c11 : 0 < (((rd_T163 l0 x7_1).f1).length : Int)
                  · rw [if_pos c11] at H
                    have c11b0 : decide (0 < (((rd_T163 l0 x7_1).f1).length : Int)) = true := decide_eq_true c11
                    have c11b1 : decide (0 < ((rd_T163 l0 x7_1).f1).length) = true := decide_eq_true (by omega)
                    clear c11
                    simp only [Option.some.injEq, Prod.mk.injEq] at H
                    obtain ⟨rfl, rfl⟩ := H
                    have p1382 : 0 ≤ (x7_1 : Int) := of_decide_eq_true (by first | (with_reducible assumption) | assumption)
                    have q1382 : x7_1 < (l0.length : Int) := of_decide_eq_true (by first | (with_reducible assumption) | assumption)
                    obtain ⟨ad1382, A1382_1, c1382_1, e1382, hx1382_0, hx1382_1, hl1382_1, hi1382_1⟩ := at_T163 (Kd.V_reads' HO_0.out).2.2 x7_1 p1382 q1382
                    cases e1382
                    obtain ⟨ce1382, hce1382, hMe1382, hcc1382⟩ := Kd.V_get HO_0.out z163 x7_1 p1382 (by first | exact q1382 | exact of_decide_eq_true (by first | (with_reducible assumption) | assumption) | (have e_ := (Kd.V_reads' HO_0.out).1; omega))
                    obtain ⟨ua1382_1, uc1382_1, rfl, ul1382_1, ge1382_1⟩ := k163_openF hMe1382
                    have hv1382_1 := hcc1382 1 _ rfl
                    rw [add_field _ _ 1 (by omega)] at hv1382_1
                    replace hv1382_1 := Option.some.inj (hv1382_1.symm.trans hx1382_1)
                    injection hv1382_1 with hva_ hvn_ hvc_
                    rw [hva_] at ge1382_1
                    rw [hvc_] at ul1382_1
                    have HL1382_1 := Aside0.mk (show Kd.V (Kd.slice 5 (Kd.int .u8)) 22 _ w.heap.size _ _ ((rd_T163 l0 x7_1).f1) from Kd.V_mk ul1382_1 ge1382_1)
                    clear hva_ hvn_ hvc_ ge1382_1 ul1382_1
                    clear hcc1382 hce1382
                    have HR1382_1 := Aside0.mk hi1382_1
                    have HC1382_1 := Aside0.mk hl1382_1
                    clear hi1382_1 hl1382_1
                    replace p1382 := eq_true p1382
                    replace q1382 := eq_true q1382
                    have p1383 : 0 ≤ (x7_1 : Int) := of_decide_eq_true (by first | (with_reducible assumption) | assumption)
                    have q1383 : x7_1 < (l0.length : Int) := of_decide_eq_true (by first | (with_reducible assumption) | assumption)
                    obtain ⟨ad1383, A1383_1, c1383_1, e1383, hx1383_0, hx1383_1, hl1383_1, hi1383_1⟩ := at_T163 (Kd.V_reads' HO_0.out).2.2 x7_1 p1383 q1383
                    obtain rfl : ad1382 = ad1383 := (by injection e1383)
                    obtain ⟨ce1383, hce1383, hMe1383, hcc1383⟩ := Kd.V_get HO_0.out z163 x7_1 p1383 (by first | exact q1383 | exact of_decide_eq_true (by first | (with_reducible assumption) | assumption) | (have e_ := (Kd.V_reads' HO_0.out).1; omega))
                    obtain ⟨ua1383_1, uc1383_1, rfl, ul1383_1, ge1383_1⟩ := k163_openF hMe1383
                    have hv1383_1 := hcc1383 1 _ rfl
                    rw [add_field _ _ 1 (by omega)] at hv1383_1
                    replace hv1383_1 := Option.some.inj (hv1383_1.symm.trans hx1383_1)
                    injection hv1383_1 with hva_ hvn_ hvc_
                    rw [hva_] at ge1383_1
                    rw [hvc_] at ul1383_1
                    have HL1383_1 := Aside0.mk (show Kd.V (Kd.slice 5 (Kd.int .u8)) 22 _ w.heap.size _ _ ((rd_T163 l0 x7_1).f1) from Kd.V_mk ul1383_1 ge1383_1)
                    clear hva_ hvn_ hvc_ ge1383_1 ul1383_1
                    clear hcc1383 hce1383
                    have HR1383_1 := Aside0.mk hi1383_1
                    have HC1383_1 := Aside0.mk hl1383_1
                    clear hi1383_1 hl1383_1
                    replace p1383 := eq_true p1383
                    replace q1383 := eq_true q1383
                    have ea_ := Option.some.inj (hx1382_1.symm.trans hx1383_1)
                    injection ea_ with ea_ en_ ec_
                    subst ea_
                    subst ec_
                    clear en_
                    have p1384 : 0 ≤ (0 : Int) := (by omega)
                    have q1384 : 0 < (((rd_T163 l0 x7_1).f1).length : Int) := of_decide_eq_true (by first | (with_reducible assumption) | assumption)
                    obtain ⟨ad1384, A1384_0, c1384_0, e1384, hx1384_0, hl1384_0, hi1384_0⟩ := at_L1 (by repeat (first | (with_reducible exact HR1383_1.out) | (with_reducible refine Kd.C_alloc ?_ _) | (with_reducible refine Kd.C_drewN ?_ _) | (with_reducible refine Kd.C_drew ?_) | exact HR1383_1.out)) 0 p1384 q1384
                    cases e1384
                    obtain ⟨ce1384, hce1384, hMe1384, hcc1384⟩ := Kd.V_get HL1383_1.out [] 0 p1384 (by first | exact q1384 | exact of_decide_eq_true (by first | (with_reducible assumption) | assumption) | (have e_ := (Kd.V_reads' HL1383_1.out).1; omega))
                    obtain ⟨ua1384_0, uc1384_0, rfl, ul1384_0, ge1384_0⟩ := Kd.FK_slice_open hMe1384
                    have hv1384_0 := hcc1384 0 _ rfl
                    rw [Nat.add_zero, show ((Kd.slice 5 (Kd.int .u8))).sz = 1 from rfl, Nat.mul_one] at hv1384_0
                    replace hv1384_0 := Option.some.inj (hv1384_0.symm.trans hx1384_0)
                    injection hv1384_0 with hva_ hvn_ hvc_
                    rw [hva_] at ge1384_0
                    rw [hvc_] at ul1384_0
                    have HL1384_0 := Aside0.mk (show Kd.V (Kd.int .u8) 5 _ w.heap.size _ _ (rd_L1 ((rd_T163 l0 x7_1).f1) 0) from Kd.V_mk ul1384_0 ge1384_0)
                    clear hva_ hvn_ hvc_ ge1384_0 ul1384_0
                    clear hcc1384 hce1384
                    have qi1384 : (0 < ((rd_T163 l0 x7_1).f1).length) = True := eq_true (by omega)
                    (try rw [show ((0 : Int)).toNat = 0 from rfl] at hx1384_0)
                    (try rw [Addr.add_zero'] at hx1384_0)
                    have HR1384_0 := Aside0.mk hi1384_0
                    have HC1384_0 := Aside0.mk hl1384_0
                    clear hi1384_0 hl1384_0
                    replace p1384 := eq_true p1384
                    replace q1384 := eq_true q1384
                    go_wp2
                    go_ret2
                    exact ⟨_, by first | rfl | (simp [errW_none, errW_some] <;> rfl) | (simp [*, errW_none, errW_some] <;> rfl), by (with_reducible repeat (first | apply Kd.V_alloc | apply Kd.V_drewN | apply Kd.V_drew)); exact HL1384_0.out, by repeat (first | (with_reducible first | exact HB.out | apply below_alloc | apply pw_below_drewN | apply below_drew1) | exact HB.out)⟩
                  · rw [if_neg c11] at H
                    exact absurd H (by simp)
                · rw [if_neg c10] at H
                  have c10b0 : ((((rd_T163 l0 x7_1).f1).length : Int) == 1) = false := beq_eq_false_iff_ne.mpr c10
                  have c10b1 : ((((rd_T163 l0 x7_1).f1).length : Int) != 1) = true := bne_iff_ne.mpr c10
                  simp only [Option.some.injEq, Prod.mk.injEq] at H
                  obtain ⟨rfl, rfl⟩ := H
                  have p1382 : 0 ≤ (x7_1 : Int) := of_decide_eq_true (by first | (with_reducible assumption) | assumption)
                  have q1382 : x7_1 < (l0.length : Int) := of_decide_eq_true (by first | (with_reducible assumption) | assumption)
                  obtain ⟨ad1382, A1382_1, c1382_1, e1382, hx1382_0, hx1382_1, hl1382_1, hi1382_1⟩ := at_T163 (Kd.V_reads' HO_0.out).2.2 x7_1 p1382 q1382
                  cases e1382
                  obtain ⟨ce1382, hce1382, hMe1382, hcc1382⟩ := Kd.V_get HO_0.out z163 x7_1 p1382 (by first | exact q1382 | exact of_decide_eq_true (by first | (with_reducible assumption) | assumption) | (have e_ := (Kd.V_reads' HO_0.out).1; omega))
                  obtain ⟨ua1382_1, uc1382_1, rfl, ul1382_1, ge1382_1⟩ := k163_openF hMe1382
                  have hv1382_1 := hcc1382 1 _ rfl
                  rw [add_field _ _ 1 (by omega)] at hv1382_1
                  replace hv1382_1 := Option.some.inj (hv1382_1.symm.trans hx1382_1)
                  injection hv1382_1 with hva_ hvn_ hvc_
                  rw [hva_] at ge1382_1
                  rw [hvc_] at ul1382_1
                  have HL1382_1 := Aside0.mk (show Kd.V (Kd.slice 5 (Kd.int .u8)) 22 _ w.heap.size _ _ ((rd_T163 l0 x7_1).f1) from Kd.V_mk ul1382_1 ge1382_1)
                  clear hva_ hvn_ hvc_ ge1382_1 ul1382_1
                  clear hcc1382 hce1382
                  have HR1382_1 := Aside0.mk hi1382_1
                  have HC1382_1 := Aside0.mk hl1382_1
                  clear hi1382_1 hl1382_1
                  replace p1382 := eq_true p1382
                  replace q1382 := eq_true q1382
                  go_wp2
                  go_ret2
                  exact ⟨_, by first | rfl | (simp [errW_none, errW_some] <;> rfl) | (simp [*, errW_none, errW_some] <;> rfl), (Kd.V_nil _ _ _ _ _), by repeat (first | (with_reducible first | exact HB.out | apply below_alloc | apply pw_below_drewN | apply below_drew1) | exact HB.out)⟩
              · rw [if_neg c9] at H
                exact absurd H (by simp)
            · rw [if_neg c8] at H
              exact absurd H (by simp)

end Go.Proofs.YtkioddjjfifadaaGreatDoor.P
