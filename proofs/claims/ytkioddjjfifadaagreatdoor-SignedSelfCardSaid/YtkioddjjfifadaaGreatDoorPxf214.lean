/- Printed by a program of this session (a turned copy of the kit's print) out of the translation: functions, each as a Lean function, and that the Go call does what that function says, under what is asked ahead of the colon. -/
import Derived.Test.YtkioddjjfifadaaGreatDoorPx0
namespace Go.Proofs.YtkioddjjfifadaaGreatDoor.P
open Go.RowKit Go.Proofs.YtkioddjjfifadaaGreatDoorW.PrintWords Go.Proofs.YtkioddjjfifadaaGreatDoorW.PrintLast Go.Proofs.YtkioddjjfifadaaGreatDoorW.PrintMore
attribute [local go_sem] max2_int min2_int max_two min_two max_three min_three max_four min_four   -- for this text's walks alone
set_option linter.unusedVariables false
set_option linter.unusedSimpArgs false

/-! ### der_tag: function 214 -/
mutual
def der_tag.l0 : Nat → List Int → Int → Int → Int → Option (Int × Int × Int × Int)
  | 0, _, _, _, _ => none
  | k + 1, x0, x1, x4, x5 => if x5 < (x0.length : Int) then (if 0 ≤ x5 then (if x5 = (wrap64 (x1 + 1)) then (if (rd x0 x5) = 128 then (der_tag.j1 k x0 x1 (Go.bits .or .i64 (wrap64 (x4 * 128)) (wrap64 (Go.bits .and .u8 (rd x0 x5) 127))) x5 true) else (if (Go.bits .or .i64 (wrap64 (x4 * 128)) (wrap64 (Go.bits .and .u8 (rd x0 x5) 127))) > 268435455 then (der_tag.j1 k x0 x1 (Go.bits .or .i64 (wrap64 (x4 * 128)) (wrap64 (Go.bits .and .u8 (rd x0 x5) 127))) x5 true) else (if (rd x0 x5) < 128 then (der_tag.j1 k x0 x1 (Go.bits .or .i64 (wrap64 (x4 * 128)) (wrap64 (Go.bits .and .u8 (rd x0 x5) 127))) x5 (decide ((Go.bits .or .i64 (wrap64 (x4 * 128)) (wrap64 (Go.bits .and .u8 (rd x0 x5) 127))) < 31))) else (der_tag.j1 k x0 x1 (Go.bits .or .i64 (wrap64 (x4 * 128)) (wrap64 (Go.bits .and .u8 (rd x0 x5) 127))) x5 false)))) else (if (Go.bits .or .i64 (wrap64 (x4 * 128)) (wrap64 (Go.bits .and .u8 (rd x0 x5) 127))) > 268435455 then (der_tag.j1 k x0 x1 (Go.bits .or .i64 (wrap64 (x4 * 128)) (wrap64 (Go.bits .and .u8 (rd x0 x5) 127))) x5 true) else (if (rd x0 x5) < 128 then (der_tag.j1 k x0 x1 (Go.bits .or .i64 (wrap64 (x4 * 128)) (wrap64 (Go.bits .and .u8 (rd x0 x5) 127))) x5 (decide ((Go.bits .or .i64 (wrap64 (x4 * 128)) (wrap64 (Go.bits .and .u8 (rd x0 x5) 127))) < 31))) else (der_tag.j1 k x0 x1 (Go.bits .or .i64 (wrap64 (x4 * 128)) (wrap64 (Go.bits .and .u8 (rd x0 x5) 127))) x5 false)))) else (none)) else (some (0, 0, 2, (x0.length : Int)))
def der_tag.j1 : Nat → List Int → Int → Int → Int → Bool → Option (Int × Int × Int × Int)
  | 0, _, _, _, _, _ => none
  | k + 1, x0, x1, x4, x5, x71 => if x71 = true then (some (0, 0, 30, x5)) else (if 0 ≤ x5 then (if x5 < (x0.length : Int) then (if (rd x0 x5) < 128 then (some (x4, wrap64 (x5 + 1), 0, 0)) else (der_tag.l0 k x0 x1 x4 (wrap64 (x5 + 1)))) else (none)) else (none))
end
def der_tag.f (k : Nat) (l0 : List Int) (a1 : Int) : Option (Int × Int × Int × Int) := if 0 ≤ a1 then (if a1 < (l0.length : Int) then (if (wrap64 (Go.bits .and .u8 (rd l0 a1) 31)) < 31 then (if (wrap64 (Go.bits .and .u8 (rd l0 a1) 31)) = 0 then (if ((rd l0 a1) / 64) = 0 then (some (0, 0, 30, a1)) else (some (wrap64 (Go.bits .and .u8 (rd l0 a1) 31), wrap64 (a1 + 1), 0, 0))) else (some (wrap64 (Go.bits .and .u8 (rd l0 a1) 31), wrap64 (a1 + 1), 0, 0))) else (der_tag.l0 k l0 a1 0 (wrap64 (a1 + 1)))) else (none)) else (none)
theorem der_tag.mono_l : ∀ k, (∀ y0 y1 y2 y3, LeO (der_tag.l0 k y0 y1 y2 y3) (der_tag.l0 (k + 1) y0 y1 y2 y3)) ∧ (∀ y0 y1 y2 y3 y4, LeO (der_tag.j1 k y0 y1 y2 y3 y4) (der_tag.j1 (k + 1) y0 y1 y2 y3 y4))
  | 0 => ⟨fun _ _ _ _ r h => by simp [der_tag.l0] at h, fun _ _ _ _ _ r h => by simp [der_tag.j1] at h⟩
  | k + 1 => by
    obtain ⟨ih0, ih1⟩ := der_tag.mono_l k
    refine ⟨?_, ?_⟩
    · intro y0 y1 y2 y3
      unfold der_tag.l0
      repeat' first
      | (with_reducible exact ih0 _ _ _ _)
      | (with_reducible exact ih1 _ _ _ _ _)
      | (with_reducible exact LeO.refl _)
      | (with_reducible exact LeO.none _)
      | (with_reducible refine LeO.ite ?_ ?_)
      | (with_reducible refine LeO.bind ?_ (fun _ => ?_))
      | exact ih0 _ _ _ _
      | exact ih1 _ _ _ _ _
      | exact LeO.none _
      | refine LeO.ite ?_ ?_
      | refine LeO.bind ?_ (fun _ => ?_)
    · intro y0 y1 y2 y3 y4
      unfold der_tag.j1
      repeat' first
      | (with_reducible exact ih0 _ _ _ _)
      | (with_reducible exact ih1 _ _ _ _ _)
      | (with_reducible exact LeO.refl _)
      | (with_reducible exact LeO.none _)
      | (with_reducible refine LeO.ite ?_ ?_)
      | (with_reducible refine LeO.bind ?_ (fun _ => ?_))
      | exact ih0 _ _ _ _
      | exact ih1 _ _ _ _ _
      | exact LeO.none _
      | refine LeO.ite ?_ ?_
      | refine LeO.bind ?_ (fun _ => ?_)
theorem der_tag.mono : ∀ a0 a1 k, LeO (der_tag.f k a0 a1) (der_tag.f (k + 1) a0 a1) := by
  intro a0 a1 k
  obtain ⟨ih0, ih1⟩ := der_tag.mono_l k
  unfold der_tag.f
  repeat' first
      | (with_reducible exact ih0 _ _ _ _)
      | (with_reducible exact ih1 _ _ _ _ _)
      | (with_reducible exact LeO.refl _)
      | (with_reducible exact LeO.none _)
      | (with_reducible refine LeO.ite ?_ ?_)
      | (with_reducible refine LeO.bind ?_ (fun _ => ?_))
      | exact ih0 _ _ _ _
      | exact ih1 _ _ _ _ _
      | exact LeO.none _
      | refine LeO.ite ?_ ?_
      | refine LeO.bind ?_ (fun _ => ?_)
set_option maxHeartbeats 8000000 in
set_option maxRecDepth 100000 in
theorem der_tag.calls (k : Nat) (A0 : Option Addr) (c0 : Nat) (l0 : List Int) (a1 : Int) (r1 : Int) (r2 : Int) (r3 : Int) (r4 : Int) (w : World) (hr0 : Kd.C (Kd.int .u8) w A0 l0.length l0) (hc0 : l0.length ≤ c0) (h : der_tag.f k l0 a1 = some (r1, r2, r3, r4)) :
    Calls Tryz.prog 214 #[.slice A0 l0.length c0, .int .i64 a1] w fun e w' => e = .returned (.tuple #[.int .i64 r1, .int .i64 r2, .int .i64 r3, .int .i64 r4]) ∧ Drawn0 w w' := by
  have HR0 := Aside0.mk hr0
  have HC0 := Aside0.mk hc0
  clear hr0 hc0
  have H : (if 0 ≤ a1 then (if a1 < (l0.length : Int) then (if (wrap64 (Go.bits .and .u8 (rd l0 a1) 31)) < 31 then (if (wrap64 (Go.bits .and .u8 (rd l0 a1) 31)) = 0 then (if ((rd l0 a1) / 64) = 0 then (some (0, 0, 30, a1)) else (some (wrap64 (Go.bits .and .u8 (rd l0 a1) 31), wrap64 (a1 + 1), 0, 0))) else (some (wrap64 (Go.bits .and .u8 (rd l0 a1) 31), wrap64 (a1 + 1), 0, 0))) else (der_tag.l0 k l0 a1 0 (wrap64 (a1 + 1)))) else (none)) else (none)) = some (r1, r2, r3, r4) := h
  clear h
  by_cases c3 : 0 ≤ a1
  · rw [if_pos c3] at H
    have c3b0 : decide (0 ≤ a1) = true := decide_eq_true c3
    clear c3
    by_cases c4 : a1 < (l0.length : Int)
    · rw [if_pos c4] at H
      have c4b0 : decide (a1 < (l0.length : Int)) = true := decide_eq_true c4
      clear c4
      by_cases c5 : (wrap64 (Go.bits .and .u8 (rd l0 a1) 31)) < 31
      · rw [if_pos c5] at H
        have c5b0 : decide ((wrap64 (Go.bits .and .u8 (rd l0 a1) 31)) < 31) = true := decide_eq_true c5
        clear c5
        by_cases c6 : (wrap64 (Go.bits .and .u8 (rd l0 a1) 31)) = 0
        · rw [if_pos c6] at H
          have c6b0 : ((wrap64 (Go.bits .and .u8 (rd l0 a1) 31)) == 0) = true := beq_iff_eq.mpr c6
          have c6b1 : ((wrap64 (Go.bits .and .u8 (rd l0 a1) 31)) != 0) = false := bne_eq_false_iff_eq.mpr c6
          clear c6
          by_cases c7 : ((rd l0 a1) / 64) = 0
          · rw [if_pos c7] at H
            have c7b0 : (((rd l0 a1) / 64) == 0) = true := beq_iff_eq.mpr c7
            have c7b1 : (((rd l0 a1) / 64) != 0) = false := bne_eq_false_iff_eq.mpr c7
            clear c7
            simp only [Option.some.injEq, Prod.mk.injEq] at H
            obtain ⟨rfl, rfl, rfl, rfl⟩ := H
            have p109 : 0 ≤ (a1 : Int) := of_decide_eq_true (by first | (with_reducible assumption) | assumption)
            have q109 : a1 < (l0.length : Int) := of_decide_eq_true (by first | (with_reducible assumption) | assumption)
            obtain ⟨ad109, e109, hx109_0⟩ := Kd.at_int HR0.out a1 p109 q109
            cases e109
            replace p109 := eq_true p109
            replace q109 := eq_true q109
            have p110 : 0 ≤ (a1 : Int) := of_decide_eq_true (by first | (with_reducible assumption) | assumption)
            have q110 : a1 < (l0.length : Int) := of_decide_eq_true (by first | (with_reducible assumption) | assumption)
            obtain ⟨ad110, e110, hx110_0⟩ := Kd.at_int HR0.out a1 p110 q110
            obtain rfl : ad109 = ad110 := (by injection e110)
            replace p110 := eq_true p110
            replace q110 := eq_true q110
            go_enter Tryz.func214, Tryz.ntmps214
            go_wp2
            refine bodyPost_ret (results_list (rs := [.tmp 4, .tmp 5, .tmp 6, .tmp 7]) rfl (by simp) (.tmp (.tmp (.tmp (.tmp .nil))))) rfl ?_
            exact ⟨by first | rfl | (simp; done) | (simp [*]; done), by repeat (first | exact Drawn0.refl _ | apply Drawn0.step)⟩
          · rw [if_neg c7] at H
            have c7b0 : (((rd l0 a1) / 64) == 0) = false := beq_eq_false_iff_ne.mpr c7
            have c7b1 : (((rd l0 a1) / 64) != 0) = true := bne_iff_ne.mpr c7
            simp only [Option.some.injEq, Prod.mk.injEq] at H
            obtain ⟨rfl, rfl, rfl, rfl⟩ := H
            have p109 : 0 ≤ (a1 : Int) := of_decide_eq_true (by first | (with_reducible assumption) | assumption)
            have q109 : a1 < (l0.length : Int) := of_decide_eq_true (by first | (with_reducible assumption) | assumption)
            obtain ⟨ad109, e109, hx109_0⟩ := Kd.at_int HR0.out a1 p109 q109
            cases e109
            replace p109 := eq_true p109
            replace q109 := eq_true q109
            have p110 : 0 ≤ (a1 : Int) := of_decide_eq_true (by first | (with_reducible assumption) | assumption)
            have q110 : a1 < (l0.length : Int) := of_decide_eq_true (by first | (with_reducible assumption) | assumption)
            obtain ⟨ad110, e110, hx110_0⟩ := Kd.at_int HR0.out a1 p110 q110
            obtain rfl : ad109 = ad110 := (by injection e110)
            replace p110 := eq_true p110
            replace q110 := eq_true q110
            go_enter Tryz.func214, Tryz.ntmps214
            go_wp2
            refine bodyPost_ret (results_list (rs := [.tmp 4, .tmp 5, .tmp 6, .tmp 7]) rfl (by simp) (.tmp (.tmp (.tmp (.tmp .nil))))) rfl ?_
            exact ⟨by first | rfl | (simp; done) | (simp [*]; done), by repeat (first | exact Drawn0.refl _ | apply Drawn0.step)⟩
        · rw [if_neg c6] at H
          have c6b0 : ((wrap64 (Go.bits .and .u8 (rd l0 a1) 31)) == 0) = false := beq_eq_false_iff_ne.mpr c6
          have c6b1 : ((wrap64 (Go.bits .and .u8 (rd l0 a1) 31)) != 0) = true := bne_iff_ne.mpr c6
          simp only [Option.some.injEq, Prod.mk.injEq] at H
          obtain ⟨rfl, rfl, rfl, rfl⟩ := H
          have p109 : 0 ≤ (a1 : Int) := of_decide_eq_true (by first | (with_reducible assumption) | assumption)
          have q109 : a1 < (l0.length : Int) := of_decide_eq_true (by first | (with_reducible assumption) | assumption)
          obtain ⟨ad109, e109, hx109_0⟩ := Kd.at_int HR0.out a1 p109 q109
          cases e109
          replace p109 := eq_true p109
          replace q109 := eq_true q109
          go_enter Tryz.func214, Tryz.ntmps214
          go_wp2
          refine bodyPost_ret (results_list (rs := [.tmp 4, .tmp 5, .tmp 6, .tmp 7]) rfl (by simp) (.tmp (.tmp (.tmp (.tmp .nil))))) rfl ?_
          exact ⟨by first | rfl | (simp; done) | (simp [*]; done), by repeat (first | exact Drawn0.refl _ | apply Drawn0.step)⟩
      · rw [if_neg c5] at H
        have c5b0 : decide ((wrap64 (Go.bits .and .u8 (rd l0 a1) 31)) < 31) = false := decide_eq_false c5
        clear c5
        have H' := Aside0.mk H
        clear H
        have p109 : 0 ≤ (a1 : Int) := of_decide_eq_true (by first | (with_reducible assumption) | assumption)
        have q109 : a1 < (l0.length : Int) := of_decide_eq_true (by first | (with_reducible assumption) | assumption)
        obtain ⟨ad109, e109, hx109_0⟩ := Kd.at_int HR0.out a1 p109 q109
        cases e109
        replace p109 := eq_true p109
        replace q109 := eq_true q109
        go_enter Tryz.func214, Tryz.ntmps214
        go_wp2
        go_loopg [4, 5] k (fun kq v4 v5 w' => ∃ (x4_1 : Int) (x5_1 : Int), v4 = .int .i64 x4_1 ∧ v5 = .int .i64 x5_1 ∧ Aside0 (der_tag.l0 kq l0 a1 x4_1 x5_1 = some (r1, r2, r3, r4)) ∧ Aside0 (kq ≤ k) ∧ Drawn0 w w')
        case atStart => exact ⟨(0), (wrap64 (a1 + 1)), (by first | rfl | (simp; done) | (simp [*]; done)), (by first | rfl | (simp; done) | (simp [*]; done)), H', ⟨Nat.le_refl _⟩, by repeat (first | exact Drawn0.refl _ | apply Drawn0.step)⟩
        case round =>
          clear H'
          try clear p1
          try clear q1
          try clear hx1
          try clear c2
          try clear p2
          try clear c3
          try clear c3b0
          try clear c4
          try clear c4b0
          try clear c5
          try clear c5b0
          try clear c6
          try clear c6b0
          try clear c6b1
          try clear p6
          try clear c7
          try clear c7b0
          try clear c7b1
          try clear hx109_0
          try clear hx110_0
          try clear p109
          try clear p110
          try clear q109
          try clear q110
          obtain ⟨x4_1, x5_1, rfl, rfl, HA, HK1, ⟨m1, rfl⟩⟩ := hrel
          cases gk with
          | zero => exact absurd HA.out (by simp [der_tag.l0])
          | succ k1 =>
            have H := HA.out
            clear HA
            simp only [der_tag.l0] at H
            by_cases c8 : x5_1 < (l0.length : Int)
            · rw [if_pos c8] at H
              have c8b0 : decide (x5_1 < (l0.length : Int)) = true := decide_eq_true c8
              clear c8
              by_cases c9 : 0 ≤ x5_1
              · rw [if_pos c9] at H
                have c9b0 : decide (0 ≤ x5_1) = true := decide_eq_true c9
                clear c9
                have HC10 := Aside0.mk H
                clear H
                have p111 : 0 ≤ (x5_1 : Int) := of_decide_eq_true (by first | (with_reducible assumption) | assumption)
                have q111 : x5_1 < (l0.length : Int) := of_decide_eq_true (by first | (with_reducible assumption) | assumption)
                obtain ⟨ad111, e111, hx111_0⟩ := Kd.at_int HR0.out x5_1 p111 q111
                obtain rfl : ad109 = ad111 := (by injection e111)
                replace p111 := eq_true p111
                replace q111 := eq_true q111
                go_upto_region 10 with (fail)
                go_cut [71] (fun v71 wc => ∃ (kq : Nat) (x71_9 : Bool), v71 = .bool x71_9 ∧ Aside0 (der_tag.j1 kq l0 a1 (Go.bits .or .i64 (wrap64 (x4_1 * 128)) (wrap64 (Go.bits .and .u8 (rd l0 x5_1) 127))) x5_1 x71_9 = some (r1, r2, r3, r4)) ∧ Aside0 (kq ≤ k1) ∧ Drawn0 w wc)
                case first =>
                  have H := HC10.out
                  clear HC10
                  by_cases c11 : x5_1 = (wrap64 (a1 + 1))
                  · rw [if_pos c11] at H
                    have c11b0 : (x5_1 == (wrap64 (a1 + 1))) = true := beq_iff_eq.mpr c11
                    have c11b1 : (x5_1 != (wrap64 (a1 + 1))) = false := bne_eq_false_iff_eq.mpr c11
                    clear c11
                    (first | rw [c11b0] | (simp only [i64_w, i32_w]; rw [c11b0]) | skip)
                    by_cases c12 : (rd l0 x5_1) = 128
                    · rw [if_pos c12] at H
                      have c12b0 : ((rd l0 x5_1) == 128) = true := beq_iff_eq.mpr c12
                      have c12b1 : ((rd l0 x5_1) != 128) = false := bne_eq_false_iff_eq.mpr c12
                      clear c12
                      have H' := Aside0.mk H
                      clear H
                      have p112 : 0 ≤ (x5_1 : Int) := of_decide_eq_true (by first | (with_reducible assumption) | assumption)
                      have q112 : x5_1 < (l0.length : Int) := of_decide_eq_true (by first | (with_reducible assumption) | assumption)
                      obtain ⟨ad112, e112, hx112_0⟩ := Kd.at_int HR0.out x5_1 p112 q112
                      obtain rfl : ad109 = ad112 := (by injection e112)
                      replace p112 := eq_true p112
                      replace q112 := eq_true q112
                      go_wp2
                      go_meet
                      case rel => exact ⟨_, (true), (by first | rfl | (simp; done) | (simp [*]; done)), H', ⟨by have := HK1.out; first | omega | exact Nat.le_refl _⟩, by repeat (first | exact Drawn0.refl _ | apply Drawn0.step)⟩
                    · rw [if_neg c12] at H
                      have c12b0 : ((rd l0 x5_1) == 128) = false := beq_eq_false_iff_ne.mpr c12
                      have c12b1 : ((rd l0 x5_1) != 128) = true := bne_iff_ne.mpr c12
                      by_cases c13 : (Go.bits .or .i64 (wrap64 (x4_1 * 128)) (wrap64 (Go.bits .and .u8 (rd l0 x5_1) 127))) > 268435455
                      · rw [if_pos c13] at H
                        have c13b0 : decide (268435455 < (Go.bits .or .i64 (wrap64 (x4_1 * 128)) (wrap64 (Go.bits .and .u8 (rd l0 x5_1) 127)))) = true := decide_eq_true c13
                        clear c13
                        have H' := Aside0.mk H
                        clear H
                        have p112 : 0 ≤ (x5_1 : Int) := of_decide_eq_true (by first | (with_reducible assumption) | assumption)
                        have q112 : x5_1 < (l0.length : Int) := of_decide_eq_true (by first | (with_reducible assumption) | assumption)
                        obtain ⟨ad112, e112, hx112_0⟩ := Kd.at_int HR0.out x5_1 p112 q112
                        obtain rfl : ad109 = ad112 := (by injection e112)
                        replace p112 := eq_true p112
                        replace q112 := eq_true q112
                        go_wp2
                        go_meet
                        case rel => exact ⟨_, (true), (by first | rfl | (simp; done) | (simp [*]; done)), H', ⟨by have := HK1.out; first | omega | exact Nat.le_refl _⟩, by repeat (first | exact Drawn0.refl _ | apply Drawn0.step)⟩
                      · rw [if_neg c13] at H
                        have c13b0 : decide (268435455 < (Go.bits .or .i64 (wrap64 (x4_1 * 128)) (wrap64 (Go.bits .and .u8 (rd l0 x5_1) 127)))) = false := decide_eq_false c13
                        clear c13
                        by_cases c14 : (rd l0 x5_1) < 128
                        · rw [if_pos c14] at H
                          have c14b0 : decide ((rd l0 x5_1) < 128) = true := decide_eq_true c14
                          clear c14
                          have H' := Aside0.mk H
                          clear H
                          have p112 : 0 ≤ (x5_1 : Int) := of_decide_eq_true (by first | (with_reducible assumption) | assumption)
                          have q112 : x5_1 < (l0.length : Int) := of_decide_eq_true (by first | (with_reducible assumption) | assumption)
                          obtain ⟨ad112, e112, hx112_0⟩ := Kd.at_int HR0.out x5_1 p112 q112
                          obtain rfl : ad109 = ad112 := (by injection e112)
                          replace p112 := eq_true p112
                          replace q112 := eq_true q112
                          have p113 : 0 ≤ (x5_1 : Int) := of_decide_eq_true (by first | (with_reducible assumption) | assumption)
                          have q113 : x5_1 < (l0.length : Int) := of_decide_eq_true (by first | (with_reducible assumption) | assumption)
                          obtain ⟨ad113, e113, hx113_0⟩ := Kd.at_int HR0.out x5_1 p113 q113
                          obtain rfl : ad109 = ad113 := (by injection e113)
                          replace p113 := eq_true p113
                          replace q113 := eq_true q113
                          go_wp2
                          go_meet
                          case rel => exact ⟨_, (decide ((Go.bits .or .i64 (wrap64 (x4_1 * 128)) (wrap64 (Go.bits .and .u8 (rd l0 x5_1) 127))) < 31)), (by first | rfl | (simp; done) | (simp [*]; done)), H', ⟨by have := HK1.out; first | omega | exact Nat.le_refl _⟩, by repeat (first | exact Drawn0.refl _ | apply Drawn0.step)⟩
                        · rw [if_neg c14] at H
                          have c14b0 : decide ((rd l0 x5_1) < 128) = false := decide_eq_false c14
                          clear c14
                          have H' := Aside0.mk H
                          clear H
                          have p112 : 0 ≤ (x5_1 : Int) := of_decide_eq_true (by first | (with_reducible assumption) | assumption)
                          have q112 : x5_1 < (l0.length : Int) := of_decide_eq_true (by first | (with_reducible assumption) | assumption)
                          obtain ⟨ad112, e112, hx112_0⟩ := Kd.at_int HR0.out x5_1 p112 q112
                          obtain rfl : ad109 = ad112 := (by injection e112)
                          replace p112 := eq_true p112
                          replace q112 := eq_true q112
                          have p113 : 0 ≤ (x5_1 : Int) := of_decide_eq_true (by first | (with_reducible assumption) | assumption)
                          have q113 : x5_1 < (l0.length : Int) := of_decide_eq_true (by first | (with_reducible assumption) | assumption)
                          obtain ⟨ad113, e113, hx113_0⟩ := Kd.at_int HR0.out x5_1 p113 q113
                          obtain rfl : ad109 = ad113 := (by injection e113)
                          replace p113 := eq_true p113
                          replace q113 := eq_true q113
                          go_wp2
                          go_meet
                          case rel => exact ⟨_, (false), (by first | rfl | (simp; done) | (simp [*]; done)), H', ⟨by have := HK1.out; first | omega | exact Nat.le_refl _⟩, by repeat (first | exact Drawn0.refl _ | apply Drawn0.step)⟩
                  · rw [if_neg c11] at H
                    have c11b0 : (x5_1 == (wrap64 (a1 + 1))) = false := beq_eq_false_iff_ne.mpr c11
                    have c11b1 : (x5_1 != (wrap64 (a1 + 1))) = true := bne_iff_ne.mpr c11
                    (first | rw [c11b0] | (simp only [i64_w, i32_w]; rw [c11b0]) | skip)
                    by_cases c15 : (Go.bits .or .i64 (wrap64 (x4_1 * 128)) (wrap64 (Go.bits .and .u8 (rd l0 x5_1) 127))) > 268435455
                    · rw [if_pos c15] at H
                      have c15b0 : decide (268435455 < (Go.bits .or .i64 (wrap64 (x4_1 * 128)) (wrap64 (Go.bits .and .u8 (rd l0 x5_1) 127)))) = true := decide_eq_true c15
                      clear c15
                      have H' := Aside0.mk H
                      clear H
                      go_wp2
                      go_meet
                      case rel => exact ⟨_, (true), (by first | rfl | (simp; done) | (simp [*]; done)), H', ⟨by have := HK1.out; first | omega | exact Nat.le_refl _⟩, by repeat (first | exact Drawn0.refl _ | apply Drawn0.step)⟩
                    · rw [if_neg c15] at H
                      have c15b0 : decide (268435455 < (Go.bits .or .i64 (wrap64 (x4_1 * 128)) (wrap64 (Go.bits .and .u8 (rd l0 x5_1) 127)))) = false := decide_eq_false c15
                      clear c15
                      by_cases c16 : (rd l0 x5_1) < 128
                      · rw [if_pos c16] at H
                        have c16b0 : decide ((rd l0 x5_1) < 128) = true := decide_eq_true c16
                        clear c16
                        have H' := Aside0.mk H
                        clear H
                        have p114 : 0 ≤ (x5_1 : Int) := of_decide_eq_true (by first | (with_reducible assumption) | assumption)
                        have q114 : x5_1 < (l0.length : Int) := of_decide_eq_true (by first | (with_reducible assumption) | assumption)
                        obtain ⟨ad114, e114, hx114_0⟩ := Kd.at_int HR0.out x5_1 p114 q114
                        obtain rfl : ad109 = ad114 := (by injection e114)
                        replace p114 := eq_true p114
                        replace q114 := eq_true q114
                        go_wp2
                        go_meet
                        case rel => exact ⟨_, (decide ((Go.bits .or .i64 (wrap64 (x4_1 * 128)) (wrap64 (Go.bits .and .u8 (rd l0 x5_1) 127))) < 31)), (by first | rfl | (simp; done) | (simp [*]; done)), H', ⟨by have := HK1.out; first | omega | exact Nat.le_refl _⟩, by repeat (first | exact Drawn0.refl _ | apply Drawn0.step)⟩
                      · rw [if_neg c16] at H
                        have c16b0 : decide ((rd l0 x5_1) < 128) = false := decide_eq_false c16
                        clear c16
                        have H' := Aside0.mk H
                        clear H
                        have p114 : 0 ≤ (x5_1 : Int) := of_decide_eq_true (by first | (with_reducible assumption) | assumption)
                        have q114 : x5_1 < (l0.length : Int) := of_decide_eq_true (by first | (with_reducible assumption) | assumption)
                        obtain ⟨ad114, e114, hx114_0⟩ := Kd.at_int HR0.out x5_1 p114 q114
                        obtain rfl : ad109 = ad114 := (by injection e114)
                        replace p114 := eq_true p114
                        replace q114 := eq_true q114
                        go_wp2
                        go_meet
                        case rel => exact ⟨_, (false), (by first | rfl | (simp; done) | (simp [*]; done)), H', ⟨by have := HK1.out; first | omega | exact Nat.le_refl _⟩, by repeat (first | exact Drawn0.refl _ | apply Drawn0.step)⟩
                case rest =>
                  clear HC10
                  try clear c1
                  try clear p1
                  try clear q1
                  try clear hx1
                  try clear c2
                  try clear p2
                  try clear c3
                  try clear c3b0
                  try clear c4
                  try clear c4b0
                  try clear c5
                  try clear c5b0
                  try clear c6
                  try clear c6b0
                  try clear c6b1
                  try clear p6
                  try clear c7
                  try clear c7b0
                  try clear c7b1
                  try clear c8
                  try clear c8b0
                  try clear c9
                  try clear c9b0
                  try clear p10
                  try clear q10
                  try clear hx10
                  try clear c11
                  try clear c11b0
                  try clear c11b1
                  try clear p11
                  try clear q11
                  try clear hx11
                  try clear c12
                  try clear c12b0
                  try clear c12b1
                  try clear c13
                  try clear c13b0
                  try clear c14
                  try clear c14b0
                  try clear c15
                  try clear c15b0
                  try clear c16
                  try clear c16b0
                  try clear hx109_0
                  try clear hx110_0
                  try clear hx111_0
                  try clear hx112_0
                  try clear hx113_0
                  try clear hx114_0
                  try clear p1
                  try clear p109
                  try clear p110
                  try clear p111
                  try clear p112
                  try clear p113
                  try clear p114
                  try clear p2
                  try clear p6
                  try clear q1
                  try clear q109
                  try clear q110
                  try clear q111
                  try clear q112
                  try clear q113
                  try clear q114
                  obtain ⟨kq, x71_9, rfl, HA, HJ9, ⟨mc9, rfl⟩⟩ := hcut
                  cases kq with
                  | zero => exact absurd HA.out (by simp [der_tag.j1])
                  | succ kj9 =>
                    have H := HA.out
                    clear HA
                    simp only [der_tag.j1] at H
                    by_cases c17 : x71_9 = true
                    · subst c17
                      have H1 : (some (0, 0, 30, x5_1)) = some (r1, r2, r3, r4) := by rw [if_pos rfl] at H; exact H
                      clear H
                      have H := H1
                      clear H1
                      simp only [Option.some.injEq, Prod.mk.injEq] at H
                      obtain ⟨rfl, rfl, rfl, rfl⟩ := H
                      go_wp2
                      refine bodyPost_ret (results_list (rs := [.tmp 4, .tmp 5, .tmp 6, .tmp 7]) rfl (by simp) (.tmp (.tmp (.tmp (.tmp .nil))))) rfl ?_
                      exact ⟨by first | rfl | (simp; done) | (simp [*]; done), by repeat (first | exact Drawn0.refl _ | apply Drawn0.step)⟩
                    · replace c17 := Bool.eq_false_iff.mpr c17
                      subst c17
                      have H1 : (if 0 ≤ x5_1 then (if x5_1 < (l0.length : Int) then (if (rd l0 x5_1) < 128 then (some ((Go.bits .or .i64 (wrap64 (x4_1 * 128)) (wrap64 (Go.bits .and .u8 (rd l0 x5_1) 127))), wrap64 (x5_1 + 1), 0, 0)) else (der_tag.l0 kj9 l0 a1 (Go.bits .or .i64 (wrap64 (x4_1 * 128)) (wrap64 (Go.bits .and .u8 (rd l0 x5_1) 127))) (wrap64 (x5_1 + 1)))) else (none)) else (none)) = some (r1, r2, r3, r4) := by rw [if_neg (show ¬ (false = true) by decide)] at H; exact H
                      clear H
                      have H := H1
                      clear H1
                      by_cases c18 : 0 ≤ x5_1
                      · rw [if_pos c18] at H
                        have c18b0 : decide (0 ≤ x5_1) = true := decide_eq_true c18
                        clear c18
                        by_cases c19 : x5_1 < (l0.length : Int)
                        · rw [if_pos c19] at H
                          have c19b0 : decide (x5_1 < (l0.length : Int)) = true := decide_eq_true c19
                          clear c19
                          by_cases c20 : (rd l0 x5_1) < 128
                          · rw [if_pos c20] at H
                            have c20b0 : decide ((rd l0 x5_1) < 128) = true := decide_eq_true c20
                            clear c20
                            simp only [Option.some.injEq, Prod.mk.injEq] at H
                            obtain ⟨rfl, rfl, rfl, rfl⟩ := H
                            have p115 : 0 ≤ (x5_1 : Int) := of_decide_eq_true (by first | (with_reducible assumption) | assumption)
                            have q115 : x5_1 < (l0.length : Int) := of_decide_eq_true (by first | (with_reducible assumption) | assumption)
                            obtain ⟨ad115, e115, hx115_0⟩ := Kd.at_int HR0.out x5_1 p115 q115
                            obtain rfl : ad109 = ad115 := (by injection e115)
                            replace p115 := eq_true p115
                            replace q115 := eq_true q115
                            go_wp2
                            refine bodyPost_ret (results_list (rs := [.tmp 4, .tmp 5, .tmp 6, .tmp 7]) rfl (by simp) (.tmp (.tmp (.tmp (.tmp .nil))))) rfl ?_
                            exact ⟨by first | rfl | (simp; done) | (simp [*]; done), by repeat (first | exact Drawn0.refl _ | apply Drawn0.step)⟩
                          · rw [if_neg c20] at H
                            have c20b0 : decide ((rd l0 x5_1) < 128) = false := decide_eq_false c20
                            clear c20
                            have H' := Aside0.mk H
                            clear H
                            have p115 : 0 ≤ (x5_1 : Int) := of_decide_eq_true (by first | (with_reducible assumption) | assumption)
                            have q115 : x5_1 < (l0.length : Int) := of_decide_eq_true (by first | (with_reducible assumption) | assumption)
                            obtain ⟨ad115, e115, hx115_0⟩ := Kd.at_int HR0.out x5_1 p115 q115
                            obtain rfl : ad109 = ad115 := (by injection e115)
                            replace p115 := eq_true p115
                            replace q115 := eq_true q115
                            go_wp2
                            go_roundg kj9
                            case measure => have := HK1.out; have := HJ9.out; omega
                            case rel => exact ⟨((Go.bits .or .i64 (wrap64 (x4_1 * 128)) (wrap64 (Go.bits .and .u8 (rd l0 x5_1) 127)))), (wrap64 (x5_1 + 1)), (by first | rfl | (simp; done) | (simp [*]; done)), (by first | rfl | (simp; done) | (simp [*]; done)), H', ⟨by have := HK1.out; have := HJ9.out; omega⟩, by repeat (first | exact Drawn0.refl _ | apply Drawn0.step)⟩
                        · rw [if_neg c19] at H
                          exact absurd H (by simp)
                      · rw [if_neg c18] at H
                        exact absurd H (by simp)
              · rw [if_neg c9] at H
                exact absurd H (by simp)
            · rw [if_neg c8] at H
              have c8b0 : decide (x5_1 < (l0.length : Int)) = false := decide_eq_false c8
              clear c8
              simp only [Option.some.injEq, Prod.mk.injEq] at H
              obtain ⟨rfl, rfl, rfl, rfl⟩ := H
              go_wp2
              refine bodyPost_ret (results_list (rs := [.tmp 4, .tmp 5, .tmp 6, .tmp 7]) rfl (by simp) (.tmp (.tmp (.tmp (.tmp .nil))))) rfl ?_
              exact ⟨by first | rfl | (simp; done) | (simp [*]; done), by repeat (first | exact Drawn0.refl _ | apply Drawn0.step)⟩
    · rw [if_neg c4] at H
      exact absurd H (by simp)
  · rw [if_neg c3] at H
    exact absurd H (by simp)

end Go.Proofs.YtkioddjjfifadaaGreatDoor.P
