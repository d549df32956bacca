/- Printed by a program of this session (a turned copy of the kit's print) out of the translation: functions, each as a Lean function, and that the Go call does what that function says, under what is asked ahead of the colon. -/
import Derived.Test.YtkioddjjfifadaaGreatDoorPx0
namespace Go.Proofs.YtkioddjjfifadaaGreatDoor.P
open Go.RowKit Go.Proofs.YtkioddjjfifadaaGreatDoorW.PrintWords Go.Proofs.YtkioddjjfifadaaGreatDoorW.PrintLast Go.Proofs.YtkioddjjfifadaaGreatDoorW.PrintMore
attribute [local go_sem] max2_int min2_int max_two min_two max_three min_three max_four min_four   -- for this text's walks alone
set_option linter.unusedVariables false
set_option linter.unusedSimpArgs false

/-! ### der_length: function 215 -/
mutual
def der_length.j0 : Nat → List Int → Int → Int → Int → Bool → Option (Int × Int × Int × Int)
  | 0, _, _, _, _, _ => none
  | k + 1, x0, x1, x5, x8, x32 => if x32 = true then (some (0, 0, 31, x1)) else (if x8 > (wrap64 ((x0.length : Int) - x5)) then (some (0, 0, 2, (x0.length : Int))) else (if 0 ≤ x5 then (if x5 ≤ (wrap64 (x5 + x8)) then (if (wrap64 (x5 + x8)) ≤ (x0.length : Int) then ((some ((x0.take ((wrap64 (x5 + x8)) : Int).toNat).drop (x5 : Int).toNat : List Int)).bind fun y117 => (der_length.l0 k x0 x1 0 x5 x8 y117 (y117.length : Int) 0)) else (none)) else (none)) else (none)))
def der_length.l0 : Nat → List Int → Int → Int → Int → Int → List Int → Int → Int → Option (Int × Int × Int × Int)
  | 0, _, _, _, _, _, _, _, _ => none
  | k + 1, x0, x1, x4, x5, x8, x47, x48, x49 => if x49 < x48 then (if 0 ≤ x49 then (if x49 < (x47.length : Int) then (der_length.l0 k x0 x1 (mn (Go.bits .or .i64 (wrap64 (x4 * 256)) (wrap64 (rd x47 x49))) 16777217) x5 x8 x47 x48 (wrap64 (x49 + 1))) else (none)) else (none)) else (if 0 ≤ x5 then (if x5 < (x0.length : Int) then (if (rd x0 x5) = 0 then (der_length.j2 k x0 x1 x4 x5 x8 true) else (der_length.j2 k x0 x1 x4 x5 x8 (decide (x4 < 128)))) else (none)) else (none))
def der_length.j2 : Nat → List Int → Int → Int → Int → Int → Bool → Option (Int × Int × Int × Int)
  | 0, _, _, _, _, _, _ => none
  | k + 1, x0, x1, x4, x5, x8, x68 => if x68 = true then (some (0, 0, 31, x1)) else (if x4 > (wrap64 ((x0.length : Int) - (wrap64 (x5 + x8)))) then (some (0, 0, 31, x1)) else (some (x4, wrap64 (x5 + x8), 0, 0)))
end
def der_length.f (k : Nat) (l0 : List Int) (a1 : Int) : Option (Int × Int × Int × Int) := if a1 = (l0.length : Int) then (some (0, 0, 2, a1)) else (if 0 ≤ a1 then (if a1 < (l0.length : Int) then (if (wrap64 (rd l0 a1)) ≥ 128 then (if (Go.bits .and .i64 (wrap64 (rd l0 a1)) 127) = 0 then (der_length.j0 k l0 a1 (wrap64 (a1 + 1)) (Go.bits .and .i64 (wrap64 (rd l0 a1)) 127) true) else (der_length.j0 k l0 a1 (wrap64 (a1 + 1)) (Go.bits .and .i64 (wrap64 (rd l0 a1)) 127) ((Go.bits .and .i64 (wrap64 (rd l0 a1)) 127) == 127))) else (if (wrap64 (rd l0 a1)) > (wrap64 ((l0.length : Int) - (wrap64 (a1 + 1)))) then (some (0, 0, 31, a1)) else (some (wrap64 (rd l0 a1), wrap64 (a1 + 1), 0, 0)))) else (none)) else (none))
theorem der_length.mono_l : ∀ k, (∀ y0 y1 y2 y3 y4, LeO (der_length.j0 k y0 y1 y2 y3 y4) (der_length.j0 (k + 1) y0 y1 y2 y3 y4)) ∧ (∀ y0 y1 y2 y3 y4 y5 y6 y7, LeO (der_length.l0 k y0 y1 y2 y3 y4 y5 y6 y7) (der_length.l0 (k + 1) y0 y1 y2 y3 y4 y5 y6 y7)) ∧ (∀ y0 y1 y2 y3 y4 y5, LeO (der_length.j2 k y0 y1 y2 y3 y4 y5) (der_length.j2 (k + 1) y0 y1 y2 y3 y4 y5))
  | 0 => ⟨fun _ _ _ _ _ r h => by simp [der_length.j0] at h, fun _ _ _ _ _ _ _ _ r h => by simp [der_length.l0] at h, fun _ _ _ _ _ _ r h => by simp [der_length.j2] at h⟩
  | k + 1 => by
    obtain ⟨ih0, ih1, ih2⟩ := der_length.mono_l k
    refine ⟨?_, ?_, ?_⟩
    · intro y0 y1 y2 y3 y4
      unfold der_length.j0
      repeat' first
      | (with_reducible exact ih0 _ _ _ _ _)
      | (with_reducible exact ih1 _ _ _ _ _ _ _ _)
      | (with_reducible exact ih2 _ _ _ _ _ _)
      | (with_reducible exact LeO.refl _)
      | (with_reducible exact LeO.none _)
      | (with_reducible refine LeO.ite ?_ ?_)
      | (with_reducible refine LeO.bind ?_ (fun _ => ?_))
      | exact ih0 _ _ _ _ _
      | exact ih1 _ _ _ _ _ _ _ _
      | exact ih2 _ _ _ _ _ _
      | exact LeO.none _
      | refine LeO.ite ?_ ?_
      | refine LeO.bind ?_ (fun _ => ?_)
    · intro y0 y1 y2 y3 y4 y5 y6 y7
      unfold der_length.l0
      repeat' first
      | (with_reducible exact ih0 _ _ _ _ _)
      | (with_reducible exact ih1 _ _ _ _ _ _ _ _)
      | (with_reducible exact ih2 _ _ _ _ _ _)
      | (with_reducible exact LeO.refl _)
      | (with_reducible exact LeO.none _)
      | (with_reducible refine LeO.ite ?_ ?_)
      | (with_reducible refine LeO.bind ?_ (fun _ => ?_))
      | exact ih0 _ _ _ _ _
      | exact ih1 _ _ _ _ _ _ _ _
      | exact ih2 _ _ _ _ _ _
      | exact LeO.none _
      | refine LeO.ite ?_ ?_
      | refine LeO.bind ?_ (fun _ => ?_)
    · intro y0 y1 y2 y3 y4 y5
      unfold der_length.j2
      repeat' first
      | (with_reducible exact ih0 _ _ _ _ _)
      | (with_reducible exact ih1 _ _ _ _ _ _ _ _)
      | (with_reducible exact ih2 _ _ _ _ _ _)
      | (with_reducible exact LeO.refl _)
      | (with_reducible exact LeO.none _)
      | (with_reducible refine LeO.ite ?_ ?_)
      | (with_reducible refine LeO.bind ?_ (fun _ => ?_))
      | exact ih0 _ _ _ _ _
      | exact ih1 _ _ _ _ _ _ _ _
      | exact ih2 _ _ _ _ _ _
      | exact LeO.none _
      | refine LeO.ite ?_ ?_
      | refine LeO.bind ?_ (fun _ => ?_)
theorem der_length.mono : ∀ a0 a1 k, LeO (der_length.f k a0 a1) (der_length.f (k + 1) a0 a1) := by
  intro a0 a1 k
  obtain ⟨ih0, ih1, ih2⟩ := der_length.mono_l k
  unfold der_length.f
  repeat' first
      | (with_reducible exact ih0 _ _ _ _ _)
      | (with_reducible exact ih1 _ _ _ _ _ _ _ _)
      | (with_reducible exact ih2 _ _ _ _ _ _)
      | (with_reducible exact LeO.refl _)
      | (with_reducible exact LeO.none _)
      | (with_reducible refine LeO.ite ?_ ?_)
      | (with_reducible refine LeO.bind ?_ (fun _ => ?_))
      | exact ih0 _ _ _ _ _
      | exact ih1 _ _ _ _ _ _ _ _
      | exact ih2 _ _ _ _ _ _
      | exact LeO.none _
      | refine LeO.ite ?_ ?_
      | refine LeO.bind ?_ (fun _ => ?_)
set_option maxHeartbeats 8000000 in
set_option maxRecDepth 100000 in
theorem der_length.calls (k : Nat) (A0 : Option Addr) (c0 : Nat) (l0 : List Int) (a1 : Int) (r1 : Int) (r2 : Int) (r3 : Int) (r4 : Int) (w : World) (hr0 : Kd.C (Kd.int .u8) w A0 l0.length l0) (hc0 : l0.length ≤ c0) (h : der_length.f k l0 a1 = some (r1, r2, r3, r4)) :
    Calls Tryz.prog 215 #[.slice A0 l0.length c0, .int .i64 a1] w fun e w' => e = .returned (.tuple #[.int .i64 r1, .int .i64 r2, .int .i64 r3, .int .i64 r4]) ∧ Below w.heap.size w w' := by
  have HR0 := Aside0.mk hr0
  have HC0 := Aside0.mk hc0
  clear hr0 hc0
  have HB := Aside0.mk (Below.refl w.heap.size w)
  have H : (if a1 = (l0.length : Int) then (some (0, 0, 2, a1)) else (if 0 ≤ a1 then (if a1 < (l0.length : Int) then (if (wrap64 (rd l0 a1)) ≥ 128 then (if (Go.bits .and .i64 (wrap64 (rd l0 a1)) 127) = 0 then (der_length.j0 k l0 a1 (wrap64 (a1 + 1)) (Go.bits .and .i64 (wrap64 (rd l0 a1)) 127) true) else (der_length.j0 k l0 a1 (wrap64 (a1 + 1)) (Go.bits .and .i64 (wrap64 (rd l0 a1)) 127) ((Go.bits .and .i64 (wrap64 (rd l0 a1)) 127) == 127))) else (if (wrap64 (rd l0 a1)) > (wrap64 ((l0.length : Int) - (wrap64 (a1 + 1)))) then (some (0, 0, 31, a1)) else (some (wrap64 (rd l0 a1), wrap64 (a1 + 1), 0, 0)))) else (none)) else (none))) = some (r1, r2, r3, r4) := h
  clear h
  by_cases c3 : a1 = (l0.length : Int)
  · rw [if_pos c3] at H
    have c3b0 : (a1 == (l0.length : Int)) = true := beq_iff_eq.mpr c3
    have c3b1 : (a1 != (l0.length : Int)) = false := bne_eq_false_iff_eq.mpr c3
    clear c3
    simp only [Option.some.injEq, Prod.mk.injEq] at H
    obtain ⟨rfl, rfl, rfl, rfl⟩ := H
    go_enter Tryz.func215, Tryz.ntmps215
    go_wp2
    refine bodyPost_ret (results_list (rs := [.tmp 4, .tmp 5, .tmp 6, .tmp 7]) rfl (by simp) (.tmp (.tmp (.tmp (.tmp .nil))))) rfl ?_
    exact ⟨by first | rfl | (simp [errW_none, errW_some] <;> rfl) | (simp [*, errW_none, errW_some] <;> rfl), by repeat (first | (with_reducible first | exact HB.out | apply below_alloc | apply pw_below_drewN | apply below_drew1) | exact HB.out)⟩
  · rw [if_neg c3] at H
    have c3b0 : (a1 == (l0.length : Int)) = false := beq_eq_false_iff_ne.mpr c3
    have c3b1 : (a1 != (l0.length : Int)) = true := bne_iff_ne.mpr c3
    by_cases c4 : 0 ≤ a1
    · rw [if_pos c4] at H
      have c4b0 : decide (0 ≤ a1) = true := decide_eq_true c4
      clear c4
      by_cases c5 : a1 < (l0.length : Int)
      · rw [if_pos c5] at H
        have c5b0 : decide (a1 < (l0.length : Int)) = true := decide_eq_true c5
        clear c5
        by_cases c6 : (wrap64 (rd l0 a1)) ≥ 128
        · rw [if_pos c6] at H
          have c6b0 : decide (128 ≤ (wrap64 (rd l0 a1))) = true := decide_eq_true c6
          clear c6
          have HC7 := Aside0.mk H
          clear H
          have p116 : 0 ≤ (a1 : Int) := of_decide_eq_true (by first | (with_reducible assumption) | assumption)
          have q116 : a1 < (l0.length : Int) := of_decide_eq_true (by first | (with_reducible assumption) | assumption)
          obtain ⟨ad116, e116, hx116_0⟩ := Kd.at_int HR0.out a1 p116 q116
          cases e116
          replace p116 := eq_true p116
          replace q116 := eq_true q116
          go_enter Tryz.func215, Tryz.ntmps215
          go_upto_region 6 with (fail)
          go_cut [32] (fun v32 wc => ∃ (kq : Nat) (x32_6 : Bool), v32 = .bool x32_6 ∧ Aside0 (der_length.j0 kq l0 a1 (wrap64 (a1 + 1)) (Go.bits .and .i64 (wrap64 (rd l0 a1)) 127) x32_6 = some (r1, r2, r3, r4)) ∧ Aside0 (kq ≤ k) ∧ Aside0 (Below w.heap.size w wc))
          case first =>
            have H := HC7.out
            clear HC7
            by_cases c8 : (Go.bits .and .i64 (wrap64 (rd l0 a1)) 127) = 0
            · rw [if_pos c8] at H
              have c8b0 : ((Go.bits .and .i64 (wrap64 (rd l0 a1)) 127) == 0) = true := beq_iff_eq.mpr c8
              have c8b1 : ((Go.bits .and .i64 (wrap64 (rd l0 a1)) 127) != 0) = false := bne_eq_false_iff_eq.mpr c8
              clear c8
              (first | rw [c8b0] | (simp only [i64_w, i32_w]; rw [c8b0]) | skip)
              have H' := Aside0.mk H
              clear H
              go_wp2
              go_meet
              case rel => exact ⟨_, (true), (by first | rfl | (simp; done) | (simp [*]; done)), H', ⟨by first | omega | exact Nat.le_refl _⟩, ⟨by repeat (first | (with_reducible first | exact HB.out | apply below_alloc | apply pw_below_drewN | apply below_drew1) | exact HB.out)⟩⟩
            · rw [if_neg c8] at H
              have c8b0 : ((Go.bits .and .i64 (wrap64 (rd l0 a1)) 127) == 0) = false := beq_eq_false_iff_ne.mpr c8
              have c8b1 : ((Go.bits .and .i64 (wrap64 (rd l0 a1)) 127) != 0) = true := bne_iff_ne.mpr c8
              (first | rw [c8b0] | (simp only [i64_w, i32_w]; rw [c8b0]) | skip)
              have H' := Aside0.mk H
              clear H
              go_wp2
              go_meet
              case rel => exact ⟨_, (((Go.bits .and .i64 (wrap64 (rd l0 a1)) 127) == 127)), (by first | rfl | (simp; done) | (simp [*]; done)), H', ⟨by first | omega | exact Nat.le_refl _⟩, ⟨by repeat (first | (with_reducible first | exact HB.out | apply below_alloc | apply pw_below_drewN | apply below_drew1) | exact HB.out)⟩⟩
          case rest =>
            clear HC7
            try clear p1
            try clear q1
            try clear hx1
            try clear c2
            try clear p2
            try clear c3
            try clear c3b0
            try clear c3b1
            try clear c4
            try clear c4b0
            try clear c5
            try clear c5b0
            try clear c6
            try clear c6b0
            try clear p6
            try clear c8
            try clear c8b0
            try clear c8b1
            try clear hx116_0
            try clear p116
            try clear q116
            obtain ⟨kq, x32_6, rfl, HA, HJ6, HB⟩ := hcut
            cases kq with
            | zero => exact absurd HA.out (by simp [der_length.j0])
            | succ kj6 =>
              have H := HA.out
              clear HA
              simp only [der_length.j0] at H
              by_cases c9 : x32_6 = true
              · subst c9
                have H1 : (some (0, 0, 31, a1)) = some (r1, r2, r3, r4) := by rw [if_pos rfl] at H; exact H
                clear H
                have H := H1
                clear H1
                simp only [Option.some.injEq, Prod.mk.injEq] at H
                obtain ⟨rfl, rfl, rfl, rfl⟩ := H
                go_wp2
                refine bodyPost_ret (results_list (rs := [.tmp 4, .tmp 5, .tmp 6, .tmp 7]) rfl (by simp) (.tmp (.tmp (.tmp (.tmp .nil))))) rfl ?_
                exact ⟨by first | rfl | (simp [errW_none, errW_some] <;> rfl) | (simp [*, errW_none, errW_some] <;> rfl), by repeat (first | (with_reducible first | exact HB.out | apply below_alloc | apply pw_below_drewN | apply below_drew1) | exact HB.out)⟩
              · replace c9 := Bool.eq_false_iff.mpr c9
                subst c9
                have H1 : (if (Go.bits .and .i64 (wrap64 (rd l0 a1)) 127) > (wrap64 ((l0.length : Int) - (wrap64 (a1 + 1)))) then (some (0, 0, 2, (l0.length : Int))) else (if 0 ≤ (wrap64 (a1 + 1)) then (if (wrap64 (a1 + 1)) ≤ (wrap64 ((wrap64 (a1 + 1)) + (Go.bits .and .i64 (wrap64 (rd l0 a1)) 127))) then (if (wrap64 ((wrap64 (a1 + 1)) + (Go.bits .and .i64 (wrap64 (rd l0 a1)) 127))) ≤ (l0.length : Int) then ((some ((l0.take ((wrap64 ((wrap64 (a1 + 1)) + (Go.bits .and .i64 (wrap64 (rd l0 a1)) 127))) : Int).toNat).drop ((wrap64 (a1 + 1)) : Int).toNat : List Int)).bind fun y117 => (der_length.l0 kj6 l0 a1 0 (wrap64 (a1 + 1)) (Go.bits .and .i64 (wrap64 (rd l0 a1)) 127) y117 (y117.length : Int) 0)) else (none)) else (none)) else (none))) = some (r1, r2, r3, r4) := by rw [if_neg (show ¬ (false = true) by decide)] at H; exact H
                clear H
                have H := H1
                clear H1
                by_cases c10 : (Go.bits .and .i64 (wrap64 (rd l0 a1)) 127) > (wrap64 ((l0.length : Int) - (wrap64 (a1 + 1))))
                · rw [if_pos c10] at H
                  have c10b0 : decide ((wrap64 ((l0.length : Int) - (wrap64 (a1 + 1)))) < (Go.bits .and .i64 (wrap64 (rd l0 a1)) 127)) = true := decide_eq_true c10
                  clear c10
                  simp only [Option.some.injEq, Prod.mk.injEq] at H
                  obtain ⟨rfl, rfl, rfl, rfl⟩ := H
                  go_wp2
                  refine bodyPost_ret (results_list (rs := [.tmp 4, .tmp 5, .tmp 6, .tmp 7]) rfl (by simp) (.tmp (.tmp (.tmp (.tmp .nil))))) rfl ?_
                  exact ⟨by first | rfl | (simp [errW_none, errW_some] <;> rfl) | (simp [*, errW_none, errW_some] <;> rfl), by repeat (first | (with_reducible first | exact HB.out | apply below_alloc | apply pw_below_drewN | apply below_drew1) | exact HB.out)⟩
                · rw [if_neg c10] at H
                  have c10b0 : decide ((wrap64 ((l0.length : Int) - (wrap64 (a1 + 1)))) < (Go.bits .and .i64 (wrap64 (rd l0 a1)) 127)) = false := decide_eq_false c10
                  clear c10
                  by_cases c11 : 0 ≤ (wrap64 (a1 + 1))
                  · rw [if_pos c11] at H
                    have c11b0 := eq_true c11
                    have c11b1 : decide (0 ≤ (wrap64 (a1 + 1))) = true := decide_eq_true c11
                    by_cases c12 : (wrap64 (a1 + 1)) ≤ (wrap64 ((wrap64 (a1 + 1)) + (Go.bits .and .i64 (wrap64 (rd l0 a1)) 127)))
                    · rw [if_pos c12] at H
                      have c12b0 := eq_true c12
                      have c12b1 : decide ((wrap64 (a1 + 1)) ≤ (wrap64 ((wrap64 (a1 + 1)) + (Go.bits .and .i64 (wrap64 (rd l0 a1)) 127)))) = true := decide_eq_true c12
                      by_cases c13 : (wrap64 ((wrap64 (a1 + 1)) + (Go.bits .and .i64 (wrap64 (rd l0 a1)) 127))) ≤ (l0.length : Int)
                      · rw [if_pos c13] at H
                        have c13b0 := eq_true c13
                        have c13b1 : decide ((wrap64 ((wrap64 (a1 + 1)) + (Go.bits .and .i64 (wrap64 (rd l0 a1)) 127))) ≤ (l0.length : Int)) = true := decide_eq_true c13
                        obtain ⟨y117, hy117⟩ : ∃ y_ : List Int, y_ = ((l0.take ((wrap64 ((wrap64 (a1 + 1)) + (Go.bits .and .i64 (wrap64 (rd l0 a1)) 127))) : Int).toNat).drop ((wrap64 (a1 + 1)) : Int).toNat) := ⟨_, rfl⟩
                        replace H : (der_length.l0 kj6 l0 a1 0 (wrap64 (a1 + 1)) (Go.bits .and .i64 (wrap64 (rd l0 a1)) 127) y117 (y117.length : Int) 0) = some (r1, r2, r3, r4) := by first | (rw [hy117]; with_reducible exact H) | (have H2_ := (Option.bind_some _ _).symm.trans H; rw [hy117]; with_reducible exact H2_) | (have H2_ := (Option.bind_some _ _).symm.trans H; with_reducible exact H2_) | with_reducible exact H | (rw [hy117]; exact H) | exact H
                        have Ny117 := Aside0.mk hy117
                        clear hy117
                        have H' := Aside0.mk H
                        clear H
                        have q14 : ((wrap64 ((wrap64 (a1 + 1)) + (Go.bits .and .i64 (wrap64 (rd l0 a1)) 127))) : Int) ≤ ((l0.length : Int) : Int) := of_decide_eq_true (by first | (with_reducible assumption) | assumption)
                        obtain ⟨i014, hi014, _, hsz14, _⟩ := info_parts info5
                        have hroom14 : l0.length ≤ c0 := HC0.out
                        have hC14 : Kd.C (Kd.int .u8) _ (some ad116) l0.length l0 := HR0.out
                        have ql14 : ((wrap64 (a1 + 1)) : Int) ≤ ((wrap64 ((wrap64 (a1 + 1)) + (Go.bits .and .i64 (wrap64 (rd l0 a1)) 127))) : Int) := of_decide_eq_true (by first | (with_reducible assumption) | assumption)
                        have q014 : (0 : Int) ≤ ((wrap64 (a1 + 1)) : Int) := of_decide_eq_true (by first | (with_reducible assumption) | assumption)
                        have hcut14 := cut_mid (P := Tryz.prog) 22 5 .i64 .i64 Tryz.underlying22 hi014 1 hsz14 (some ad116) l0.length c0 (wrap64 (a1 + 1)) (wrap64 ((wrap64 (a1 + 1)) + (Go.bits .and .i64 (wrap64 (rd l0 a1)) 127))) q014 ql14 q14 hroom14
                        have hr14 := Kd.C_mid (lo := ((wrap64 (a1 + 1)) : Int).toNat) (hi := ((wrap64 ((wrap64 (a1 + 1)) + (Go.bits .and .i64 (wrap64 (rd l0 a1)) 127))) : Int).toNat) (c := c0) hC14 (by omega) (by omega) hroom14
                        obtain ⟨A14, hA14⟩ : ∃ A1, A1 = (if c0 = ((wrap64 (a1 + 1)) : Int).toNat then (some ad116) else ((some ad116) : Option Addr).map (·.add (((wrap64 (a1 + 1)) : Int).toNat * 1))) := ⟨_, rfl⟩
                        obtain ⟨c14, hc14⟩ : ∃ c1, c1 = c0 - ((wrap64 (a1 + 1)) : Int).toNat := ⟨_, rfl⟩
                        have hy14 : y117.length = ((wrap64 ((wrap64 (a1 + 1)) + (Go.bits .and .i64 (wrap64 (rd l0 a1)) 127))) : Int).toNat - ((wrap64 (a1 + 1)) : Int).toNat := (by rw [Ny117.out, List.length_drop, List.length_take] <;> omega)
                        rw [show ((l0).take ((wrap64 ((wrap64 (a1 + 1)) + (Go.bits .and .i64 (wrap64 (rd l0 a1)) 127))) : Int).toNat).drop ((wrap64 (a1 + 1)) : Int).toNat = y117 from Ny117.out.symm] at hr14
                        replace hr14 : Kd.C (Kd.int .u8) _ A14 y117.length y117 := (by rw [hA14]; exact hr14)
                        rw [← hy14, ← hA14, ← hc14] at hcut14
                        have HR120 := Aside0.mk hr14
                        have HC120 := Aside0.mk (show y117.length ≤ c14 from by rw [hy14, hc14]; exact Nat.sub_le_sub_right (Nat.le_trans (by omega) hroom14) _)
                        clear hr14 hC14 hroom14 hi014 hsz14 hc14
                        have KY14 := Aside0.mk hy14
                        have KA14 := Aside0.mk hA14
                        clear hy14 hA14
                        replace q14 := eq_true q14
                        go_wp2
                        go_loopg [4, 49] kj6 (fun kq v4 v49 w' => ∃ (x4_2 : Int) (x49_2 : Int), v4 = .int .i64 x4_2 ∧ v49 = .int .i64 x49_2 ∧ Aside0 (der_length.l0 kq l0 a1 x4_2 (wrap64 (a1 + 1)) (Go.bits .and .i64 (wrap64 (rd l0 a1)) 127) y117 (y117.length : Int) x49_2 = some (r1, r2, r3, r4)) ∧ Aside0 (kq ≤ kj6) ∧ Aside0 (Below w.heap.size w w'))
                        case atStart => exact ⟨(0), (0), (by first | rfl | (simp; done) | (simp [*]; done)), (by first | rfl | (simp; done) | (simp [*]; done)), H', ⟨Nat.le_refl _⟩, ⟨by repeat (first | (with_reducible first | exact HB.out | apply below_alloc | apply pw_below_drewN | apply below_drew1) | exact HB.out)⟩⟩
                        case round =>
                          clear H'
                          try clear c1
                          try clear p1
                          try clear q1
                          try clear hx1
                          try clear c2
                          try clear p2
                          try clear c3
                          try clear c3b0
                          try clear c3b1
                          try clear c4
                          try clear c4b0
                          try clear c5
                          try clear c5b0
                          try clear c6
                          try clear c6b0
                          try clear p6
                          try clear c8
                          try clear c8b0
                          try clear c8b1
                          try clear c9
                          try clear c10
                          try clear c10b0
                          try clear c11
                          try clear c11b0
                          try clear c11b1
                          try clear p11
                          try clear q11
                          try clear hx11
                          try clear c12
                          try clear c12b0
                          try clear c12b1
                          try clear c13
                          try clear c13b0
                          try clear c13b1
                          try clear c14
                          try clear q14
                          try clear hx116_0
                          try clear p1
                          try clear p116
                          try clear p2
                          try clear p6
                          try clear q014
                          try clear q1
                          try clear q116
                          try clear q14
                          obtain ⟨x4_2, x49_2, rfl, rfl, HA, HK2, HB⟩ := hrel
                          cases gk with
                          | zero => exact absurd HA.out (by simp [der_length.l0])
                          | succ k2 =>
                            have H := HA.out
                            clear HA
                            simp only [der_length.l0] at H
                            by_cases c15 : x49_2 < (y117.length : Int)
                            · rw [if_pos c15] at H
                              have c15b0 : decide (x49_2 < (y117.length : Int)) = true := decide_eq_true c15
                              clear c15
                              by_cases c16 : 0 ≤ x49_2
                              · rw [if_pos c16] at H
                                have c16b0 : decide (0 ≤ x49_2) = true := decide_eq_true c16
                                clear c16
                                by_cases c17 : x49_2 < (y117.length : Int)
                                · rw [if_pos c17] at H
                                  have c17b0 : decide (x49_2 < (y117.length : Int)) = true := decide_eq_true c17
                                  clear c17
                                  obtain ⟨ji18, hji18⟩ : ∃ j_ : Int, (mn (Go.bits .or .i64 (wrap64 (x4_2 * 256)) (wrap64 (rd y117 x49_2))) 16777217) = j_ := ⟨_, rfl⟩
                                  replace H : (der_length.l0 k2 l0 a1 ji18 (wrap64 (a1 + 1)) (Go.bits .and .i64 (wrap64 (rd l0 a1)) 127) y117 (y117.length : Int) (wrap64 (x49_2 + 1))) = some (r1, r2, r3, r4) := by first | (rw [hji18] at H; exact H) | (simp only [hji18] at H ⊢; exact H)
                                  have hji18_ : (if 16777217 < (Go.bits .or .i64 (wrap64 (x4_2 * 256)) (wrap64 (rd y117 x49_2))) then 16777217 else (Go.bits .or .i64 (wrap64 (x4_2 * 256)) (wrap64 (rd y117 x49_2)))) = ji18 := hji18
                                  have H' := Aside0.mk H
                                  clear H
                                  have p121 : 0 ≤ (x49_2 : Int) := of_decide_eq_true (by first | (with_reducible assumption) | assumption)
                                  have q121 : x49_2 < (y117.length : Int) := of_decide_eq_true (by first | (with_reducible assumption) | assumption)
                                  obtain ⟨ad121, e121, hx121_0⟩ := Kd.at_int HR120.out x49_2 p121 q121
                                  cases e121
                                  replace hx121_0 := (HB.out.cell (World.block_lt_of_cell? w _ hx121_0)).trans hx121_0
                                  replace p121 := eq_true p121
                                  replace q121 := eq_true q121
                                  go_wp2
                                  go_roundg k2
                                  case measure => have := HJ6.out; have := HK2.out; omega
                                  case rel => exact ⟨(ji18), (wrap64 (x49_2 + 1)), (by first | rfl | (simp; done) | (simp only [← hji18] <;> (first | rfl | simp)) | (simp [*]; done)), (by first | rfl | (simp; done) | (simp [*]; done)), H', ⟨by have := HJ6.out; have := HK2.out; omega⟩, ⟨by repeat (first | (with_reducible first | exact HB.out | apply below_alloc | apply pw_below_drewN | apply below_drew1) | exact HB.out)⟩⟩
                                · rw [if_neg c17] at H
                                  exact absurd H (by simp)
                              · rw [if_neg c16] at H
                                exact absurd H (by simp)
                            · rw [if_neg c15] at H
                              have c15b0 : decide (x49_2 < (y117.length : Int)) = false := decide_eq_false c15
                              clear c15
                              have HC19 := Aside0.mk H
                              clear H
                              go_upto_region 16 with (fail)
                              go_cut [68] (fun v68 wc => ∃ (kq : Nat) (x68_18 : Bool), v68 = .bool x68_18 ∧ Aside0 (der_length.j2 kq l0 a1 x4_2 (wrap64 (a1 + 1)) (Go.bits .and .i64 (wrap64 (rd l0 a1)) 127) x68_18 = some (r1, r2, r3, r4)) ∧ Aside0 (kq ≤ k2) ∧ Aside0 (Below w.heap.size w wc))
                              case first =>
                                have H := HC19.out
                                clear HC19
                                by_cases c20 : 0 ≤ (wrap64 (a1 + 1))
                                · rw [if_pos c20] at H
                                  have c20b0 : decide (0 ≤ (wrap64 (a1 + 1))) = true := decide_eq_true c20
                                  clear c20
                                  (first | rw [c20b0] | (simp only [i64_w, i32_w]; rw [c20b0]) | skip)
                                  by_cases c21 : (wrap64 (a1 + 1)) < (l0.length : Int)
                                  · rw [if_pos c21] at H
                                    have c21b0 : decide ((wrap64 (a1 + 1)) < (l0.length : Int)) = true := decide_eq_true c21
                                    clear c21
                                    by_cases c22 : (rd l0 (wrap64 (a1 + 1))) = 0
                                    · rw [if_pos c22] at H
                                      have c22b0 : ((rd l0 (wrap64 (a1 + 1))) == 0) = true := beq_iff_eq.mpr c22
                                      have c22b1 : ((rd l0 (wrap64 (a1 + 1))) != 0) = false := bne_eq_false_iff_eq.mpr c22
                                      clear c22
                                      have H' := Aside0.mk H
                                      clear H
                                      have p122 : 0 ≤ ((wrap64 (a1 + 1)) : Int) := of_decide_eq_true (by first | (with_reducible assumption) | assumption)
                                      have q122 : (wrap64 (a1 + 1)) < (l0.length : Int) := of_decide_eq_true (by first | (with_reducible assumption) | assumption)
                                      obtain ⟨ad122, e122, hx122_0⟩ := Kd.at_int HR0.out (wrap64 (a1 + 1)) p122 q122
                                      obtain rfl : ad116 = ad122 := (by injection e122)
                                      replace hx122_0 := (HB.out.cell (World.block_lt_of_cell? w _ hx122_0)).trans hx122_0
                                      replace p122 := eq_true p122
                                      replace q122 := eq_true q122
                                      go_wp2
                                      go_meet
                                      case rel => exact ⟨_, (true), (by first | rfl | (simp; done) | (simp [*]; done)), H', ⟨by have := HJ6.out; have := HK2.out; first | omega | exact Nat.le_refl _⟩, ⟨by repeat (first | (with_reducible first | exact HB.out | apply below_alloc | apply pw_below_drewN | apply below_drew1) | exact HB.out)⟩⟩
                                    · rw [if_neg c22] at H
                                      have c22b0 : ((rd l0 (wrap64 (a1 + 1))) == 0) = false := beq_eq_false_iff_ne.mpr c22
                                      have c22b1 : ((rd l0 (wrap64 (a1 + 1))) != 0) = true := bne_iff_ne.mpr c22
                                      have H' := Aside0.mk H
                                      clear H
                                      have p122 : 0 ≤ ((wrap64 (a1 + 1)) : Int) := of_decide_eq_true (by first | (with_reducible assumption) | assumption)
                                      have q122 : (wrap64 (a1 + 1)) < (l0.length : Int) := of_decide_eq_true (by first | (with_reducible assumption) | assumption)
                                      obtain ⟨ad122, e122, hx122_0⟩ := Kd.at_int HR0.out (wrap64 (a1 + 1)) p122 q122
                                      obtain rfl : ad116 = ad122 := (by injection e122)
                                      replace hx122_0 := (HB.out.cell (World.block_lt_of_cell? w _ hx122_0)).trans hx122_0
                                      replace p122 := eq_true p122
                                      replace q122 := eq_true q122
                                      go_wp2
                                      go_meet
                                      case rel => exact ⟨_, (decide (x4_2 < 128)), (by first | rfl | (simp; done) | (simp [*]; done)), H', ⟨by have := HJ6.out; have := HK2.out; first | omega | exact Nat.le_refl _⟩, ⟨by repeat (first | (with_reducible first | exact HB.out | apply below_alloc | apply pw_below_drewN | apply below_drew1) | exact HB.out)⟩⟩
                                  · rw [if_neg c21] at H
                                    exact absurd H (by simp)
                                · rw [if_neg c20] at H
                                  exact absurd H (by simp)
                              case rest =>
                                clear HC19
                                try clear c1
                                try clear p1
                                try clear q1
                                try clear hx1
                                try clear c2
                                try clear p2
                                try clear c3
                                try clear c3b0
                                try clear c3b1
                                try clear c4
                                try clear c4b0
                                try clear c5
                                try clear c5b0
                                try clear c6
                                try clear c6b0
                                try clear p6
                                try clear c8
                                try clear c8b0
                                try clear c8b1
                                try clear c9
                                try clear c10
                                try clear c10b0
                                try clear c11
                                try clear c11b0
                                try clear c11b1
                                try clear p11
                                try clear q11
                                try clear hx11
                                try clear c12
                                try clear c12b0
                                try clear c12b1
                                try clear p12
                                try clear q12
                                try clear hx12
                                try clear c13
                                try clear c13b0
                                try clear c13b1
                                try clear c14
                                try clear q14
                                try clear c15
                                try clear c15b0
                                try clear c16
                                try clear c16b0
                                try clear c17
                                try clear c17b0
                                try clear c20
                                try clear c20b0
                                try clear c21
                                try clear c21b0
                                try clear c22
                                try clear c22b0
                                try clear c22b1
                                try clear hx116_0
                                try clear hx121_0
                                try clear hx122_0
                                try clear p1
                                try clear p11
                                try clear p116
                                try clear p121
                                try clear p122
                                try clear p2
                                try clear p6
                                try clear q014
                                try clear q1
                                try clear q11
                                try clear q116
                                try clear q121
                                try clear q122
                                try clear q14
                                obtain ⟨kq, x68_18, rfl, HA, HJ18, HB⟩ := hcut
                                cases kq with
                                | zero => exact absurd HA.out (by simp [der_length.j2])
                                | succ kj18 =>
                                  have H := HA.out
                                  clear HA
                                  simp only [der_length.j2] at H
                                  by_cases c23 : x68_18 = true
                                  · subst c23
                                    have H1 : (some (0, 0, 31, a1)) = some (r1, r2, r3, r4) := by rw [if_pos rfl] at H; exact H
                                    clear H
                                    have H := H1
                                    clear H1
                                    simp only [Option.some.injEq, Prod.mk.injEq] at H
                                    obtain ⟨rfl, rfl, rfl, rfl⟩ := H
                                    go_wp2
                                    refine bodyPost_ret (results_list (rs := [.tmp 4, .tmp 5, .tmp 6, .tmp 7]) rfl (by simp) (.tmp (.tmp (.tmp (.tmp .nil))))) rfl ?_
                                    exact ⟨by first | rfl | (simp [errW_none, errW_some] <;> rfl) | (simp [*, errW_none, errW_some] <;> rfl), by repeat (first | (with_reducible first | exact HB.out | apply below_alloc | apply pw_below_drewN | apply below_drew1) | exact HB.out)⟩
                                  · replace c23 := Bool.eq_false_iff.mpr c23
                                    subst c23
                                    have H1 : (if x4_2 > (wrap64 ((l0.length : Int) - (wrap64 ((wrap64 (a1 + 1)) + (Go.bits .and .i64 (wrap64 (rd l0 a1)) 127))))) then (some (0, 0, 31, a1)) else (some (x4_2, wrap64 ((wrap64 (a1 + 1)) + (Go.bits .and .i64 (wrap64 (rd l0 a1)) 127)), 0, 0))) = some (r1, r2, r3, r4) := by rw [if_neg (show ¬ (false = true) by decide)] at H; exact H
                                    clear H
                                    have H := H1
                                    clear H1
                                    by_cases c24 : x4_2 > (wrap64 ((l0.length : Int) - (wrap64 ((wrap64 (a1 + 1)) + (Go.bits .and .i64 (wrap64 (rd l0 a1)) 127)))))
                                    · rw [if_pos c24] at H
                                      have c24b0 : decide ((wrap64 ((l0.length : Int) - (wrap64 ((wrap64 (a1 + 1)) + (Go.bits .and .i64 (wrap64 (rd l0 a1)) 127))))) < x4_2) = true := decide_eq_true c24
                                      clear c24
                                      simp only [Option.some.injEq, Prod.mk.injEq] at H
                                      obtain ⟨rfl, rfl, rfl, rfl⟩ := H
                                      go_wp2
                                      refine bodyPost_ret (results_list (rs := [.tmp 4, .tmp 5, .tmp 6, .tmp 7]) rfl (by simp) (.tmp (.tmp (.tmp (.tmp .nil))))) rfl ?_
                                      exact ⟨by first | rfl | (simp [errW_none, errW_some] <;> rfl) | (simp [*, errW_none, errW_some] <;> rfl), by repeat (first | (with_reducible first | exact HB.out | apply below_alloc | apply pw_below_drewN | apply below_drew1) | exact HB.out)⟩
                                    · rw [if_neg c24] at H
                                      have c24b0 : decide ((wrap64 ((l0.length : Int) - (wrap64 ((wrap64 (a1 + 1)) + (Go.bits .and .i64 (wrap64 (rd l0 a1)) 127))))) < x4_2) = false := decide_eq_false c24
                                      clear c24
                                      simp only [Option.some.injEq, Prod.mk.injEq] at H
                                      obtain ⟨rfl, rfl, rfl, rfl⟩ := H
                                      go_wp2
                                      refine bodyPost_ret (results_list (rs := [.tmp 4, .tmp 5, .tmp 6, .tmp 7]) rfl (by simp) (.tmp (.tmp (.tmp (.tmp .nil))))) rfl ?_
                                      exact ⟨by first | rfl | (simp [errW_none, errW_some] <;> rfl) | (simp [*, errW_none, errW_some] <;> rfl), by repeat (first | (with_reducible first | exact HB.out | apply below_alloc | apply pw_below_drewN | apply below_drew1) | exact HB.out)⟩
                      · rw [if_neg c13] at H
                        exact absurd H (by simp)
                    · rw [if_neg c12] at H
                      exact absurd H (by simp)
                  · rw [if_neg c11] at H
                    exact absurd H (by simp)
        · rw [if_neg c6] at H
          have c6b0 : decide (128 ≤ (wrap64 (rd l0 a1))) = false := decide_eq_false c6
          clear c6
          by_cases c25 : (wrap64 (rd l0 a1)) > (wrap64 ((l0.length : Int) - (wrap64 (a1 + 1))))
          · rw [if_pos c25] at H
            have c25b0 : decide ((wrap64 ((l0.length : Int) - (wrap64 (a1 + 1)))) < (wrap64 (rd l0 a1))) = true := decide_eq_true c25
            clear c25
            simp only [Option.some.injEq, Prod.mk.injEq] at H
            obtain ⟨rfl, rfl, rfl, rfl⟩ := H
            have p116 : 0 ≤ (a1 : Int) := of_decide_eq_true (by first | (with_reducible assumption) | assumption)
            have q116 : a1 < (l0.length : Int) := of_decide_eq_true (by first | (with_reducible assumption) | assumption)
            obtain ⟨ad116, e116, hx116_0⟩ := Kd.at_int HR0.out a1 p116 q116
            cases e116
            replace p116 := eq_true p116
            replace q116 := eq_true q116
            go_enter Tryz.func215, Tryz.ntmps215
            go_wp2
            refine bodyPost_ret (results_list (rs := [.tmp 4, .tmp 5, .tmp 6, .tmp 7]) rfl (by simp) (.tmp (.tmp (.tmp (.tmp .nil))))) rfl ?_
            exact ⟨by first | rfl | (simp [errW_none, errW_some] <;> rfl) | (simp [*, errW_none, errW_some] <;> rfl), by repeat (first | (with_reducible first | exact HB.out | apply below_alloc | apply pw_below_drewN | apply below_drew1) | exact HB.out)⟩
          · rw [if_neg c25] at H
            have c25b0 : decide ((wrap64 ((l0.length : Int) - (wrap64 (a1 + 1)))) < (wrap64 (rd l0 a1))) = false := decide_eq_false c25
            clear c25
            simp only [Option.some.injEq, Prod.mk.injEq] at H
            obtain ⟨rfl, rfl, rfl, rfl⟩ := H
            have p116 : 0 ≤ (a1 : Int) := of_decide_eq_true (by first | (with_reducible assumption) | assumption)
            have q116 : a1 < (l0.length : Int) := of_decide_eq_true (by first | (with_reducible assumption) | assumption)
            obtain ⟨ad116, e116, hx116_0⟩ := Kd.at_int HR0.out a1 p116 q116
            cases e116
            replace p116 := eq_true p116
            replace q116 := eq_true q116
            go_enter Tryz.func215, Tryz.ntmps215
            go_wp2
            refine bodyPost_ret (results_list (rs := [.tmp 4, .tmp 5, .tmp 6, .tmp 7]) rfl (by simp) (.tmp (.tmp (.tmp (.tmp .nil))))) rfl ?_
            exact ⟨by first | rfl | (simp [errW_none, errW_some] <;> rfl) | (simp [*, errW_none, errW_some] <;> rfl), by repeat (first | (with_reducible first | exact HB.out | apply below_alloc | apply pw_below_drewN | apply below_drew1) | exact HB.out)⟩
      · rw [if_neg c5] at H
        exact absurd H (by simp)
    · rw [if_neg c4] at H
      exact absurd H (by simp)

end Go.Proofs.YtkioddjjfifadaaGreatDoor.P
