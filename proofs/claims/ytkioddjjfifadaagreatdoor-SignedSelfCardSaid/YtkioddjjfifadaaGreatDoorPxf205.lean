/- Printed by a program of this session (a turned copy of the kit's print) out of the translation: functions, each as a Lean function, and that the Go call does what that function says, under what is asked ahead of the colon. -/
import Derived.Test.YtkioddjjfifadaaGreatDoorPx0
import Derived.Test.YtkioddjjfifadaaGreatDoorHt0
namespace Go.Proofs.YtkioddjjfifadaaGreatDoor.P
open Go.RowKit Go.Proofs.YtkioddjjfifadaaGreatDoorW.PrintWords Go.Proofs.YtkioddjjfifadaaGreatDoorW.PrintLast Go.Proofs.YtkioddjjfifadaaGreatDoorW.PrintMore
attribute [local go_sem] max2_int min2_int max_two min_two max_three min_three max_four min_four   -- for this text's walks alone
set_option linter.unusedVariables false
set_option linter.unusedSimpArgs false

/-! ### text_fits: function 205 -/
def text_fits.f (a0 : Int) (a1 : Int) : Option (Bool) := if a0 = 18 then (if a1 = 32 then (some true) else (if a1 ≥ 48 then (some (decide (a1 ≤ 57))) else (some false))) else (if a0 = 19 then (if (Go.bits .or .u8 a1 32) ≥ 97 then (if (Go.bits .or .u8 a1 32) ≤ 122 then (some true) else (if a1 ≥ 48 then (if a1 ≤ 57 then (some true) else (if a1 = 0 then (some false) else ((strings_IndexByte.f (⟨#[32, 39, 40, 41, 43, 44, 45, 46, 47, 58, 61, 63]⟩ : ByteArray) a1).bind fun t602 => (some (decide (t602 ≥ 0)))))) else (if a1 = 0 then (some false) else ((strings_IndexByte.f (⟨#[32, 39, 40, 41, 43, 44, 45, 46, 47, 58, 61, 63]⟩ : ByteArray) a1).bind fun t603 => (some (decide (t603 ≥ 0))))))) else (if a1 ≥ 48 then (if a1 ≤ 57 then (some true) else (if a1 = 0 then (some false) else ((strings_IndexByte.f (⟨#[32, 39, 40, 41, 43, 44, 45, 46, 47, 58, 61, 63]⟩ : ByteArray) a1).bind fun t604 => (some (decide (t604 ≥ 0)))))) else (if a1 = 0 then (some false) else ((strings_IndexByte.f (⟨#[32, 39, 40, 41, 43, 44, 45, 46, 47, 58, 61, 63]⟩ : ByteArray) a1).bind fun t605 => (some (decide (t605 ≥ 0))))))) else (if a0 = 22 then (some (decide (a1 < 128))) else (if a1 ≥ 32 then (some (decide (a1 < 127))) else (some false))))
set_option maxHeartbeats 8000000 in
set_option maxRecDepth 100000 in
theorem text_fits.calls (a0 : Int) (a1 : Int) (r : Bool) (w : World) (h : text_fits.f a0 a1 = some r) :
    Calls Tryz.prog 205 #[.int .i64 a0, .int .u8 a1] w fun e w' => e = .returned (.bool r) ∧ Below w.heap.size w w' := by
  have HB := Aside0.mk (Below.refl w.heap.size w)
  have H : (if a0 = 18 then (if a1 = 32 then (some true) else (if a1 ≥ 48 then (some (decide (a1 ≤ 57))) else (some false))) else (if a0 = 19 then (if (Go.bits .or .u8 a1 32) ≥ 97 then (if (Go.bits .or .u8 a1 32) ≤ 122 then (some true) else (if a1 ≥ 48 then (if a1 ≤ 57 then (some true) else (if a1 = 0 then (some false) else ((strings_IndexByte.f (⟨#[32, 39, 40, 41, 43, 44, 45, 46, 47, 58, 61, 63]⟩ : ByteArray) a1).bind fun t602 => (some (decide (t602 ≥ 0)))))) else (if a1 = 0 then (some false) else ((strings_IndexByte.f (⟨#[32, 39, 40, 41, 43, 44, 45, 46, 47, 58, 61, 63]⟩ : ByteArray) a1).bind fun t603 => (some (decide (t603 ≥ 0))))))) else (if a1 ≥ 48 then (if a1 ≤ 57 then (some true) else (if a1 = 0 then (some false) else ((strings_IndexByte.f (⟨#[32, 39, 40, 41, 43, 44, 45, 46, 47, 58, 61, 63]⟩ : ByteArray) a1).bind fun t604 => (some (decide (t604 ≥ 0)))))) else (if a1 = 0 then (some false) else ((strings_IndexByte.f (⟨#[32, 39, 40, 41, 43, 44, 45, 46, 47, 58, 61, 63]⟩ : ByteArray) a1).bind fun t605 => (some (decide (t605 ≥ 0))))))) else (if a0 = 22 then (some (decide (a1 < 128))) else (if a1 ≥ 32 then (some (decide (a1 < 127))) else (some false))))) = some r := h
  clear h
  by_cases c3 : a0 = 18
  · rw [if_pos c3] at H
    have c3b0 : (a0 == 18) = true := beq_iff_eq.mpr c3
    have c3b1 : (a0 != 18) = false := bne_eq_false_iff_eq.mpr c3
    clear c3
    by_cases c4 : a1 = 32
    · rw [if_pos c4] at H
      have c4b0 : (a1 == 32) = true := beq_iff_eq.mpr c4
      have c4b1 : (a1 != 32) = false := bne_eq_false_iff_eq.mpr c4
      clear c4
      obtain rfl := Option.some.inj H
      go_enter Tryz.func205, Tryz.ntmps205
      go_wp2
      go_ret
      exact ⟨by first | rfl | (simp [errW_none, errW_some] <;> rfl) | (simp [*, errW_none, errW_some] <;> rfl), by repeat (first | (with_reducible first | exact HB.out | apply below_alloc | apply pw_below_drewN | apply below_drew1) | exact HB.out)⟩
    · rw [if_neg c4] at H
      have c4b0 : (a1 == 32) = false := beq_eq_false_iff_ne.mpr c4
      have c4b1 : (a1 != 32) = true := bne_iff_ne.mpr c4
      by_cases c5 : a1 ≥ 48
      · rw [if_pos c5] at H
        have c5b0 : decide (48 ≤ a1) = true := decide_eq_true c5
        clear c5
        obtain rfl := Option.some.inj H
        go_enter Tryz.func205, Tryz.ntmps205
        go_wp2
        go_ret
        exact ⟨by first | rfl | (simp [errW_none, errW_some] <;> rfl) | (simp [*, errW_none, errW_some] <;> rfl), by repeat (first | (with_reducible first | exact HB.out | apply below_alloc | apply pw_below_drewN | apply below_drew1) | exact HB.out)⟩
      · rw [if_neg c5] at H
        have c5b0 : decide (48 ≤ a1) = false := decide_eq_false c5
        clear c5
        obtain rfl := Option.some.inj H
        go_enter Tryz.func205, Tryz.ntmps205
        go_wp2
        go_ret
        exact ⟨by first | rfl | (simp [errW_none, errW_some] <;> rfl) | (simp [*, errW_none, errW_some] <;> rfl), by repeat (first | (with_reducible first | exact HB.out | apply below_alloc | apply pw_below_drewN | apply below_drew1) | exact HB.out)⟩
  · rw [if_neg c3] at H
    have c3b0 : (a0 == 18) = false := beq_eq_false_iff_ne.mpr c3
    have c3b1 : (a0 != 18) = true := bne_iff_ne.mpr c3
    by_cases c6 : a0 = 19
    · rw [if_pos c6] at H
      have c6b0 : (a0 == 19) = true := beq_iff_eq.mpr c6
      have c6b1 : (a0 != 19) = false := bne_eq_false_iff_eq.mpr c6
      clear c6
      by_cases c7 : (Go.bits .or .u8 a1 32) ≥ 97
      · rw [if_pos c7] at H
        have c7b0 : decide (97 ≤ (Go.bits .or .u8 a1 32)) = true := decide_eq_true c7
        clear c7
        by_cases c8 : (Go.bits .or .u8 a1 32) ≤ 122
        · rw [if_pos c8] at H
          have c8b0 : decide ((Go.bits .or .u8 a1 32) ≤ 122) = true := decide_eq_true c8
          clear c8
          obtain rfl := Option.some.inj H
          go_enter Tryz.func205, Tryz.ntmps205
          go_wp2
          go_ret
          exact ⟨by first | rfl | (simp [errW_none, errW_some] <;> rfl) | (simp [*, errW_none, errW_some] <;> rfl), by repeat (first | (with_reducible first | exact HB.out | apply below_alloc | apply pw_below_drewN | apply below_drew1) | exact HB.out)⟩
        · rw [if_neg c8] at H
          have c8b0 : decide ((Go.bits .or .u8 a1 32) ≤ 122) = false := decide_eq_false c8
          clear c8
          by_cases c9 : a1 ≥ 48
          · rw [if_pos c9] at H
            have c9b0 : decide (48 ≤ a1) = true := decide_eq_true c9
            clear c9
            by_cases c10 : a1 ≤ 57
            · rw [if_pos c10] at H
              have c10b0 : decide (a1 ≤ 57) = true := decide_eq_true c10
              clear c10
              obtain rfl := Option.some.inj H
              go_enter Tryz.func205, Tryz.ntmps205
              go_wp2
              go_ret
              exact ⟨by first | rfl | (simp [errW_none, errW_some] <;> rfl) | (simp [*, errW_none, errW_some] <;> rfl), by repeat (first | (with_reducible first | exact HB.out | apply below_alloc | apply pw_below_drewN | apply below_drew1) | exact HB.out)⟩
            · rw [if_neg c10] at H
              have c10b0 : decide (a1 ≤ 57) = false := decide_eq_false c10
              clear c10
              by_cases c11 : a1 = 0
              · rw [if_pos c11] at H
                have c11b0 : (a1 == 0) = true := beq_iff_eq.mpr c11
                have c11b1 : (a1 != 0) = false := bne_eq_false_iff_eq.mpr c11
                clear c11
                obtain rfl := Option.some.inj H
                go_enter Tryz.func205, Tryz.ntmps205
                go_wp2
                go_ret
                exact ⟨by first | rfl | (simp [errW_none, errW_some] <;> rfl) | (simp [*, errW_none, errW_some] <;> rfl), by repeat (first | (with_reducible first | exact HB.out | apply below_alloc | apply pw_below_drewN | apply below_drew1) | exact HB.out)⟩
              · rw [if_neg c11] at H
                have c11b0 : (a1 == 0) = false := beq_eq_false_iff_ne.mpr c11
                have c11b1 : (a1 != 0) = true := bne_iff_ne.mpr c11
                replace H := Option.bind_eq_some_iff.mp H
                obtain ⟨t602, A120, H⟩ := H
                replace H : (some (decide (t602 ≥ 0))) = some r := H
                have A12 := Aside0.mk A120
                clear A120
                obtain rfl := Option.some.inj H
                go_enter Tryz.func205, Tryz.ntmps205
                go_wp2_with (first | (go_at_call 154; (with_reducible refine (strings_IndexByte.calls (⟨#[32, 39, 40, 41, 43, 44, 45, 46, 47, 58, 61, 63]⟩ : ByteArray) a1 t602 _ A12.out).mono ?_); rintro e w13 ⟨rfl, hb⟩; have n0_ := Aside0.mk (below_step (by repeat (first | (with_reducible first | exact HB.out | apply below_alloc | apply pw_below_drewN | apply below_drew1) | exact HB.out)) hb); clear HB; have HB := n0_; clear n0_; (try clear hb); (try clear hb2); (try clear hk); (try clear hi)))
                go_ret
                exact ⟨by first | rfl | (simp [errW_none, errW_some] <;> rfl) | (simp [*, errW_none, errW_some] <;> rfl), by repeat (first | (with_reducible first | exact HB.out | apply below_alloc | apply pw_below_drewN | apply below_drew1) | exact HB.out)⟩
          · rw [if_neg c9] at H
            have c9b0 : decide (48 ≤ a1) = false := decide_eq_false c9
            clear c9
            by_cases c14 : a1 = 0
            · rw [if_pos c14] at H
              have c14b0 : (a1 == 0) = true := beq_iff_eq.mpr c14
              have c14b1 : (a1 != 0) = false := bne_eq_false_iff_eq.mpr c14
              clear c14
              obtain rfl := Option.some.inj H
              go_enter Tryz.func205, Tryz.ntmps205
              go_wp2
              go_ret
              exact ⟨by first | rfl | (simp [errW_none, errW_some] <;> rfl) | (simp [*, errW_none, errW_some] <;> rfl), by repeat (first | (with_reducible first | exact HB.out | apply below_alloc | apply pw_below_drewN | apply below_drew1) | exact HB.out)⟩
            · rw [if_neg c14] at H
              have c14b0 : (a1 == 0) = false := beq_eq_false_iff_ne.mpr c14
              have c14b1 : (a1 != 0) = true := bne_iff_ne.mpr c14
              replace H := Option.bind_eq_some_iff.mp H
              obtain ⟨t603, A150, H⟩ := H
              replace H : (some (decide (t603 ≥ 0))) = some r := H
              have A15 := Aside0.mk A150
              clear A150
              obtain rfl := Option.some.inj H
              go_enter Tryz.func205, Tryz.ntmps205
              go_wp2_with (first | (go_at_call 154; (with_reducible refine (strings_IndexByte.calls (⟨#[32, 39, 40, 41, 43, 44, 45, 46, 47, 58, 61, 63]⟩ : ByteArray) a1 t603 _ A15.out).mono ?_); rintro e w16 ⟨rfl, hb⟩; have n0_ := Aside0.mk (below_step (by repeat (first | (with_reducible first | exact HB.out | apply below_alloc | apply pw_below_drewN | apply below_drew1) | exact HB.out)) hb); clear HB; have HB := n0_; clear n0_; (try clear hb); (try clear hb2); (try clear hk); (try clear hi)))
              go_ret
              exact ⟨by first | rfl | (simp [errW_none, errW_some] <;> rfl) | (simp [*, errW_none, errW_some] <;> rfl), by repeat (first | (with_reducible first | exact HB.out | apply below_alloc | apply pw_below_drewN | apply below_drew1) | exact HB.out)⟩
      · rw [if_neg c7] at H
        have c7b0 : decide (97 ≤ (Go.bits .or .u8 a1 32)) = false := decide_eq_false c7
        clear c7
        by_cases c17 : a1 ≥ 48
        · rw [if_pos c17] at H
          have c17b0 : decide (48 ≤ a1) = true := decide_eq_true c17
          clear c17
          by_cases c18 : a1 ≤ 57
          · rw [if_pos c18] at H
            have c18b0 : decide (a1 ≤ 57) = true := decide_eq_true c18
            clear c18
            obtain rfl := Option.some.inj H
            go_enter Tryz.func205, Tryz.ntmps205
            go_wp2
            go_ret
            exact ⟨by first | rfl | (simp [errW_none, errW_some] <;> rfl) | (simp [*, errW_none, errW_some] <;> rfl), by repeat (first | (with_reducible first | exact HB.out | apply below_alloc | apply pw_below_drewN | apply below_drew1) | exact HB.out)⟩
          · rw [if_neg c18] at H
            have c18b0 : decide (a1 ≤ 57) = false := decide_eq_false c18
            clear c18
            by_cases c19 : a1 = 0
            · rw [if_pos c19] at H
              have c19b0 : (a1 == 0) = true := beq_iff_eq.mpr c19
              have c19b1 : (a1 != 0) = false := bne_eq_false_iff_eq.mpr c19
              clear c19
              obtain rfl := Option.some.inj H
              go_enter Tryz.func205, Tryz.ntmps205
              go_wp2
              go_ret
              exact ⟨by first | rfl | (simp [errW_none, errW_some] <;> rfl) | (simp [*, errW_none, errW_some] <;> rfl), by repeat (first | (with_reducible first | exact HB.out | apply below_alloc | apply pw_below_drewN | apply below_drew1) | exact HB.out)⟩
            · rw [if_neg c19] at H
              have c19b0 : (a1 == 0) = false := beq_eq_false_iff_ne.mpr c19
              have c19b1 : (a1 != 0) = true := bne_iff_ne.mpr c19
              replace H := Option.bind_eq_some_iff.mp H
              obtain ⟨t604, A200, H⟩ := H
              replace H : (some (decide (t604 ≥ 0))) = some r := H
              have A20 := Aside0.mk A200
              clear A200
              obtain rfl := Option.some.inj H
              go_enter Tryz.func205, Tryz.ntmps205
              go_wp2_with (first | (go_at_call 154; (with_reducible refine (strings_IndexByte.calls (⟨#[32, 39, 40, 41, 43, 44, 45, 46, 47, 58, 61, 63]⟩ : ByteArray) a1 t604 _ A20.out).mono ?_); rintro e w21 ⟨rfl, hb⟩; have n0_ := Aside0.mk (below_step (by repeat (first | (with_reducible first | exact HB.out | apply below_alloc | apply pw_below_drewN | apply below_drew1) | exact HB.out)) hb); clear HB; have HB := n0_; clear n0_; (try clear hb); (try clear hb2); (try clear hk); (try clear hi)))
              go_ret
              exact ⟨by first | rfl | (simp [errW_none, errW_some] <;> rfl) | (simp [*, errW_none, errW_some] <;> rfl), by repeat (first | (with_reducible first | exact HB.out | apply below_alloc | apply pw_below_drewN | apply below_drew1) | exact HB.out)⟩
        · rw [if_neg c17] at H
          have c17b0 : decide (48 ≤ a1) = false := decide_eq_false c17
          clear c17
          by_cases c22 : a1 = 0
          · rw [if_pos c22] at H
            have c22b0 : (a1 == 0) = true := beq_iff_eq.mpr c22
            have c22b1 : (a1 != 0) = false := bne_eq_false_iff_eq.mpr c22
            clear c22
            obtain rfl := Option.some.inj H
            go_enter Tryz.func205, Tryz.ntmps205
            go_wp2
            go_ret
            exact ⟨by first | rfl | (simp [errW_none, errW_some] <;> rfl) | (simp [*, errW_none, errW_some] <;> rfl), by repeat (first | (with_reducible first | exact HB.out | apply below_alloc | apply pw_below_drewN | apply below_drew1) | exact HB.out)⟩
          · rw [if_neg c22] at H
            have c22b0 : (a1 == 0) = false := beq_eq_false_iff_ne.mpr c22
            have c22b1 : (a1 != 0) = true := bne_iff_ne.mpr c22
            replace H := Option.bind_eq_some_iff.mp H
            obtain ⟨t605, A230, H⟩ := H
            replace H : (some (decide (t605 ≥ 0))) = some r := H
            have A23 := Aside0.mk A230
            clear A230
            obtain rfl := Option.some.inj H
            go_enter Tryz.func205, Tryz.ntmps205
            go_wp2_with (first | (go_at_call 154; (with_reducible refine (strings_IndexByte.calls (⟨#[32, 39, 40, 41, 43, 44, 45, 46, 47, 58, 61, 63]⟩ : ByteArray) a1 t605 _ A23.out).mono ?_); rintro e w24 ⟨rfl, hb⟩; have n0_ := Aside0.mk (below_step (by repeat (first | (with_reducible first | exact HB.out | apply below_alloc | apply pw_below_drewN | apply below_drew1) | exact HB.out)) hb); clear HB; have HB := n0_; clear n0_; (try clear hb); (try clear hb2); (try clear hk); (try clear hi)))
            go_ret
            exact ⟨by first | rfl | (simp [errW_none, errW_some] <;> rfl) | (simp [*, errW_none, errW_some] <;> rfl), by repeat (first | (with_reducible first | exact HB.out | apply below_alloc | apply pw_below_drewN | apply below_drew1) | exact HB.out)⟩
    · rw [if_neg c6] at H
      have c6b0 : (a0 == 19) = false := beq_eq_false_iff_ne.mpr c6
      have c6b1 : (a0 != 19) = true := bne_iff_ne.mpr c6
      by_cases c25 : a0 = 22
      · rw [if_pos c25] at H
        have c25b0 : (a0 == 22) = true := beq_iff_eq.mpr c25
        have c25b1 : (a0 != 22) = false := bne_eq_false_iff_eq.mpr c25
        clear c25
        obtain rfl := Option.some.inj H
        go_enter Tryz.func205, Tryz.ntmps205
        go_wp2
        go_ret
        exact ⟨by first | rfl | (simp [errW_none, errW_some] <;> rfl) | (simp [*, errW_none, errW_some] <;> rfl), by repeat (first | (with_reducible first | exact HB.out | apply below_alloc | apply pw_below_drewN | apply below_drew1) | exact HB.out)⟩
      · rw [if_neg c25] at H
        have c25b0 : (a0 == 22) = false := beq_eq_false_iff_ne.mpr c25
        have c25b1 : (a0 != 22) = true := bne_iff_ne.mpr c25
        by_cases c26 : a1 ≥ 32
        · rw [if_pos c26] at H
          have c26b0 : decide (32 ≤ a1) = true := decide_eq_true c26
          clear c26
          obtain rfl := Option.some.inj H
          go_enter Tryz.func205, Tryz.ntmps205
          go_wp2
          go_ret
          exact ⟨by first | rfl | (simp [errW_none, errW_some] <;> rfl) | (simp [*, errW_none, errW_some] <;> rfl), by repeat (first | (with_reducible first | exact HB.out | apply below_alloc | apply pw_below_drewN | apply below_drew1) | exact HB.out)⟩
        · rw [if_neg c26] at H
          have c26b0 : decide (32 ≤ a1) = false := decide_eq_false c26
          clear c26
          obtain rfl := Option.some.inj H
          go_enter Tryz.func205, Tryz.ntmps205
          go_wp2
          go_ret
          exact ⟨by first | rfl | (simp [errW_none, errW_some] <;> rfl) | (simp [*, errW_none, errW_some] <;> rfl), by repeat (first | (with_reducible first | exact HB.out | apply below_alloc | apply pw_below_drewN | apply below_drew1) | exact HB.out)⟩

end Go.Proofs.YtkioddjjfifadaaGreatDoor.P
