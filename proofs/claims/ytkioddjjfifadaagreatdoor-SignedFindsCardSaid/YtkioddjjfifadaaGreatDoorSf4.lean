/- What the proof of SignedFinds needs of: Pxf153, Ht3, Pxf159, Hm0, Pxf93, Hm1, Pxf214, Pxf215, G0. -/
import Derived.Lib.OthersKept
import Derived.Lib.RuneCountTail
import Derived.Deep.MidRow
import Derived.Lib.SliceRun
import Derived.Test.YtkioddjjfifadaaGreatDoorSf2
import Derived.Test.YtkioddjjfifadaaGreatDoorSf3
namespace Go.Proofs.YtkioddjjfifadaaGreatDoor.P
open Go.RowKit Go.Proofs.YtkioddjjfifadaaGreatDoorW.PrintWords Go.Proofs.YtkioddjjfifadaaGreatDoorW.PrintLast Go.Proofs.YtkioddjjfifadaaGreatDoorW.PrintMore
attribute [local go_sem] max2_int min2_int max_two min_two max_three min_three max_four min_four   -- for this text's walks alone
set_option linter.unusedVariables false
set_option linter.unusedSimpArgs false
mutual
def text_Text.j0 : Nat → Int → List Int → Bool → Option (ByteArray × Int)
  | 0, _, _, _ => none
  | k + 1, x0, x1, x22 => if x22 = true then (text_Text.l0 k x0 x1 x1 (x1.length : Int) 0) else (some ((⟨#[]⟩ : ByteArray), 61))
def text_Text.l0 : Nat → Int → List Int → List Int → Int → Int → Option (ByteArray × Int)
  | 0, _, _, _, _, _ => none
  | k + 1, x0, x1, x27, x28, x29 => if x29 < x28 then (if 0 ≤ x29 then (if x29 < (x27.length : Int) then ((text_fits.f x0 (rd x27 x29)).bind fun t610 => (if t610 = true then (text_Text.l0 k x0 x1 x27 x28 (wrap64 (x29 + 1))) else (some ((⟨#[]⟩ : ByteArray), 60)))) else (none)) else (none)) else (some (strOfNums x1, 0))
end
def text_Text.f (k : Nat) (a0 : Int) (l1 : List Int) : Option (ByteArray × Int) := if a0 = 30 then ((text_wide.f l1).bind fun bt606 => (some (bt606.1, bt606.2))) else (if a0 = 12 then ((utf8_Valid.f l1).bind fun t608 => (if t608 = true then (some (strOfNums l1, 0)) else (some ((⟨#[]⟩ : ByteArray), 60)))) else (if a0 = 18 then (text_Text.j0 k a0 l1 (a0 == 18)) else (if a0 = 19 then (text_Text.j0 k a0 l1 (a0 == 19)) else (if a0 = 22 then (text_Text.j0 k a0 l1 (a0 == 22)) else (text_Text.j0 k a0 l1 (a0 == 26))))))
set_option maxHeartbeats 8000000 in
set_option maxRecDepth 100000 in
theorem text_Text.calls (k : Nat) (a0 : Int) (A1 : Option Addr) (c1 : Nat) (l1 : List Int) (r1 : ByteArray) (r2 : Int) (w : World) (hr1 : Kd.C (Kd.int .u8) w A1 l1.length l1) (hc1 : l1.length ≤ c1) (h : text_Text.f k a0 l1 = some (r1, r2)) (hH : Tb w) :
    Calls Tryz.prog 153 #[.int .i64 a0, .slice A1 l1.length c1] w fun e w' => e = .returned (.tuple #[.string r1, .int .i64 r2]) ∧ Below w.heap.size w w' := by
  have HR1 := Aside0.mk hr1
  have HC1 := Aside0.mk hc1
  clear hr1 hc1
  have HB := Aside0.mk (Below.refl w.heap.size w)
  have HHd := Aside0.mk hH
  clear hH
  have H : (if a0 = 30 then ((text_wide.f l1).bind fun bt606 => (some (bt606.1, bt606.2))) else (if a0 = 12 then ((utf8_Valid.f l1).bind fun t608 => (if t608 = true then (some (strOfNums l1, 0)) else (some ((⟨#[]⟩ : ByteArray), 60)))) else (if a0 = 18 then (text_Text.j0 k a0 l1 (a0 == 18)) else (if a0 = 19 then (text_Text.j0 k a0 l1 (a0 == 19)) else (if a0 = 22 then (text_Text.j0 k a0 l1 (a0 == 22)) else (text_Text.j0 k a0 l1 (a0 == 26))))))) = some (r1, r2) := h
  clear h
  by_cases c3 : a0 = 30
  · rw [if_pos c3] at H
    have c3b0 : (a0 == 30) = true := beq_iff_eq.mpr c3
    have c3b1 : (a0 != 30) = false := bne_eq_false_iff_eq.mpr c3
    clear c3
    replace H := Option.bind_eq_some_iff.mp H
    obtain ⟨⟨t606, t607⟩, A40, H⟩ := H
    replace H : (some (t606, t607)) = some (r1, r2) := H
    have A4 := Aside0.mk A40
    clear A40
    simp only [Option.some.injEq, Prod.mk.injEq] at H
    obtain ⟨rfl, rfl⟩ := H
    go_enter Tryz.func153, Tryz.ntmps153
    go_wp2_with (first | ((with_reducible refine gate_callee (f := 203) rfl ?_); refine goesL_ (some 12) rfl rfl Tryz.func203 (by kernel_rfl) rfl #[.slice A1 l1.length c1] rfl (by (try simp only [List.map_toArray, List.map_cons, List.map_nil]); first | done | rfl | (simp only [List.length_drop, List.length_take]; rfl)) ?_; (with_reducible refine (text_wide.calls _ _ l1 t606 t607 _ ?side1 ?side2 A4.out).mono ?_); (case side1 => repeat (first | exact HR1.out | (with_reducible refine Kd.C_alloc ?_ _) | (with_reducible refine Kd.C_drewN ?_ _) | (with_reducible refine Kd.C_drew ?_))); (case side2 => exact HC1.out); rintro e w5 ⟨rfl, hb⟩; refine ⟨_, rfl, ?_⟩; have n0_ := Aside0.mk (below_step (by repeat (first | (with_reducible first | exact HB.out | apply below_alloc | apply pw_below_drewN | apply below_drew1) | exact HB.out)) hb); clear HB; have HB := n0_; clear n0_; (try clear hb); (try clear hb2); (try clear hk); (try clear hi)))
    go_ret2
    exact ⟨by first | rfl | (simp [errW_none, errW_some] <;> rfl) | (simp [*, errW_none, errW_some] <;> rfl), by repeat (first | (with_reducible first | exact HB.out | apply below_alloc | apply pw_below_drewN | apply below_drew1) | exact HB.out)⟩
  · rw [if_neg c3] at H
    have c3b0 : (a0 == 30) = false := beq_eq_false_iff_ne.mpr c3
    have c3b1 : (a0 != 30) = true := bne_iff_ne.mpr c3
    by_cases c6 : a0 = 12
    · rw [if_pos c6] at H
      have c6b0 : (a0 == 12) = true := beq_iff_eq.mpr c6
      have c6b1 : (a0 != 12) = false := bne_eq_false_iff_eq.mpr c6
      clear c6
      replace H := Option.bind_eq_some_iff.mp H
      obtain ⟨t608, A70, H⟩ := H
      replace H : (if t608 = true then (some (strOfNums l1, 0)) else (some ((⟨#[]⟩ : ByteArray), 60))) = some (r1, r2) := H
      have A7 := Aside0.mk A70
      clear A70
      by_cases c8 : t608 = true
      · subst c8
        have H1 : (some (strOfNums l1, 0)) = some (r1, r2) := by rw [if_pos rfl] at H; exact H
        clear H
        have H := H1
        clear H1
        simp only [Option.some.injEq, Prod.mk.injEq] at H
        obtain ⟨rfl, rfl⟩ := H
        go_enter Tryz.func153, Tryz.ntmps153
        go_wp2_with (first | ((with_reducible refine gate_callee (f := 204) rfl ?_); refine goesL_ (some 18) rfl rfl Tryz.func204 (by kernel_rfl) rfl #[.slice A1 l1.length c1] rfl (by (try simp only [List.map_toArray, List.map_cons, List.map_nil]); first | done | rfl | (simp only [List.length_drop, List.length_take]; rfl)) ?_; (with_reducible refine (utf8_Valid.calls _ _ l1 true _ ?side1 ?side2 A7.out (Tb.below HHd.out (by repeat (first | (with_reducible first | exact HB.out | apply below_alloc | apply pw_below_drewN | apply below_drew1) | exact HB.out)))).mono ?_); (case side1 => repeat (first | exact HR1.out | (with_reducible refine Kd.C_alloc ?_ _) | (with_reducible refine Kd.C_drewN ?_ _) | (with_reducible refine Kd.C_drew ?_))); (case side2 => exact HC1.out); rintro e w9 ⟨rfl, hb⟩; refine ⟨_, rfl, ?_⟩; have n0_ := Aside0.mk (below_step (by repeat (first | (with_reducible first | exact HB.out | apply below_alloc | apply pw_below_drewN | apply below_drew1) | exact HB.out)) hb); clear HB; have HB := n0_; clear n0_; (try clear hb); (try clear hb2); (try clear hk); (try clear hi); have hcv10 := Kd.C_string (P := Tryz.prog) (A := A1) (c := c1) Tryz.underlying22 Tryz.underlying5 Tryz.underlying9 (Kd.C_below HR1.out HB.out)))
        go_ret2
        exact ⟨by first | rfl | (simp [errW_none, errW_some] <;> rfl) | (simp [*, errW_none, errW_some] <;> rfl), by repeat (first | (with_reducible first | exact HB.out | apply below_alloc | apply pw_below_drewN | apply below_drew1) | exact HB.out)⟩
      · replace c8 := Bool.eq_false_iff.mpr c8
        subst c8
        have H1 : (some ((⟨#[]⟩ : ByteArray), 60)) = some (r1, r2) := by rw [if_neg (show ¬ (false = true) by decide)] at H; exact H
        clear H
        have H := H1
        clear H1
        simp only [Option.some.injEq, Prod.mk.injEq] at H
        obtain ⟨rfl, rfl⟩ := H
        go_enter Tryz.func153, Tryz.ntmps153
        go_wp2_with (first | ((with_reducible refine gate_callee (f := 204) rfl ?_); refine goesL_ (some 18) rfl rfl Tryz.func204 (by kernel_rfl) rfl #[.slice A1 l1.length c1] rfl (by (try simp only [List.map_toArray, List.map_cons, List.map_nil]); first | done | rfl | (simp only [List.length_drop, List.length_take]; rfl)) ?_; (with_reducible refine (utf8_Valid.calls _ _ l1 false _ ?side1 ?side2 A7.out (Tb.below HHd.out (by repeat (first | (with_reducible first | exact HB.out | apply below_alloc | apply pw_below_drewN | apply below_drew1) | exact HB.out)))).mono ?_); (case side1 => repeat (first | exact HR1.out | (with_reducible refine Kd.C_alloc ?_ _) | (with_reducible refine Kd.C_drewN ?_ _) | (with_reducible refine Kd.C_drew ?_))); (case side2 => exact HC1.out); rintro e w11 ⟨rfl, hb⟩; refine ⟨_, rfl, ?_⟩; have n0_ := Aside0.mk (below_step (by repeat (first | (with_reducible first | exact HB.out | apply below_alloc | apply pw_below_drewN | apply below_drew1) | exact HB.out)) hb); clear HB; have HB := n0_; clear n0_; (try clear hb); (try clear hb2); (try clear hk); (try clear hi)))
        go_ret2
        exact ⟨by first | rfl | (simp [errW_none, errW_some] <;> rfl) | (simp [*, errW_none, errW_some] <;> rfl), by repeat (first | (with_reducible first | exact HB.out | apply below_alloc | apply pw_below_drewN | apply below_drew1) | exact HB.out)⟩
    · rw [if_neg c6] at H
      have c6b0 : (a0 == 12) = false := beq_eq_false_iff_ne.mpr c6
      have c6b1 : (a0 != 12) = true := bne_iff_ne.mpr c6
      have HC12 := Aside0.mk H
      clear H
      go_enter Tryz.func153, Tryz.ntmps153
      go_upto_if 22 with (fail)
      go_cut [22] (fun v22 wc => ∃ (kq : Nat) (x22_11 : Bool), v22 = .bool x22_11 ∧ Aside0 (text_Text.j0 kq a0 l1 x22_11 = some (r1, r2)) ∧ Aside0 (kq ≤ k) ∧ Aside0 (Below w.heap.size w wc))
      case first =>
        have H := HC12.out
        clear HC12
        by_cases c13 : a0 = 18
        · rw [if_pos c13] at H
          have c13b0 : (a0 == 18) = true := beq_iff_eq.mpr c13
          have c13b1 : (a0 != 18) = false := bne_eq_false_iff_eq.mpr c13
          clear c13
          (first | rw [c13b0] | (simp only [i64_w, i32_w]; rw [c13b0]) | skip)
          have H' := Aside0.mk H
          clear H
          go_wp2
          go_meet
          case rel => exact ⟨_, ((a0 == 18)), (by first | rfl | (simp; done) | (simp [*]; done)), H', ⟨by first | omega | exact Nat.le_refl _⟩, ⟨by repeat (first | (with_reducible first | exact HB.out | apply below_alloc | apply pw_below_drewN | apply below_drew1) | exact HB.out)⟩⟩
        · rw [if_neg c13] at H
          have c13b0 : (a0 == 18) = false := beq_eq_false_iff_ne.mpr c13
          have c13b1 : (a0 != 18) = true := bne_iff_ne.mpr c13
          (first | rw [c13b0] | (simp only [i64_w, i32_w]; rw [c13b0]) | skip)
          by_cases c14 : a0 = 19
          · rw [if_pos c14] at H
            have c14b0 : (a0 == 19) = true := beq_iff_eq.mpr c14
            have c14b1 : (a0 != 19) = false := bne_eq_false_iff_eq.mpr c14
            clear c14
            have H' := Aside0.mk H
            clear H
            go_wp2
            go_meet
            case rel => exact ⟨_, ((a0 == 19)), (by first | rfl | (simp; done) | (simp [*]; done)), H', ⟨by first | omega | exact Nat.le_refl _⟩, ⟨by repeat (first | (with_reducible first | exact HB.out | apply below_alloc | apply pw_below_drewN | apply below_drew1) | exact HB.out)⟩⟩
          · rw [if_neg c14] at H
            have c14b0 : (a0 == 19) = false := beq_eq_false_iff_ne.mpr c14
            have c14b1 : (a0 != 19) = true := bne_iff_ne.mpr c14
            by_cases c15 : a0 = 22
            · rw [if_pos c15] at H
              have c15b0 : (a0 == 22) = true := beq_iff_eq.mpr c15
              have c15b1 : (a0 != 22) = false := bne_eq_false_iff_eq.mpr c15
              clear c15
              have H' := Aside0.mk H
              clear H
              go_wp2
              go_meet
              case rel => exact ⟨_, ((a0 == 22)), (by first | rfl | (simp; done) | (simp [*]; done)), H', ⟨by first | omega | exact Nat.le_refl _⟩, ⟨by repeat (first | (with_reducible first | exact HB.out | apply below_alloc | apply pw_below_drewN | apply below_drew1) | exact HB.out)⟩⟩
            · rw [if_neg c15] at H
              have c15b0 : (a0 == 22) = false := beq_eq_false_iff_ne.mpr c15
              have c15b1 : (a0 != 22) = true := bne_iff_ne.mpr c15
              have H' := Aside0.mk H
              clear H
              go_wp2
              go_meet
              case rel => exact ⟨_, ((a0 == 26)), (by first | rfl | (simp; done) | (simp [*]; done)), H', ⟨by first | omega | exact Nat.le_refl _⟩, ⟨by repeat (first | (with_reducible first | exact HB.out | apply below_alloc | apply pw_below_drewN | apply below_drew1) | exact HB.out)⟩⟩
      case rest =>
        clear HC12
        try clear c1
        try clear hcv1
        try clear c2
        try clear p2
        try clear c3
        try clear c3b0
        try clear c3b1
        try clear c6
        try clear c6b0
        try clear c6b1
        try clear c8
        try clear hcv10
        try clear c13
        try clear c13b0
        try clear c13b1
        try clear c14
        try clear c14b0
        try clear c14b1
        try clear c15
        try clear c15b0
        try clear c15b1
        obtain ⟨kq, x22_11, rfl, HA, HJ11, HB⟩ := hcut
        cases kq with
        | zero => exact absurd HA.out (by simp [text_Text.j0])
        | succ kj11 =>
          have H := HA.out
          clear HA
          simp only [text_Text.j0] at H
          by_cases c16 : x22_11 = true
          · subst c16
            have H1 : (text_Text.l0 kj11 a0 l1 l1 (l1.length : Int) 0) = some (r1, r2) := by rw [if_pos rfl] at H; exact H
            clear H
            have H := H1
            clear H1
            have H' := Aside0.mk H
            clear H
            go_wp2
            go_loopg [29] kj11 (fun kq v29 w' => ∃ (x29_2 : Int), v29 = .int .i64 x29_2 ∧ Aside0 (text_Text.l0 kq a0 l1 l1 (l1.length : Int) x29_2 = some (r1, r2)) ∧ Aside0 (kq ≤ kj11) ∧ Aside0 (Below w.heap.size w w'))
            case atStart => exact ⟨(0), (by first | rfl | (simp; done) | (simp [*]; done)), H', ⟨Nat.le_refl _⟩, ⟨by repeat (first | (with_reducible first | exact HB.out | apply below_alloc | apply pw_below_drewN | apply below_drew1) | exact HB.out)⟩⟩
            case round =>
              clear H'
              try clear c1
              try clear hcv1
              try clear c2
              try clear p2
              try clear c3
              try clear c3b0
              try clear c3b1
              try clear c6
              try clear c6b0
              try clear c6b1
              try clear c8
              try clear hcv10
              try clear c13
              try clear c13b0
              try clear c13b1
              try clear c14
              try clear c14b0
              try clear c14b1
              try clear c15
              try clear c15b0
              try clear c15b1
              try clear c16
              try clear p2
              obtain ⟨x29_2, rfl, HA, HK2, HB⟩ := hrel
              cases gk with
              | zero => exact absurd HA.out (by simp [text_Text.l0])
              | succ k2 =>
                have H := HA.out
                clear HA
                simp only [text_Text.l0] at H
                by_cases c17 : x29_2 < (l1.length : Int)
                · rw [if_pos c17] at H
                  have c17b0 : decide (x29_2 < (l1.length : Int)) = true := decide_eq_true c17
                  clear c17
                  by_cases c18 : 0 ≤ x29_2
                  · rw [if_pos c18] at H
                    have c18b0 : decide (0 ≤ x29_2) = true := decide_eq_true c18
                    clear c18
                    by_cases c19 : x29_2 < (l1.length : Int)
                    · rw [if_pos c19] at H
                      have c19b0 : decide (x29_2 < (l1.length : Int)) = true := decide_eq_true c19
                      clear c19
                      replace H := Option.bind_eq_some_iff.mp H
                      obtain ⟨t610, A200, H⟩ := H
                      replace H : (if t610 = true then (text_Text.l0 k2 a0 l1 l1 (l1.length : Int) (wrap64 (x29_2 + 1))) else (some ((⟨#[]⟩ : ByteArray), 60))) = some (r1, r2) := H
                      have A20 := Aside0.mk A200
                      clear A200
                      by_cases c21 : t610 = true
                      · subst c21
                        have H1 : (text_Text.l0 k2 a0 l1 l1 (l1.length : Int) (wrap64 (x29_2 + 1))) = some (r1, r2) := by rw [if_pos rfl] at H; exact H
                        clear H
                        have H := H1
                        clear H1
                        have H' := Aside0.mk H
                        clear H
                        have p609 : 0 ≤ (x29_2 : Int) := of_decide_eq_true (by first | (with_reducible assumption) | assumption)
                        have q609 : x29_2 < (l1.length : Int) := of_decide_eq_true (by first | (with_reducible assumption) | assumption)
                        obtain ⟨ad609, e609, hx609_0⟩ := Kd.at_int HR1.out x29_2 p609 q609
                        cases e609
                        replace hx609_0 := (HB.out.cell (World.block_lt_of_cell? w _ hx609_0)).trans hx609_0
                        replace p609 := eq_true p609
                        replace q609 := eq_true q609
                        go_wp2_with (first | ((with_reducible refine gate_callee (f := 205) rfl ?_); refine goesL_ (some 35) rfl rfl Tryz.func205 (by kernel_rfl) rfl #[.int .i64 a0, .int .u8 (rd l1 x29_2)] rfl (by (try simp only [List.map_toArray, List.map_cons, List.map_nil]); first | done | rfl | (simp only [List.length_drop, List.length_take]; rfl)) ?_; (with_reducible refine (text_fits.calls a0 (rd l1 x29_2) true _ A20.out).mono ?_); rintro e w22 ⟨rfl, hb⟩; refine ⟨_, rfl, ?_⟩; have n0_ := Aside0.mk (below_step (by repeat (first | (with_reducible first | exact HB.out | apply below_alloc | apply pw_below_drewN | apply below_drew1) | exact HB.out)) hb); clear HB; have HB := n0_; clear n0_; (try clear hb); (try clear hb2); (try clear hk); (try clear hi)))
                        go_roundg k2
                        case measure => have := HJ11.out; have := HK2.out; omega
                        case rel => exact ⟨(wrap64 (x29_2 + 1)), (by first | rfl | (simp; done) | (simp [*]; done)), H', ⟨by have := HJ11.out; have := HK2.out; omega⟩, ⟨by repeat (first | (with_reducible first | exact HB.out | apply below_alloc | apply pw_below_drewN | apply below_drew1) | exact HB.out)⟩⟩
                      · replace c21 := Bool.eq_false_iff.mpr c21
                        subst c21
                        have H1 : (some ((⟨#[]⟩ : ByteArray), 60)) = some (r1, r2) := by rw [if_neg (show ¬ (false = true) by decide)] at H; exact H
                        clear H
                        have H := H1
                        clear H1
                        simp only [Option.some.injEq, Prod.mk.injEq] at H
                        obtain ⟨rfl, rfl⟩ := H
                        have p609 : 0 ≤ (x29_2 : Int) := of_decide_eq_true (by first | (with_reducible assumption) | assumption)
                        have q609 : x29_2 < (l1.length : Int) := of_decide_eq_true (by first | (with_reducible assumption) | assumption)
                        obtain ⟨ad609, e609, hx609_0⟩ := Kd.at_int HR1.out x29_2 p609 q609
                        cases e609
                        replace hx609_0 := (HB.out.cell (World.block_lt_of_cell? w _ hx609_0)).trans hx609_0
                        replace p609 := eq_true p609
                        replace q609 := eq_true q609
                        go_wp2_with (first | ((with_reducible refine gate_callee (f := 205) rfl ?_); refine goesL_ (some 35) rfl rfl Tryz.func205 (by kernel_rfl) rfl #[.int .i64 a0, .int .u8 (rd l1 x29_2)] rfl (by (try simp only [List.map_toArray, List.map_cons, List.map_nil]); first | done | rfl | (simp only [List.length_drop, List.length_take]; rfl)) ?_; (with_reducible refine (text_fits.calls a0 (rd l1 x29_2) false _ A20.out).mono ?_); rintro e w23 ⟨rfl, hb⟩; refine ⟨_, rfl, ?_⟩; have n0_ := Aside0.mk (below_step (by repeat (first | (with_reducible first | exact HB.out | apply below_alloc | apply pw_below_drewN | apply below_drew1) | exact HB.out)) hb); clear HB; have HB := n0_; clear n0_; (try clear hb); (try clear hb2); (try clear hk); (try clear hi)))
                        go_ret2
                        exact ⟨by first | rfl | (simp [errW_none, errW_some] <;> rfl) | (simp [*, errW_none, errW_some] <;> rfl), by repeat (first | (with_reducible first | exact HB.out | apply below_alloc | apply pw_below_drewN | apply below_drew1) | exact HB.out)⟩
                    · rw [if_neg c19] at H
                      exact absurd H (by simp)
                  · rw [if_neg c18] at H
                    exact absurd H (by simp)
                · rw [if_neg c17] at H
                  have c17b0 : decide (x29_2 < (l1.length : Int)) = false := decide_eq_false c17
                  clear c17
                  simp only [Option.some.injEq, Prod.mk.injEq] at H
                  obtain ⟨rfl, rfl⟩ := H
                  have hcv24 := Kd.C_string (P := Tryz.prog) (A := A1) (c := c1) Tryz.underlying22 Tryz.underlying5 Tryz.underlying9 (Kd.C_below HR1.out HB.out)
                  go_wp2
                  go_ret2
                  exact ⟨by first | rfl | (simp [errW_none, errW_some] <;> rfl) | (simp [*, errW_none, errW_some] <;> rfl), by repeat (first | (with_reducible first | exact HB.out | apply below_alloc | apply pw_below_drewN | apply below_drew1) | exact HB.out)⟩
          · replace c16 := Bool.eq_false_iff.mpr c16
            subst c16
            have H1 : (some ((⟨#[]⟩ : ByteArray), 61)) = some (r1, r2) := by rw [if_neg (show ¬ (false = true) by decide)] at H; exact H
            clear H
            have H := H1
            clear H1
            simp only [Option.some.injEq, Prod.mk.injEq] at H
            obtain ⟨rfl, rfl⟩ := H
            go_wp2
            go_ret2
            exact ⟨by first | rfl | (simp [errW_none, errW_some] <;> rfl) | (simp [*, errW_none, errW_some] <;> rfl), by repeat (first | (with_reducible first | exact HB.out | apply below_alloc | apply pw_below_drewN | apply below_drew1) | exact HB.out)⟩
end Go.Proofs.YtkioddjjfifadaaGreatDoor.P
namespace Go.Proofs.YtkioddjjfifadaaGreatDoor.P
open Go.RowKit Go.Proofs.YtkioddjjfifadaaGreatDoorW.PrintWords Go.Proofs.YtkioddjjfifadaaGreatDoorW.PrintLast Go.Proofs.YtkioddjjfifadaaGreatDoorW.PrintMore
theorem decode_width (s : ByteArray) (pos : Nat) (h : pos < s.size) : 1 ≤ (Utf8.decode s pos).2 ∧ pos + (Utf8.decode s pos).2 ≤ s.size ∧ (Utf8.decode s pos).2 ≤ 4 := by
  unfold Utf8.decode
  simp only []
  split
  · simp; omega
  · split
    · rename_i h1
      simp only [Bool.and_eq_true, decide_eq_true_eq, beq_iff_eq] at h1
      split <;> simp <;> omega
    · split
      · rename_i h1
        simp only [Bool.and_eq_true, decide_eq_true_eq, beq_iff_eq] at h1
        split <;> simp <;> omega
      · split
        · rename_i h1
          simp only [Bool.and_eq_true, decide_eq_true_eq, beq_iff_eq] at h1
          split <;> simp <;> omega
        · simp; omega
/-- A letter made small. -/
def low (c : Int) : Int := if 65 ≤ c ∧ c ≤ 90 then c + 32 else c
def foldOut (bl : Bool) (out : List Int) : List Int := if bl = true ∧ 0 < out.length then out ++ [32] else out
def foldGo (s : ByteArray) : Nat → Nat → Bool → List Int → List Int
  | 0, _, _, out => out
  | f + 1, pos, bl, out =>
    if pos < s.size then
      (if ((Utf8.decode s pos).1 : Int) = 32 then foldGo s f (pos + (Utf8.decode s pos).2) true out
      else if low ((Utf8.decode s pos).1 : Int) = 65533 then foldGo s f (pos + (Utf8.decode s pos).2) false (foldOut bl out ++ bytesOf (s.extract pos (pos + (Utf8.decode s pos).2)))
      else foldGo s f (pos + (Utf8.decode s pos).2) false (foldOut bl out ++ Lib.encodeRuneZ (low ((Utf8.decode s pos).1 : Int))))
    else out
def text_Fold.f (s : ByteArray) : Option ByteArray := if s.size ≤ 1099511627776 then some (strOfNums (foldGo s s.size 0 false [])) else none
theorem R_iter {B kb p : Nat} {s : ByteArray} {w : World} {v : Value} {xs : List Int} (h : (Kd.int .u8).R 5 w B (fun _ => True) v xs) (hb : w.heap[kb]? = some (.stringIter s p)) (p' : Nat) : (Kd.int .u8).R 5 (w.iterAt kb s p') B (fun _ => True) v xs :=
  Kd.R_mono (Kd.R_move (Kd.R_bound h) (fun k hk => by
    refine Lib.iterAt_other w kb k s p' ?_
    rintro rfl
    obtain ⟨_, _, _, _, _, cells, hc⟩ := hk
    rw [hb] at hc
    cases hc)) (fun _ hk => hk.1)
theorem iter_ne {B kb p : Nat} {s : ByteArray} {w : World} {v : Value} {xs : List Int} (h : (Kd.int .u8).R 5 w B (fun _ => True) v xs) (hb : w.heap[kb]? = some (.stringIter s p)) : some kb ≠ v.ownBlock := fun e => by
  obtain ⟨inner, ho⟩ := Kd.R_own h
  obtain ⟨cells, hc⟩ := own_typed ho kb e.symm
  rw [hb] at hc
  cases hc
theorem keep_blk {w w1 : World} {g : Nat} {o : Obj} (hb : Below w.heap.size w w1) (h : w.heap[g]? = some o) : w1.heap[g]? = some o := (hb.block g (blk_lt h)).trans h
theorem ext_size (s : ByteArray) (a b : Nat) (h : b ≤ s.size) : (s.extract a b).size = b - a := by
  rw [ByteArray.size_extract]
  omega
set_option maxRecDepth 100000 in
set_option maxHeartbeats 8000000 in
theorem text_Fold.calls (a0 : ByteArray) (r : ByteArray) (w : World) (h : text_Fold.f a0 = some r) (hH : Tb w) :
    Calls Tryz.prog 211 #[.string a0] w fun e w' => e = .returned (.string r) ∧ Below w.heap.size w w' := by
  unfold text_Fold.f at h
  split at h
  case isFalse => cases h
  case isTrue hlen =>
  obtain rfl := Option.some.inj h
  have HT := Aside0.mk hH
  have HLEN := Aside0.mk hlen
  have HB := Aside0.mk (Below.refl w.heap.size w)
  clear h hH hlen
  go_enter Tryz.func211, Tryz.ntmps211
  go_wp2_with ((with_reducible refine gate_dst (N := 12) rfl ?_); refine make_bytes w rfl rfl rfl a0.size rfl Tryz.underlying22 info5 (by have := HLEN.out; omega) HB.out ?_; intro v w1 hv hb; have HO := Aside0.mk hv; have HB1 := Aside0.mk hb; clear hv hb HB)
  generalize hkb : w1.heap.size = kb
  have HKB : Aside0 (w.heap.size ≤ kb) := ⟨by rw [← hkb]; exact HB1.out.size⟩
  have HIT : Aside0 ((w1.alloc (.stringIter a0 0)).heap[kb]? = some (.stringIter a0 0)) := ⟨by rw [← hkb]; exact heap_alloc_new w1 _⟩
  have HO0 := Aside0.mk (Kd.R_alloc HO.out (.stringIter a0 0))
  have HB0 := Aside0.mk (below_alloc HB1.out (.stringIter a0 0))
  clear HO HB1 hkb
  go_loopg [3, 4] (a0.size + 1) (fun kq v3 v4 w' => ∃ (pos : Nat) (bl : Bool) (acc : List Int) (f : Nat), v4 = .bool bl ∧ Aside0 (foldGo a0 f pos bl acc = foldGo a0 a0.size 0 false []) ∧ Aside0 (pos ≤ a0.size ∧ a0.size ≤ f + pos ∧ a0.size < kq + pos) ∧ Aside0 (acc.length ≤ 5 * pos) ∧
    Aside0 ((Kd.int .u8).R 5 w' w.heap.size (fun _ => True) v3 acc) ∧ Aside0 (w'.heap[kb]? = some (.stringIter a0 pos)) ∧ Aside0 (Below w.heap.size w w'))
  case atStart => exact ⟨0, false, [], a0.size, rfl, ⟨rfl⟩, ⟨⟨Nat.zero_le _, by omega, by omega⟩⟩, ⟨Nat.zero_le _⟩, HO0, HIT, HB0⟩
  case round =>
    clear HO0 HB0 HIT
    obtain ⟨pos, bl, acc, f, rfl, HF, HI, HA, HO, HIT, HB⟩ := hrel
    cases gk with
    | zero => exact absurd HI.out (by omega)
    | succ g1 =>
      by_cases hp : pos < a0.size
      · have hnx0 : ∀ ty, (Instr.next (.pointer (some ⟨kb, 0, none⟩)) true ty).run Tryz.prog wr = _ := fun ty => Lib.run_next_any_at wr kb a0 pos ty HIT.out hp
        obtain ⟨n1, n2, n4⟩ := decode_width a0 pos hp
        have hle := decode_le a0 pos
        obtain ⟨f1, rfl⟩ : ∃ f1, f = f1 + 1 := ⟨f - 1, by have := HI.out; omega⟩
        have hf := HF.out
        rw [foldGo, if_pos hp] at hf
        have hdg : Lib.decodeGo (a0.extract pos a0.size) = Utf8.decode a0 pos := by
          unfold Lib.decodeGo
          rw [if_neg (by rw [Lib.tail_size]; omega), Lib.tail_decode]
          first | done | rfl
        have HO1 := Aside0.mk (R_iter HO.out HIT.out (pos + (Utf8.decode a0 pos).2))
        have HIT1 := Aside0.mk (Lib.iterAt_heap wr kb a0 pos (pos + (Utf8.decode a0 pos).2) HIT.out)
        have HB1 := Aside0.mk (Lib.below_iterAt HB.out HKB.out a0 (pos + (Utf8.decode a0 pos).2))
        have hnx := hnx0
        clear HF HO HIT HB hnx0
        generalize wr.iterAt kb a0 (pos + (Utf8.decode a0 pos).2) = W2 at *
        generalize hc : (Utf8.decode a0 pos).1 = C at *
        generalize hn : (Utf8.decode a0 pos).2 = n at *
        have DG1 : Aside0 ((Lib.decodeGo (a0.extract pos a0.size)).1 = C) := ⟨by rw [hdg]; exact hc⟩
        have DG2 : Aside0 ((Lib.decodeGo (a0.extract pos a0.size)).2 = n) := ⟨by rw [hdg]; exact hn⟩
        have HFF := Aside0.mk hf
        have hw : wrap64 ((pos : Int) + (n : Int)) = (pos : Int) + (n : Int) := by unfold wrap64; have := HLEN.out; omega
        clear hdg hc hn hf
        by_cases h32 : (C : Int) = 32
        · have e1 : ((C : Int) == 32) = true := beq_iff_eq.2 h32
          go_wp2_with fail
          go_roundg g1
          case measure => exact Nat.lt_succ_self _
          case rel => exact ⟨pos + n, true, acc, f1, rfl, ⟨by have := HFF.out; rw [if_pos h32] at this; exact this⟩, ⟨by have := HI.out; omega⟩, ⟨by have := HA.out; omega⟩, HO1, HIT1, HB1⟩
        · have e1 : ((C : Int) == 32) = false := by simpa using h32
          have HF2 : Aside0 ((if low (C : Int) = 65533 then foldGo a0 f1 (pos + n) false (foldOut bl acc ++ bytesOf (a0.extract pos (pos + n))) else foldGo a0 f1 (pos + n) false (foldOut bl acc ++ Lib.encodeRuneZ (low (C : Int)))) = foldGo a0 a0.size 0 false []) := ⟨by have := HFF.out; rw [if_neg h32] at this; exact this⟩
          clear HFF
          cases bl with
          | true =>
            obtain ⟨Ao, co, hu⟩ := Kd.R_slice HO1.out
            subst hu
            by_cases hlen : 0 < acc.length
            · have e2 : decide ((0 : Int) < (acc.length : Int)) = true := decide_eq_true (by omega)
              by_cases u1 : (65 : Int) ≤ (C : Int)
              · have e3 : decide ((65 : Int) ≤ (C : Int)) = true := decide_eq_true u1
                by_cases u2 : (C : Int) ≤ 90
                · have e4 : decide ((C : Int) ≤ 90) = true := decide_eq_true u2
                  have e5 : ((C : Int) + 32 == 65533) = false := by simp; omega
                  have hlo : low (C : Int) = (C : Int) + 32 := if_pos ⟨u1, u2⟩
                  have hfo : foldOut true acc = acc ++ [32] := by simp [foldOut, hlen]
                  go_wp2_with (first | ((with_reducible refine gate_builtin (b := .append) (xs := #[.tmp 28, .tmp 29]) rfl ?_); at_builtin; refine Kd.R_append (Kd.int .u8) (w0 := w) w.heap.size rfl (.tmp 28) (.tmp 29) 22 5 (.int .u8 0) 1 rfl Tryz.underlying22 info5 rfl (by decide) (by omega) (.slice Ao acc.length co) acc 32 [.int .u8 32] (fun _ => True) (fun _ => False) rfl rfl ?aP (fun _ hk => hk.elim) ?aF ?aO ?aB ?aS ?aL ?_; (case aP => exact rfl); (case aF => exact (fun _ _ => trivial)); (case aO => exact HO1.out); (case aB => exact HB1.out); (case aS => exact (below_size HB1.out)); (case aL => have := HA.out; have := HLEN.out; omega); intro v2 W3 ho hb hgr hat; have HO2 := Aside0.mk ho; have HB2 := Aside0.mk hb; have HIT2 := Aside0.mk (blk_grown HIT1.out hgr (iter_ne HO1.out HIT1.out)); clear ho hb hgr hat))
                  refine (append_rune w v2 (acc ++ [32]) ((C : Int) + 32) (by omega) (by omega) _ HO2.out (by rw [List.length_append, List.length_singleton]; have := HA.out; have := HLEN.out; omega) HB2.out).mono ?_
                  rintro e W5 ⟨v5, rfl, hR5, hb5, hk5⟩
                  have HO5 := Aside0.mk hR5
                  have HB5 := Aside0.mk hb5
                  have HIT5 := Aside0.mk (hk5 kb _ HIT2.out (iter_ne HO2.out HIT2.out))
                  clear hR5 hb5 hk5
                  go_wp2_with fail
                  go_roundg g1
                  case measure => exact Nat.lt_succ_self _
                  case rel => exact ⟨pos + n, false, (acc ++ [32]) ++ Lib.encodeRuneZ ((C : Int) + 32), f1, rfl, ⟨by have := HF2.out; rw [if_neg (by rw [hlo]; omega), hfo, hlo] at this; exact this⟩, ⟨by have := HI.out; omega⟩, ⟨by rw [List.length_append]; rw [List.length_append, List.length_singleton]; have := encodeRuneZ_len ((C : Int) + 32); have := HA.out; omega⟩, HO5, HIT5, HB5⟩
                · have e4 : decide ((C : Int) ≤ 90) = false := decide_eq_false u2
                  have hl0 : low (C : Int) = (C : Int) := if_neg (by omega)
                  by_cases u3_ : (C : Int) = 65533
                  · have e5 : ((C : Int) == 65533) = true := beq_iff_eq.2 u3_
                    have hlo : low (C : Int) = 65533 := hl0.trans u3_
                    have hfo : foldOut true acc = acc ++ [32] := by simp [foldOut, hlen]
                    go_wp2_with (first | ((with_reducible refine gate_builtin (b := .append) (xs := #[.tmp 28, .tmp 29]) rfl ?_); at_builtin; refine Kd.R_append (Kd.int .u8) (w0 := w) w.heap.size rfl (.tmp 28) (.tmp 29) 22 5 (.int .u8 0) 1 rfl Tryz.underlying22 info5 rfl (by decide) (by omega) (.slice Ao acc.length co) acc 32 [.int .u8 32] (fun _ => True) (fun _ => False) rfl rfl ?aP (fun _ hk => hk.elim) ?aF ?aO ?aB ?aS ?aL ?_; (case aP => exact rfl); (case aF => exact (fun _ _ => trivial)); (case aO => exact HO1.out); (case aB => exact HB1.out); (case aS => exact (below_size HB1.out)); (case aL => have := HA.out; have := HLEN.out; omega); intro v2 W3 ho hb hgr hat; have HO2 := Aside0.mk ho; have HB2 := Aside0.mk hb; have HIT2 := Aside0.mk (blk_grown HIT1.out hgr (iter_ne HO1.out HIT1.out)); clear ho hb hgr hat))
                    refine (Tryz.utf8_DecodeRuneInString (a0.extract pos a0.size) _ (HT.out.below HB2.out).utf).mono ?_
                    rintro e W5 ⟨rfl, hb5⟩
                    rw [DG1.out, DG2.out]
                    have HO5 := Aside0.mk (Kd.R_below HO2.out hb5)
                    have HIT5 := Aside0.mk (keep_blk hb5 HIT2.out)
                    have HB5 := Aside0.mk (below_step HB2.out hb5)
                    clear hb5
                    have hsl : (Instr.slice 9 (.string a0) (some (.int .i64 (pos : Int))) (some (.int .i64 ((pos : Int) + (n : Int)))) none).run Tryz.prog W5 = .ok (.string (a0.extract pos (pos + n))) W5 := by
                      have := run_slice_string (P := Tryz.prog) W5 9 a0 .i64 .i64 (pos : Int) ((pos : Int) + (n : Int)) Tryz.underlying9 (by omega) (by omega) (by omega)
                      rwa [Int.toNat_natCast, show ((pos : Int) + (n : Int)).toNat = pos + n by omega] at this
                    go_wp2_with ((with_reducible refine gate_builtin (b := .append) (xs := #[.tmp 48, .tmp 54]) rfl ?_); at_builtin; refine print_append_str (w0 := w) w.heap.size rfl (.tmp 48) (.tmp 54) 22 9 5 rfl Tryz.underlying22 Tryz.underlying9 info5 v2 (acc ++ [32]) (a0.extract pos (pos + n)) rfl ?sx ?sO ?sB ?sS ?sL ?_; (case sx => rfl); (case sO => exact Kd.own_of_R HO5.out); (case sB => exact HB5.out); (case sS => exact below_size HB5.out); (case sL => have hz := ext_size a0 pos (pos + n) n2; rw [List.length_append, List.length_singleton]; have := HA.out; have := HLEN.out; omega); intro v6 W6 ho hb hgr; have HO6 : Aside0 ((Kd.int .u8).R 5 W6 w.heap.size (fun _ => True) v6 ((acc ++ [32]) ++ bytesOf (a0.extract pos (pos + n)))) := ⟨Kd.R_of_own ho (fun _ _ => trivial)⟩; have HB6 := Aside0.mk hb; have HIT6 := Aside0.mk (blk_grown HIT5.out hgr (iter_ne HO5.out HIT5.out)); clear ho hb hgr)
                    go_roundg g1
                    case measure => exact Nat.lt_succ_self _
                    case rel => exact ⟨pos + n, false, (acc ++ [32]) ++ bytesOf (a0.extract pos (pos + n)), f1, rfl, ⟨by have := HF2.out; rw [if_pos hlo, hfo] at this; exact this⟩, ⟨by have := HI.out; omega⟩, ⟨by rw [List.length_append, bytesOf_length, ext_size a0 pos (pos + n) n2]; rw [List.length_append, List.length_singleton]; have := HA.out; omega⟩, HO6, HIT6, HB6⟩
                  · have e5 : ((C : Int) == 65533) = false := by simpa using u3_
                    have hlo : low (C : Int) = (C : Int) := hl0
                    have hfo : foldOut true acc = acc ++ [32] := by simp [foldOut, hlen]
                    go_wp2_with (first | ((with_reducible refine gate_builtin (b := .append) (xs := #[.tmp 28, .tmp 29]) rfl ?_); at_builtin; refine Kd.R_append (Kd.int .u8) (w0 := w) w.heap.size rfl (.tmp 28) (.tmp 29) 22 5 (.int .u8 0) 1 rfl Tryz.underlying22 info5 rfl (by decide) (by omega) (.slice Ao acc.length co) acc 32 [.int .u8 32] (fun _ => True) (fun _ => False) rfl rfl ?aP (fun _ hk => hk.elim) ?aF ?aO ?aB ?aS ?aL ?_; (case aP => exact rfl); (case aF => exact (fun _ _ => trivial)); (case aO => exact HO1.out); (case aB => exact HB1.out); (case aS => exact (below_size HB1.out)); (case aL => have := HA.out; have := HLEN.out; omega); intro v2 W3 ho hb hgr hat; have HO2 := Aside0.mk ho; have HB2 := Aside0.mk hb; have HIT2 := Aside0.mk (blk_grown HIT1.out hgr (iter_ne HO1.out HIT1.out)); clear ho hb hgr hat))
                    refine (append_rune w v2 (acc ++ [32]) ((C : Int)) (by omega) (by omega) _ HO2.out (by rw [List.length_append, List.length_singleton]; have := HA.out; have := HLEN.out; omega) HB2.out).mono ?_
                    rintro e W5 ⟨v5, rfl, hR5, hb5, hk5⟩
                    have HO5 := Aside0.mk hR5
                    have HB5 := Aside0.mk hb5
                    have HIT5 := Aside0.mk (hk5 kb _ HIT2.out (iter_ne HO2.out HIT2.out))
                    clear hR5 hb5 hk5
                    go_wp2_with fail
                    go_roundg g1
                    case measure => exact Nat.lt_succ_self _
                    case rel => exact ⟨pos + n, false, (acc ++ [32]) ++ Lib.encodeRuneZ ((C : Int)), f1, rfl, ⟨by have := HF2.out; rw [if_neg (by rw [hlo]; omega), hfo, hlo] at this; exact this⟩, ⟨by have := HI.out; omega⟩, ⟨by rw [List.length_append]; rw [List.length_append, List.length_singleton]; have := encodeRuneZ_len ((C : Int)); have := HA.out; omega⟩, HO5, HIT5, HB5⟩
              · have e3 : decide ((65 : Int) ≤ (C : Int)) = false := decide_eq_false u1
                have e5 : ((C : Int) == 65533) = false := by simp; omega
                have hlo : low (C : Int) = (C : Int) := if_neg (by omega)
                have hfo : foldOut true acc = acc ++ [32] := by simp [foldOut, hlen]
                go_wp2_with (first | ((with_reducible refine gate_builtin (b := .append) (xs := #[.tmp 28, .tmp 29]) rfl ?_); at_builtin; refine Kd.R_append (Kd.int .u8) (w0 := w) w.heap.size rfl (.tmp 28) (.tmp 29) 22 5 (.int .u8 0) 1 rfl Tryz.underlying22 info5 rfl (by decide) (by omega) (.slice Ao acc.length co) acc 32 [.int .u8 32] (fun _ => True) (fun _ => False) rfl rfl ?aP (fun _ hk => hk.elim) ?aF ?aO ?aB ?aS ?aL ?_; (case aP => exact rfl); (case aF => exact (fun _ _ => trivial)); (case aO => exact HO1.out); (case aB => exact HB1.out); (case aS => exact (below_size HB1.out)); (case aL => have := HA.out; have := HLEN.out; omega); intro v2 W3 ho hb hgr hat; have HO2 := Aside0.mk ho; have HB2 := Aside0.mk hb; have HIT2 := Aside0.mk (blk_grown HIT1.out hgr (iter_ne HO1.out HIT1.out)); clear ho hb hgr hat))
                refine (append_rune w v2 (acc ++ [32]) ((C : Int)) (by omega) (by omega) _ HO2.out (by rw [List.length_append, List.length_singleton]; have := HA.out; have := HLEN.out; omega) HB2.out).mono ?_
                rintro e W5 ⟨v5, rfl, hR5, hb5, hk5⟩
                have HO5 := Aside0.mk hR5
                have HB5 := Aside0.mk hb5
                have HIT5 := Aside0.mk (hk5 kb _ HIT2.out (iter_ne HO2.out HIT2.out))
                clear hR5 hb5 hk5
                go_wp2_with fail
                go_roundg g1
                case measure => exact Nat.lt_succ_self _
                case rel => exact ⟨pos + n, false, (acc ++ [32]) ++ Lib.encodeRuneZ ((C : Int)), f1, rfl, ⟨by have := HF2.out; rw [if_neg (by rw [hlo]; omega), hfo, hlo] at this; exact this⟩, ⟨by have := HI.out; omega⟩, ⟨by rw [List.length_append]; rw [List.length_append, List.length_singleton]; have := encodeRuneZ_len ((C : Int)); have := HA.out; omega⟩, HO5, HIT5, HB5⟩
            · have e2 : decide ((0 : Int) < (acc.length : Int)) = false := decide_eq_false (by omega)
              by_cases u1 : (65 : Int) ≤ (C : Int)
              · have e3 : decide ((65 : Int) ≤ (C : Int)) = true := decide_eq_true u1
                by_cases u2 : (C : Int) ≤ 90
                · have e4 : decide ((C : Int) ≤ 90) = true := decide_eq_true u2
                  have e5 : ((C : Int) + 32 == 65533) = false := by simp; omega
                  have hlo : low (C : Int) = (C : Int) + 32 := if_pos ⟨u1, u2⟩
                  have hfo : foldOut true acc = acc := by simp [foldOut, hlen]
                  go_wp2_with fail
                  refine (append_rune w (.slice Ao acc.length co) (acc) ((C : Int) + 32) (by omega) (by omega) _ HO1.out (by have := HA.out; have := HLEN.out; omega) HB1.out).mono ?_
                  rintro e W5 ⟨v5, rfl, hR5, hb5, hk5⟩
                  have HO5 := Aside0.mk hR5
                  have HB5 := Aside0.mk hb5
                  have HIT5 := Aside0.mk (hk5 kb _ HIT1.out (iter_ne HO1.out HIT1.out))
                  clear hR5 hb5 hk5
                  go_wp2_with fail
                  go_roundg g1
                  case measure => exact Nat.lt_succ_self _
                  case rel => exact ⟨pos + n, false, (acc) ++ Lib.encodeRuneZ ((C : Int) + 32), f1, rfl, ⟨by have := HF2.out; rw [if_neg (by rw [hlo]; omega), hfo, hlo] at this; exact this⟩, ⟨by have := HI.out; omega⟩, ⟨by rw [List.length_append]; have := encodeRuneZ_len ((C : Int) + 32); have := HA.out; omega⟩, HO5, HIT5, HB5⟩
                · have e4 : decide ((C : Int) ≤ 90) = false := decide_eq_false u2
                  have hl0 : low (C : Int) = (C : Int) := if_neg (by omega)
                  by_cases u3_ : (C : Int) = 65533
                  · have e5 : ((C : Int) == 65533) = true := beq_iff_eq.2 u3_
                    have hlo : low (C : Int) = 65533 := hl0.trans u3_
                    have hfo : foldOut true acc = acc := by simp [foldOut, hlen]
                    go_wp2_with fail
                    refine (Tryz.utf8_DecodeRuneInString (a0.extract pos a0.size) _ (HT.out.below HB1.out).utf).mono ?_
                    rintro e W5 ⟨rfl, hb5⟩
                    rw [DG1.out, DG2.out]
                    have HO5 := Aside0.mk (Kd.R_below HO1.out hb5)
                    have HIT5 := Aside0.mk (keep_blk hb5 HIT1.out)
                    have HB5 := Aside0.mk (below_step HB1.out hb5)
                    clear hb5
                    have hsl : (Instr.slice 9 (.string a0) (some (.int .i64 (pos : Int))) (some (.int .i64 ((pos : Int) + (n : Int)))) none).run Tryz.prog W5 = .ok (.string (a0.extract pos (pos + n))) W5 := by
                      have := run_slice_string (P := Tryz.prog) W5 9 a0 .i64 .i64 (pos : Int) ((pos : Int) + (n : Int)) Tryz.underlying9 (by omega) (by omega) (by omega)
                      rwa [Int.toNat_natCast, show ((pos : Int) + (n : Int)).toNat = pos + n by omega] at this
                    go_wp2_with ((with_reducible refine gate_builtin (b := .append) (xs := #[.tmp 48, .tmp 54]) rfl ?_); at_builtin; refine print_append_str (w0 := w) w.heap.size rfl (.tmp 48) (.tmp 54) 22 9 5 rfl Tryz.underlying22 Tryz.underlying9 info5 (.slice Ao acc.length co) (acc) (a0.extract pos (pos + n)) rfl ?sx ?sO ?sB ?sS ?sL ?_; (case sx => rfl); (case sO => exact Kd.own_of_R HO5.out); (case sB => exact HB5.out); (case sS => exact below_size HB5.out); (case sL => have hz := ext_size a0 pos (pos + n) n2; have := HA.out; have := HLEN.out; omega); intro v6 W6 ho hb hgr; have HO6 : Aside0 ((Kd.int .u8).R 5 W6 w.heap.size (fun _ => True) v6 ((acc) ++ bytesOf (a0.extract pos (pos + n)))) := ⟨Kd.R_of_own ho (fun _ _ => trivial)⟩; have HB6 := Aside0.mk hb; have HIT6 := Aside0.mk (blk_grown HIT5.out hgr (iter_ne HO5.out HIT5.out)); clear ho hb hgr)
                    go_roundg g1
                    case measure => exact Nat.lt_succ_self _
                    case rel => exact ⟨pos + n, false, (acc) ++ bytesOf (a0.extract pos (pos + n)), f1, rfl, ⟨by have := HF2.out; rw [if_pos hlo, hfo] at this; exact this⟩, ⟨by have := HI.out; omega⟩, ⟨by rw [List.length_append, bytesOf_length, ext_size a0 pos (pos + n) n2]; have := HA.out; omega⟩, HO6, HIT6, HB6⟩
                  · have e5 : ((C : Int) == 65533) = false := by simpa using u3_
                    have hlo : low (C : Int) = (C : Int) := hl0
                    have hfo : foldOut true acc = acc := by simp [foldOut, hlen]
                    go_wp2_with fail
                    refine (append_rune w (.slice Ao acc.length co) (acc) ((C : Int)) (by omega) (by omega) _ HO1.out (by have := HA.out; have := HLEN.out; omega) HB1.out).mono ?_
                    rintro e W5 ⟨v5, rfl, hR5, hb5, hk5⟩
                    have HO5 := Aside0.mk hR5
                    have HB5 := Aside0.mk hb5
                    have HIT5 := Aside0.mk (hk5 kb _ HIT1.out (iter_ne HO1.out HIT1.out))
                    clear hR5 hb5 hk5
                    go_wp2_with fail
                    go_roundg g1
                    case measure => exact Nat.lt_succ_self _
                    case rel => exact ⟨pos + n, false, (acc) ++ Lib.encodeRuneZ ((C : Int)), f1, rfl, ⟨by have := HF2.out; rw [if_neg (by rw [hlo]; omega), hfo, hlo] at this; exact this⟩, ⟨by have := HI.out; omega⟩, ⟨by rw [List.length_append]; have := encodeRuneZ_len ((C : Int)); have := HA.out; omega⟩, HO5, HIT5, HB5⟩
              · have e3 : decide ((65 : Int) ≤ (C : Int)) = false := decide_eq_false u1
                have e5 : ((C : Int) == 65533) = false := by simp; omega
                have hlo : low (C : Int) = (C : Int) := if_neg (by omega)
                have hfo : foldOut true acc = acc := by simp [foldOut, hlen]
                go_wp2_with fail
                refine (append_rune w (.slice Ao acc.length co) (acc) ((C : Int)) (by omega) (by omega) _ HO1.out (by have := HA.out; have := HLEN.out; omega) HB1.out).mono ?_
                rintro e W5 ⟨v5, rfl, hR5, hb5, hk5⟩
                have HO5 := Aside0.mk hR5
                have HB5 := Aside0.mk hb5
                have HIT5 := Aside0.mk (hk5 kb _ HIT1.out (iter_ne HO1.out HIT1.out))
                clear hR5 hb5 hk5
                go_wp2_with fail
                go_roundg g1
                case measure => exact Nat.lt_succ_self _
                case rel => exact ⟨pos + n, false, (acc) ++ Lib.encodeRuneZ ((C : Int)), f1, rfl, ⟨by have := HF2.out; rw [if_neg (by rw [hlo]; omega), hfo, hlo] at this; exact this⟩, ⟨by have := HI.out; omega⟩, ⟨by rw [List.length_append]; have := encodeRuneZ_len ((C : Int)); have := HA.out; omega⟩, HO5, HIT5, HB5⟩
          | false =>
            by_cases u1 : (65 : Int) ≤ (C : Int)
            · have e3 : decide ((65 : Int) ≤ (C : Int)) = true := decide_eq_true u1
              by_cases u2 : (C : Int) ≤ 90
              · have e4 : decide ((C : Int) ≤ 90) = true := decide_eq_true u2
                have e5 : ((C : Int) + 32 == 65533) = false := by simp; omega
                have hlo : low (C : Int) = (C : Int) + 32 := if_pos ⟨u1, u2⟩
                have hfo : foldOut false acc = acc := by simp [foldOut]
                go_wp2_with fail
                refine (append_rune w u3 (acc) ((C : Int) + 32) (by omega) (by omega) _ HO1.out (by have := HA.out; have := HLEN.out; omega) HB1.out).mono ?_
                rintro e W5 ⟨v5, rfl, hR5, hb5, hk5⟩
                have HO5 := Aside0.mk hR5
                have HB5 := Aside0.mk hb5
                have HIT5 := Aside0.mk (hk5 kb _ HIT1.out (iter_ne HO1.out HIT1.out))
                clear hR5 hb5 hk5
                go_wp2_with fail
                go_roundg g1
                case measure => exact Nat.lt_succ_self _
                case rel => exact ⟨pos + n, false, (acc) ++ Lib.encodeRuneZ ((C : Int) + 32), f1, rfl, ⟨by have := HF2.out; rw [if_neg (by rw [hlo]; omega), hfo, hlo] at this; exact this⟩, ⟨by have := HI.out; omega⟩, ⟨by rw [List.length_append]; have := encodeRuneZ_len ((C : Int) + 32); have := HA.out; omega⟩, HO5, HIT5, HB5⟩
              · have e4 : decide ((C : Int) ≤ 90) = false := decide_eq_false u2
                have hl0 : low (C : Int) = (C : Int) := if_neg (by omega)
                by_cases u3_ : (C : Int) = 65533
                · have e5 : ((C : Int) == 65533) = true := beq_iff_eq.2 u3_
                  have hlo : low (C : Int) = 65533 := hl0.trans u3_
                  have hfo : foldOut false acc = acc := by simp [foldOut]
                  go_wp2_with fail
                  refine (Tryz.utf8_DecodeRuneInString (a0.extract pos a0.size) _ (HT.out.below HB1.out).utf).mono ?_
                  rintro e W5 ⟨rfl, hb5⟩
                  rw [DG1.out, DG2.out]
                  have HO5 := Aside0.mk (Kd.R_below HO1.out hb5)
                  have HIT5 := Aside0.mk (keep_blk hb5 HIT1.out)
                  have HB5 := Aside0.mk (below_step HB1.out hb5)
                  clear hb5
                  have hsl : (Instr.slice 9 (.string a0) (some (.int .i64 (pos : Int))) (some (.int .i64 ((pos : Int) + (n : Int)))) none).run Tryz.prog W5 = .ok (.string (a0.extract pos (pos + n))) W5 := by
                    have := run_slice_string (P := Tryz.prog) W5 9 a0 .i64 .i64 (pos : Int) ((pos : Int) + (n : Int)) Tryz.underlying9 (by omega) (by omega) (by omega)
                    rwa [Int.toNat_natCast, show ((pos : Int) + (n : Int)).toNat = pos + n by omega] at this
                  go_wp2_with ((with_reducible refine gate_builtin (b := .append) (xs := #[.tmp 48, .tmp 54]) rfl ?_); at_builtin; refine print_append_str (w0 := w) w.heap.size rfl (.tmp 48) (.tmp 54) 22 9 5 rfl Tryz.underlying22 Tryz.underlying9 info5 u3 (acc) (a0.extract pos (pos + n)) rfl ?sx ?sO ?sB ?sS ?sL ?_; (case sx => rfl); (case sO => exact Kd.own_of_R HO5.out); (case sB => exact HB5.out); (case sS => exact below_size HB5.out); (case sL => have hz := ext_size a0 pos (pos + n) n2; have := HA.out; have := HLEN.out; omega); intro v6 W6 ho hb hgr; have HO6 : Aside0 ((Kd.int .u8).R 5 W6 w.heap.size (fun _ => True) v6 ((acc) ++ bytesOf (a0.extract pos (pos + n)))) := ⟨Kd.R_of_own ho (fun _ _ => trivial)⟩; have HB6 := Aside0.mk hb; have HIT6 := Aside0.mk (blk_grown HIT5.out hgr (iter_ne HO5.out HIT5.out)); clear ho hb hgr)
                  go_roundg g1
                  case measure => exact Nat.lt_succ_self _
                  case rel => exact ⟨pos + n, false, (acc) ++ bytesOf (a0.extract pos (pos + n)), f1, rfl, ⟨by have := HF2.out; rw [if_pos hlo, hfo] at this; exact this⟩, ⟨by have := HI.out; omega⟩, ⟨by rw [List.length_append, bytesOf_length, ext_size a0 pos (pos + n) n2]; have := HA.out; omega⟩, HO6, HIT6, HB6⟩
                · have e5 : ((C : Int) == 65533) = false := by simpa using u3_
                  have hlo : low (C : Int) = (C : Int) := hl0
                  have hfo : foldOut false acc = acc := by simp [foldOut]
                  go_wp2_with fail
                  refine (append_rune w u3 (acc) ((C : Int)) (by omega) (by omega) _ HO1.out (by have := HA.out; have := HLEN.out; omega) HB1.out).mono ?_
                  rintro e W5 ⟨v5, rfl, hR5, hb5, hk5⟩
                  have HO5 := Aside0.mk hR5
                  have HB5 := Aside0.mk hb5
                  have HIT5 := Aside0.mk (hk5 kb _ HIT1.out (iter_ne HO1.out HIT1.out))
                  clear hR5 hb5 hk5
                  go_wp2_with fail
                  go_roundg g1
                  case measure => exact Nat.lt_succ_self _
                  case rel => exact ⟨pos + n, false, (acc) ++ Lib.encodeRuneZ ((C : Int)), f1, rfl, ⟨by have := HF2.out; rw [if_neg (by rw [hlo]; omega), hfo, hlo] at this; exact this⟩, ⟨by have := HI.out; omega⟩, ⟨by rw [List.length_append]; have := encodeRuneZ_len ((C : Int)); have := HA.out; omega⟩, HO5, HIT5, HB5⟩
            · have e3 : decide ((65 : Int) ≤ (C : Int)) = false := decide_eq_false u1
              have e5 : ((C : Int) == 65533) = false := by simp; omega
              have hlo : low (C : Int) = (C : Int) := if_neg (by omega)
              have hfo : foldOut false acc = acc := by simp [foldOut]
              go_wp2_with fail
              refine (append_rune w u3 (acc) ((C : Int)) (by omega) (by omega) _ HO1.out (by have := HA.out; have := HLEN.out; omega) HB1.out).mono ?_
              rintro e W5 ⟨v5, rfl, hR5, hb5, hk5⟩
              have HO5 := Aside0.mk hR5
              have HB5 := Aside0.mk hb5
              have HIT5 := Aside0.mk (hk5 kb _ HIT1.out (iter_ne HO1.out HIT1.out))
              clear hR5 hb5 hk5
              go_wp2_with fail
              go_roundg g1
              case measure => exact Nat.lt_succ_self _
              case rel => exact ⟨pos + n, false, (acc) ++ Lib.encodeRuneZ ((C : Int)), f1, rfl, ⟨by have := HF2.out; rw [if_neg (by rw [hlo]; omega), hfo, hlo] at this; exact this⟩, ⟨by have := HI.out; omega⟩, ⟨by rw [List.length_append]; have := encodeRuneZ_len ((C : Int)); have := HA.out; omega⟩, HO5, HIT5, HB5⟩
      · have hnx : ∀ ty, (Instr.next (.pointer (some ⟨kb, 0, none⟩)) true ty).run Tryz.prog wr = _ := fun ty => Lib.run_next_end_at wr kb a0 pos ty HIT.out hp
        have hcv := own_string (P := Tryz.prog) Tryz.underlying22 Tryz.underlying5 Tryz.underlying9 (Kd.own_of_R HO.out)
        have hfe : foldGo a0 a0.size 0 false [] = acc := by
          rw [← HF.out]
          cases f with
          | zero => rfl
          | succ f => rw [foldGo, if_neg hp]
        go_wp2_with fail
        go_ret
        exact ⟨by rw [hfe]; rfl, HB.out⟩
end Go.Proofs.YtkioddjjfifadaaGreatDoor.P
namespace Go.Proofs.YtkioddjjfifadaaGreatDoor.P
open Go.RowKit Go.Proofs.YtkioddjjfifadaaGreatDoorW.PrintWords Go.Proofs.YtkioddjjfifadaaGreatDoorW.PrintLast Go.Proofs.YtkioddjjfifadaaGreatDoorW.PrintMore
attribute [local go_sem] max2_int min2_int max_two min_two max_three min_three max_four min_four   -- for this text's walks alone
set_option linter.unusedVariables false
set_option linter.unusedSimpArgs false
def text_Key.f (k : Nat) (a0 : Int) (l1 : List Int) : Option (ByteArray) := (text_Text.f k a0 l1).bind fun bt666 => (if bt666.2 = 0 then ((text_Fold.f bt666.1).bind fun t668 => (if 1 + t668.size ≤ 9223372036854775807 then (some ((⟨#[61]⟩ : ByteArray) ++ t668)) else (none))) else ((strconv_Itoa.f a0).bind fun t669 => (if 1 + t669.size ≤ 9223372036854775807 then (if ((⟨#[35]⟩ : ByteArray) ++ t669).size + 1 ≤ 9223372036854775807 then (if (((⟨#[35]⟩ : ByteArray) ++ t669) ++ (⟨#[58]⟩ : ByteArray)).size + (strOfNums l1).size ≤ 9223372036854775807 then (some ((((⟨#[35]⟩ : ByteArray) ++ t669) ++ (⟨#[58]⟩ : ByteArray)) ++ (strOfNums l1))) else (none)) else (none)) else (none))))
def text_Key.T3 : Bool × List (List Nat × List Nat) := (true, [([], []), ([0], [0]), ([1], [1]), ([2], [2]), ([], []), ([4], [4]), ([3, 5], [3, 5]), ([6, 1, 0, 1, 2, 3, 4, 5, 6], [6])])
def text_Key.B3 : List Nat := [0, 1, 3, 7, 0, 16, 63, 127]
theorem text_Key.tab3 : rtab .any (opsOf Tryz.f159 3) = text_Key.T3 := by kernel_rfl
theorem text_Key.bits3 : waitsOk text_Key.T3.2 text_Key.B3 = true := by kernel_rfl
set_option maxHeartbeats 8000000 in
set_option maxRecDepth 100000 in
theorem text_Key.calls (k : Nat) (a0 : Int) (A1 : Option Addr) (c1 : Nat) (l1 : List Int) (r : ByteArray) (w : World) (hr1 : Kd.C (Kd.int .u8) w A1 l1.length l1) (hc1 : l1.length ≤ c1) (h : text_Key.f k a0 l1 = some r) (hH : Tb w) :
    Calls Tryz.prog 159 #[.int .i64 a0, .slice A1 l1.length c1] w fun e w' => e = .returned (.string r) ∧ Below w.heap.size w w' := by
  have HR1 := Aside0.mk hr1
  have HC1 := Aside0.mk hc1
  clear hr1 hc1
  have HB := Aside0.mk (Below.refl w.heap.size w)
  have HHd := Aside0.mk hH
  clear hH
  have H : ((text_Text.f k a0 l1).bind fun bt666 => (if bt666.2 = 0 then ((text_Fold.f bt666.1).bind fun t668 => (if 1 + t668.size ≤ 9223372036854775807 then (some ((⟨#[61]⟩ : ByteArray) ++ t668)) else (none))) else ((strconv_Itoa.f a0).bind fun t669 => (if 1 + t669.size ≤ 9223372036854775807 then (if ((⟨#[35]⟩ : ByteArray) ++ t669).size + 1 ≤ 9223372036854775807 then (if (((⟨#[35]⟩ : ByteArray) ++ t669) ++ (⟨#[58]⟩ : ByteArray)).size + (strOfNums l1).size ≤ 9223372036854775807 then (some ((((⟨#[35]⟩ : ByteArray) ++ t669) ++ (⟨#[58]⟩ : ByteArray)) ++ (strOfNums l1))) else (none)) else (none)) else (none))))) = some r := h
  clear h
  replace H := Option.bind_eq_some_iff.mp H
  obtain ⟨⟨t666, t667⟩, A30, H⟩ := H
  replace H : (if t667 = 0 then ((text_Fold.f t666).bind fun t668 => (if 1 + t668.size ≤ 9223372036854775807 then (some ((⟨#[61]⟩ : ByteArray) ++ t668)) else (none))) else ((strconv_Itoa.f a0).bind fun t669 => (if 1 + t669.size ≤ 9223372036854775807 then (if ((⟨#[35]⟩ : ByteArray) ++ t669).size + 1 ≤ 9223372036854775807 then (if (((⟨#[35]⟩ : ByteArray) ++ t669) ++ (⟨#[58]⟩ : ByteArray)).size + (strOfNums l1).size ≤ 9223372036854775807 then (some ((((⟨#[35]⟩ : ByteArray) ++ t669) ++ (⟨#[58]⟩ : ByteArray)) ++ (strOfNums l1))) else (none)) else (none)) else (none)))) = some r := H
  have A3 := Aside0.mk A30
  clear A30
  by_cases c4 : t667 = 0
  · rw [if_pos c4] at H
    have c4b0 : (t667 == 0) = true := beq_iff_eq.mpr c4
    have c4b1 : (t667 != 0) = false := bne_eq_false_iff_eq.mpr c4
    clear c4
    replace H := Option.bind_eq_some_iff.mp H
    obtain ⟨t668, A50, H⟩ := H
    replace H : (if 1 + t668.size ≤ 9223372036854775807 then (some ((⟨#[61]⟩ : ByteArray) ++ t668)) else (none)) = some r := H
    have A5 := Aside0.mk A50
    clear A50
    by_cases c6 : 1 + t668.size ≤ 9223372036854775807
    · rw [if_pos c6] at H
      have c6b0 := eq_true c6
      have c6b1 : decide (1 + t668.size ≤ 9223372036854775807) = true := decide_eq_true c6
      try have c6b2 : (9223372036854775807 < 1 + t668.size) = False := eq_false (Nat.not_lt.2 c6)
      obtain rfl := Option.some.inj H
      go_enter Tryz.func159, Tryz.ntmps159
      go_wp2_with (first | ((with_reducible refine gate_callee (f := 153) rfl ?_); refine goesL_ (some 10) rfl rfl Tryz.func153 (by kernel_rfl) rfl #[.int .i64 a0, .slice A1 l1.length c1] rfl (by (try simp only [List.map_toArray, List.map_cons, List.map_nil]); first | done | rfl | (simp only [List.length_drop, List.length_take]; rfl)) ?_; (with_reducible refine (text_Text.calls k a0 _ _ l1 t666 t667 _ ?side1 ?side2 A3.out (Tb.below HHd.out (by repeat (first | (with_reducible first | exact HB.out | apply below_alloc | apply pw_below_drewN | apply below_drew1) | exact HB.out)))).mono ?_); (case side1 => repeat (first | exact HR1.out | (with_reducible refine Kd.C_alloc ?_ _) | (with_reducible refine Kd.C_drewN ?_ _) | (with_reducible refine Kd.C_drew ?_))); (case side2 => exact HC1.out); rintro e w7 ⟨rfl, hb⟩; refine ⟨_, rfl, ?_⟩; have n0_ := Aside0.mk (below_step (by repeat (first | (with_reducible first | exact HB.out | apply below_alloc | apply pw_below_drewN | apply below_drew1) | exact HB.out)) hb); clear HB; have HB := n0_; clear n0_; (try clear hb); (try clear hb2); (try clear hk); (try clear hi)) | ((with_reducible refine gate_callee (f := 211) rfl ?_); refine goesL_ (some 23) rfl rfl Tryz.func211 (by kernel_rfl) rfl #[.string t666] rfl (by (try simp only [List.map_toArray, List.map_cons, List.map_nil]); first | done | rfl | (simp only [List.length_drop, List.length_take]; rfl)) ?_; (with_reducible refine (text_Fold.calls t666 t668 _ A5.out (Tb.below HHd.out (by repeat (first | (with_reducible first | exact HB.out | apply below_alloc | apply pw_below_drewN | apply below_drew1) | exact HB.out)))).mono ?_); rintro e w8 ⟨rfl, hb⟩; refine ⟨_, rfl, ?_⟩; have n0_ := Aside0.mk (below_step (by repeat (first | (with_reducible first | exact HB.out | apply below_alloc | apply pw_below_drewN | apply below_drew1) | exact HB.out)) hb); clear HB; have HB := n0_; clear n0_; (try clear hb); (try clear hb2); (try clear hk); (try clear hi)))
      go_ret
      exact ⟨by first | rfl | (simp [errW_none, errW_some] <;> rfl) | (simp [*, errW_none, errW_some] <;> rfl), by repeat (first | (with_reducible first | exact HB.out | apply below_alloc | apply pw_below_drewN | apply below_drew1) | exact HB.out)⟩
    · rw [if_neg c6] at H
      exact absurd H (by simp)
  · rw [if_neg c4] at H
    have c4b0 : (t667 == 0) = false := beq_eq_false_iff_ne.mpr c4
    have c4b1 : (t667 != 0) = true := bne_iff_ne.mpr c4
    replace H := Option.bind_eq_some_iff.mp H
    obtain ⟨t669, A90, H⟩ := H
    replace H : (if 1 + t669.size ≤ 9223372036854775807 then (if ((⟨#[35]⟩ : ByteArray) ++ t669).size + 1 ≤ 9223372036854775807 then (if (((⟨#[35]⟩ : ByteArray) ++ t669) ++ (⟨#[58]⟩ : ByteArray)).size + (strOfNums l1).size ≤ 9223372036854775807 then (some ((((⟨#[35]⟩ : ByteArray) ++ t669) ++ (⟨#[58]⟩ : ByteArray)) ++ (strOfNums l1))) else (none)) else (none)) else (none)) = some r := H
    have A9 := Aside0.mk A90
    clear A90
    by_cases c10 : 1 + t669.size ≤ 9223372036854775807
    · rw [if_pos c10] at H
      have c10b0 := eq_true c10
      have c10b1 : decide (1 + t669.size ≤ 9223372036854775807) = true := decide_eq_true c10
      try have c10b2 : (9223372036854775807 < 1 + t669.size) = False := eq_false (Nat.not_lt.2 c10)
      by_cases c11 : ((⟨#[35]⟩ : ByteArray) ++ t669).size + 1 ≤ 9223372036854775807
      · rw [if_pos c11] at H
        have c11b0 := eq_true c11
        have c11b1 : decide (((⟨#[35]⟩ : ByteArray) ++ t669).size + 1 ≤ 9223372036854775807) = true := decide_eq_true c11
        try have c11b2 : (9223372036854775807 < ((⟨#[35]⟩ : ByteArray) ++ t669).size + 1) = False := eq_false (Nat.not_lt.2 c11)
        by_cases c12 : (((⟨#[35]⟩ : ByteArray) ++ t669) ++ (⟨#[58]⟩ : ByteArray)).size + (strOfNums l1).size ≤ 9223372036854775807
        · rw [if_pos c12] at H
          have c12b0 := eq_true c12
          have c12b1 : decide ((((⟨#[35]⟩ : ByteArray) ++ t669) ++ (⟨#[58]⟩ : ByteArray)).size + (strOfNums l1).size ≤ 9223372036854775807) = true := decide_eq_true c12
          try have c12b2 : (9223372036854775807 < (((⟨#[35]⟩ : ByteArray) ++ t669) ++ (⟨#[58]⟩ : ByteArray)).size + (strOfNums l1).size) = False := eq_false (Nat.not_lt.2 c12)
          have z1 : ((⟨#[35]⟩ : ByteArray) ++ t669).size = 1 + t669.size := by rw [ByteArray.size_append]; rfl
          have z2 : (⟨#[58]⟩ : ByteArray).size = 1 := rfl
          have y1 : (9223372036854775807 < 1 + t669.size + 1) = False := eq_false (by rw [z1] at c11; omega)
          have y2 : (9223372036854775807 < 1 + t669.size + 1 + (strOfNums l1).size) = False := eq_false (by rw [ByteArray.size_append, z1, z2] at c12; omega)
          clear z1 z2
          obtain rfl := Option.some.inj H
          go_enter Tryz.func159, Tryz.ntmps159
          try go_wp2_with (first | ((with_reducible refine gate_callee (f := 153) rfl ?_); refine goesL_ (some 10) rfl rfl Tryz.func153 (by kernel_rfl) rfl #[.int .i64 a0, .slice A1 l1.length c1] rfl (by (try simp only [List.map_toArray, List.map_cons, List.map_nil]); first | done | rfl | (simp only [List.length_drop, List.length_take]; rfl)) ?_; (with_reducible refine (text_Text.calls k a0 _ _ l1 t666 t667 _ ?side1 ?side2 A3.out (Tb.below HHd.out (by repeat (first | (with_reducible first | exact HB.out | apply below_alloc | apply pw_below_drewN | apply below_drew1) | exact HB.out)))).mono ?_); (case side1 => repeat (first | exact HR1.out | (with_reducible refine Kd.C_alloc ?_ _) | (with_reducible refine Kd.C_drewN ?_ _) | (with_reducible refine Kd.C_drew ?_))); (case side2 => exact HC1.out); rintro e w13 ⟨rfl, hb⟩; refine ⟨_, rfl, ?_⟩; have n0_ := Aside0.mk (below_step (by repeat (first | (with_reducible first | exact HB.out | apply below_alloc | apply pw_below_drewN | apply below_drew1) | exact HB.out)) hb); clear HB; have HB := n0_; clear n0_; (try clear hb); (try clear hb2); (try clear hk); (try clear hi)))
          have n0_ := Aside0.mk (below_drew1 HB.out)
          clear HB
          have HB := n0_
          clear n0_
          refine start_ (n := 8) (S := fun w' => (Kd.int .u8).C w' A1 l1.length l1) (ds := []) #[false, false, false, false, false, false, false, false] (by kernel_rfl) rfl rfl (Kd.C_below HR1.out HB.out) (fun hHeld => ?_); refine with_tabW text_Key.tab3 text_Key.bits3 (fun HT_ HW_ => ?_)
          generalize w13.drew = w14 at HB hHeld ⊢
          refine pure_ (i := 0) (N := some 15) (v := ?_) (a' := ?_) #[true, false, false, false, false, false, false, false] rfl rfl (any_of HT_.out (by kernel_rfl)) (fun _ _ _ h => h) (Or.inl ⟨by rfl, ?_⟩) ?_ ?_; rotate_left; (intro w'; go_simp; with_reducible rfl); rotate_left; (simp only [Act.put, List.setIfInBounds_toArray, List.set_cons_zero, List.set_cons_succ, i64_w, i32_w]; rfl)
          refine pure_ (i := 4) (N := some 19) (v := ?_) (a' := ?_) #[true, false, false, false, true, false, false, false] rfl rfl (any_of HT_.out (by kernel_rfl)) (fun _ _ _ h => h) (Or.inl ⟨by rfl, ?_⟩) ?_ ?_; rotate_left; (intro w'; go_simp; with_reducible rfl); rotate_left; (simp only [Act.put, List.setIfInBounds_toArray, List.set_cons_zero, List.set_cons_succ, i64_w, i32_w]; rfl)
          refine take_ (i := 5) (N := some 20) (v := .string (strOfNums l1)) (a' := ?_) #[true, false, false, false, true, true, false, false] rfl rfl (take_ofW HT_.out HW_.out (by kernel_rfl)) (fun _ _ _ h => h) (Or.inl ⟨by rfl, ?_⟩) hHeld ?_ ?_
          · intro w' hw'
            have hcv := Kd.C_string (P := Tryz.prog) (A := A1) (c := c1) Tryz.underlying22 Tryz.underlying5 Tryz.underlying9 hw'
            go_simp
          rotate_left
          · simp only [Act.put, List.setIfInBounds_toArray, List.set_cons_zero, List.set_cons_succ, i64_w, i32_w]
            rfl
          refine one_ (i := 1) (N := some 16) #[true, true, false, false, true, true, false, false] rfl rfl (one_of HT_.out (by kernel_rfl)) (by decide) (fun K hK => ?_)
          refine goes_ Tryz.func160 (by kernel_rfl) rfl #[.int .i64 a0] (by rfl) rfl rfl (by (try simp only [List.map_toArray, List.map_cons, List.map_nil]); first | done | rfl | (simp only [List.length_drop, List.length_take]; rfl)) ?_
          with_reducible refine (strconv_Itoa.calls a0 t669 _ A9.out (Tb.below HHd.out (by repeat (first | (with_reducible first | exact HB.out | apply below_alloc | apply pw_below_drewN | apply below_drew1) | exact HB.out)))).mono ?_
          rintro e w15 ⟨rfl, hb⟩
          refine ⟨_, rfl, ?_⟩
          have n0_ := Aside0.mk (below_step (by repeat (first | (with_reducible first | exact HB.out | apply below_alloc | apply pw_below_drewN | apply below_drew1) | exact HB.out)) hb)
          clear HB
          have HB := n0_
          clear n0_
          (try clear hb)
          (try clear hb2)
          (try clear hk)
          (try clear hi)
          have hcv16 := Kd.C_string (P := Tryz.prog) (A := A1) (c := c1) Tryz.underlying22 Tryz.underlying5 Tryz.underlying9 (Kd.C_below HR1.out HB.out)
          refine hK.out _ _ (Kd.C_below HR1.out HB.out) (fun hHeld => ?_)
          clear hK K
          refine norm_ (a' := ?_) ?_ ?_; rotate_left; (show Act.put _ (some 16) _ = _; simp only [Act.put, List.setIfInBounds_toArray, List.set_cons_zero, List.set_cons_succ, i64_w, i32_w]; rfl)
          refine pure_ (i := 2) (N := some 17) (v := ?_) (a' := ?_) #[true, true, true, false, true, true, false, false] rfl rfl (any_of HT_.out (by kernel_rfl)) (fun _ _ _ h => h) (Or.inl ⟨by rfl, ?_⟩) ?_ ?_; rotate_left; (intro w'; go_simp; with_reducible rfl); rotate_left; (simp only [Act.put, List.setIfInBounds_toArray, List.set_cons_zero, List.set_cons_succ, i64_w, i32_w]; rfl)
          refine pure_ (i := 3) (N := some 18) (v := ?_) (a' := ?_) #[true, true, true, true, true, true, false, false] rfl rfl (any_of HT_.out (by kernel_rfl)) (fun _ _ _ h => h) (Or.inl ⟨by rfl, ?_⟩) ?_ ?_; rotate_left; (intro w'; go_simp; with_reducible rfl); rotate_left; (simp only [Act.put, List.setIfInBounds_toArray, List.set_cons_zero, List.set_cons_succ, i64_w, i32_w]; rfl)
          refine pure_ (i := 6) (N := some 21) (v := ?_) (a' := ?_) #[true, true, true, true, true, true, true, false] rfl rfl (any_of HT_.out (by kernel_rfl)) (fun _ _ _ h => h) (Or.inl ⟨by rfl, ?_⟩) ?_ ?_; rotate_left; (intro w'; go_simp; with_reducible rfl); rotate_left; (simp only [Act.put, List.setIfInBounds_toArray, List.set_cons_zero, List.set_cons_succ, i64_w, i32_w]; rfl)
          refine pure_ (i := 7) (N := some 4) (v := ?_) (a' := ?_) #[true, true, true, true, true, true, true, true] rfl rfl (any_of HT_.out (by kernel_rfl)) (fun _ _ _ h => h) (Or.inl ⟨by rfl, ?_⟩) ?_ ?_; rotate_left; (intro w'; go_simp; with_reducible rfl); rotate_left; (simp only [Act.put, List.setIfInBounds_toArray, List.set_cons_zero, List.set_cons_succ, i64_w, i32_w]; rfl)
          refine done_ (done_of HT_.out (by kernel_rfl)) ?_
          try go_wp2
          go_ret
          exact ⟨by first | rfl | (simp [errW_none, errW_some] <;> rfl) | (simp [*, errW_none, errW_some] <;> rfl), by repeat (first | (with_reducible first | exact HB.out | apply below_alloc | apply pw_below_drewN | apply below_drew1) | exact HB.out)⟩
        · rw [if_neg c12] at H
          exact absurd H (by simp)
      · rw [if_neg c11] at H
        exact absurd H (by simp)
    · rw [if_neg c10] at H
      exact absurd H (by simp)
end Go.Proofs.YtkioddjjfifadaaGreatDoor.P
namespace Go.Proofs.YtkioddjjfifadaaGreatDoor.P
open Go.RowKit Go.Proofs.YtkioddjjfifadaaGreatDoorW.PrintWords Go.Proofs.YtkioddjjfifadaaGreatDoorW.PrintLast Go.Proofs.YtkioddjjfifadaaGreatDoorW.PrintMore
theorem info9 : (Tryz.prog.info? 9).map (fun i => (i.zero, i.size, i.bytes)) = some (some (.string ⟨#[]⟩), 1, 16) := by kernel_rfl
def sortB (xs : List ByteArray) : List ByteArray := ((xs.map fun b => b.data.toList).mergeSort fun x y => decide (x ≤ y)).map fun l => ⟨l.toArray⟩
theorem sortB_len (xs : List ByteArray) : (sortB xs).length = xs.length := by simp [sortB]
def slices_Sort.f (xs : List ByteArray) : Option (List ByteArray) := if xs.length < 4611686018427387904 then some (sortB xs) else none
theorem sort_own (w0 : World) (v : Value) (xs r : List ByteArray) (w : World) (hR : Kd.string.R 9 w w0.heap.size (fun _ => True) v xs) (h0 : Below w0.heap.size w0 w) (h : slices_Sort.f xs = some r) :
    Calls Tryz.prog 161 #[v] w fun e w' => e = .returned (.tuple #[]) ∧ Kd.string.R 9 w' w0.heap.size (fun _ => True) v r ∧ Below w0.heap.size w0 w' := by
  unfold slices_Sort.f at h
  split at h
  case isFalse => cases h
  case isTrue hl =>
  obtain rfl := Option.some.inj h
  have ho := Kd.own_of_R hR
  rcases ho.2 with ⟨rfl, hn⟩ | ⟨g, cap, cur, rfl, hg, hh, hnc, hcm, hsz, htk⟩
  · have hx : xs = [] := List.eq_nil_of_length_eq_zero hn
    subst hx
    refine (Tryz.slices_Sort_string_none none 0 w).mono ?_
    rintro e w' ⟨rfl, rfl⟩
    have hnil : sortB [] = [] := List.eq_nil_of_length_eq_zero (sortB_len [])
    rw [hnil]
    exact ⟨rfl, hR, h0⟩
  · have hcur : ∀ j, j < xs.length → cur[j]? = some (Value.string (xs[j]!)) := fun j hj => by
      have h1 : (cur.toList.take (xs.length * 1))[j]? = (encs Value.string xs)[j]? := by rw [htk]
      rw [List.getElem?_take_of_lt (by omega)] at h1
      rw [← Array.getElem?_toList, h1]
      simp [encs, List.getElem?_eq_getElem hj, getElem!_pos xs j hj]
    have hlt : g < w.heap.size := blk_lt hh
    have hH : Go.Sort.Holds Go.Proofs.encStr w g 0 (xs.map fun b => b.data.toList).toArray := fun j hj => by
      have hj' : j < xs.length := by simpa using hj
      refine ⟨?_, blk_frozen hh _⟩
      rw [Nat.zero_add]
      refine (blk_cell hh j).trans ?_
      rw [hcur j hj']
      simp [hj']
    refine (show Calls Tryz.prog 161 #[.slice (some ⟨g, 0, none⟩) xs.length cap] w _ from ?_)
    have hc := Tryz.slices_Sort_string g 0 cap (xs.map fun b => b.data.toList) w hH hlt (by simpa using hl)
    rw [List.length_map] at hc
    refine hc.mono ?_
    rintro e w' ⟨rfl, n, os, rfl⟩
    generalize hss : (((xs.map fun b => b.data.toList).mergeSort fun x y => decide (x ≤ y)) : List (List UInt8)) = ss
    have hsl : ss.length = xs.length := by rw [← hss]; simp
    have hsb : sortB xs = ss.map fun l => ⟨l.toArray⟩ := by rw [← hss]; rfl
    rw [hsb]
    have hgr : w.grownBy (Go.Sort.grow (Go.Sort.putRow Go.Proofs.encStr (Go.Sort.ahead w n) g 0 ss.toArray) os) (some g) := by
      refine ⟨rfl, rfl, rfl, ?_, fun k hk hne => ?_⟩
      · show w.heap.size ≤ ((Go.Sort.putRow Go.Proofs.encStr (Go.Sort.ahead w n) g 0 ss.toArray).heap ++ os).size
        rw [Array.size_append, Go.Sort.size_putRow]
        exact Nat.le_add_right _ _
      · show ((Go.Sort.putRow Go.Proofs.encStr (Go.Sort.ahead w n) g 0 ss.toArray).heap ++ os)[k]? = _
        rw [Array.getElem?_append_left (by rw [Go.Sort.size_putRow]; exact hk)]
        show (w.heap.modify g _)[k]? = _
        rw [Array.getElem?_modify, if_neg (fun e => hne (by rw [e]))]
    refine ⟨rfl, Kd.R_of_own ⟨by simp [encs], Or.inr ⟨g, cap, Go.Sort.putCells Go.Proofs.encStr 0 ss.toArray cur, by rw [List.length_map, hsl], hg, ?_, by rw [List.length_map, hsl]; exact hnc, hcm, by simp [Go.Sort.putCells]; simpa using hsz, ?_⟩⟩ (fun _ _ => trivial), pw_below_grown h0 _ h0.size hgr (fun k hk => by injection hk with hk; omega)⟩
    · show ((Go.Sort.putRow Go.Proofs.encStr (Go.Sort.ahead w n) g 0 ss.toArray).heap ++ os)[g]? = _
      rw [Array.getElem?_append_left (by rw [Go.Sort.size_putRow]; exact hlt)]
      show (w.heap.modify g _)[g]? = _
      rw [Array.getElem?_modify, if_pos rfl, hh]
      rfl
    · rw [List.length_map, Nat.mul_one]
      apply List.ext_getElem?
      intro j
      by_cases hj : j < ss.length
      · rw [List.getElem?_take_of_lt hj, Array.getElem?_toList]
        have hcl : j < cur.size := by omega
        simp [Go.Sort.putCells, hcl, hj, encs]
      · rw [List.getElem?_eq_none (by rw [List.length_take]; omega), List.getElem?_eq_none (by simp [encs]; omega)]
def strings_Join.f (xs : List ByteArray) (sep : ByteArray) : Option ByteArray :=
  if xs.length ≤ 140737488355328 ∧ (Lib.join (xs.map (·.data.toList)) sep.data.toList).length ≤ 140737488355328 then some ⟨(Lib.join (xs.map (·.data.toList)) sep.data.toList).toArray⟩ else none
theorem strings_Join.calls (A0 : Option Addr) (c0 : Nat) (l0 : List ByteArray) (a1 : ByteArray) (r : ByteArray) (w : World) (hr0 : Kd.C Kd.string w A0 l0.length l0) (hc0 : l0.length ≤ c0) (h : strings_Join.f l0 a1 = some r) :
    Calls Tryz.prog 88 #[.slice A0 l0.length c0, .string a1] w fun e w' => e = .returned (.string r) ∧ Below w.heap.size w w' := by
  unfold strings_Join.f at h
  split at h
  case isFalse => cases h
  case isTrue hl =>
  obtain rfl := Option.some.inj h
  cases l0 with
  | nil =>
    refine (Tryz.strings_Join_none A0 c0 a1 w).mono ?_
    rintro e w' ⟨rfl, rfl⟩
    exact ⟨rfl, Below.refl _ _⟩
  | cons x xs =>
    obtain ⟨ad, rfl, hcell⟩ := hr0.2.2 (by simp)
    have hc1 : ∀ (j : Nat) y, (x :: xs)[j]? = some y → w.cell? (ad.add j) = some (.string y) := fun j y hy => by
      obtain ⟨c, _, hK, hu⟩ := hcell j y hy
      have hK' : c = [Value.string y] := hK
      subst hK'
      have := hu 0 _ rfl
      simpa [Kd.string, Kd.scalar] using this
    obtain ⟨b, o, spot⟩ := ad
    have h0 := hc1 0 x rfl
    have hspot : spot = none := by simpa [Addr.add] using World.cell?_spot h0
    subst hspot
    refine (Tryz.strings_Join b o c0 (x :: xs) a1 w (fun j y hy => by have := hc1 j y hy; rwa [Go.Addr.add_mid] at this) (World.block_lt_of_cell? w _ h0) hl.1 hc0 hl.2).mono ?_
    rintro e w' ⟨rfl, hb⟩
    exact ⟨rfl, hb⟩
end Go.Proofs.YtkioddjjfifadaaGreatDoor.P
namespace Go.Proofs.YtkioddjjfifadaaGreatDoor.P
open Go.RowKit Go.Proofs.YtkioddjjfifadaaGreatDoorW.PrintWords Go.Proofs.YtkioddjjfifadaaGreatDoorW.PrintLast Go.Proofs.YtkioddjjfifadaaGreatDoorW.PrintMore
attribute [local go_sem] max2_int min2_int max_two min_two max_three min_three max_four min_four   -- for this text's walks alone
set_option linter.unusedVariables false
set_option linter.unusedSimpArgs false
def name_mark.l0 : Nat → List ByteArray → List (S64) → Int → Int → Option (ByteArray)
  | 0, _, _, _, _ => none
  | k + 1, x3, x7, x8, x9 => if x9 < x8 then (if 0 ≤ x9 then (if x9 < (x7.length : Int) then ((text_Key.f k ((rd_T64 x7 x9).f1) ((rd_T64 x7 x9).f2)).bind fun t788 => (if ((rd_T64 x7 x9).f0).size + 1 ≤ 9223372036854775807 then ((strconv_Itoa.f (t788.size : Int)).bind fun t789 => (if (((rd_T64 x7 x9).f0) ++ (⟨#[61]⟩ : ByteArray)).size + t789.size ≤ 9223372036854775807 then (if ((((rd_T64 x7 x9).f0) ++ (⟨#[61]⟩ : ByteArray)) ++ t789).size + 1 ≤ 9223372036854775807 then (if (((((rd_T64 x7 x9).f0) ++ (⟨#[61]⟩ : ByteArray)) ++ t789) ++ (⟨#[58]⟩ : ByteArray)).size + t788.size ≤ 9223372036854775807 then (if ((((((rd_T64 x7 x9).f0) ++ (⟨#[61]⟩ : ByteArray)) ++ t789) ++ (⟨#[58]⟩ : ByteArray)) ++ t788).size + 1 ≤ 9223372036854775807 then (if x3.length < 8796093022208 then (name_mark.l0 k (x3 ++ [((((((rd_T64 x7 x9).f0) ++ (⟨#[61]⟩ : ByteArray)) ++ t789) ++ (⟨#[58]⟩ : ByteArray)) ++ t788) ++ (⟨#[59]⟩ : ByteArray)]) x7 x8 (wrap64 (x9 + 1))) else (none)) else (none)) else (none)) else (none)) else (none))) else (none))) else (none)) else (none)) else ((slices_Sort.f x3).bind fun y3 => ((strings_Join.f y3 (⟨#[]⟩ : ByteArray)).bind fun t793 => (if t793.size + 1 ≤ 9223372036854775807 then (some (t793 ++ (⟨#[47]⟩ : ByteArray))) else (none))))
def name_mark.f (k : Nat) (l0 : List (S64)) : Option (ByteArray) := name_mark.l0 k ([] : List ByteArray) l0 (l0.length : Int) 0
def name_mark.T6 : Bool × List (List Nat × List Nat) := (true, [([], []), ([], []), ([1], [1]), ([2], [2]), ([], []), ([4], [4]), ([5], [5]), ([3, 6], [3, 6]), ([7], [7]), ([], []), ([8, 9], [8, 9]), ([10], [10]), ([11], [11]), ([0, 12, 6], [0, 12]), ([13, 13, 0, 1, 2, 3, 4, 5, 6, 7, 8, 9, 10, 11, 12, 13], [0, 13])])
def name_mark.B6 : List Nat := [0, 0, 2, 6, 0, 16, 48, 126, 254, 0, 1022, 2046, 4094, 8191, 16383]
theorem name_mark.tab6 : rtab .any (opsOf Tryz.f93 6) = name_mark.T6 := by kernel_rfl
theorem name_mark.bits6 : waitsOk name_mark.T6.2 name_mark.B6 = true := by kernel_rfl
set_option maxHeartbeats 8000000 in
set_option maxRecDepth 100000 in
theorem name_mark.calls (k : Nat) (A0 : Option Addr) (c0 : Nat) (l0 : List (S64)) (r : ByteArray) (w : World) (hr0 : Kd.C k64 w A0 l0.length l0) (hc0 : l0.length ≤ c0) (h : name_mark.f k l0 = some r) (hH : Tb w) :
    Calls Tryz.prog 93 #[.slice A0 l0.length c0] w fun e w' => e = .returned (.string r) ∧ Below w.heap.size w w' := by
  have hu64 := Tryz.underlying64
  have HR0 := Aside0.mk hr0
  have HC0 := Aside0.mk hc0
  clear hr0 hc0
  have HB := Aside0.mk (Below.refl w.heap.size w)
  have HHd := Aside0.mk hH
  clear hH
  have H : (name_mark.l0 k ([] : List ByteArray) l0 (l0.length : Int) 0) = some r := h
  clear h
  have H' := Aside0.mk H
  clear H
  go_enter Tryz.func93, Tryz.ntmps93
  go_wp2
  go_loopg [3, 9] k (fun kq v3 v9 w' => ∃ (x3_1 : List ByteArray) (x9_1 : Int), v9 = .int .i64 x9_1 ∧ Aside0 (name_mark.l0 kq x3_1 l0 (l0.length : Int) x9_1 = some r) ∧ Aside0 (kq ≤ k) ∧ Aside0 (Kd.R Kd.string 9 w' w.heap.size (fun _ => True) v3 x3_1) ∧ Aside0 (Below w.heap.size w w'))
  case atStart => exact ⟨(([] : List ByteArray)), (0), (by first | rfl | (simp; done) | (simp [*]; done)), H', ⟨Nat.le_refl _⟩, ⟨by first | exact Kd.R_nil _ _ _ _ _ | exact Kd.N_nil _ _ _ _ _ | exact Kd.V_nil _ _ _ _ _ | exact Kd.Q_nil _ _ _ _ _ | exact Kd.S_nil _ _ _ _ _⟩, ⟨by repeat (first | (with_reducible first | exact HB.out | apply below_alloc | apply pw_below_drewN | apply below_drew1) | exact HB.out)⟩⟩
  case round =>
    clear H'
    obtain ⟨x3_1, x9_1, rfl, HA, HK1, HO_3, HB⟩ := hrel
    cases gk with
    | zero => exact absurd HA.out (by simp [name_mark.l0])
    | succ k1 =>
      have H := HA.out
      clear HA
      simp only [name_mark.l0] at H
      by_cases c2 : x9_1 < (l0.length : Int)
      · rw [if_pos c2] at H
        have c2b0 : decide (x9_1 < (l0.length : Int)) = true := decide_eq_true c2
        clear c2
        by_cases c3 : 0 ≤ x9_1
        · rw [if_pos c3] at H
          have c3b0 : decide (0 ≤ x9_1) = true := decide_eq_true c3
          clear c3
          by_cases c4 : x9_1 < (l0.length : Int)
          · rw [if_pos c4] at H
            have c4b0 : decide (x9_1 < (l0.length : Int)) = true := decide_eq_true c4
            clear c4
            replace H := Option.bind_eq_some_iff.mp H
            obtain ⟨t788, A50, H⟩ := H
            replace H : (if ((rd_T64 l0 x9_1).f0).size + 1 ≤ 9223372036854775807 then ((strconv_Itoa.f (t788.size : Int)).bind fun t789 => (if (((rd_T64 l0 x9_1).f0) ++ (⟨#[61]⟩ : ByteArray)).size + t789.size ≤ 9223372036854775807 then (if ((((rd_T64 l0 x9_1).f0) ++ (⟨#[61]⟩ : ByteArray)) ++ t789).size + 1 ≤ 9223372036854775807 then (if (((((rd_T64 l0 x9_1).f0) ++ (⟨#[61]⟩ : ByteArray)) ++ t789) ++ (⟨#[58]⟩ : ByteArray)).size + t788.size ≤ 9223372036854775807 then (if ((((((rd_T64 l0 x9_1).f0) ++ (⟨#[61]⟩ : ByteArray)) ++ t789) ++ (⟨#[58]⟩ : ByteArray)) ++ t788).size + 1 ≤ 9223372036854775807 then (if x3_1.length < 8796093022208 then (name_mark.l0 k1 (x3_1 ++ [((((((rd_T64 l0 x9_1).f0) ++ (⟨#[61]⟩ : ByteArray)) ++ t789) ++ (⟨#[58]⟩ : ByteArray)) ++ t788) ++ (⟨#[59]⟩ : ByteArray)]) l0 (l0.length : Int) (wrap64 (x9_1 + 1))) else (none)) else (none)) else (none)) else (none)) else (none))) else (none)) = some r := H
            have A5 := Aside0.mk A50
            clear A50
            by_cases c6 : ((rd_T64 l0 x9_1).f0).size + 1 ≤ 9223372036854775807
            · rw [if_pos c6] at H
              have c6b0 := eq_true c6
              have c6b1 : decide (((rd_T64 l0 x9_1).f0).size + 1 ≤ 9223372036854775807) = true := decide_eq_true c6
              try have c6b2 : (9223372036854775807 < ((rd_T64 l0 x9_1).f0).size + 1) = False := eq_false (Nat.not_lt.2 c6)
              replace H := Option.bind_eq_some_iff.mp H
              obtain ⟨t789, A70, H⟩ := H
              replace H : (if (((rd_T64 l0 x9_1).f0) ++ (⟨#[61]⟩ : ByteArray)).size + t789.size ≤ 9223372036854775807 then (if ((((rd_T64 l0 x9_1).f0) ++ (⟨#[61]⟩ : ByteArray)) ++ t789).size + 1 ≤ 9223372036854775807 then (if (((((rd_T64 l0 x9_1).f0) ++ (⟨#[61]⟩ : ByteArray)) ++ t789) ++ (⟨#[58]⟩ : ByteArray)).size + t788.size ≤ 9223372036854775807 then (if ((((((rd_T64 l0 x9_1).f0) ++ (⟨#[61]⟩ : ByteArray)) ++ t789) ++ (⟨#[58]⟩ : ByteArray)) ++ t788).size + 1 ≤ 9223372036854775807 then (if x3_1.length < 8796093022208 then (name_mark.l0 k1 (x3_1 ++ [((((((rd_T64 l0 x9_1).f0) ++ (⟨#[61]⟩ : ByteArray)) ++ t789) ++ (⟨#[58]⟩ : ByteArray)) ++ t788) ++ (⟨#[59]⟩ : ByteArray)]) l0 (l0.length : Int) (wrap64 (x9_1 + 1))) else (none)) else (none)) else (none)) else (none)) else (none)) = some r := H
              have A7 := Aside0.mk A70
              clear A70
              by_cases c8 : (((rd_T64 l0 x9_1).f0) ++ (⟨#[61]⟩ : ByteArray)).size + t789.size ≤ 9223372036854775807
              · rw [if_pos c8] at H
                have c8b0 := eq_true c8
                have c8b1 : decide ((((rd_T64 l0 x9_1).f0) ++ (⟨#[61]⟩ : ByteArray)).size + t789.size ≤ 9223372036854775807) = true := decide_eq_true c8
                try have c8b2 : (9223372036854775807 < (((rd_T64 l0 x9_1).f0) ++ (⟨#[61]⟩ : ByteArray)).size + t789.size) = False := eq_false (Nat.not_lt.2 c8)
                by_cases c9 : ((((rd_T64 l0 x9_1).f0) ++ (⟨#[61]⟩ : ByteArray)) ++ t789).size + 1 ≤ 9223372036854775807
                · rw [if_pos c9] at H
                  have c9b0 := eq_true c9
                  have c9b1 : decide (((((rd_T64 l0 x9_1).f0) ++ (⟨#[61]⟩ : ByteArray)) ++ t789).size + 1 ≤ 9223372036854775807) = true := decide_eq_true c9
                  try have c9b2 : (9223372036854775807 < ((((rd_T64 l0 x9_1).f0) ++ (⟨#[61]⟩ : ByteArray)) ++ t789).size + 1) = False := eq_false (Nat.not_lt.2 c9)
                  by_cases c10 : (((((rd_T64 l0 x9_1).f0) ++ (⟨#[61]⟩ : ByteArray)) ++ t789) ++ (⟨#[58]⟩ : ByteArray)).size + t788.size ≤ 9223372036854775807
                  · rw [if_pos c10] at H
                    have c10b0 := eq_true c10
                    have c10b1 : decide ((((((rd_T64 l0 x9_1).f0) ++ (⟨#[61]⟩ : ByteArray)) ++ t789) ++ (⟨#[58]⟩ : ByteArray)).size + t788.size ≤ 9223372036854775807) = true := decide_eq_true c10
                    try have c10b2 : (9223372036854775807 < (((((rd_T64 l0 x9_1).f0) ++ (⟨#[61]⟩ : ByteArray)) ++ t789) ++ (⟨#[58]⟩ : ByteArray)).size + t788.size) = False := eq_false (Nat.not_lt.2 c10)
                    by_cases c11 : ((((((rd_T64 l0 x9_1).f0) ++ (⟨#[61]⟩ : ByteArray)) ++ t789) ++ (⟨#[58]⟩ : ByteArray)) ++ t788).size + 1 ≤ 9223372036854775807
                    · rw [if_pos c11] at H
                      have c11b0 := eq_true c11
                      have c11b1 : decide (((((((rd_T64 l0 x9_1).f0) ++ (⟨#[61]⟩ : ByteArray)) ++ t789) ++ (⟨#[58]⟩ : ByteArray)) ++ t788).size + 1 ≤ 9223372036854775807) = true := decide_eq_true c11
                      try have c11b2 : (9223372036854775807 < ((((((rd_T64 l0 x9_1).f0) ++ (⟨#[61]⟩ : ByteArray)) ++ t789) ++ (⟨#[58]⟩ : ByteArray)) ++ t788).size + 1) = False := eq_false (Nat.not_lt.2 c11)
                      by_cases c12 : x3_1.length < 8796093022208
                      · rw [if_pos c12] at H
                        have LMc12 := Aside0.mk c12
                        clear c12
                        obtain ⟨y790, hy790⟩ : ∃ y_ : List ByteArray, y_ = (x3_1 ++ [((((((rd_T64 l0 x9_1).f0) ++ (⟨#[61]⟩ : ByteArray)) ++ t789) ++ (⟨#[58]⟩ : ByteArray)) ++ t788) ++ (⟨#[59]⟩ : ByteArray)]) := ⟨_, rfl⟩
                        replace H : (name_mark.l0 k1 y790 l0 (l0.length : Int) (wrap64 (x9_1 + 1))) = some r := by first | (rw [hy790]; with_reducible exact H) | (have H2_ := (Option.bind_some _ _).symm.trans H; rw [hy790]; with_reducible exact H2_) | (have H2_ := (Option.bind_some _ _).symm.trans H; with_reducible exact H2_) | with_reducible exact H | (rw [hy790]; exact H) | exact H
                        have Ny790 := Aside0.mk hy790
                        clear hy790
                        have H' := Aside0.mk H
                        clear H
                        have p786 : 0 ≤ (x9_1 : Int) := of_decide_eq_true (by first | (with_reducible assumption) | assumption)
                        have q786 : x9_1 < (l0.length : Int) := of_decide_eq_true (by first | (with_reducible assumption) | assumption)
                        obtain ⟨ad786, A786_2, c786_2, e786, hx786_0, hx786_1, hx786_2, hl786_2, hi786_2⟩ := at_T64 HR0.out x9_1 p786 q786
                        cases e786
                        replace hx786_0 := (HB.out.cell (World.block_lt_of_cell? w _ hx786_0)).trans hx786_0
                        replace hx786_1 := (HB.out.cell (World.block_lt_of_cell? w _ hx786_1)).trans hx786_1
                        replace hx786_2 := (HB.out.cell (World.block_lt_of_cell? w _ hx786_2)).trans hx786_2
                        have HR786_2 := Aside0.mk hi786_2
                        have HC786_2 := Aside0.mk hl786_2
                        clear hi786_2 hl786_2
                        have ZZ61 : (⟨#[61]⟩ : ByteArray).size = 1 := rfl
                        have ZZ58 : (⟨#[58]⟩ : ByteArray).size = 1 := rfl
                        have ZZ59 : (⟨#[59]⟩ : ByteArray).size = 1 := rfl
                        have YY1 : (9223372036854775807 < ((rd_T64 l0 x9_1).f0).size + 1 + t789.size) = False := eq_false (by have h_ := c8; simp only [ByteArray.size_append, ZZ61, ZZ58, ZZ59] at h_; omega)
                        have YY2 : (9223372036854775807 < ((rd_T64 l0 x9_1).f0).size + 1 + t789.size + 1) = False := eq_false (by have h_ := c9; simp only [ByteArray.size_append, ZZ61, ZZ58, ZZ59] at h_; omega)
                        have YY3 : (9223372036854775807 < ((rd_T64 l0 x9_1).f0).size + 1 + t789.size + 1 + t788.size) = False := eq_false (by have h_ := c10; simp only [ByteArray.size_append, ZZ61, ZZ58, ZZ59] at h_; omega)
                        have YY4 : (9223372036854775807 < ((rd_T64 l0 x9_1).f0).size + 1 + t789.size + 1 + t788.size + 1) = False := eq_false (by have h_ := c11; simp only [ByteArray.size_append, ZZ61, ZZ58, ZZ59] at h_; omega)
                        replace p786 := eq_true p786
                        replace q786 := eq_true q786
                        try go_wp2_with (first | ((with_reducible refine gate_dst (N := 5) rfl ?_); refine box_event ?hg (N := 5) ?hd (cs := #[.string (⟨#[]⟩ : ByteArray), .int .i64 0, .slice none 0 0]) (t := 64) ?hr ?_; (case hd => rfl); (case hg => rfl); (case hr => first | (go_simp; done) | (go_simp; rfl)); intro gb787 hg w13 hbox hb; have n0_ := Aside0.mk (Kd.R_below (by (with_reducible repeat (first | apply Kd.R_alloc | apply Kd.R_drewN | apply Kd.R_drew)); exact HO_3.out) hb); have n1_ := Aside0.mk (below_step (by repeat (first | (with_reducible first | exact HB.out | apply below_alloc | apply pw_below_drewN | apply below_drew1) | exact HB.out)) hb); have n2_ := Aside0.mk (hbox); have n3_ := Aside0.mk ((by rw [hg]; exact (below_size (by repeat (first | (with_reducible first | exact HB.out | apply below_alloc | apply pw_below_drewN | apply below_drew1) | exact HB.out))) : w.heap.size ≤ gb787)); have n4_ := Aside0.mk ((by rw [hg]; exact (below_size (by repeat (first | (with_reducible first | exact HB.out | apply below_alloc | apply pw_below_drewN | apply below_drew1) | exact HB.out))) : w.heap.size ≤ gb787)); clear HO_3; clear HB; have HO_3 := n0_; have HB := n1_; have BK787 := n2_; have GW787 := n3_; have GE787 := n4_; clear n0_ n1_ n2_ n3_ n4_; clear hb hbox hg; have hcz14_0 : w13.cell? ⟨gb787, 0, none⟩ = some (.string (⟨#[]⟩ : ByteArray)) := (blk_cell BK787.out 0).trans rfl; have hcz14_1 : w13.cell? ⟨gb787, 1, none⟩ = some (.int .i64 0) := (blk_cell BK787.out 1).trans rfl; have hcz14_2 : w13.cell? ⟨gb787, 2, none⟩ = some (.slice none 0 0) := (blk_cell BK787.out 2).trans rfl; have hfz14_0 := blk_frozen BK787.out 0; have hfz14_1 := blk_frozen BK787.out 1; have hfz14_2 := blk_frozen BK787.out 2) | ((with_reducible refine gate_callee (f := 159) rfl ?_); refine goesL_ (some 17) rfl rfl Tryz.func159 (by kernel_rfl) rfl #[.int .i64 ((rd_T64 l0 x9_1).f1), .slice A786_2 ((rd_T64 l0 x9_1).f2).length c786_2] rfl (by (try simp only [List.map_toArray, List.map_cons, List.map_nil]); first | done | rfl | (simp only [List.length_drop, List.length_take]; rfl)) ?_; (with_reducible refine (text_Key.calls k1 ((rd_T64 l0 x9_1).f1) _ _ ((rd_T64 l0 x9_1).f2) t788 _ ?side1 ?side2 A5.out (Tb.below HHd.out (by repeat (first | (with_reducible first | exact HB.out | apply below_alloc | apply pw_below_drewN | apply below_drew1 | refine below_set ?_ GE787.out) | exact HB.out)))).mono ?_); (case side1 => exact Kd.C_below HR786_2.out (by repeat (first | (with_reducible first | exact HB.out | apply below_alloc | apply pw_below_drewN | apply below_drew1 | refine below_set ?_ GE787.out) | exact HB.out))); (case side2 => exact HC786_2.out); rintro e w15 ⟨rfl, hb⟩; refine ⟨_, rfl, ?_⟩; have n0_ := Aside0.mk (Kd.R_below (by (with_reducible repeat (first | apply Kd.R_alloc | apply Kd.R_drewN | apply Kd.R_drew)); exact (Kd.R_mono (Kd.R_far (p := ⟨gb787, 2, none⟩) (Kd.R_far (p := ⟨gb787, 1, none⟩) (Kd.R_far (p := ⟨gb787, 0, none⟩) (Kd.R_types HO_3.out BK787.out (by decide)) (fun _ hk => hk.2) (.string ((rd_T64 l0 x9_1).f0))) (fun _ hk => hk.2) (.int .i64 ((rd_T64 l0 x9_1).f1))) (fun _ hk => hk.2) (.slice A786_2 ((rd_T64 l0 x9_1).f2).length c786_2)) (fun _ h_ => h_.1))) hb); have n1_ := Aside0.mk (blk_below (g := gb787) (o := .cells #[.string ((rd_T64 l0 x9_1).f0), .int .i64 ((rd_T64 l0 x9_1).f1), .slice A786_2 ((rd_T64 l0 x9_1).f2).length c786_2] 64 (0, 0)) (by (with_reducible repeat (first | refine blk_drewN ?_ _ | refine blk_drew ?_ | refine blk_alloc ?_ _)); refine blk_put (cs := #[.string ((rd_T64 l0 x9_1).f0), .int .i64 ((rd_T64 l0 x9_1).f1), .slice none 0 0]) ?_ 2 _ rfl; (with_reducible repeat (first | refine blk_drewN ?_ _ | refine blk_drew ?_ | refine blk_alloc ?_ _)); refine blk_put (cs := #[.string ((rd_T64 l0 x9_1).f0), .int .i64 0, .slice none 0 0]) ?_ 1 _ rfl; (with_reducible repeat (first | refine blk_drewN ?_ _ | refine blk_drew ?_ | refine blk_alloc ?_ _)); refine blk_put (cs := #[.string (⟨#[]⟩ : ByteArray), .int .i64 0, .slice none 0 0]) ?_ 0 _ rfl; (with_reducible repeat (first | refine blk_drewN ?_ _ | refine blk_drew ?_ | refine blk_alloc ?_ _)); exact BK787.out) hb); have n2_ := Aside0.mk (below_step (by repeat (first | (with_reducible first | exact HB.out | apply below_alloc | apply pw_below_drewN | apply below_drew1 | refine below_set ?_ GE787.out) | exact HB.out)) hb); clear HO_3; clear BK787; clear HB; have HO_3 := n0_; have BK787 := n1_; have HB := n2_; clear n0_ n1_ n2_; (try clear hb); (try clear hb2); (try clear hk); (try clear hi)))
                        have n0_ := Aside0.mk (Kd.R_drew HO_3.out)
                        have n1_ := Aside0.mk (blk_drew BK787.out)
                        have n2_ := Aside0.mk (below_drew1 HB.out)
                        clear HO_3
                        clear BK787
                        clear HB
                        have HO_3 := n0_
                        have BK787 := n1_
                        have HB := n2_
                        clear n0_ n1_ n2_
                        refine start_ (n := 15) (S := fun w' => w'.cell? ⟨gb787, 0, none⟩ = some (.string ((rd_T64 l0 x9_1).f0)) ∧ w'.cell? ⟨gb787, 1, none⟩ = some (.int .i64 ((rd_T64 l0 x9_1).f1)) ∧ w'.cell? ⟨gb787, 2, none⟩ = some (.slice A786_2 ((rd_T64 l0 x9_1).f2).length c786_2)) (ds := []) #[false, false, false, false, false, false, false, false, false, false, false, false, false, false, false] (by kernel_rfl) rfl rfl ⟨(blk_cell BK787.out 0).trans rfl, (blk_cell BK787.out 1).trans rfl, (blk_cell BK787.out 2).trans rfl⟩ (fun hHeld => ?_); refine with_tabW name_mark.tab6 name_mark.bits6 (fun HT_ HW_ => ?_)
                        generalize w15.drew = w16 at HO_3 BK787 HB hHeld ⊢
                        refine pure_ (i := 0) (N := some 18) (v := ?_) (a' := ?_) #[true, false, false, false, false, false, false, false, false, false, false, false, false, false, false] rfl rfl (any_of HT_.out (by kernel_rfl)) (fun _ _ _ h => h) (Or.inl ⟨by rfl, ?_⟩) ?_ ?_; rotate_left; (intro w'; go_simp; with_reducible rfl); rotate_left; (simp only [Act.put, List.setIfInBounds_toArray, List.set_cons_zero, List.set_cons_succ, i64_w, i32_w]; rfl)
                        refine pure_ (i := 1) (N := some 19) (v := ?_) (a' := ?_) #[true, true, false, false, false, false, false, false, false, false, false, false, false, false, false] rfl rfl (any_of HT_.out (by kernel_rfl)) (fun _ _ _ h => h) (Or.inl ⟨by rfl, ?_⟩) ?_ ?_; rotate_left; (intro w'; go_simp; with_reducible rfl); rotate_left; (simp only [Act.put, List.setIfInBounds_toArray, List.set_cons_zero, List.set_cons_succ, i64_w, i32_w]; rfl)
                        refine pure_ (i := 4) (N := some 22) (v := ?_) (a' := ?_) #[true, true, false, false, true, false, false, false, false, false, false, false, false, false, false] rfl rfl (any_of HT_.out (by kernel_rfl)) (fun _ _ _ h => h) (Or.inl ⟨by rfl, ?_⟩) ?_ ?_; rotate_left; (intro w'; go_simp; with_reducible rfl); rotate_left; (simp only [Act.put, List.setIfInBounds_toArray, List.set_cons_zero, List.set_cons_succ, i64_w, i32_w]; rfl)
                        refine pure_ (i := 5) (N := some 23) (v := ?_) (a' := ?_) #[true, true, false, false, true, true, false, false, false, false, false, false, false, false, false] rfl rfl (any_of HT_.out (by kernel_rfl)) (fun _ _ _ h => h) (Or.inl ⟨by rfl, ?_⟩) ?_ ?_; rotate_left; (intro w'; go_simp; with_reducible rfl); rotate_left; (simp only [Act.put, List.setIfInBounds_toArray, List.set_cons_zero, List.set_cons_succ, i64_w, i32_w]; rfl)
                        refine pure_ (i := 9) (N := some 27) (v := ?_) (a' := ?_) #[true, true, false, false, true, true, false, false, false, true, false, false, false, false, false] rfl rfl (any_of HT_.out (by kernel_rfl)) (fun _ _ _ h => h) (Or.inl ⟨by rfl, ?_⟩) ?_ ?_; rotate_left; (intro w'; go_simp; with_reducible rfl); rotate_left; (simp only [Act.put, List.setIfInBounds_toArray, List.set_cons_zero, List.set_cons_succ, i64_w, i32_w]; rfl)
                        refine take_ (i := 2) (N := some 20) (v := ?_) (a' := ?_) #[true, true, true, false, true, true, false, false, false, true, false, false, false, false, false] rfl rfl (take_ofW HT_.out HW_.out (by kernel_rfl)) (fun _ _ _ h => h) (Or.inl ⟨by rfl, ?_⟩) hHeld ?_ ?_; rotate_left; (rintro w' ⟨s0, s1, s2⟩; go_simp; with_reducible rfl); rotate_left; (simp only [Act.put, List.setIfInBounds_toArray, List.set_cons_zero, List.set_cons_succ, i64_w, i32_w]; rfl)
                        refine pure_ (i := 3) (N := some 21) (v := ?_) (a' := ?_) #[true, true, true, true, true, true, false, false, false, true, false, false, false, false, false] rfl rfl (any_of HT_.out (by kernel_rfl)) (fun _ _ _ h => h) (Or.inl ⟨by rfl, ?_⟩) ?_ ?_; rotate_left; (intro w'; go_simp; with_reducible rfl); rotate_left; (simp only [Act.put, List.setIfInBounds_toArray, List.set_cons_zero, List.set_cons_succ, i64_w, i32_w]; rfl)
                        refine one_ (i := 6) (N := some 24) #[true, true, true, true, true, true, true, false, false, true, false, false, false, false, false] rfl rfl (one_of HT_.out (by kernel_rfl)) (by decide) (fun K hK => ?_)
                        refine goes_ Tryz.func160 (by kernel_rfl) rfl #[.int .i64 (t788.size : Int)] (by rfl) rfl rfl (by (try simp only [List.map_toArray, List.map_cons, List.map_nil]); first | done | rfl | (simp only [List.length_drop, List.length_take]; rfl)) ?_
                        with_reducible refine (strconv_Itoa.calls (t788.size : Int) t789 _ A7.out (Tb.below HHd.out (by repeat (first | (with_reducible first | exact HB.out | apply below_alloc | apply pw_below_drewN | apply below_drew1 | refine below_set ?_ GE787.out) | exact HB.out)))).mono ?_
                        rintro e w17 ⟨rfl, hb⟩
                        refine ⟨_, rfl, ?_⟩
                        have n0_ := Aside0.mk (Kd.R_below (by (with_reducible repeat (first | apply Kd.R_alloc | apply Kd.R_drewN | apply Kd.R_drew)); exact HO_3.out) hb)
                        have n1_ := Aside0.mk (blk_below (g := gb787) (o := .cells #[.string ((rd_T64 l0 x9_1).f0), .int .i64 ((rd_T64 l0 x9_1).f1), .slice A786_2 ((rd_T64 l0 x9_1).f2).length c786_2] 64 (0, 0)) (by (with_reducible repeat (first | refine blk_drewN ?_ _ | refine blk_drew ?_ | refine blk_alloc ?_ _)); exact BK787.out) hb)
                        have n2_ := Aside0.mk (below_step (by repeat (first | (with_reducible first | exact HB.out | apply below_alloc | apply pw_below_drewN | apply below_drew1 | refine below_set ?_ GE787.out) | exact HB.out)) hb)
                        clear HO_3
                        clear BK787
                        clear HB
                        have HO_3 := n0_
                        have BK787 := n1_
                        have HB := n2_
                        clear n0_ n1_ n2_
                        (try clear hb)
                        (try clear hb2)
                        (try clear hk)
                        (try clear hi)
                        refine hK.out _ _ ⟨(blk_cell BK787.out 0).trans rfl, (blk_cell BK787.out 1).trans rfl, (blk_cell BK787.out 2).trans rfl⟩ (fun hHeld => ?_)
                        clear hK K
                        refine norm_ (a' := ?_) ?_ ?_; rotate_left; (show Act.put _ (some 24) _ = _; simp only [Act.put, List.setIfInBounds_toArray, List.set_cons_zero, List.set_cons_succ, i64_w, i32_w]; rfl)
                        refine pure_ (i := 7) (N := some 25) (v := ?_) (a' := ?_) #[true, true, true, true, true, true, true, true, false, true, false, false, false, false, false] rfl rfl (any_of HT_.out (by kernel_rfl)) (fun _ _ _ h => h) (Or.inl ⟨by rfl, ?_⟩) ?_ ?_; rotate_left; (intro w'; go_simp; with_reducible rfl); rotate_left; (simp only [Act.put, List.setIfInBounds_toArray, List.set_cons_zero, List.set_cons_succ, i64_w, i32_w]; rfl)
                        refine pure_ (i := 8) (N := some 26) (v := ?_) (a' := ?_) #[true, true, true, true, true, true, true, true, true, true, false, false, false, false, false] rfl rfl (any_of HT_.out (by kernel_rfl)) (fun _ _ _ h => h) (Or.inl ⟨by rfl, ?_⟩) ?_ ?_; rotate_left; (intro w'; go_simp; with_reducible rfl); rotate_left; (simp only [Act.put, List.setIfInBounds_toArray, List.set_cons_zero, List.set_cons_succ, i64_w, i32_w]; rfl)
                        refine pure_ (i := 10) (N := some 28) (v := ?_) (a' := ?_) #[true, true, true, true, true, true, true, true, true, true, true, false, false, false, false] rfl rfl (any_of HT_.out (by kernel_rfl)) (fun _ _ _ h => h) (Or.inl ⟨by rfl, ?_⟩) ?_ ?_; rotate_left; (intro w'; go_simp; with_reducible rfl); rotate_left; (simp only [Act.put, List.setIfInBounds_toArray, List.set_cons_zero, List.set_cons_succ, i64_w, i32_w]; rfl)
                        refine pure_ (i := 11) (N := some 29) (v := ?_) (a' := ?_) #[true, true, true, true, true, true, true, true, true, true, true, true, false, false, false] rfl rfl (any_of HT_.out (by kernel_rfl)) (fun _ _ _ h => h) (Or.inl ⟨by rfl, ?_⟩) ?_ ?_; rotate_left; (intro w'; go_simp; with_reducible rfl); rotate_left; (simp only [Act.put, List.setIfInBounds_toArray, List.set_cons_zero, List.set_cons_succ, i64_w, i32_w]; rfl)
                        refine one_ (i := 12) (N := some 30) #[true, true, true, true, true, true, true, true, true, true, true, true, true, false, false] rfl rfl (one_of HT_.out (by kernel_rfl)) (by decide) (fun K hK => ?_)
                        refine value_ (w1 := ?_) (v := ?_) (by rfl) rfl ?_ ?_
                        rotate_left 2
                        · go_simp
                          constructor
                          · rfl
                          · rfl
                        refine hK.out _ _ ⟨(blk_cell (blk_alloc BK787.out _) 0).trans rfl, (blk_cell (blk_alloc BK787.out _) 1).trans rfl, (blk_cell (blk_alloc BK787.out _) 2).trans rfl⟩ (fun hHeld => ?_)
                        clear hK K
                        refine norm_ (a' := ?_) ?_ ?_; rotate_left; (show Act.put _ (some 30) _ = _; simp only [Act.put, List.setIfInBounds_toArray, List.set_cons_zero, List.set_cons_succ, i64_w, i32_w]; rfl)
                        refine one_ (i := 13) (N := some 31) #[true, true, true, true, true, true, true, true, true, true, true, true, true, true, false] rfl rfl (one_of HT_.out (by kernel_rfl)) (by decide) (fun K hK => ?_)
                        refine Kd.R_append_step Kd.string (w0 := w) w.heap.size (by rfl) (.tmp 18) (.tmp 30) 102 9 (.string ⟨#[]⟩) 16 rfl Tryz.underlying102 info9 rfl (by decide) (by omega) u3 x3_1 (((((((rd_T64 l0 x9_1).f0) ++ (⟨#[61]⟩ : ByteArray)) ++ t789) ++ (⟨#[58]⟩ : ByteArray)) ++ t788) ++ (⟨#[59]⟩ : ByteArray)) [.string (((((((rd_T64 l0 x9_1).f0) ++ (⟨#[61]⟩ : ByteArray)) ++ t789) ++ (⟨#[58]⟩ : ByteArray)) ++ t788) ++ (⟨#[59]⟩ : ByteArray))] (fun _ => True) (fun _ => False) rfl rfl ?aP (fun _ hk => hk.elim) ?aF ?aO ?aB ?aS ?aL ?_
                        (case aP => exact rfl)
                        (case aB => exact (by repeat (first | (with_reducible first | exact HB.out | apply below_alloc | apply pw_below_drewN | apply below_drew1 | refine below_set ?_ GE787.out) | exact HB.out)))
                        (case aF => exact (fun _ _ => trivial))
                        (case aO => exact (by (with_reducible repeat (first | apply Kd.R_alloc | apply Kd.R_drewN | apply Kd.R_drew)); exact HO_3.out))
                        (case aS => exact (below_size (by repeat (first | (with_reducible first | exact HB.out | apply below_alloc | apply pw_below_drewN | apply below_drew1 | refine below_set ?_ GE787.out) | exact HB.out))))
                        (case aL => have := LMc12.out; omega)
                        intro v791 w18 ho hb hg hat
                        rw [← Ny790.out] at ho
                        have n0_ := Aside0.mk (blk_grown (g := gb787) (o := .cells #[.string ((rd_T64 l0 x9_1).f0), .int .i64 ((rd_T64 l0 x9_1).f1), .slice A786_2 ((rd_T64 l0 x9_1).f2).length c786_2] 64 (0, 0)) (by (with_reducible repeat (first | refine blk_drewN ?_ _ | refine blk_drew ?_ | refine blk_alloc ?_ _)); exact BK787.out) hg (Kd.R_ne HO_3.out BK787.out (by decide)))
                        have n1_ := Aside0.mk (hb)
                        have n2_ := Aside0.mk (ho)
                        clear BK787
                        clear HB
                        clear HO_3
                        have BK787 := n0_
                        have HB := n1_
                        have HO792 := n2_
                        clear n0_ n1_ n2_
                        clear ho hb hg hat
                        refine hK.out _ _ ⟨(blk_cell BK787.out 0).trans rfl, (blk_cell BK787.out 1).trans rfl, (blk_cell BK787.out 2).trans rfl⟩ (fun hHeld => ?_)
                        clear hK K
                        refine norm_ (a' := ?_) ?_ ?_; rotate_left; (show Act.put _ (some 31) _ = _; simp only [Act.put, List.setIfInBounds_toArray, List.set_cons_zero, List.set_cons_succ, i64_w, i32_w]; rfl)
                        refine pure_ (i := 14) (N := some 3) (v := ?_) (a' := ?_) #[true, true, true, true, true, true, true, true, true, true, true, true, true, true, true] rfl rfl (any_of HT_.out (by kernel_rfl)) (fun _ _ _ h => h) (Or.inl ⟨by rfl, ?_⟩) ?_ ?_; rotate_left; (intro w'; go_simp; with_reducible rfl); rotate_left; (simp only [Act.put, List.setIfInBounds_toArray, List.set_cons_zero, List.set_cons_succ, i64_w, i32_w]; rfl)
                        refine done_ (done_of HT_.out (by kernel_rfl)) ?_
                        try go_wp2
                        go_roundg k1
                        case measure => have := HK1.out; omega
                        case rel => exact ⟨(y790), (wrap64 (x9_1 + 1)), (by first | rfl | (simp; done) | (simp [*]; done)), H', ⟨by have := HK1.out; omega⟩, ⟨by (with_reducible repeat (first | apply Kd.R_alloc | apply Kd.R_drewN | apply Kd.R_drew)); exact HO792.out⟩, ⟨by repeat (first | (with_reducible first | exact HB.out | apply below_alloc | apply pw_below_drewN | apply below_drew1 | refine below_set ?_ GE787.out) | exact HB.out)⟩⟩
                      · rw [if_neg c12] at H
                        exact absurd H (by simp)
                    · rw [if_neg c11] at H
                      exact absurd H (by simp)
                  · rw [if_neg c10] at H
                    exact absurd H (by simp)
                · rw [if_neg c9] at H
                  exact absurd H (by simp)
              · rw [if_neg c8] at H
                exact absurd H (by simp)
            · rw [if_neg c6] at H
              exact absurd H (by simp)
          · rw [if_neg c4] at H
            exact absurd H (by simp)
        · rw [if_neg c3] at H
          exact absurd H (by simp)
      · rw [if_neg c2] at H
        have c2b0 : decide (x9_1 < (l0.length : Int)) = false := decide_eq_false c2
        clear c2
        replace H := Option.bind_eq_some_iff.mp H
        obtain ⟨y3, A190, H⟩ := H
        replace H : ((strings_Join.f y3 (⟨#[]⟩ : ByteArray)).bind fun t793 => (if t793.size + 1 ≤ 9223372036854775807 then (some (t793 ++ (⟨#[47]⟩ : ByteArray))) else (none))) = some r := H
        have A19 := Aside0.mk A190
        have hylen : x3_1.length = y3.length := by
          have h1 := A190
          unfold slices_Sort.f at h1
          split at h1
          · rw [← Option.some.inj h1, sortB_len]
          · cases h1
        have YL := Aside0.mk hylen
        clear hylen
        clear A190
        replace H := Option.bind_eq_some_iff.mp H
        obtain ⟨t793, A200, H⟩ := H
        replace H : (if t793.size + 1 ≤ 9223372036854775807 then (some (t793 ++ (⟨#[47]⟩ : ByteArray))) else (none)) = some r := H
        have A20 := Aside0.mk A200
        clear A200
        by_cases c21 : t793.size + 1 ≤ 9223372036854775807
        · rw [if_pos c21] at H
          have c21b0 := eq_true c21
          have c21b1 : decide (t793.size + 1 ≤ 9223372036854775807) = true := decide_eq_true c21
          try have c21b2 : (9223372036854775807 < t793.size + 1) = False := eq_false (Nat.not_lt.2 c21)
          obtain rfl := Option.some.inj H
          obtain ⟨Ao22, co22, eo22⟩ := Kd.R_slice HO_3.out
          subst eo22
          go_wp2_with (first | ((with_reducible refine gate_callee (f := 161) rfl ?_); refine goesL_ (some 34) rfl rfl Tryz.func161 (by kernel_rfl) rfl #[.slice Ao22 x3_1.length co22] rfl (by (try simp only [List.map_toArray, List.map_cons, List.map_nil]); first | done | rfl | (simp only [List.length_drop, List.length_take]; rfl)) ?_; (with_reducible refine (sort_own w _ x3_1 y3 _ ?side1 ?side2 A19.out).mono ?_); (case side1 => exact (by (with_reducible repeat (first | apply Kd.R_alloc | apply Kd.R_drewN | apply Kd.R_drew)); exact HO_3.out)); (case side2 => exact (by repeat (first | (with_reducible first | exact HB.out | apply below_alloc | apply pw_below_drewN | apply below_drew1) | exact HB.out))); rintro e w23 ⟨rfl, hsr, hb⟩; refine ⟨_, rfl, ?_⟩; have n0_ := Aside0.mk hsr; have n1_ := Aside0.mk hb; clear hsr; clear HO_3; clear HB; have HO_3 := n0_; have HB := n1_; clear n0_ n1_; (try clear hb); (try clear hb2); (try clear hk); (try clear hi)) | ((with_reducible refine gate_callee (f := 88) rfl ?_); refine goesL_ (some 36) rfl rfl Tryz.func88 (by kernel_rfl) rfl #[.slice Ao22 x3_1.length co22, .string (⟨#[]⟩ : ByteArray)] rfl (by (try simp only [List.map_toArray, List.map_cons, List.map_nil]); first | done | rfl | (simp only [List.length_drop, List.length_take]; rfl)) ?_; (rw [YL.out]); (with_reducible refine (strings_Join.calls _ _ y3 (⟨#[]⟩ : ByteArray) t793 _ ?side1 ?side2 A20.out).mono ?_); (case side1 => repeat (first | exact (Kd.R_reads' HO_3.out).2.2 | (with_reducible refine Kd.C_alloc ?_ _) | (with_reducible refine Kd.C_drewN ?_ _) | (with_reducible refine Kd.C_drew ?_))); (case side2 => exact (Kd.R_reads' HO_3.out).2.1); rintro e w24 ⟨rfl, hb⟩; refine ⟨_, rfl, ?_⟩; have n0_ := Aside0.mk (Kd.R_below (by (with_reducible repeat (first | apply Kd.R_alloc | apply Kd.R_drewN | apply Kd.R_drew)); exact HO_3.out) hb); have n1_ := Aside0.mk (below_step (by repeat (first | (with_reducible first | exact HB.out | apply below_alloc | apply pw_below_drewN | apply below_drew1) | exact HB.out)) hb); clear HO_3; clear HB; have HO_3 := n0_; have HB := n1_; clear n0_ n1_; (try clear hb); (try clear hb2); (try clear hk); (try clear hi)))
          have hrd := Kd.R_reads' HO_3.out
          have hj := strings_Join.calls Ao22 co22 y3 (⟨#[]⟩ : ByteArray) t793 _ hrd.2.2 (YL.out ▸ hrd.2.1) A20.out
          rw [← YL.out] at hj
          refine hj.mono ?_
          rintro e w24 ⟨rfl, hb⟩
          have HB2 := Aside0.mk (below_step HB.out hb)
          clear hb hj hrd
          go_wp2_with fail
          go_ret
          exact ⟨rfl, HB2.out⟩
        · rw [if_neg c21] at H
          exact absurd H (by simp)
end Go.Proofs.YtkioddjjfifadaaGreatDoor.P
namespace Go.Proofs.YtkioddjjfifadaaGreatDoor.P
open Go.RowKit Go.Proofs.YtkioddjjfifadaaGreatDoorW.PrintWords Go.Proofs.YtkioddjjfifadaaGreatDoorW.PrintLast Go.Proofs.YtkioddjjfifadaaGreatDoorW.PrintMore
theorem write_string (B b : Nat) (bs : List Value) (s : ByteArray) (w : World) (h : Lib.IsBuilder 157 5 B b bs w) (hlen : bs.length + s.size ≤ 140737488355328) (hBw : B ≤ w.heap.size) :
    Calls Tryz.prog 92 #[.pointer (some ⟨b, 0, none⟩), .string s] w fun e w' => e = .returned (.tuple #[.int .i64 s.size, .nilIface]) ∧ (Lib.BuilderAt 157 5 B b (.pointer (some ⟨b, 0, none⟩)) (bs ++ Lib.strCells s) w' ∧ Below B w w') :=
  Go.Proofs.Any.Builder_WriteString (ρ := Tryz.lays156_ren) { Tryz.lays156 with } Tryz.Builder_Extra_156 B b bs s w h hlen hBw
theorem isBuilder_below {B b : Nat} {bs : List Value} {w w1 : World} (h : Lib.IsBuilder 157 5 B b bs w) (hb : Below w.heap.size w w1) : Lib.IsBuilder 157 5 B b bs w1 := by
  have key : ∀ p, Lib.BuilderAt 157 5 B b p bs w → Lib.BuilderAt 157 5 B b p bs w1 := by
    rintro p ⟨hB, v, hk, ho, hne⟩
    exact ⟨hB, v, (hb.block b (blk_lt hk)).trans hk, own_move ho (fun k hk => hb.block k (own_lt ho k hk)), hne⟩
  rcases h with h | h
  · exact Or.inl (key _ h)
  · exact Or.inr (key _ h)
def keyL (k : Nat) : List (List S64) → Option (List UInt8)
  | [] => some []
  | s :: r => (name_mark.f k s).bind fun m => (keyL k r).bind fun t => some (m.data.toList ++ t)
def name_Key.f (k : Nat) (n : List (List S64)) : Option ByteArray := (keyL k n).bind fun r => if r.length ≤ 140737488355328 ∧ n.length ≤ 1000000 then some ⟨r.toArray⟩ else none
set_option maxHeartbeats 4000000 in
theorem name_Key.calls (k : Nat) (A0 : Option Addr) (c0 : Nat) (l0 : List (List S64)) (r : ByteArray) (w : World) (hr0 : Kd.C (Kd.slice 64 k64) w A0 l0.length l0) (hc0 : l0.length ≤ c0) (h : name_Key.f k l0 = some r) (hH : Tb w) :
    Calls Tryz.prog 48 #[.slice A0 l0.length c0] w fun e w' => e = .returned (.string r) ∧ Below w.heap.size w w' := by
  unfold name_Key.f at h
  obtain ⟨R, hkey, h⟩ := Option.bind_eq_some_iff.mp h
  split at h
  case isFalse => cases h
  case isTrue hl =>
  obtain rfl := Option.some.inj h
  have HR0 := Aside0.mk hr0
  have HC0 := Aside0.mk hc0
  have HT := Aside0.mk hH
  have HL := Aside0.mk hl
  have HKEY := Aside0.mk hkey
  have HI := Aside0.mk (Lib.fresh_isBuilder 157 5 w)
  have HB := Aside0.mk (below_alloc (Below.refl w.heap.size w) (.cells #[.pointer none, .slice none 0 0] 157))
  clear hr0 hc0 hH hl hkey h
  go_enter Tryz.func48, Tryz.ntmps48
  go_wp2_with fail
  go_loopg [8] (l0.length + 1) (fun kq v8 w' => ∃ (j : Nat) (acc q : List UInt8), v8 = .int .i64 (j : Int) ∧ Aside0 (j ≤ l0.length ∧ l0.length < kq + j) ∧ Aside0 (keyL k (l0.drop j) = some q) ∧ Aside0 (acc ++ q = R) ∧
    Aside0 (Lib.IsBuilder 157 5 w.heap.size w.heap.size (Lib.byteCells acc) w') ∧ Aside0 (Below w.heap.size w w'))
  case atStart => exact ⟨0, [], R, rfl, ⟨⟨Nat.zero_le _, by omega⟩⟩, ⟨HKEY.out⟩, ⟨rfl⟩, HI, HB⟩
  case round =>
    clear HI HB HKEY
    obtain ⟨j, acc, q, rfl, HJ, HQ, HE, HI, HB⟩ := hrel
    cases gk with
    | zero => exact absurd HJ.out (by omega)
    | succ g1 =>
      by_cases hj : j < l0.length
      · have c1 : decide ((j : Int) < (l0.length : Int)) = true := decide_eq_true (by omega)
        have p1 : ((0 : Int) ≤ (j : Int)) = True := eq_true (by omega)
        have q1 : ((j : Int) < (l0.length : Int)) = True := eq_true (by omega)
        obtain ⟨ad, A1, c1', rfl, hx, hl1, hC1⟩ := at_L5 HR0.out (j : Int) (by omega) (by omega)
        replace hx := (HB.out.cell (World.block_lt_of_cell? w _ hx)).trans hx
        rw [Int.toNat_natCast] at hx
        have hd : l0.drop j = rd_L5 l0 (j : Int) :: l0.drop (j + 1) := by
          rw [List.drop_eq_getElem_cons hj]
          show _ = l0.getD (j : Int).toNat [] :: _
          rw [Int.toNat_natCast, List.getD_eq_getElem?_getD, List.getElem?_eq_getElem hj]
          rfl
        have hq := HQ.out
        rw [hd, keyL] at hq
        obtain ⟨m, hm, hq⟩ := Option.bind_eq_some_iff.mp hq
        obtain ⟨t, ht, hq⟩ := Option.bind_eq_some_iff.mp hq
        have hq' : m.data.toList ++ t = q := Option.some.inj hq
        have HM := Aside0.mk hm
        have HTL := Aside0.mk ht
        have hw3 : wrap64 ((j : Int) + 1) = ((j + 1 : Nat) : Int) := by unfold wrap64; have := HL.out; omega
        have HLEN : Aside0 (acc.length + m.size ≤ 140737488355328) := ⟨by
          have h1 := congrArg List.length HE.out
          rw [← hq'] at h1
          simp only [List.length_append, Array.length_toList] at h1
          have h2 : m.data.size = m.size := rfl
          have := HL.out.1
          omega⟩
        have HE2 : Aside0 ((acc ++ m.data.toList) ++ t = R) := ⟨by rw [List.append_assoc, hq']; exact HE.out⟩
        have HC1 := Aside0.mk hC1
        have HL1 := Aside0.mk hl1
        clear hd hq hm ht hq' HQ HE hC1 hl1
        generalize rd_L5 l0 (j : Int) = s at *
        go_wp2_with fail
        refine (name_mark.calls k A1 c1' s m _ (Kd.C_below HC1.out HB.out) HL1.out HM.out (HT.out.below HB.out)).mono ?_
        rintro e w1 ⟨rfl, hb1⟩
        have HI1 := Aside0.mk (isBuilder_below HI.out hb1)
        have HB1 := Aside0.mk (below_step HB.out hb1)
        clear hb1 HI HB hx
        go_wp2_with fail
        refine (write_string w.heap.size w.heap.size _ m _ HI1.out (by rw [Lib.byteCells_length]; exact HLEN.out) HB1.out.size).mono ?_
        rintro e w2 ⟨rfl, hI2, hb2⟩
        have HB2 := Aside0.mk (HB1.out.trans hb2)
        have HI2 : Aside0 (Lib.IsBuilder 157 5 w.heap.size w.heap.size (Lib.byteCells (acc ++ m.data.toList)) w2) := ⟨by
          rw [Lib.byteCells_append]
          exact Or.inr hI2⟩
        clear hI2 hb2 HI1 HB1
        go_wp2_with fail
        go_roundg g1
        case measure => exact Nat.lt_succ_self _
        case rel => exact ⟨j + 1, acc ++ m.data.toList, t, congrArg (Value.int .i64) hw3, ⟨by have := HJ.out; omega⟩, HTL, HE2, HI2, HB2⟩
      · have c1 : decide ((j : Int) < (l0.length : Int)) = false := decide_eq_false (by omega)
        have he : l0.drop j = [] := List.drop_eq_nil_of_le (by omega)
        have hq := HQ.out
        rw [he, keyL] at hq
        have hq2 : [] = q := Option.some.inj hq
        have hacc : acc = R := by rw [← HE.out, ← hq2, List.append_nil]
        clear hq hq2 he
        go_wp2_with fail
        refine (Tryz.Builder_String_any w.heap.size w.heap.size acc _ HI.out HB.out.size).mono ?_
        rintro e w2 ⟨rfl, hb2⟩
        have HB2 := Aside0.mk (HB.out.trans hb2)
        clear hb2
        go_wp2_with fail
        go_ret
        exact ⟨by first | rfl | (rw [hacc]; rfl), HB2.out⟩
def name_Same.f (k : Nat) (a b : List (List S64)) : Option Bool := (name_Key.f k a).bind fun x => (name_Key.f k b).bind fun y => some (x.toList == y.toList)
theorem name_Same.calls (k : Nat) (A0 : Option Addr) (c0 : Nat) (l0 : List (List S64)) (A1 : Option Addr) (c1 : Nat) (l1 : List (List S64)) (r : Bool) (w : World) (hr0 : Kd.C (Kd.slice 64 k64) w A0 l0.length l0) (hc0 : l0.length ≤ c0) (hr1 : Kd.C (Kd.slice 64 k64) w A1 l1.length l1) (hc1 : l1.length ≤ c1) (h : name_Same.f k l0 l1 = some r) (hH : Tb w) :
    Calls Tryz.prog 45 #[.slice A0 l0.length c0, .slice A1 l1.length c1] w fun e w' => e = .returned (.bool r) ∧ Below w.heap.size w w' := by
  unfold name_Same.f at h
  obtain ⟨x, hx, h⟩ := Option.bind_eq_some_iff.mp h
  obtain ⟨y, hy, h⟩ := Option.bind_eq_some_iff.mp h
  obtain rfl := Option.some.inj h
  have HR1 := Aside0.mk hr1
  have HC1 := Aside0.mk hc1
  have HX := Aside0.mk hx
  have HY := Aside0.mk hy
  have HT := Aside0.mk hH
  have HR0 := Aside0.mk hr0
  have HC0 := Aside0.mk hc0
  clear hr0 hc0 hr1 hc1 hx hy hH h
  go_enter Tryz.func45, Tryz.ntmps45
  go_wp2_with fail
  refine (name_Key.calls k A0 c0 l0 x _ HR0.out HC0.out HX.out HT.out).mono ?_
  rintro e w1 ⟨rfl, h1⟩
  have HB1 := Aside0.mk h1
  clear h1
  go_wp2_with fail
  refine (name_Key.calls k A1 c1 l1 y _ (Kd.C_below HR1.out HB1.out) HC1.out HY.out (HT.out.below HB1.out)).mono ?_
  rintro e w2 ⟨rfl, h2⟩
  have HB2 := Aside0.mk (below_step HB1.out h2)
  clear h2
  go_wp2_with fail
  go_ret
  exact ⟨by first | rfl | (simp; done) | trace_state, HB2.out⟩
end Go.Proofs.YtkioddjjfifadaaGreatDoor.P
namespace Go.Proofs.YtkioddjjfifadaaGreatDoor.P
open Go.RowKit Go.Proofs.YtkioddjjfifadaaGreatDoorW.PrintWords Go.Proofs.YtkioddjjfifadaaGreatDoorW.PrintLast Go.Proofs.YtkioddjjfifadaaGreatDoorW.PrintMore
attribute [local go_sem] max2_int min2_int max_two min_two max_three min_three max_four min_four   -- for this text's walks alone
set_option linter.unusedVariables false
set_option linter.unusedSimpArgs false
mutual
def der_tag.l0 : Nat → List Int → Int → Int → Int → Option (Int × Int × Int × Int)
  | 0, _, _, _, _ => none
  | k + 1, x0, x1, x4, x5 => if x5 < (x0.length : Int) then (if 0 ≤ x5 then (if x5 = (wrap64 (x1 + 1)) then (if (rd x0 x5) = 128 then (der_tag.j1 k x0 x1 (Go.bits .or .i64 (wrap64 (x4 * 128)) (wrap64 (Go.bits .and .u8 (rd x0 x5) 127))) x5 true) else (if (Go.bits .or .i64 (wrap64 (x4 * 128)) (wrap64 (Go.bits .and .u8 (rd x0 x5) 127))) > 268435455 then (der_tag.j1 k x0 x1 (Go.bits .or .i64 (wrap64 (x4 * 128)) (wrap64 (Go.bits .and .u8 (rd x0 x5) 127))) x5 true) else (if (rd x0 x5) < 128 then (der_tag.j1 k x0 x1 (Go.bits .or .i64 (wrap64 (x4 * 128)) (wrap64 (Go.bits .and .u8 (rd x0 x5) 127))) x5 (decide ((Go.bits .or .i64 (wrap64 (x4 * 128)) (wrap64 (Go.bits .and .u8 (rd x0 x5) 127))) < 31))) else (der_tag.j1 k x0 x1 (Go.bits .or .i64 (wrap64 (x4 * 128)) (wrap64 (Go.bits .and .u8 (rd x0 x5) 127))) x5 false)))) else (if (Go.bits .or .i64 (wrap64 (x4 * 128)) (wrap64 (Go.bits .and .u8 (rd x0 x5) 127))) > 268435455 then (der_tag.j1 k x0 x1 (Go.bits .or .i64 (wrap64 (x4 * 128)) (wrap64 (Go.bits .and .u8 (rd x0 x5) 127))) x5 true) else (if (rd x0 x5) < 128 then (der_tag.j1 k x0 x1 (Go.bits .or .i64 (wrap64 (x4 * 128)) (wrap64 (Go.bits .and .u8 (rd x0 x5) 127))) x5 (decide ((Go.bits .or .i64 (wrap64 (x4 * 128)) (wrap64 (Go.bits .and .u8 (rd x0 x5) 127))) < 31))) else (der_tag.j1 k x0 x1 (Go.bits .or .i64 (wrap64 (x4 * 128)) (wrap64 (Go.bits .and .u8 (rd x0 x5) 127))) x5 false)))) else (none)) else (some (0, 0, 2, (x0.length : Int)))
def der_tag.j1 : Nat → List Int → Int → Int → Int → Bool → Option (Int × Int × Int × Int)
  | 0, _, _, _, _, _ => none
  | k + 1, x0, x1, x4, x5, x71 => if x71 = true then (some (0, 0, 30, x5)) else (if 0 ≤ x5 then (if x5 < (x0.length : Int) then (if (rd x0 x5) < 128 then (some (x4, wrap64 (x5 + 1), 0, 0)) else (der_tag.l0 k x0 x1 x4 (wrap64 (x5 + 1)))) else (none)) else (none))
end
def der_tag.f (k : Nat) (l0 : List Int) (a1 : Int) : Option (Int × Int × Int × Int) := if 0 ≤ a1 then (if a1 < (l0.length : Int) then (if (wrap64 (Go.bits .and .u8 (rd l0 a1) 31)) < 31 then (if (wrap64 (Go.bits .and .u8 (rd l0 a1) 31)) = 0 then (if ((rd l0 a1) / 64) = 0 then (some (0, 0, 30, a1)) else (some (wrap64 (Go.bits .and .u8 (rd l0 a1) 31), wrap64 (a1 + 1), 0, 0))) else (some (wrap64 (Go.bits .and .u8 (rd l0 a1) 31), wrap64 (a1 + 1), 0, 0))) else (der_tag.l0 k l0 a1 0 (wrap64 (a1 + 1)))) else (none)) else (none)
set_option maxHeartbeats 8000000 in
set_option maxRecDepth 100000 in
theorem der_tag.calls (k : Nat) (A0 : Option Addr) (c0 : Nat) (l0 : List Int) (a1 : Int) (r1 : Int) (r2 : Int) (r3 : Int) (r4 : Int) (w : World) (hr0 : Kd.C (Kd.int .u8) w A0 l0.length l0) (hc0 : l0.length ≤ c0) (h : der_tag.f k l0 a1 = some (r1, r2, r3, r4)) :
    Calls Tryz.prog 214 #[.slice A0 l0.length c0, .int .i64 a1] w fun e w' => e = .returned (.tuple #[.int .i64 r1, .int .i64 r2, .int .i64 r3, .int .i64 r4]) ∧ Drawn0 w w' := by
  have HR0 := Aside0.mk hr0
  have HC0 := Aside0.mk hc0
  clear hr0 hc0
  have H : (if 0 ≤ a1 then (if a1 < (l0.length : Int) then (if (wrap64 (Go.bits .and .u8 (rd l0 a1) 31)) < 31 then (if (wrap64 (Go.bits .and .u8 (rd l0 a1) 31)) = 0 then (if ((rd l0 a1) / 64) = 0 then (some (0, 0, 30, a1)) else (some (wrap64 (Go.bits .and .u8 (rd l0 a1) 31), wrap64 (a1 + 1), 0, 0))) else (some (wrap64 (Go.bits .and .u8 (rd l0 a1) 31), wrap64 (a1 + 1), 0, 0))) else (der_tag.l0 k l0 a1 0 (wrap64 (a1 + 1)))) else (none)) else (none)) = some (r1, r2, r3, r4) := h
  clear h
  by_cases c3 : 0 ≤ a1
  · rw [if_pos c3] at H
    have c3b0 : decide (0 ≤ a1) = true := decide_eq_true c3
    clear c3
    by_cases c4 : a1 < (l0.length : Int)
    · rw [if_pos c4] at H
      have c4b0 : decide (a1 < (l0.length : Int)) = true := decide_eq_true c4
      clear c4
      by_cases c5 : (wrap64 (Go.bits .and .u8 (rd l0 a1) 31)) < 31
      · rw [if_pos c5] at H
        have c5b0 : decide ((wrap64 (Go.bits .and .u8 (rd l0 a1) 31)) < 31) = true := decide_eq_true c5
        clear c5
        by_cases c6 : (wrap64 (Go.bits .and .u8 (rd l0 a1) 31)) = 0
        · rw [if_pos c6] at H
          have c6b0 : ((wrap64 (Go.bits .and .u8 (rd l0 a1) 31)) == 0) = true := beq_iff_eq.mpr c6
          have c6b1 : ((wrap64 (Go.bits .and .u8 (rd l0 a1) 31)) != 0) = false := bne_eq_false_iff_eq.mpr c6
          clear c6
          by_cases c7 : ((rd l0 a1) / 64) = 0
          · rw [if_pos c7] at H
            have c7b0 : (((rd l0 a1) / 64) == 0) = true := beq_iff_eq.mpr c7
            have c7b1 : (((rd l0 a1) / 64) != 0) = false := bne_eq_false_iff_eq.mpr c7
            clear c7
            simp only [Option.some.injEq, Prod.mk.injEq] at H
            obtain ⟨rfl, rfl, rfl, rfl⟩ := H
            have p109 : 0 ≤ (a1 : Int) := of_decide_eq_true (by first | (with_reducible assumption) | assumption)
            have q109 : a1 < (l0.length : Int) := of_decide_eq_true (by first | (with_reducible assumption) | assumption)
            obtain ⟨ad109, e109, hx109_0⟩ := Kd.at_int HR0.out a1 p109 q109
            cases e109
            replace p109 := eq_true p109
            replace q109 := eq_true q109
            have p110 : 0 ≤ (a1 : Int) := of_decide_eq_true (by first | (with_reducible assumption) | assumption)
            have q110 : a1 < (l0.length : Int) := of_decide_eq_true (by first | (with_reducible assumption) | assumption)
            obtain ⟨ad110, e110, hx110_0⟩ := Kd.at_int HR0.out a1 p110 q110
            obtain rfl : ad109 = ad110 := (by injection e110)
            replace p110 := eq_true p110
            replace q110 := eq_true q110
            go_enter Tryz.func214, Tryz.ntmps214
            go_wp2
            refine bodyPost_ret (results_list (rs := [.tmp 4, .tmp 5, .tmp 6, .tmp 7]) rfl (by simp) (.tmp (.tmp (.tmp (.tmp .nil))))) rfl ?_
            exact ⟨by first | rfl | (simp; done) | (simp [*]; done), by repeat (first | exact Drawn0.refl _ | apply Drawn0.step)⟩
          · rw [if_neg c7] at H
            have c7b0 : (((rd l0 a1) / 64) == 0) = false := beq_eq_false_iff_ne.mpr c7
            have c7b1 : (((rd l0 a1) / 64) != 0) = true := bne_iff_ne.mpr c7
            simp only [Option.some.injEq, Prod.mk.injEq] at H
            obtain ⟨rfl, rfl, rfl, rfl⟩ := H
            have p109 : 0 ≤ (a1 : Int) := of_decide_eq_true (by first | (with_reducible assumption) | assumption)
            have q109 : a1 < (l0.length : Int) := of_decide_eq_true (by first | (with_reducible assumption) | assumption)
            obtain ⟨ad109, e109, hx109_0⟩ := Kd.at_int HR0.out a1 p109 q109
            cases e109
            replace p109 := eq_true p109
            replace q109 := eq_true q109
            have p110 : 0 ≤ (a1 : Int) := of_decide_eq_true (by first | (with_reducible assumption) | assumption)
            have q110 : a1 < (l0.length : Int) := of_decide_eq_true (by first | (with_reducible assumption) | assumption)
            obtain ⟨ad110, e110, hx110_0⟩ := Kd.at_int HR0.out a1 p110 q110
            obtain rfl : ad109 = ad110 := (by injection e110)
            replace p110 := eq_true p110
            replace q110 := eq_true q110
            go_enter Tryz.func214, Tryz.ntmps214
            go_wp2
            refine bodyPost_ret (results_list (rs := [.tmp 4, .tmp 5, .tmp 6, .tmp 7]) rfl (by simp) (.tmp (.tmp (.tmp (.tmp .nil))))) rfl ?_
            exact ⟨by first | rfl | (simp; done) | (simp [*]; done), by repeat (first | exact Drawn0.refl _ | apply Drawn0.step)⟩
        · rw [if_neg c6] at H
          have c6b0 : ((wrap64 (Go.bits .and .u8 (rd l0 a1) 31)) == 0) = false := beq_eq_false_iff_ne.mpr c6
          have c6b1 : ((wrap64 (Go.bits .and .u8 (rd l0 a1) 31)) != 0) = true := bne_iff_ne.mpr c6
          simp only [Option.some.injEq, Prod.mk.injEq] at H
          obtain ⟨rfl, rfl, rfl, rfl⟩ := H
          have p109 : 0 ≤ (a1 : Int) := of_decide_eq_true (by first | (with_reducible assumption) | assumption)
          have q109 : a1 < (l0.length : Int) := of_decide_eq_true (by first | (with_reducible assumption) | assumption)
          obtain ⟨ad109, e109, hx109_0⟩ := Kd.at_int HR0.out a1 p109 q109
          cases e109
          replace p109 := eq_true p109
          replace q109 := eq_true q109
          go_enter Tryz.func214, Tryz.ntmps214
          go_wp2
          refine bodyPost_ret (results_list (rs := [.tmp 4, .tmp 5, .tmp 6, .tmp 7]) rfl (by simp) (.tmp (.tmp (.tmp (.tmp .nil))))) rfl ?_
          exact ⟨by first | rfl | (simp; done) | (simp [*]; done), by repeat (first | exact Drawn0.refl _ | apply Drawn0.step)⟩
      · rw [if_neg c5] at H
        have c5b0 : decide ((wrap64 (Go.bits .and .u8 (rd l0 a1) 31)) < 31) = false := decide_eq_false c5
        clear c5
        have H' := Aside0.mk H
        clear H
        have p109 : 0 ≤ (a1 : Int) := of_decide_eq_true (by first | (with_reducible assumption) | assumption)
        have q109 : a1 < (l0.length : Int) := of_decide_eq_true (by first | (with_reducible assumption) | assumption)
        obtain ⟨ad109, e109, hx109_0⟩ := Kd.at_int HR0.out a1 p109 q109
        cases e109
        replace p109 := eq_true p109
        replace q109 := eq_true q109
        go_enter Tryz.func214, Tryz.ntmps214
        go_wp2
        go_loopg [4, 5] k (fun kq v4 v5 w' => ∃ (x4_1 : Int) (x5_1 : Int), v4 = .int .i64 x4_1 ∧ v5 = .int .i64 x5_1 ∧ Aside0 (der_tag.l0 kq l0 a1 x4_1 x5_1 = some (r1, r2, r3, r4)) ∧ Aside0 (kq ≤ k) ∧ Drawn0 w w')
        case atStart => exact ⟨(0), (wrap64 (a1 + 1)), (by first | rfl | (simp; done) | (simp [*]; done)), (by first | rfl | (simp; done) | (simp [*]; done)), H', ⟨Nat.le_refl _⟩, by repeat (first | exact Drawn0.refl _ | apply Drawn0.step)⟩
        case round =>
          clear H'
          try clear p1
          try clear q1
          try clear hx1
          try clear c2
          try clear p2
          try clear c3
          try clear c3b0
          try clear c4
          try clear c4b0
          try clear c5
          try clear c5b0
          try clear c6
          try clear c6b0
          try clear c6b1
          try clear p6
          try clear c7
          try clear c7b0
          try clear c7b1
          try clear hx109_0
          try clear hx110_0
          try clear p109
          try clear p110
          try clear q109
          try clear q110
          obtain ⟨x4_1, x5_1, rfl, rfl, HA, HK1, ⟨m1, rfl⟩⟩ := hrel
          cases gk with
          | zero => exact absurd HA.out (by simp [der_tag.l0])
          | succ k1 =>
            have H := HA.out
            clear HA
            simp only [der_tag.l0] at H
            by_cases c8 : x5_1 < (l0.length : Int)
            · rw [if_pos c8] at H
              have c8b0 : decide (x5_1 < (l0.length : Int)) = true := decide_eq_true c8
              clear c8
              by_cases c9 : 0 ≤ x5_1
              · rw [if_pos c9] at H
                have c9b0 : decide (0 ≤ x5_1) = true := decide_eq_true c9
                clear c9
                have HC10 := Aside0.mk H
                clear H
                have p111 : 0 ≤ (x5_1 : Int) := of_decide_eq_true (by first | (with_reducible assumption) | assumption)
                have q111 : x5_1 < (l0.length : Int) := of_decide_eq_true (by first | (with_reducible assumption) | assumption)
                obtain ⟨ad111, e111, hx111_0⟩ := Kd.at_int HR0.out x5_1 p111 q111
                obtain rfl : ad109 = ad111 := (by injection e111)
                replace p111 := eq_true p111
                replace q111 := eq_true q111
                go_upto_region 10 with (fail)
                go_cut [71] (fun v71 wc => ∃ (kq : Nat) (x71_9 : Bool), v71 = .bool x71_9 ∧ Aside0 (der_tag.j1 kq l0 a1 (Go.bits .or .i64 (wrap64 (x4_1 * 128)) (wrap64 (Go.bits .and .u8 (rd l0 x5_1) 127))) x5_1 x71_9 = some (r1, r2, r3, r4)) ∧ Aside0 (kq ≤ k1) ∧ Drawn0 w wc)
                case first =>
                  have H := HC10.out
                  clear HC10
                  by_cases c11 : x5_1 = (wrap64 (a1 + 1))
                  · rw [if_pos c11] at H
                    have c11b0 : (x5_1 == (wrap64 (a1 + 1))) = true := beq_iff_eq.mpr c11
                    have c11b1 : (x5_1 != (wrap64 (a1 + 1))) = false := bne_eq_false_iff_eq.mpr c11
                    clear c11
                    (first | rw [c11b0] | (simp only [i64_w, i32_w]; rw [c11b0]) | skip)
                    by_cases c12 : (rd l0 x5_1) = 128
                    · rw [if_pos c12] at H
                      have c12b0 : ((rd l0 x5_1) == 128) = true := beq_iff_eq.mpr c12
                      have c12b1 : ((rd l0 x5_1) != 128) = false := bne_eq_false_iff_eq.mpr c12
                      clear c12
                      have H' := Aside0.mk H
                      clear H
                      have p112 : 0 ≤ (x5_1 : Int) := of_decide_eq_true (by first | (with_reducible assumption) | assumption)
                      have q112 : x5_1 < (l0.length : Int) := of_decide_eq_true (by first | (with_reducible assumption) | assumption)
                      obtain ⟨ad112, e112, hx112_0⟩ := Kd.at_int HR0.out x5_1 p112 q112
                      obtain rfl : ad109 = ad112 := (by injection e112)
                      replace p112 := eq_true p112
                      replace q112 := eq_true q112
                      go_wp2
                      go_meet
                      case rel => exact ⟨_, (true), (by first | rfl | (simp; done) | (simp [*]; done)), H', ⟨by have := HK1.out; first | omega | exact Nat.le_refl _⟩, by repeat (first | exact Drawn0.refl _ | apply Drawn0.step)⟩
                    · rw [if_neg c12] at H
                      have c12b0 : ((rd l0 x5_1) == 128) = false := beq_eq_false_iff_ne.mpr c12
                      have c12b1 : ((rd l0 x5_1) != 128) = true := bne_iff_ne.mpr c12
                      by_cases c13 : (Go.bits .or .i64 (wrap64 (x4_1 * 128)) (wrap64 (Go.bits .and .u8 (rd l0 x5_1) 127))) > 268435455
                      · rw [if_pos c13] at H
                        have c13b0 : decide (268435455 < (Go.bits .or .i64 (wrap64 (x4_1 * 128)) (wrap64 (Go.bits .and .u8 (rd l0 x5_1) 127)))) = true := decide_eq_true c13
                        clear c13
                        have H' := Aside0.mk H
                        clear H
                        have p112 : 0 ≤ (x5_1 : Int) := of_decide_eq_true (by first | (with_reducible assumption) | assumption)
                        have q112 : x5_1 < (l0.length : Int) := of_decide_eq_true (by first | (with_reducible assumption) | assumption)
                        obtain ⟨ad112, e112, hx112_0⟩ := Kd.at_int HR0.out x5_1 p112 q112
                        obtain rfl : ad109 = ad112 := (by injection e112)
                        replace p112 := eq_true p112
                        replace q112 := eq_true q112
                        go_wp2
                        go_meet
                        case rel => exact ⟨_, (true), (by first | rfl | (simp; done) | (simp [*]; done)), H', ⟨by have := HK1.out; first | omega | exact Nat.le_refl _⟩, by repeat (first | exact Drawn0.refl _ | apply Drawn0.step)⟩
                      · rw [if_neg c13] at H
                        have c13b0 : decide (268435455 < (Go.bits .or .i64 (wrap64 (x4_1 * 128)) (wrap64 (Go.bits .and .u8 (rd l0 x5_1) 127)))) = false := decide_eq_false c13
                        clear c13
                        by_cases c14 : (rd l0 x5_1) < 128
                        · rw [if_pos c14] at H
                          have c14b0 : decide ((rd l0 x5_1) < 128) = true := decide_eq_true c14
                          clear c14
                          have H' := Aside0.mk H
                          clear H
                          have p112 : 0 ≤ (x5_1 : Int) := of_decide_eq_true (by first | (with_reducible assumption) | assumption)
                          have q112 : x5_1 < (l0.length : Int) := of_decide_eq_true (by first | (with_reducible assumption) | assumption)
                          obtain ⟨ad112, e112, hx112_0⟩ := Kd.at_int HR0.out x5_1 p112 q112
                          obtain rfl : ad109 = ad112 := (by injection e112)
                          replace p112 := eq_true p112
                          replace q112 := eq_true q112
                          have p113 : 0 ≤ (x5_1 : Int) := of_decide_eq_true (by first | (with_reducible assumption) | assumption)
                          have q113 : x5_1 < (l0.length : Int) := of_decide_eq_true (by first | (with_reducible assumption) | assumption)
                          obtain ⟨ad113, e113, hx113_0⟩ := Kd.at_int HR0.out x5_1 p113 q113
                          obtain rfl : ad109 = ad113 := (by injection e113)
                          replace p113 := eq_true p113
                          replace q113 := eq_true q113
                          go_wp2
                          go_meet
                          case rel => exact ⟨_, (decide ((Go.bits .or .i64 (wrap64 (x4_1 * 128)) (wrap64 (Go.bits .and .u8 (rd l0 x5_1) 127))) < 31)), (by first | rfl | (simp; done) | (simp [*]; done)), H', ⟨by have := HK1.out; first | omega | exact Nat.le_refl _⟩, by repeat (first | exact Drawn0.refl _ | apply Drawn0.step)⟩
                        · rw [if_neg c14] at H
                          have c14b0 : decide ((rd l0 x5_1) < 128) = false := decide_eq_false c14
                          clear c14
                          have H' := Aside0.mk H
                          clear H
                          have p112 : 0 ≤ (x5_1 : Int) := of_decide_eq_true (by first | (with_reducible assumption) | assumption)
                          have q112 : x5_1 < (l0.length : Int) := of_decide_eq_true (by first | (with_reducible assumption) | assumption)
                          obtain ⟨ad112, e112, hx112_0⟩ := Kd.at_int HR0.out x5_1 p112 q112
                          obtain rfl : ad109 = ad112 := (by injection e112)
                          replace p112 := eq_true p112
                          replace q112 := eq_true q112
                          have p113 : 0 ≤ (x5_1 : Int) := of_decide_eq_true (by first | (with_reducible assumption) | assumption)
                          have q113 : x5_1 < (l0.length : Int) := of_decide_eq_true (by first | (with_reducible assumption) | assumption)
                          obtain ⟨ad113, e113, hx113_0⟩ := Kd.at_int HR0.out x5_1 p113 q113
                          obtain rfl : ad109 = ad113 := (by injection e113)
                          replace p113 := eq_true p113
                          replace q113 := eq_true q113
                          go_wp2
                          go_meet
                          case rel => exact ⟨_, (false), (by first | rfl | (simp; done) | (simp [*]; done)), H', ⟨by have := HK1.out; first | omega | exact Nat.le_refl _⟩, by repeat (first | exact Drawn0.refl _ | apply Drawn0.step)⟩
                  · rw [if_neg c11] at H
                    have c11b0 : (x5_1 == (wrap64 (a1 + 1))) = false := beq_eq_false_iff_ne.mpr c11
                    have c11b1 : (x5_1 != (wrap64 (a1 + 1))) = true := bne_iff_ne.mpr c11
                    (first | rw [c11b0] | (simp only [i64_w, i32_w]; rw [c11b0]) | skip)
                    by_cases c15 : (Go.bits .or .i64 (wrap64 (x4_1 * 128)) (wrap64 (Go.bits .and .u8 (rd l0 x5_1) 127))) > 268435455
                    · rw [if_pos c15] at H
                      have c15b0 : decide (268435455 < (Go.bits .or .i64 (wrap64 (x4_1 * 128)) (wrap64 (Go.bits .and .u8 (rd l0 x5_1) 127)))) = true := decide_eq_true c15
                      clear c15
                      have H' := Aside0.mk H
                      clear H
                      go_wp2
                      go_meet
                      case rel => exact ⟨_, (true), (by first | rfl | (simp; done) | (simp [*]; done)), H', ⟨by have := HK1.out; first | omega | exact Nat.le_refl _⟩, by repeat (first | exact Drawn0.refl _ | apply Drawn0.step)⟩
                    · rw [if_neg c15] at H
                      have c15b0 : decide (268435455 < (Go.bits .or .i64 (wrap64 (x4_1 * 128)) (wrap64 (Go.bits .and .u8 (rd l0 x5_1) 127)))) = false := decide_eq_false c15
                      clear c15
                      by_cases c16 : (rd l0 x5_1) < 128
                      · rw [if_pos c16] at H
                        have c16b0 : decide ((rd l0 x5_1) < 128) = true := decide_eq_true c16
                        clear c16
                        have H' := Aside0.mk H
                        clear H
                        have p114 : 0 ≤ (x5_1 : Int) := of_decide_eq_true (by first | (with_reducible assumption) | assumption)
                        have q114 : x5_1 < (l0.length : Int) := of_decide_eq_true (by first | (with_reducible assumption) | assumption)
                        obtain ⟨ad114, e114, hx114_0⟩ := Kd.at_int HR0.out x5_1 p114 q114
                        obtain rfl : ad109 = ad114 := (by injection e114)
                        replace p114 := eq_true p114
                        replace q114 := eq_true q114
                        go_wp2
                        go_meet
                        case rel => exact ⟨_, (decide ((Go.bits .or .i64 (wrap64 (x4_1 * 128)) (wrap64 (Go.bits .and .u8 (rd l0 x5_1) 127))) < 31)), (by first | rfl | (simp; done) | (simp [*]; done)), H', ⟨by have := HK1.out; first | omega | exact Nat.le_refl _⟩, by repeat (first | exact Drawn0.refl _ | apply Drawn0.step)⟩
                      · rw [if_neg c16] at H
                        have c16b0 : decide ((rd l0 x5_1) < 128) = false := decide_eq_false c16
                        clear c16
                        have H' := Aside0.mk H
                        clear H
                        have p114 : 0 ≤ (x5_1 : Int) := of_decide_eq_true (by first | (with_reducible assumption) | assumption)
                        have q114 : x5_1 < (l0.length : Int) := of_decide_eq_true (by first | (with_reducible assumption) | assumption)
                        obtain ⟨ad114, e114, hx114_0⟩ := Kd.at_int HR0.out x5_1 p114 q114
                        obtain rfl : ad109 = ad114 := (by injection e114)
                        replace p114 := eq_true p114
                        replace q114 := eq_true q114
                        go_wp2
                        go_meet
                        case rel => exact ⟨_, (false), (by first | rfl | (simp; done) | (simp [*]; done)), H', ⟨by have := HK1.out; first | omega | exact Nat.le_refl _⟩, by repeat (first | exact Drawn0.refl _ | apply Drawn0.step)⟩
                case rest =>
                  clear HC10
                  try clear c1
                  try clear p1
                  try clear q1
                  try clear hx1
                  try clear c2
                  try clear p2
                  try clear c3
                  try clear c3b0
                  try clear c4
                  try clear c4b0
                  try clear c5
                  try clear c5b0
                  try clear c6
                  try clear c6b0
                  try clear c6b1
                  try clear p6
                  try clear c7
                  try clear c7b0
                  try clear c7b1
                  try clear c8
                  try clear c8b0
                  try clear c9
                  try clear c9b0
                  try clear p10
                  try clear q10
                  try clear hx10
                  try clear c11
                  try clear c11b0
                  try clear c11b1
                  try clear p11
                  try clear q11
                  try clear hx11
                  try clear c12
                  try clear c12b0
                  try clear c12b1
                  try clear c13
                  try clear c13b0
                  try clear c14
                  try clear c14b0
                  try clear c15
                  try clear c15b0
                  try clear c16
                  try clear c16b0
                  try clear hx109_0
                  try clear hx110_0
                  try clear hx111_0
                  try clear hx112_0
                  try clear hx113_0
                  try clear hx114_0
                  try clear p1
                  try clear p109
                  try clear p110
                  try clear p111
                  try clear p112
                  try clear p113
                  try clear p114
                  try clear p2
                  try clear p6
                  try clear q1
                  try clear q109
                  try clear q110
                  try clear q111
                  try clear q112
                  try clear q113
                  try clear q114
                  obtain ⟨kq, x71_9, rfl, HA, HJ9, ⟨mc9, rfl⟩⟩ := hcut
                  cases kq with
                  | zero => exact absurd HA.out (by simp [der_tag.j1])
                  | succ kj9 =>
                    have H := HA.out
                    clear HA
                    simp only [der_tag.j1] at H
                    by_cases c17 : x71_9 = true
                    · subst c17
                      have H1 : (some (0, 0, 30, x5_1)) = some (r1, r2, r3, r4) := by rw [if_pos rfl] at H; exact H
                      clear H
                      have H := H1
                      clear H1
                      simp only [Option.some.injEq, Prod.mk.injEq] at H
                      obtain ⟨rfl, rfl, rfl, rfl⟩ := H
                      go_wp2
                      refine bodyPost_ret (results_list (rs := [.tmp 4, .tmp 5, .tmp 6, .tmp 7]) rfl (by simp) (.tmp (.tmp (.tmp (.tmp .nil))))) rfl ?_
                      exact ⟨by first | rfl | (simp; done) | (simp [*]; done), by repeat (first | exact Drawn0.refl _ | apply Drawn0.step)⟩
                    · replace c17 := Bool.eq_false_iff.mpr c17
                      subst c17
                      have H1 : (if 0 ≤ x5_1 then (if x5_1 < (l0.length : Int) then (if (rd l0 x5_1) < 128 then (some ((Go.bits .or .i64 (wrap64 (x4_1 * 128)) (wrap64 (Go.bits .and .u8 (rd l0 x5_1) 127))), wrap64 (x5_1 + 1), 0, 0)) else (der_tag.l0 kj9 l0 a1 (Go.bits .or .i64 (wrap64 (x4_1 * 128)) (wrap64 (Go.bits .and .u8 (rd l0 x5_1) 127))) (wrap64 (x5_1 + 1)))) else (none)) else (none)) = some (r1, r2, r3, r4) := by rw [if_neg (show ¬ (false = true) by decide)] at H; exact H
                      clear H
                      have H := H1
                      clear H1
                      by_cases c18 : 0 ≤ x5_1
                      · rw [if_pos c18] at H
                        have c18b0 : decide (0 ≤ x5_1) = true := decide_eq_true c18
                        clear c18
                        by_cases c19 : x5_1 < (l0.length : Int)
                        · rw [if_pos c19] at H
                          have c19b0 : decide (x5_1 < (l0.length : Int)) = true := decide_eq_true c19
                          clear c19
                          by_cases c20 : (rd l0 x5_1) < 128
                          · rw [if_pos c20] at H
                            have c20b0 : decide ((rd l0 x5_1) < 128) = true := decide_eq_true c20
                            clear c20
                            simp only [Option.some.injEq, Prod.mk.injEq] at H
                            obtain ⟨rfl, rfl, rfl, rfl⟩ := H
                            have p115 : 0 ≤ (x5_1 : Int) := of_decide_eq_true (by first | (with_reducible assumption) | assumption)
                            have q115 : x5_1 < (l0.length : Int) := of_decide_eq_true (by first | (with_reducible assumption) | assumption)
                            obtain ⟨ad115, e115, hx115_0⟩ := Kd.at_int HR0.out x5_1 p115 q115
                            obtain rfl : ad109 = ad115 := (by injection e115)
                            replace p115 := eq_true p115
                            replace q115 := eq_true q115
                            go_wp2
                            refine bodyPost_ret (results_list (rs := [.tmp 4, .tmp 5, .tmp 6, .tmp 7]) rfl (by simp) (.tmp (.tmp (.tmp (.tmp .nil))))) rfl ?_
                            exact ⟨by first | rfl | (simp; done) | (simp [*]; done), by repeat (first | exact Drawn0.refl _ | apply Drawn0.step)⟩
                          · rw [if_neg c20] at H
                            have c20b0 : decide ((rd l0 x5_1) < 128) = false := decide_eq_false c20
                            clear c20
                            have H' := Aside0.mk H
                            clear H
                            have p115 : 0 ≤ (x5_1 : Int) := of_decide_eq_true (by first | (with_reducible assumption) | assumption)
                            have q115 : x5_1 < (l0.length : Int) := of_decide_eq_true (by first | (with_reducible assumption) | assumption)
                            obtain ⟨ad115, e115, hx115_0⟩ := Kd.at_int HR0.out x5_1 p115 q115
                            obtain rfl : ad109 = ad115 := (by injection e115)
                            replace p115 := eq_true p115
                            replace q115 := eq_true q115
                            go_wp2
                            go_roundg kj9
                            case measure => have := HK1.out; have := HJ9.out; omega
                            case rel => exact ⟨((Go.bits .or .i64 (wrap64 (x4_1 * 128)) (wrap64 (Go.bits .and .u8 (rd l0 x5_1) 127)))), (wrap64 (x5_1 + 1)), (by first | rfl | (simp; done) | (simp [*]; done)), (by first | rfl | (simp; done) | (simp [*]; done)), H', ⟨by have := HK1.out; have := HJ9.out; omega⟩, by repeat (first | exact Drawn0.refl _ | apply Drawn0.step)⟩
                        · rw [if_neg c19] at H
                          exact absurd H (by simp)
                      · rw [if_neg c18] at H
                        exact absurd H (by simp)
              · rw [if_neg c9] at H
                exact absurd H (by simp)
            · rw [if_neg c8] at H
              have c8b0 : decide (x5_1 < (l0.length : Int)) = false := decide_eq_false c8
              clear c8
              simp only [Option.some.injEq, Prod.mk.injEq] at H
              obtain ⟨rfl, rfl, rfl, rfl⟩ := H
              go_wp2
              refine bodyPost_ret (results_list (rs := [.tmp 4, .tmp 5, .tmp 6, .tmp 7]) rfl (by simp) (.tmp (.tmp (.tmp (.tmp .nil))))) rfl ?_
              exact ⟨by first | rfl | (simp; done) | (simp [*]; done), by repeat (first | exact Drawn0.refl _ | apply Drawn0.step)⟩
    · rw [if_neg c4] at H
      exact absurd H (by simp)
  · rw [if_neg c3] at H
    exact absurd H (by simp)
end Go.Proofs.YtkioddjjfifadaaGreatDoor.P
namespace Go.Proofs.YtkioddjjfifadaaGreatDoor.P
open Go.RowKit Go.Proofs.YtkioddjjfifadaaGreatDoorW.PrintWords Go.Proofs.YtkioddjjfifadaaGreatDoorW.PrintLast Go.Proofs.YtkioddjjfifadaaGreatDoorW.PrintMore
attribute [local go_sem] max2_int min2_int max_two min_two max_three min_three max_four min_four   -- for this text's walks alone
set_option linter.unusedVariables false
set_option linter.unusedSimpArgs false
mutual
def der_length.j0 : Nat → List Int → Int → Int → Int → Bool → Option (Int × Int × Int × Int)
  | 0, _, _, _, _, _ => none
  | k + 1, x0, x1, x5, x8, x32 => if x32 = true then (some (0, 0, 31, x1)) else (if x8 > (wrap64 ((x0.length : Int) - x5)) then (some (0, 0, 2, (x0.length : Int))) else (if 0 ≤ x5 then (if x5 ≤ (wrap64 (x5 + x8)) then (if (wrap64 (x5 + x8)) ≤ (x0.length : Int) then ((some ((x0.take ((wrap64 (x5 + x8)) : Int).toNat).drop (x5 : Int).toNat : List Int)).bind fun y117 => (der_length.l0 k x0 x1 0 x5 x8 y117 (y117.length : Int) 0)) else (none)) else (none)) else (none)))
def der_length.l0 : Nat → List Int → Int → Int → Int → Int → List Int → Int → Int → Option (Int × Int × Int × Int)
  | 0, _, _, _, _, _, _, _, _ => none
  | k + 1, x0, x1, x4, x5, x8, x47, x48, x49 => if x49 < x48 then (if 0 ≤ x49 then (if x49 < (x47.length : Int) then (der_length.l0 k x0 x1 (mn (Go.bits .or .i64 (wrap64 (x4 * 256)) (wrap64 (rd x47 x49))) 16777217) x5 x8 x47 x48 (wrap64 (x49 + 1))) else (none)) else (none)) else (if 0 ≤ x5 then (if x5 < (x0.length : Int) then (if (rd x0 x5) = 0 then (der_length.j2 k x0 x1 x4 x5 x8 true) else (der_length.j2 k x0 x1 x4 x5 x8 (decide (x4 < 128)))) else (none)) else (none))
def der_length.j2 : Nat → List Int → Int → Int → Int → Int → Bool → Option (Int × Int × Int × Int)
  | 0, _, _, _, _, _, _ => none
  | k + 1, x0, x1, x4, x5, x8, x68 => if x68 = true then (some (0, 0, 31, x1)) else (if x4 > (wrap64 ((x0.length : Int) - (wrap64 (x5 + x8)))) then (some (0, 0, 31, x1)) else (some (x4, wrap64 (x5 + x8), 0, 0)))
end
def der_length.f (k : Nat) (l0 : List Int) (a1 : Int) : Option (Int × Int × Int × Int) := if a1 = (l0.length : Int) then (some (0, 0, 2, a1)) else (if 0 ≤ a1 then (if a1 < (l0.length : Int) then (if (wrap64 (rd l0 a1)) ≥ 128 then (if (Go.bits .and .i64 (wrap64 (rd l0 a1)) 127) = 0 then (der_length.j0 k l0 a1 (wrap64 (a1 + 1)) (Go.bits .and .i64 (wrap64 (rd l0 a1)) 127) true) else (der_length.j0 k l0 a1 (wrap64 (a1 + 1)) (Go.bits .and .i64 (wrap64 (rd l0 a1)) 127) ((Go.bits .and .i64 (wrap64 (rd l0 a1)) 127) == 127))) else (if (wrap64 (rd l0 a1)) > (wrap64 ((l0.length : Int) - (wrap64 (a1 + 1)))) then (some (0, 0, 31, a1)) else (some (wrap64 (rd l0 a1), wrap64 (a1 + 1), 0, 0)))) else (none)) else (none))
set_option maxHeartbeats 8000000 in
set_option maxRecDepth 100000 in
theorem der_length.calls (k : Nat) (A0 : Option Addr) (c0 : Nat) (l0 : List Int) (a1 : Int) (r1 : Int) (r2 : Int) (r3 : Int) (r4 : Int) (w : World) (hr0 : Kd.C (Kd.int .u8) w A0 l0.length l0) (hc0 : l0.length ≤ c0) (h : der_length.f k l0 a1 = some (r1, r2, r3, r4)) :
    Calls Tryz.prog 215 #[.slice A0 l0.length c0, .int .i64 a1] w fun e w' => e = .returned (.tuple #[.int .i64 r1, .int .i64 r2, .int .i64 r3, .int .i64 r4]) ∧ Below w.heap.size w w' := by
  have HR0 := Aside0.mk hr0
  have HC0 := Aside0.mk hc0
  clear hr0 hc0
  have HB := Aside0.mk (Below.refl w.heap.size w)
  have H : (if a1 = (l0.length : Int) then (some (0, 0, 2, a1)) else (if 0 ≤ a1 then (if a1 < (l0.length : Int) then (if (wrap64 (rd l0 a1)) ≥ 128 then (if (Go.bits .and .i64 (wrap64 (rd l0 a1)) 127) = 0 then (der_length.j0 k l0 a1 (wrap64 (a1 + 1)) (Go.bits .and .i64 (wrap64 (rd l0 a1)) 127) true) else (der_length.j0 k l0 a1 (wrap64 (a1 + 1)) (Go.bits .and .i64 (wrap64 (rd l0 a1)) 127) ((Go.bits .and .i64 (wrap64 (rd l0 a1)) 127) == 127))) else (if (wrap64 (rd l0 a1)) > (wrap64 ((l0.length : Int) - (wrap64 (a1 + 1)))) then (some (0, 0, 31, a1)) else (some (wrap64 (rd l0 a1), wrap64 (a1 + 1), 0, 0)))) else (none)) else (none))) = some (r1, r2, r3, r4) := h
  clear h
  by_cases c3 : a1 = (l0.length : Int)
  · rw [if_pos c3] at H
    have c3b0 : (a1 == (l0.length : Int)) = true := beq_iff_eq.mpr c3
    have c3b1 : (a1 != (l0.length : Int)) = false := bne_eq_false_iff_eq.mpr c3
    clear c3
    simp only [Option.some.injEq, Prod.mk.injEq] at H
    obtain ⟨rfl, rfl, rfl, rfl⟩ := H
    go_enter Tryz.func215, Tryz.ntmps215
    go_wp2
    refine bodyPost_ret (results_list (rs := [.tmp 4, .tmp 5, .tmp 6, .tmp 7]) rfl (by simp) (.tmp (.tmp (.tmp (.tmp .nil))))) rfl ?_
    exact ⟨by first | rfl | (simp [errW_none, errW_some] <;> rfl) | (simp [*, errW_none, errW_some] <;> rfl), by repeat (first | (with_reducible first | exact HB.out | apply below_alloc | apply pw_below_drewN | apply below_drew1) | exact HB.out)⟩
  · rw [if_neg c3] at H
    have c3b0 : (a1 == (l0.length : Int)) = false := beq_eq_false_iff_ne.mpr c3
    have c3b1 : (a1 != (l0.length : Int)) = true := bne_iff_ne.mpr c3
    by_cases c4 : 0 ≤ a1
    · rw [if_pos c4] at H
      have c4b0 : decide (0 ≤ a1) = true := decide_eq_true c4
      clear c4
      by_cases c5 : a1 < (l0.length : Int)
      · rw [if_pos c5] at H
        have c5b0 : decide (a1 < (l0.length : Int)) = true := decide_eq_true c5
        clear c5
        by_cases c6 : (wrap64 (rd l0 a1)) ≥ 128
        · rw [if_pos c6] at H
          have c6b0 : decide (128 ≤ (wrap64 (rd l0 a1))) = true := decide_eq_true c6
          clear c6
          have HC7 := Aside0.mk H
          clear H
          have p116 : 0 ≤ (a1 : Int) := of_decide_eq_true (by first | (with_reducible assumption) | assumption)
          have q116 : a1 < (l0.length : Int) := of_decide_eq_true (by first | (with_reducible assumption) | assumption)
          obtain ⟨ad116, e116, hx116_0⟩ := Kd.at_int HR0.out a1 p116 q116
          cases e116
          replace p116 := eq_true p116
          replace q116 := eq_true q116
          go_enter Tryz.func215, Tryz.ntmps215
          go_upto_region 6 with (fail)
          go_cut [32] (fun v32 wc => ∃ (kq : Nat) (x32_6 : Bool), v32 = .bool x32_6 ∧ Aside0 (der_length.j0 kq l0 a1 (wrap64 (a1 + 1)) (Go.bits .and .i64 (wrap64 (rd l0 a1)) 127) x32_6 = some (r1, r2, r3, r4)) ∧ Aside0 (kq ≤ k) ∧ Aside0 (Below w.heap.size w wc))
          case first =>
            have H := HC7.out
            clear HC7
            by_cases c8 : (Go.bits .and .i64 (wrap64 (rd l0 a1)) 127) = 0
            · rw [if_pos c8] at H
              have c8b0 : ((Go.bits .and .i64 (wrap64 (rd l0 a1)) 127) == 0) = true := beq_iff_eq.mpr c8
              have c8b1 : ((Go.bits .and .i64 (wrap64 (rd l0 a1)) 127) != 0) = false := bne_eq_false_iff_eq.mpr c8
              clear c8
              (first | rw [c8b0] | (simp only [i64_w, i32_w]; rw [c8b0]) | skip)
              have H' := Aside0.mk H
              clear H
              go_wp2
              go_meet
              case rel => exact ⟨_, (true), (by first | rfl | (simp; done) | (simp [*]; done)), H', ⟨by first | omega | exact Nat.le_refl _⟩, ⟨by repeat (first | (with_reducible first | exact HB.out | apply below_alloc | apply pw_below_drewN | apply below_drew1) | exact HB.out)⟩⟩
            · rw [if_neg c8] at H
              have c8b0 : ((Go.bits .and .i64 (wrap64 (rd l0 a1)) 127) == 0) = false := beq_eq_false_iff_ne.mpr c8
              have c8b1 : ((Go.bits .and .i64 (wrap64 (rd l0 a1)) 127) != 0) = true := bne_iff_ne.mpr c8
              (first | rw [c8b0] | (simp only [i64_w, i32_w]; rw [c8b0]) | skip)
              have H' := Aside0.mk H
              clear H
              go_wp2
              go_meet
              case rel => exact ⟨_, (((Go.bits .and .i64 (wrap64 (rd l0 a1)) 127) == 127)), (by first | rfl | (simp; done) | (simp [*]; done)), H', ⟨by first | omega | exact Nat.le_refl _⟩, ⟨by repeat (first | (with_reducible first | exact HB.out | apply below_alloc | apply pw_below_drewN | apply below_drew1) | exact HB.out)⟩⟩
          case rest =>
            clear HC7
            try clear p1
            try clear q1
            try clear hx1
            try clear c2
            try clear p2
            try clear c3
            try clear c3b0
            try clear c3b1
            try clear c4
            try clear c4b0
            try clear c5
            try clear c5b0
            try clear c6
            try clear c6b0
            try clear p6
            try clear c8
            try clear c8b0
            try clear c8b1
            try clear hx116_0
            try clear p116
            try clear q116
            obtain ⟨kq, x32_6, rfl, HA, HJ6, HB⟩ := hcut
            cases kq with
            | zero => exact absurd HA.out (by simp [der_length.j0])
            | succ kj6 =>
              have H := HA.out
              clear HA
              simp only [der_length.j0] at H
              by_cases c9 : x32_6 = true
              · subst c9
                have H1 : (some (0, 0, 31, a1)) = some (r1, r2, r3, r4) := by rw [if_pos rfl] at H; exact H
                clear H
                have H := H1
                clear H1
                simp only [Option.some.injEq, Prod.mk.injEq] at H
                obtain ⟨rfl, rfl, rfl, rfl⟩ := H
                go_wp2
                refine bodyPost_ret (results_list (rs := [.tmp 4, .tmp 5, .tmp 6, .tmp 7]) rfl (by simp) (.tmp (.tmp (.tmp (.tmp .nil))))) rfl ?_
                exact ⟨by first | rfl | (simp [errW_none, errW_some] <;> rfl) | (simp [*, errW_none, errW_some] <;> rfl), by repeat (first | (with_reducible first | exact HB.out | apply below_alloc | apply pw_below_drewN | apply below_drew1) | exact HB.out)⟩
              · replace c9 := Bool.eq_false_iff.mpr c9
                subst c9
                have H1 : (if (Go.bits .and .i64 (wrap64 (rd l0 a1)) 127) > (wrap64 ((l0.length : Int) - (wrap64 (a1 + 1)))) then (some (0, 0, 2, (l0.length : Int))) else (if 0 ≤ (wrap64 (a1 + 1)) then (if (wrap64 (a1 + 1)) ≤ (wrap64 ((wrap64 (a1 + 1)) + (Go.bits .and .i64 (wrap64 (rd l0 a1)) 127))) then (if (wrap64 ((wrap64 (a1 + 1)) + (Go.bits .and .i64 (wrap64 (rd l0 a1)) 127))) ≤ (l0.length : Int) then ((some ((l0.take ((wrap64 ((wrap64 (a1 + 1)) + (Go.bits .and .i64 (wrap64 (rd l0 a1)) 127))) : Int).toNat).drop ((wrap64 (a1 + 1)) : Int).toNat : List Int)).bind fun y117 => (der_length.l0 kj6 l0 a1 0 (wrap64 (a1 + 1)) (Go.bits .and .i64 (wrap64 (rd l0 a1)) 127) y117 (y117.length : Int) 0)) else (none)) else (none)) else (none))) = some (r1, r2, r3, r4) := by rw [if_neg (show ¬ (false = true) by decide)] at H; exact H
                clear H
                have H := H1
                clear H1
                by_cases c10 : (Go.bits .and .i64 (wrap64 (rd l0 a1)) 127) > (wrap64 ((l0.length : Int) - (wrap64 (a1 + 1))))
                · rw [if_pos c10] at H
                  have c10b0 : decide ((wrap64 ((l0.length : Int) - (wrap64 (a1 + 1)))) < (Go.bits .and .i64 (wrap64 (rd l0 a1)) 127)) = true := decide_eq_true c10
                  clear c10
                  simp only [Option.some.injEq, Prod.mk.injEq] at H
                  obtain ⟨rfl, rfl, rfl, rfl⟩ := H
                  go_wp2
                  refine bodyPost_ret (results_list (rs := [.tmp 4, .tmp 5, .tmp 6, .tmp 7]) rfl (by simp) (.tmp (.tmp (.tmp (.tmp .nil))))) rfl ?_
                  exact ⟨by first | rfl | (simp [errW_none, errW_some] <;> rfl) | (simp [*, errW_none, errW_some] <;> rfl), by repeat (first | (with_reducible first | exact HB.out | apply below_alloc | apply pw_below_drewN | apply below_drew1) | exact HB.out)⟩
                · rw [if_neg c10] at H
                  have c10b0 : decide ((wrap64 ((l0.length : Int) - (wrap64 (a1 + 1)))) < (Go.bits .and .i64 (wrap64 (rd l0 a1)) 127)) = false := decide_eq_false c10
                  clear c10
                  by_cases c11 : 0 ≤ (wrap64 (a1 + 1))
                  · rw [if_pos c11] at H
                    have c11b0 := eq_true c11
                    have c11b1 : decide (0 ≤ (wrap64 (a1 + 1))) = true := decide_eq_true c11
                    by_cases c12 : (wrap64 (a1 + 1)) ≤ (wrap64 ((wrap64 (a1 + 1)) + (Go.bits .and .i64 (wrap64 (rd l0 a1)) 127)))
                    · rw [if_pos c12] at H
                      have c12b0 := eq_true c12
                      have c12b1 : decide ((wrap64 (a1 + 1)) ≤ (wrap64 ((wrap64 (a1 + 1)) + (Go.bits .and .i64 (wrap64 (rd l0 a1)) 127)))) = true := decide_eq_true c12
                      by_cases c13 : (wrap64 ((wrap64 (a1 + 1)) + (Go.bits .and .i64 (wrap64 (rd l0 a1)) 127))) ≤ (l0.length : Int)
                      · rw [if_pos c13] at H
                        have c13b0 := eq_true c13
                        have c13b1 : decide ((wrap64 ((wrap64 (a1 + 1)) + (Go.bits .and .i64 (wrap64 (rd l0 a1)) 127))) ≤ (l0.length : Int)) = true := decide_eq_true c13
                        obtain ⟨y117, hy117⟩ : ∃ y_ : List Int, y_ = ((l0.take ((wrap64 ((wrap64 (a1 + 1)) + (Go.bits .and .i64 (wrap64 (rd l0 a1)) 127))) : Int).toNat).drop ((wrap64 (a1 + 1)) : Int).toNat) := ⟨_, rfl⟩
                        replace H : (der_length.l0 kj6 l0 a1 0 (wrap64 (a1 + 1)) (Go.bits .and .i64 (wrap64 (rd l0 a1)) 127) y117 (y117.length : Int) 0) = some (r1, r2, r3, r4) := by first | (rw [hy117]; with_reducible exact H) | (have H2_ := (Option.bind_some _ _).symm.trans H; rw [hy117]; with_reducible exact H2_) | (have H2_ := (Option.bind_some _ _).symm.trans H; with_reducible exact H2_) | with_reducible exact H | (rw [hy117]; exact H) | exact H
                        have Ny117 := Aside0.mk hy117
                        clear hy117
                        have H' := Aside0.mk H
                        clear H
                        have q14 : ((wrap64 ((wrap64 (a1 + 1)) + (Go.bits .and .i64 (wrap64 (rd l0 a1)) 127))) : Int) ≤ ((l0.length : Int) : Int) := of_decide_eq_true (by first | (with_reducible assumption) | assumption)
                        obtain ⟨i014, hi014, _, hsz14, _⟩ := info_parts info5
                        have hroom14 : l0.length ≤ c0 := HC0.out
                        have hC14 : Kd.C (Kd.int .u8) _ (some ad116) l0.length l0 := HR0.out
                        have ql14 : ((wrap64 (a1 + 1)) : Int) ≤ ((wrap64 ((wrap64 (a1 + 1)) + (Go.bits .and .i64 (wrap64 (rd l0 a1)) 127))) : Int) := of_decide_eq_true (by first | (with_reducible assumption) | assumption)
                        have q014 : (0 : Int) ≤ ((wrap64 (a1 + 1)) : Int) := of_decide_eq_true (by first | (with_reducible assumption) | assumption)
                        have hcut14 := cut_mid (P := Tryz.prog) 22 5 .i64 .i64 Tryz.underlying22 hi014 1 hsz14 (some ad116) l0.length c0 (wrap64 (a1 + 1)) (wrap64 ((wrap64 (a1 + 1)) + (Go.bits .and .i64 (wrap64 (rd l0 a1)) 127))) q014 ql14 q14 hroom14
                        have hr14 := Kd.C_mid (lo := ((wrap64 (a1 + 1)) : Int).toNat) (hi := ((wrap64 ((wrap64 (a1 + 1)) + (Go.bits .and .i64 (wrap64 (rd l0 a1)) 127))) : Int).toNat) (c := c0) hC14 (by omega) (by omega) hroom14
                        obtain ⟨A14, hA14⟩ : ∃ A1, A1 = (if c0 = ((wrap64 (a1 + 1)) : Int).toNat then (some ad116) else ((some ad116) : Option Addr).map (·.add (((wrap64 (a1 + 1)) : Int).toNat * 1))) := ⟨_, rfl⟩
                        obtain ⟨c14, hc14⟩ : ∃ c1, c1 = c0 - ((wrap64 (a1 + 1)) : Int).toNat := ⟨_, rfl⟩
                        have hy14 : y117.length = ((wrap64 ((wrap64 (a1 + 1)) + (Go.bits .and .i64 (wrap64 (rd l0 a1)) 127))) : Int).toNat - ((wrap64 (a1 + 1)) : Int).toNat := (by rw [Ny117.out, List.length_drop, List.length_take] <;> omega)
                        rw [show ((l0).take ((wrap64 ((wrap64 (a1 + 1)) + (Go.bits .and .i64 (wrap64 (rd l0 a1)) 127))) : Int).toNat).drop ((wrap64 (a1 + 1)) : Int).toNat = y117 from Ny117.out.symm] at hr14
                        replace hr14 : Kd.C (Kd.int .u8) _ A14 y117.length y117 := (by rw [hA14]; exact hr14)
                        rw [← hy14, ← hA14, ← hc14] at hcut14
                        have HR120 := Aside0.mk hr14
                        have HC120 := Aside0.mk (show y117.length ≤ c14 from by rw [hy14, hc14]; exact Nat.sub_le_sub_right (Nat.le_trans (by omega) hroom14) _)
                        clear hr14 hC14 hroom14 hi014 hsz14 hc14
                        have KY14 := Aside0.mk hy14
                        have KA14 := Aside0.mk hA14
                        clear hy14 hA14
                        replace q14 := eq_true q14
                        go_wp2
                        go_loopg [4, 49] kj6 (fun kq v4 v49 w' => ∃ (x4_2 : Int) (x49_2 : Int), v4 = .int .i64 x4_2 ∧ v49 = .int .i64 x49_2 ∧ Aside0 (der_length.l0 kq l0 a1 x4_2 (wrap64 (a1 + 1)) (Go.bits .and .i64 (wrap64 (rd l0 a1)) 127) y117 (y117.length : Int) x49_2 = some (r1, r2, r3, r4)) ∧ Aside0 (kq ≤ kj6) ∧ Aside0 (Below w.heap.size w w'))
                        case atStart => exact ⟨(0), (0), (by first | rfl | (simp; done) | (simp [*]; done)), (by first | rfl | (simp; done) | (simp [*]; done)), H', ⟨Nat.le_refl _⟩, ⟨by repeat (first | (with_reducible first | exact HB.out | apply below_alloc | apply pw_below_drewN | apply below_drew1) | exact HB.out)⟩⟩
                        case round =>
                          clear H'
                          try clear c1
                          try clear p1
                          try clear q1
                          try clear hx1
                          try clear c2
                          try clear p2
                          try clear c3
                          try clear c3b0
                          try clear c3b1
                          try clear c4
                          try clear c4b0
                          try clear c5
                          try clear c5b0
                          try clear c6
                          try clear c6b0
                          try clear p6
                          try clear c8
                          try clear c8b0
                          try clear c8b1
                          try clear c9
                          try clear c10
                          try clear c10b0
                          try clear c11
                          try clear c11b0
                          try clear c11b1
                          try clear p11
                          try clear q11
                          try clear hx11
                          try clear c12
                          try clear c12b0
                          try clear c12b1
                          try clear c13
                          try clear c13b0
                          try clear c13b1
                          try clear c14
                          try clear q14
                          try clear hx116_0
                          try clear p1
                          try clear p116
                          try clear p2
                          try clear p6
                          try clear q014
                          try clear q1
                          try clear q116
                          try clear q14
                          obtain ⟨x4_2, x49_2, rfl, rfl, HA, HK2, HB⟩ := hrel
                          cases gk with
                          | zero => exact absurd HA.out (by simp [der_length.l0])
                          | succ k2 =>
                            have H := HA.out
                            clear HA
                            simp only [der_length.l0] at H
                            by_cases c15 : x49_2 < (y117.length : Int)
                            · rw [if_pos c15] at H
                              have c15b0 : decide (x49_2 < (y117.length : Int)) = true := decide_eq_true c15
                              clear c15
                              by_cases c16 : 0 ≤ x49_2
                              · rw [if_pos c16] at H
                                have c16b0 : decide (0 ≤ x49_2) = true := decide_eq_true c16
                                clear c16
                                by_cases c17 : x49_2 < (y117.length : Int)
                                · rw [if_pos c17] at H
                                  have c17b0 : decide (x49_2 < (y117.length : Int)) = true := decide_eq_true c17
                                  clear c17
                                  obtain ⟨ji18, hji18⟩ : ∃ j_ : Int, (mn (Go.bits .or .i64 (wrap64 (x4_2 * 256)) (wrap64 (rd y117 x49_2))) 16777217) = j_ := ⟨_, rfl⟩
                                  replace H : (der_length.l0 k2 l0 a1 ji18 (wrap64 (a1 + 1)) (Go.bits .and .i64 (wrap64 (rd l0 a1)) 127) y117 (y117.length : Int) (wrap64 (x49_2 + 1))) = some (r1, r2, r3, r4) := by first | (rw [hji18] at H; exact H) | (simp only [hji18] at H ⊢; exact H)
                                  have hji18_ : (if 16777217 < (Go.bits .or .i64 (wrap64 (x4_2 * 256)) (wrap64 (rd y117 x49_2))) then 16777217 else (Go.bits .or .i64 (wrap64 (x4_2 * 256)) (wrap64 (rd y117 x49_2)))) = ji18 := hji18
                                  have H' := Aside0.mk H
                                  clear H
                                  have p121 : 0 ≤ (x49_2 : Int) := of_decide_eq_true (by first | (with_reducible assumption) | assumption)
                                  have q121 : x49_2 < (y117.length : Int) := of_decide_eq_true (by first | (with_reducible assumption) | assumption)
                                  obtain ⟨ad121, e121, hx121_0⟩ := Kd.at_int HR120.out x49_2 p121 q121
                                  cases e121
                                  replace hx121_0 := (HB.out.cell (World.block_lt_of_cell? w _ hx121_0)).trans hx121_0
                                  replace p121 := eq_true p121
                                  replace q121 := eq_true q121
                                  go_wp2
                                  go_roundg k2
                                  case measure => have := HJ6.out; have := HK2.out; omega
                                  case rel => exact ⟨(ji18), (wrap64 (x49_2 + 1)), (by first | rfl | (simp; done) | (simp only [← hji18] <;> (first | rfl | simp)) | (simp [*]; done)), (by first | rfl | (simp; done) | (simp [*]; done)), H', ⟨by have := HJ6.out; have := HK2.out; omega⟩, ⟨by repeat (first | (with_reducible first | exact HB.out | apply below_alloc | apply pw_below_drewN | apply below_drew1) | exact HB.out)⟩⟩
                                · rw [if_neg c17] at H
                                  exact absurd H (by simp)
                              · rw [if_neg c16] at H
                                exact absurd H (by simp)
                            · rw [if_neg c15] at H
                              have c15b0 : decide (x49_2 < (y117.length : Int)) = false := decide_eq_false c15
                              clear c15
                              have HC19 := Aside0.mk H
                              clear H
                              go_upto_region 16 with (fail)
                              go_cut [68] (fun v68 wc => ∃ (kq : Nat) (x68_18 : Bool), v68 = .bool x68_18 ∧ Aside0 (der_length.j2 kq l0 a1 x4_2 (wrap64 (a1 + 1)) (Go.bits .and .i64 (wrap64 (rd l0 a1)) 127) x68_18 = some (r1, r2, r3, r4)) ∧ Aside0 (kq ≤ k2) ∧ Aside0 (Below w.heap.size w wc))
                              case first =>
                                have H := HC19.out
                                clear HC19
                                by_cases c20 : 0 ≤ (wrap64 (a1 + 1))
                                · rw [if_pos c20] at H
                                  have c20b0 : decide (0 ≤ (wrap64 (a1 + 1))) = true := decide_eq_true c20
                                  clear c20
                                  (first | rw [c20b0] | (simp only [i64_w, i32_w]; rw [c20b0]) | skip)
                                  by_cases c21 : (wrap64 (a1 + 1)) < (l0.length : Int)
                                  · rw [if_pos c21] at H
                                    have c21b0 : decide ((wrap64 (a1 + 1)) < (l0.length : Int)) = true := decide_eq_true c21
                                    clear c21
                                    by_cases c22 : (rd l0 (wrap64 (a1 + 1))) = 0
                                    · rw [if_pos c22] at H
                                      have c22b0 : ((rd l0 (wrap64 (a1 + 1))) == 0) = true := beq_iff_eq.mpr c22
                                      have c22b1 : ((rd l0 (wrap64 (a1 + 1))) != 0) = false := bne_eq_false_iff_eq.mpr c22
                                      clear c22
                                      have H' := Aside0.mk H
                                      clear H
                                      have p122 : 0 ≤ ((wrap64 (a1 + 1)) : Int) := of_decide_eq_true (by first | (with_reducible assumption) | assumption)
                                      have q122 : (wrap64 (a1 + 1)) < (l0.length : Int) := of_decide_eq_true (by first | (with_reducible assumption) | assumption)
                                      obtain ⟨ad122, e122, hx122_0⟩ := Kd.at_int HR0.out (wrap64 (a1 + 1)) p122 q122
                                      obtain rfl : ad116 = ad122 := (by injection e122)
                                      replace hx122_0 := (HB.out.cell (World.block_lt_of_cell? w _ hx122_0)).trans hx122_0
                                      replace p122 := eq_true p122
                                      replace q122 := eq_true q122
                                      go_wp2
                                      go_meet
                                      case rel => exact ⟨_, (true), (by first | rfl | (simp; done) | (simp [*]; done)), H', ⟨by have := HJ6.out; have := HK2.out; first | omega | exact Nat.le_refl _⟩, ⟨by repeat (first | (with_reducible first | exact HB.out | apply below_alloc | apply pw_below_drewN | apply below_drew1) | exact HB.out)⟩⟩
                                    · rw [if_neg c22] at H
                                      have c22b0 : ((rd l0 (wrap64 (a1 + 1))) == 0) = false := beq_eq_false_iff_ne.mpr c22
                                      have c22b1 : ((rd l0 (wrap64 (a1 + 1))) != 0) = true := bne_iff_ne.mpr c22
                                      have H' := Aside0.mk H
                                      clear H
                                      have p122 : 0 ≤ ((wrap64 (a1 + 1)) : Int) := of_decide_eq_true (by first | (with_reducible assumption) | assumption)
                                      have q122 : (wrap64 (a1 + 1)) < (l0.length : Int) := of_decide_eq_true (by first | (with_reducible assumption) | assumption)
                                      obtain ⟨ad122, e122, hx122_0⟩ := Kd.at_int HR0.out (wrap64 (a1 + 1)) p122 q122
                                      obtain rfl : ad116 = ad122 := (by injection e122)
                                      replace hx122_0 := (HB.out.cell (World.block_lt_of_cell? w _ hx122_0)).trans hx122_0
                                      replace p122 := eq_true p122
                                      replace q122 := eq_true q122
                                      go_wp2
                                      go_meet
                                      case rel => exact ⟨_, (decide (x4_2 < 128)), (by first | rfl | (simp; done) | (simp [*]; done)), H', ⟨by have := HJ6.out; have := HK2.out; first | omega | exact Nat.le_refl _⟩, ⟨by repeat (first | (with_reducible first | exact HB.out | apply below_alloc | apply pw_below_drewN | apply below_drew1) | exact HB.out)⟩⟩
                                  · rw [if_neg c21] at H
                                    exact absurd H (by simp)
                                · rw [if_neg c20] at H
                                  exact absurd H (by simp)
                              case rest =>
                                clear HC19
                                try clear c1
                                try clear p1
                                try clear q1
                                try clear hx1
                                try clear c2
                                try clear p2
                                try clear c3
                                try clear c3b0
                                try clear c3b1
                                try clear c4
                                try clear c4b0
                                try clear c5
                                try clear c5b0
                                try clear c6
                                try clear c6b0
                                try clear p6
                                try clear c8
                                try clear c8b0
                                try clear c8b1
                                try clear c9
                                try clear c10
                                try clear c10b0
                                try clear c11
                                try clear c11b0
                                try clear c11b1
                                try clear p11
                                try clear q11
                                try clear hx11
                                try clear c12
                                try clear c12b0
                                try clear c12b1
                                try clear p12
                                try clear q12
                                try clear hx12
                                try clear c13
                                try clear c13b0
                                try clear c13b1
                                try clear c14
                                try clear q14
                                try clear c15
                                try clear c15b0
                                try clear c16
                                try clear c16b0
                                try clear c17
                                try clear c17b0
                                try clear c20
                                try clear c20b0
                                try clear c21
                                try clear c21b0
                                try clear c22
                                try clear c22b0
                                try clear c22b1
                                try clear hx116_0
                                try clear hx121_0
                                try clear hx122_0
                                try clear p1
                                try clear p11
                                try clear p116
                                try clear p121
                                try clear p122
                                try clear p2
                                try clear p6
                                try clear q014
                                try clear q1
                                try clear q11
                                try clear q116
                                try clear q121
                                try clear q122
                                try clear q14
                                obtain ⟨kq, x68_18, rfl, HA, HJ18, HB⟩ := hcut
                                cases kq with
                                | zero => exact absurd HA.out (by simp [der_length.j2])
                                | succ kj18 =>
                                  have H := HA.out
                                  clear HA
                                  simp only [der_length.j2] at H
                                  by_cases c23 : x68_18 = true
                                  · subst c23
                                    have H1 : (some (0, 0, 31, a1)) = some (r1, r2, r3, r4) := by rw [if_pos rfl] at H; exact H
                                    clear H
                                    have H := H1
                                    clear H1
                                    simp only [Option.some.injEq, Prod.mk.injEq] at H
                                    obtain ⟨rfl, rfl, rfl, rfl⟩ := H
                                    go_wp2
                                    refine bodyPost_ret (results_list (rs := [.tmp 4, .tmp 5, .tmp 6, .tmp 7]) rfl (by simp) (.tmp (.tmp (.tmp (.tmp .nil))))) rfl ?_
                                    exact ⟨by first | rfl | (simp [errW_none, errW_some] <;> rfl) | (simp [*, errW_none, errW_some] <;> rfl), by repeat (first | (with_reducible first | exact HB.out | apply below_alloc | apply pw_below_drewN | apply below_drew1) | exact HB.out)⟩
                                  · replace c23 := Bool.eq_false_iff.mpr c23
                                    subst c23
                                    have H1 : (if x4_2 > (wrap64 ((l0.length : Int) - (wrap64 ((wrap64 (a1 + 1)) + (Go.bits .and .i64 (wrap64 (rd l0 a1)) 127))))) then (some (0, 0, 31, a1)) else (some (x4_2, wrap64 ((wrap64 (a1 + 1)) + (Go.bits .and .i64 (wrap64 (rd l0 a1)) 127)), 0, 0))) = some (r1, r2, r3, r4) := by rw [if_neg (show ¬ (false = true) by decide)] at H; exact H
                                    clear H
                                    have H := H1
                                    clear H1
                                    by_cases c24 : x4_2 > (wrap64 ((l0.length : Int) - (wrap64 ((wrap64 (a1 + 1)) + (Go.bits .and .i64 (wrap64 (rd l0 a1)) 127)))))
                                    · rw [if_pos c24] at H
                                      have c24b0 : decide ((wrap64 ((l0.length : Int) - (wrap64 ((wrap64 (a1 + 1)) + (Go.bits .and .i64 (wrap64 (rd l0 a1)) 127))))) < x4_2) = true := decide_eq_true c24
                                      clear c24
                                      simp only [Option.some.injEq, Prod.mk.injEq] at H
                                      obtain ⟨rfl, rfl, rfl, rfl⟩ := H
                                      go_wp2
                                      refine bodyPost_ret (results_list (rs := [.tmp 4, .tmp 5, .tmp 6, .tmp 7]) rfl (by simp) (.tmp (.tmp (.tmp (.tmp .nil))))) rfl ?_
                                      exact ⟨by first | rfl | (simp [errW_none, errW_some] <;> rfl) | (simp [*, errW_none, errW_some] <;> rfl), by repeat (first | (with_reducible first | exact HB.out | apply below_alloc | apply pw_below_drewN | apply below_drew1) | exact HB.out)⟩
                                    · rw [if_neg c24] at H
                                      have c24b0 : decide ((wrap64 ((l0.length : Int) - (wrap64 ((wrap64 (a1 + 1)) + (Go.bits .and .i64 (wrap64 (rd l0 a1)) 127))))) < x4_2) = false := decide_eq_false c24
                                      clear c24
                                      simp only [Option.some.injEq, Prod.mk.injEq] at H
                                      obtain ⟨rfl, rfl, rfl, rfl⟩ := H
                                      go_wp2
                                      refine bodyPost_ret (results_list (rs := [.tmp 4, .tmp 5, .tmp 6, .tmp 7]) rfl (by simp) (.tmp (.tmp (.tmp (.tmp .nil))))) rfl ?_
                                      exact ⟨by first | rfl | (simp [errW_none, errW_some] <;> rfl) | (simp [*, errW_none, errW_some] <;> rfl), by repeat (first | (with_reducible first | exact HB.out | apply below_alloc | apply pw_below_drewN | apply below_drew1) | exact HB.out)⟩
                      · rw [if_neg c13] at H
                        exact absurd H (by simp)
                    · rw [if_neg c12] at H
                      exact absurd H (by simp)
                  · rw [if_neg c11] at H
                    exact absurd H (by simp)
        · rw [if_neg c6] at H
          have c6b0 : decide (128 ≤ (wrap64 (rd l0 a1))) = false := decide_eq_false c6
          clear c6
          by_cases c25 : (wrap64 (rd l0 a1)) > (wrap64 ((l0.length : Int) - (wrap64 (a1 + 1))))
          · rw [if_pos c25] at H
            have c25b0 : decide ((wrap64 ((l0.length : Int) - (wrap64 (a1 + 1)))) < (wrap64 (rd l0 a1))) = true := decide_eq_true c25
            clear c25
            simp only [Option.some.injEq, Prod.mk.injEq] at H
            obtain ⟨rfl, rfl, rfl, rfl⟩ := H
            have p116 : 0 ≤ (a1 : Int) := of_decide_eq_true (by first | (with_reducible assumption) | assumption)
            have q116 : a1 < (l0.length : Int) := of_decide_eq_true (by first | (with_reducible assumption) | assumption)
            obtain ⟨ad116, e116, hx116_0⟩ := Kd.at_int HR0.out a1 p116 q116
            cases e116
            replace p116 := eq_true p116
            replace q116 := eq_true q116
            go_enter Tryz.func215, Tryz.ntmps215
            go_wp2
            refine bodyPost_ret (results_list (rs := [.tmp 4, .tmp 5, .tmp 6, .tmp 7]) rfl (by simp) (.tmp (.tmp (.tmp (.tmp .nil))))) rfl ?_
            exact ⟨by first | rfl | (simp [errW_none, errW_some] <;> rfl) | (simp [*, errW_none, errW_some] <;> rfl), by repeat (first | (with_reducible first | exact HB.out | apply below_alloc | apply pw_below_drewN | apply below_drew1) | exact HB.out)⟩
          · rw [if_neg c25] at H
            have c25b0 : decide ((wrap64 ((l0.length : Int) - (wrap64 (a1 + 1)))) < (wrap64 (rd l0 a1))) = false := decide_eq_false c25
            clear c25
            simp only [Option.some.injEq, Prod.mk.injEq] at H
            obtain ⟨rfl, rfl, rfl, rfl⟩ := H
            have p116 : 0 ≤ (a1 : Int) := of_decide_eq_true (by first | (with_reducible assumption) | assumption)
            have q116 : a1 < (l0.length : Int) := of_decide_eq_true (by first | (with_reducible assumption) | assumption)
            obtain ⟨ad116, e116, hx116_0⟩ := Kd.at_int HR0.out a1 p116 q116
            cases e116
            replace p116 := eq_true p116
            replace q116 := eq_true q116
            go_enter Tryz.func215, Tryz.ntmps215
            go_wp2
            refine bodyPost_ret (results_list (rs := [.tmp 4, .tmp 5, .tmp 6, .tmp 7]) rfl (by simp) (.tmp (.tmp (.tmp (.tmp .nil))))) rfl ?_
            exact ⟨by first | rfl | (simp [errW_none, errW_some] <;> rfl) | (simp [*, errW_none, errW_some] <;> rfl), by repeat (first | (with_reducible first | exact HB.out | apply below_alloc | apply pw_below_drewN | apply below_drew1) | exact HB.out)⟩
      · rw [if_neg c5] at H
        exact absurd H (by simp)
    · rw [if_neg c4] at H
      exact absurd H (by simp)
end Go.Proofs.YtkioddjjfifadaaGreatDoor.P
namespace Go.Proofs.YtkioddjjfifadaaGreatDoor.P
open Go.RowKit Go.Proofs.YtkioddjjfifadaaGreatDoorW.PrintWords Go.Proofs.YtkioddjjfifadaaGreatDoorW.PrintLast Go.Proofs.YtkioddjjfifadaaGreatDoorW.PrintMore
def bytes_Clone.f (l0 : List Int) : Option (List Int) := if l0.length < 140737488355328 then some l0 else none
theorem bytes_Clone.some_ {l0 r : List Int} (h : bytes_Clone.f l0 = some r) : r = l0 ∧ l0.length < 140737488355328 := by
  unfold bytes_Clone.f at h
  split at h
  · rename_i hl
    exact ⟨(Option.some.inj h).symm, hl⟩
  · cases h
set_option maxHeartbeats 1000000 in
theorem bytes_Clone.calls (A0 : Option Addr) (c0 : Nat) (l0 : List Int) (r : List Int) (w : World) (hr0 : Kd.C (Kd.int .u8) w A0 l0.length l0) (hc0 : l0.length ≤ c0) (h : bytes_Clone.f l0 = some r) :
    Calls Tryz.prog 76 #[.slice A0 l0.length c0] w fun e w' => ∃ v0_ : Value, e = .returned (v0_) ∧ Kd.R (Kd.int .u8) 5 w' w.heap.size (fun _ => True) v0_ r ∧ Below w.heap.size w w' := by
  obtain ⟨rfl, hl⟩ := bytes_Clone.some_ h
  have HR0 := Aside0.mk hr0
  have HC0 := Aside0.mk hc0
  have HL := Aside0.mk hl
  have heq := fun (W : World) => Lib.run_eql_slice_nil (P := Tryz.prog) W 22 5 A0 r.length c0 0 0 Tryz.underlying22
  clear hr0 hc0 h hl
  have HB := Aside0.mk (Below.refl w.heap.size w)
  cases A0 with
  | none =>
    obtain rfl : r = [] := by
      rcases Nat.eq_zero_or_pos r.length with h | h
      · exact List.length_eq_zero_iff.1 h
      · obtain ⟨ad, e, _⟩ := HR0.out.2.2 h
        cases e
    clear HR0 HC0 HL
    simp only [List.length_nil] at heq ⊢
    go_enter Tryz.func76, Tryz.ntmps76
    go_wp2
    go_ret
    exact ⟨_, rfl, Kd.R_nil _ _ _ _ _, HB.out⟩
  | some ad =>
    go_enter Tryz.func76, Tryz.ntmps76
    go_wp2_with (first | ((with_reducible refine gate_dst (N := 5) rfl ?_); refine Kd.R_lit (Kd.int .u8) _ 5 ?hg (N := 5) ?hd (xs := ([] : List Int)) (inner := []) (ok := fun _ => True) (okp := fun _ => True) ?hr ?hp (fun _ hk => hk) trivial (Below.refl _ _) (Nat.le_refl _) (by simp) ?_; (case hd => rfl); (case hg => rfl); (case hr => first | (go_simp; done) | (go_simp; rfl)); (case hp => exact (Reps.none _ _)); intro v1 w1 ho1 hb1 _ _; have HO1 := Aside0.mk (Kd.R_lower ho1 (below_size HB.out)); have HB1 := Aside0.mk (below_step HB.out hb1); clear hb1 ho1 HB) | ((with_reducible refine gate_builtin (b := .append) (xs := #[.tmp 5, .tmp 6]) rfl ?_); at_builtin; refine Kd.R_append_rows (Kd.int .u8) (w0 := w) w.heap.size rfl (.tmp 5) (.tmp 6) 22 5 (.int .u8 0) 1 rfl Tryz.underlying22 info5 rfl (by decide) (by omega) v1 [] r _ _ _ (fun _ => True) (fun _ => False) rfl rfl ?aO ?aR (fun _ _ h => h) (fun _ h => h.elim) ?aF ?aB ?aS ?aL ?_; (case aR => exact Kd.C_below HR0.out HB1.out); (case aB => exact HB1.out); (case aF => exact (fun _ _ => trivial)); (case aO => exact HO1.out); (case aS => exact below_size HB1.out); (case aL => have := HL.out; simp only [List.length_nil]; omega); intro v2 w2 ho hb hg hat; rw [List.nil_append] at ho; have HO2 := Aside0.mk ho; have HB2 := Aside0.mk hb; clear ho hb hg hat))
    go_ret
    exact ⟨_, rfl, HO2.out, HB2.out⟩
end Go.Proofs.YtkioddjjfifadaaGreatDoor.P
