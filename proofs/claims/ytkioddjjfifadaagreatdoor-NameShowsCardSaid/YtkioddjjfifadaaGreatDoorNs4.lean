/- What the proof of NameShows needs of: Pxf153, Pxf87, Pxf253, Pxf208, Pxf209. -/
import Derived.Test.YtkioddjjfifadaaGreatDoorNs2
import Derived.Test.YtkioddjjfifadaaGreatDoorNs3
namespace Go.Proofs.YtkioddjjfifadaaGreatDoor.P
open Go.RowKit Go.Proofs.YtkioddjjfifadaaGreatDoorW.PrintWords Go.Proofs.YtkioddjjfifadaaGreatDoorW.PrintLast Go.Proofs.YtkioddjjfifadaaGreatDoorW.PrintMore
attribute [local go_sem] max2_int min2_int max_two min_two max_three min_three max_four min_four   -- for this text's walks alone
set_option linter.unusedVariables false
set_option linter.unusedSimpArgs false
mutual
def text_Text.j0 : Nat → Int → List Int → Bool → Option (ByteArray × Int)
  | 0, _, _, _ => none
  | k + 1, x0, x1, x22 => if x22 = true then (text_Text.l0 k x0 x1 x1 (x1.length : Int) 0) else (some ((⟨#[]⟩ : ByteArray), 61))
def text_Text.l0 : Nat → Int → List Int → List Int → Int → Int → Option (ByteArray × Int)
  | 0, _, _, _, _, _ => none
  | k + 1, x0, x1, x27, x28, x29 => if x29 < x28 then (if 0 ≤ x29 then (if x29 < (x27.length : Int) then ((text_fits.f x0 (rd x27 x29)).bind fun t610 => (if t610 = true then (text_Text.l0 k x0 x1 x27 x28 (wrap64 (x29 + 1))) else (some ((⟨#[]⟩ : ByteArray), 60)))) else (none)) else (none)) else (some (strOfNums x1, 0))
end
def text_Text.f (k : Nat) (a0 : Int) (l1 : List Int) : Option (ByteArray × Int) := if a0 = 30 then ((text_wide.f l1).bind fun bt606 => (some (bt606.1, bt606.2))) else (if a0 = 12 then ((utf8_Valid.f l1).bind fun t608 => (if t608 = true then (some (strOfNums l1, 0)) else (some ((⟨#[]⟩ : ByteArray), 60)))) else (if a0 = 18 then (text_Text.j0 k a0 l1 (a0 == 18)) else (if a0 = 19 then (text_Text.j0 k a0 l1 (a0 == 19)) else (if a0 = 22 then (text_Text.j0 k a0 l1 (a0 == 22)) else (text_Text.j0 k a0 l1 (a0 == 26))))))
set_option maxHeartbeats 8000000 in
set_option maxRecDepth 100000 in
theorem text_Text.calls (k : Nat) (a0 : Int) (A1 : Option Addr) (c1 : Nat) (l1 : List Int) (r1 : ByteArray) (r2 : Int) (w : World) (hr1 : Kd.C (Kd.int .u8) w A1 l1.length l1) (hc1 : l1.length ≤ c1) (h : text_Text.f k a0 l1 = some (r1, r2)) (hH : Tb w) :
    Calls Tryz.prog 153 #[.int .i64 a0, .slice A1 l1.length c1] w fun e w' => e = .returned (.tuple #[.string r1, .int .i64 r2]) ∧ Below w.heap.size w w' := by
  have HR1 := Aside0.mk hr1
  have HC1 := Aside0.mk hc1
  clear hr1 hc1
  have HB := Aside0.mk (Below.refl w.heap.size w)
  have HHd := Aside0.mk hH
  clear hH
  have H : (if a0 = 30 then ((text_wide.f l1).bind fun bt606 => (some (bt606.1, bt606.2))) else (if a0 = 12 then ((utf8_Valid.f l1).bind fun t608 => (if t608 = true then (some (strOfNums l1, 0)) else (some ((⟨#[]⟩ : ByteArray), 60)))) else (if a0 = 18 then (text_Text.j0 k a0 l1 (a0 == 18)) else (if a0 = 19 then (text_Text.j0 k a0 l1 (a0 == 19)) else (if a0 = 22 then (text_Text.j0 k a0 l1 (a0 == 22)) else (text_Text.j0 k a0 l1 (a0 == 26))))))) = some (r1, r2) := h
  clear h
  by_cases c3 : a0 = 30
  · rw [if_pos c3] at H
    have c3b0 : (a0 == 30) = true := beq_iff_eq.mpr c3
    have c3b1 : (a0 != 30) = false := bne_eq_false_iff_eq.mpr c3
    clear c3
    replace H := Option.bind_eq_some_iff.mp H
    obtain ⟨⟨t606, t607⟩, A40, H⟩ := H
    replace H : (some (t606, t607)) = some (r1, r2) := H
    have A4 := Aside0.mk A40
    clear A40
    simp only [Option.some.injEq, Prod.mk.injEq] at H
    obtain ⟨rfl, rfl⟩ := H
    go_enter Tryz.func153, Tryz.ntmps153
    go_wp2_with (first | ((with_reducible refine gate_callee (f := 203) rfl ?_); refine goesL_ (some 12) rfl rfl Tryz.func203 (by kernel_rfl) rfl #[.slice A1 l1.length c1] rfl (by (try simp only [List.map_toArray, List.map_cons, List.map_nil]); first | done | rfl | (simp only [List.length_drop, List.length_take]; rfl)) ?_; (with_reducible refine (text_wide.calls _ _ l1 t606 t607 _ ?side1 ?side2 A4.out).mono ?_); (case side1 => repeat (first | exact HR1.out | (with_reducible refine Kd.C_alloc ?_ _) | (with_reducible refine Kd.C_drewN ?_ _) | (with_reducible refine Kd.C_drew ?_))); (case side2 => exact HC1.out); rintro e w5 ⟨rfl, hb⟩; refine ⟨_, rfl, ?_⟩; have n0_ := Aside0.mk (below_step (by repeat (first | (with_reducible first | exact HB.out | apply below_alloc | apply pw_below_drewN | apply below_drew1) | exact HB.out)) hb); clear HB; have HB := n0_; clear n0_; (try clear hb); (try clear hb2); (try clear hk); (try clear hi)))
    go_ret2
    exact ⟨by first | rfl | (simp [errW_none, errW_some] <;> rfl) | (simp [*, errW_none, errW_some] <;> rfl), by repeat (first | (with_reducible first | exact HB.out | apply below_alloc | apply pw_below_drewN | apply below_drew1) | exact HB.out)⟩
  rw [if_neg c3] at H
  have c3b0 : (a0 == 30) = false := beq_eq_false_iff_ne.mpr c3
  have c3b1 : (a0 != 30) = true := bne_iff_ne.mpr c3
  by_cases c6 : a0 = 12
  · rw [if_pos c6] at H
    have c6b0 : (a0 == 12) = true := beq_iff_eq.mpr c6
    have c6b1 : (a0 != 12) = false := bne_eq_false_iff_eq.mpr c6
    clear c6
    replace H := Option.bind_eq_some_iff.mp H
    obtain ⟨t608, A70, H⟩ := H
    replace H : (if t608 = true then (some (strOfNums l1, 0)) else (some ((⟨#[]⟩ : ByteArray), 60))) = some (r1, r2) := H
    have A7 := Aside0.mk A70
    clear A70
    by_cases c8 : t608 = true
    · subst c8
      have H1 : (some (strOfNums l1, 0)) = some (r1, r2) := by rw [if_pos rfl] at H; exact H
      clear H
      have H := H1
      clear H1
      simp only [Option.some.injEq, Prod.mk.injEq] at H
      obtain ⟨rfl, rfl⟩ := H
      go_enter Tryz.func153, Tryz.ntmps153
      go_wp2_with (first | ((with_reducible refine gate_callee (f := 204) rfl ?_); refine goesL_ (some 18) rfl rfl Tryz.func204 (by kernel_rfl) rfl #[.slice A1 l1.length c1] rfl (by (try simp only [List.map_toArray, List.map_cons, List.map_nil]); first | done | rfl | (simp only [List.length_drop, List.length_take]; rfl)) ?_; (with_reducible refine (utf8_Valid.calls _ _ l1 true _ ?side1 ?side2 A7.out (Tb.below HHd.out (by repeat (first | (with_reducible first | exact HB.out | apply below_alloc | apply pw_below_drewN | apply below_drew1) | exact HB.out)))).mono ?_); (case side1 => repeat (first | exact HR1.out | (with_reducible refine Kd.C_alloc ?_ _) | (with_reducible refine Kd.C_drewN ?_ _) | (with_reducible refine Kd.C_drew ?_))); (case side2 => exact HC1.out); rintro e w9 ⟨rfl, hb⟩; refine ⟨_, rfl, ?_⟩; have n0_ := Aside0.mk (below_step (by repeat (first | (with_reducible first | exact HB.out | apply below_alloc | apply pw_below_drewN | apply below_drew1) | exact HB.out)) hb); clear HB; have HB := n0_; clear n0_; (try clear hb); (try clear hb2); (try clear hk); (try clear hi); have hcv10 := Kd.C_string (P := Tryz.prog) (A := A1) (c := c1) Tryz.underlying22 Tryz.underlying5 Tryz.underlying9 (Kd.C_below HR1.out HB.out)))
      go_ret2
      exact ⟨by first | rfl | (simp [errW_none, errW_some] <;> rfl) | (simp [*, errW_none, errW_some] <;> rfl), by repeat (first | (with_reducible first | exact HB.out | apply below_alloc | apply pw_below_drewN | apply below_drew1) | exact HB.out)⟩
    replace c8 := Bool.eq_false_iff.mpr c8
    subst c8
    have H1 : (some ((⟨#[]⟩ : ByteArray), 60)) = some (r1, r2) := by rw [if_neg (show ¬ (false = true) by decide)] at H; exact H
    clear H
    have H := H1
    clear H1
    simp only [Option.some.injEq, Prod.mk.injEq] at H
    obtain ⟨rfl, rfl⟩ := H
    go_enter Tryz.func153, Tryz.ntmps153
    go_wp2_with (first | ((with_reducible refine gate_callee (f := 204) rfl ?_); refine goesL_ (some 18) rfl rfl Tryz.func204 (by kernel_rfl) rfl #[.slice A1 l1.length c1] rfl (by (try simp only [List.map_toArray, List.map_cons, List.map_nil]); first | done | rfl | (simp only [List.length_drop, List.length_take]; rfl)) ?_; (with_reducible refine (utf8_Valid.calls _ _ l1 false _ ?side1 ?side2 A7.out (Tb.below HHd.out (by repeat (first | (with_reducible first | exact HB.out | apply below_alloc | apply pw_below_drewN | apply below_drew1) | exact HB.out)))).mono ?_); (case side1 => repeat (first | exact HR1.out | (with_reducible refine Kd.C_alloc ?_ _) | (with_reducible refine Kd.C_drewN ?_ _) | (with_reducible refine Kd.C_drew ?_))); (case side2 => exact HC1.out); rintro e w11 ⟨rfl, hb⟩; refine ⟨_, rfl, ?_⟩; have n0_ := Aside0.mk (below_step (by repeat (first | (with_reducible first | exact HB.out | apply below_alloc | apply pw_below_drewN | apply below_drew1) | exact HB.out)) hb); clear HB; have HB := n0_; clear n0_; (try clear hb); (try clear hb2); (try clear hk); (try clear hi)))
    go_ret2
    exact ⟨by first | rfl | (simp [errW_none, errW_some] <;> rfl) | (simp [*, errW_none, errW_some] <;> rfl), by repeat (first | (with_reducible first | exact HB.out | apply below_alloc | apply pw_below_drewN | apply below_drew1) | exact HB.out)⟩
  rw [if_neg c6] at H
  have c6b0 : (a0 == 12) = false := beq_eq_false_iff_ne.mpr c6
  have c6b1 : (a0 != 12) = true := bne_iff_ne.mpr c6
  have HC12 := Aside0.mk H
  clear H
  go_enter Tryz.func153, Tryz.ntmps153
  go_upto_if 22 with (fail)
  go_cut [22] (fun v22 wc => ∃ (kq : Nat) (x22_11 : Bool), v22 = .bool x22_11 ∧ Aside0 (text_Text.j0 kq a0 l1 x22_11 = some (r1, r2)) ∧ Aside0 (kq ≤ k) ∧ Aside0 (Below w.heap.size w wc))
  case first =>
    have H := HC12.out
    clear HC12
    by_cases c13 : a0 = 18
    · rw [if_pos c13] at H
      have c13b0 : (a0 == 18) = true := beq_iff_eq.mpr c13
      have c13b1 : (a0 != 18) = false := bne_eq_false_iff_eq.mpr c13
      clear c13
      (first | rw [c13b0] | (simp only [i64_w, i32_w]; rw [c13b0]) | skip)
      have H' := Aside0.mk H
      clear H
      go_wp2
      go_meet
      case rel => exact ⟨_, ((a0 == 18)), (by first | rfl | (simp; done) | (simp [*]; done)), H', ⟨by first | omega | exact Nat.le_refl _⟩, ⟨by repeat (first | (with_reducible first | exact HB.out | apply below_alloc | apply pw_below_drewN | apply below_drew1) | exact HB.out)⟩⟩
    rw [if_neg c13] at H
    have c13b0 : (a0 == 18) = false := beq_eq_false_iff_ne.mpr c13
    have c13b1 : (a0 != 18) = true := bne_iff_ne.mpr c13
    (first | rw [c13b0] | (simp only [i64_w, i32_w]; rw [c13b0]) | skip)
    by_cases c14 : a0 = 19
    · rw [if_pos c14] at H
      have c14b0 : (a0 == 19) = true := beq_iff_eq.mpr c14
      have c14b1 : (a0 != 19) = false := bne_eq_false_iff_eq.mpr c14
      clear c14
      have H' := Aside0.mk H
      clear H
      go_wp2
      go_meet
      case rel => exact ⟨_, ((a0 == 19)), (by first | rfl | (simp; done) | (simp [*]; done)), H', ⟨by first | omega | exact Nat.le_refl _⟩, ⟨by repeat (first | (with_reducible first | exact HB.out | apply below_alloc | apply pw_below_drewN | apply below_drew1) | exact HB.out)⟩⟩
    rw [if_neg c14] at H
    have c14b0 : (a0 == 19) = false := beq_eq_false_iff_ne.mpr c14
    have c14b1 : (a0 != 19) = true := bne_iff_ne.mpr c14
    by_cases c15 : a0 = 22
    rotate_left
    · rw [if_neg c15] at H
      have c15b0 : (a0 == 22) = false := beq_eq_false_iff_ne.mpr c15
      have c15b1 : (a0 != 22) = true := bne_iff_ne.mpr c15
      have H' := Aside0.mk H
      clear H
      go_wp2
      go_meet
      case rel => exact ⟨_, ((a0 == 26)), (by first | rfl | (simp; done) | (simp [*]; done)), H', ⟨by first | omega | exact Nat.le_refl _⟩, ⟨by repeat (first | (with_reducible first | exact HB.out | apply below_alloc | apply pw_below_drewN | apply below_drew1) | exact HB.out)⟩⟩
    rw [if_pos c15] at H
    have c15b0 : (a0 == 22) = true := beq_iff_eq.mpr c15
    have c15b1 : (a0 != 22) = false := bne_eq_false_iff_eq.mpr c15
    clear c15
    have H' := Aside0.mk H
    clear H
    go_wp2
    go_meet
    case rel => exact ⟨_, ((a0 == 22)), (by first | rfl | (simp; done) | (simp [*]; done)), H', ⟨by first | omega | exact Nat.le_refl _⟩, ⟨by repeat (first | (with_reducible first | exact HB.out | apply below_alloc | apply pw_below_drewN | apply below_drew1) | exact HB.out)⟩⟩
  clear HC12
  obtain ⟨kq, x22_11, rfl, HA, HJ11, HB⟩ := hcut
  cases kq with
  | zero => exact absurd HA.out (by simp [text_Text.j0])
  | succ kj11 =>
    have H := HA.out
    clear HA
    simp only [text_Text.j0] at H
    by_cases c16 : x22_11 = true
    rotate_left
    · replace c16 := Bool.eq_false_iff.mpr c16
      subst c16
      have H1 : (some ((⟨#[]⟩ : ByteArray), 61)) = some (r1, r2) := by rw [if_neg (show ¬ (false = true) by decide)] at H; exact H
      clear H
      have H := H1
      clear H1
      simp only [Option.some.injEq, Prod.mk.injEq] at H
      obtain ⟨rfl, rfl⟩ := H
      go_wp2
      go_ret2
      exact ⟨by first | rfl | (simp [errW_none, errW_some] <;> rfl) | (simp [*, errW_none, errW_some] <;> rfl), by repeat (first | (with_reducible first | exact HB.out | apply below_alloc | apply pw_below_drewN | apply below_drew1) | exact HB.out)⟩
    subst c16
    have H1 : (text_Text.l0 kj11 a0 l1 l1 (l1.length : Int) 0) = some (r1, r2) := by rw [if_pos rfl] at H; exact H
    clear H
    have H := H1
    clear H1
    have H' := Aside0.mk H
    clear H
    go_wp2
    go_loopg [29] kj11 (fun kq v29 w' => ∃ (x29_2 : Int), v29 = .int .i64 x29_2 ∧ Aside0 (text_Text.l0 kq a0 l1 l1 (l1.length : Int) x29_2 = some (r1, r2)) ∧ Aside0 (kq ≤ kj11) ∧ Aside0 (Below w.heap.size w w'))
    case atStart => exact ⟨(0), (by first | rfl | (simp; done) | (simp [*]; done)), H', ⟨Nat.le_refl _⟩, ⟨by repeat (first | (with_reducible first | exact HB.out | apply below_alloc | apply pw_below_drewN | apply below_drew1) | exact HB.out)⟩⟩
    case round =>
      clear H'
      obtain ⟨x29_2, rfl, HA, HK2, HB⟩ := hrel
      cases gk with
      | zero => exact absurd HA.out (by simp [text_Text.l0])
      | succ k2 =>
        have H := HA.out
        clear HA
        simp only [text_Text.l0] at H
        by_cases c17 : x29_2 < (l1.length : Int)
        rotate_left
        · rw [if_neg c17] at H
          have c17b0 : decide (x29_2 < (l1.length : Int)) = false := decide_eq_false c17
          clear c17
          simp only [Option.some.injEq, Prod.mk.injEq] at H
          obtain ⟨rfl, rfl⟩ := H
          have hcv24 := Kd.C_string (P := Tryz.prog) (A := A1) (c := c1) Tryz.underlying22 Tryz.underlying5 Tryz.underlying9 (Kd.C_below HR1.out HB.out)
          go_wp2
          go_ret2
          exact ⟨by first | rfl | (simp [errW_none, errW_some] <;> rfl) | (simp [*, errW_none, errW_some] <;> rfl), by repeat (first | (with_reducible first | exact HB.out | apply below_alloc | apply pw_below_drewN | apply below_drew1) | exact HB.out)⟩
        rw [if_pos c17] at H
        have c17b0 : decide (x29_2 < (l1.length : Int)) = true := decide_eq_true c17
        clear c17
        by_cases c18 : 0 ≤ x29_2
        rotate_left
        · rw [if_neg c18] at H
          exact absurd H (by simp)
        rw [if_pos c18] at H
        have c18b0 : decide (0 ≤ x29_2) = true := decide_eq_true c18
        clear c18
        by_cases c19 : x29_2 < (l1.length : Int)
        rotate_left
        · rw [if_neg c19] at H
          exact absurd H (by simp)
        rw [if_pos c19] at H
        have c19b0 : decide (x29_2 < (l1.length : Int)) = true := decide_eq_true c19
        clear c19
        replace H := Option.bind_eq_some_iff.mp H
        obtain ⟨t610, A200, H⟩ := H
        replace H : (if t610 = true then (text_Text.l0 k2 a0 l1 l1 (l1.length : Int) (wrap64 (x29_2 + 1))) else (some ((⟨#[]⟩ : ByteArray), 60))) = some (r1, r2) := H
        have A20 := Aside0.mk A200
        clear A200
        by_cases c21 : t610 = true
        rotate_left
        · replace c21 := Bool.eq_false_iff.mpr c21
          subst c21
          have H1 : (some ((⟨#[]⟩ : ByteArray), 60)) = some (r1, r2) := by rw [if_neg (show ¬ (false = true) by decide)] at H; exact H
          clear H
          have H := H1
          clear H1
          simp only [Option.some.injEq, Prod.mk.injEq] at H
          obtain ⟨rfl, rfl⟩ := H
          have p609 : 0 ≤ (x29_2 : Int) := of_decide_eq_true (by first | (with_reducible assumption) | assumption)
          have q609 : x29_2 < (l1.length : Int) := of_decide_eq_true (by first | (with_reducible assumption) | assumption)
          obtain ⟨ad609, e609, hx609_0⟩ := Kd.at_int HR1.out x29_2 p609 q609
          cases e609
          replace hx609_0 := (HB.out.cell (World.block_lt_of_cell? w _ hx609_0)).trans hx609_0
          replace p609 := eq_true p609
          replace q609 := eq_true q609
          go_wp2_with (first | ((with_reducible refine gate_callee (f := 205) rfl ?_); refine goesL_ (some 35) rfl rfl Tryz.func205 (by kernel_rfl) rfl #[.int .i64 a0, .int .u8 (rd l1 x29_2)] rfl (by (try simp only [List.map_toArray, List.map_cons, List.map_nil]); first | done | rfl | (simp only [List.length_drop, List.length_take]; rfl)) ?_; (with_reducible refine (text_fits.calls a0 (rd l1 x29_2) false _ A20.out).mono ?_); rintro e w23 ⟨rfl, hb⟩; refine ⟨_, rfl, ?_⟩; have n0_ := Aside0.mk (below_step (by repeat (first | (with_reducible first | exact HB.out | apply below_alloc | apply pw_below_drewN | apply below_drew1) | exact HB.out)) hb); clear HB; have HB := n0_; clear n0_; (try clear hb); (try clear hb2); (try clear hk); (try clear hi)))
          go_ret2
          exact ⟨by first | rfl | (simp [errW_none, errW_some] <;> rfl) | (simp [*, errW_none, errW_some] <;> rfl), by repeat (first | (with_reducible first | exact HB.out | apply below_alloc | apply pw_below_drewN | apply below_drew1) | exact HB.out)⟩
        subst c21
        have H1 : (text_Text.l0 k2 a0 l1 l1 (l1.length : Int) (wrap64 (x29_2 + 1))) = some (r1, r2) := by rw [if_pos rfl] at H; exact H
        clear H
        have H := H1
        clear H1
        have H' := Aside0.mk H
        clear H
        have p609 : 0 ≤ (x29_2 : Int) := of_decide_eq_true (by first | (with_reducible assumption) | assumption)
        have q609 : x29_2 < (l1.length : Int) := of_decide_eq_true (by first | (with_reducible assumption) | assumption)
        obtain ⟨ad609, e609, hx609_0⟩ := Kd.at_int HR1.out x29_2 p609 q609
        cases e609
        replace hx609_0 := (HB.out.cell (World.block_lt_of_cell? w _ hx609_0)).trans hx609_0
        replace p609 := eq_true p609
        replace q609 := eq_true q609
        go_wp2_with (first | ((with_reducible refine gate_callee (f := 205) rfl ?_); refine goesL_ (some 35) rfl rfl Tryz.func205 (by kernel_rfl) rfl #[.int .i64 a0, .int .u8 (rd l1 x29_2)] rfl (by (try simp only [List.map_toArray, List.map_cons, List.map_nil]); first | done | rfl | (simp only [List.length_drop, List.length_take]; rfl)) ?_; (with_reducible refine (text_fits.calls a0 (rd l1 x29_2) true _ A20.out).mono ?_); rintro e w22 ⟨rfl, hb⟩; refine ⟨_, rfl, ?_⟩; have n0_ := Aside0.mk (below_step (by repeat (first | (with_reducible first | exact HB.out | apply below_alloc | apply pw_below_drewN | apply below_drew1) | exact HB.out)) hb); clear HB; have HB := n0_; clear n0_; (try clear hb); (try clear hb2); (try clear hk); (try clear hi)))
        go_roundg k2
        case measure => have := HJ11.out; have := HK2.out; omega
        case rel => exact ⟨(wrap64 (x29_2 + 1)), (by first | rfl | (simp; done) | (simp [*]; done)), H', ⟨by have := HJ11.out; have := HK2.out; omega⟩, ⟨by repeat (first | (with_reducible first | exact HB.out | apply below_alloc | apply pw_below_drewN | apply below_drew1) | exact HB.out)⟩⟩
mutual
def name_value.l1 : Nat → ByteArray → List Int → Int → Int → Option (ByteArray)
  | 0, _, _, _, _ => none
  | k + 1, x3, x5, x43, x44 => if x44 < x43 then (if 0 ≤ x44 then (if x44 < (x3.size : Int) then (if (bt x3 x44) < 32 then (name_value.j2 k x3 x5 x44 (bt x3 x44) x43 x44 true) else (name_value.j2 k x3 x5 x44 (bt x3 x44) x43 x44 ((bt x3 x44) == 127))) else (none)) else (none)) else (some (strOfNums x5))
def name_value.j2 : Nat → ByteArray → List Int → Int → Int → Int → Int → Bool → Option (ByteArray)
  | 0, _, _, _, _, _, _, _ => none
  | k + 1, x3, x5, x8, x9, x43, x44, x54 => if x54 = true then (if 0 ≤ (x9 / 16) then (if (x9 / 16) < 16 then (if 0 ≤ (Go.bits .and .u8 x9 15) then (if (Go.bits .and .u8 x9 15) < 16 then ((some (([92, bt (⟨#[48, 49, 50, 51, 52, 53, 54, 55, 56, 57, 97, 98, 99, 100, 101, 102]⟩ : ByteArray) (x9 / 16), bt (⟨#[48, 49, 50, 51, 52, 53, 54, 55, 56, 57, 97, 98, 99, 100, 101, 102]⟩ : ByteArray) (Go.bits .and .u8 x9 15)] : List Int) : List Int)).bind fun y631 => (if x5.length + y631.length < 140737488355328 then (name_value.l1 k x3 (x5 ++ y631) x43 (wrap64 (x44 + 1))) else (none))) else (none)) else (none)) else (none)) else (none)) else ((strings_IndexByte.f (⟨#[34, 43, 44, 59, 60, 62, 61, 92]⟩ : ByteArray) x9).bind fun t637 => (if t637 ≥ 0 then ((some (([92, x9] : List Int) : List Int)).bind fun y638 => (if x5.length + y638.length < 140737488355328 then (name_value.l1 k x3 (x5 ++ y638) x43 (wrap64 (x44 + 1))) else (none))) else (if x9 = 35 then (name_value.j3 k x3 x5 x8 x9 x43 x44 (x8 == 0)) else (name_value.j3 k x3 x5 x8 x9 x43 x44 false))))
def name_value.j3 : Nat → ByteArray → List Int → Int → Int → Int → Int → Bool → Option (ByteArray)
  | 0, _, _, _, _, _, _, _ => none
  | k + 1, x3, x5, x8, x9, x43, x44, x70 => if x70 = true then ((some (([92, x9] : List Int) : List Int)).bind fun y644 => (if x5.length + y644.length < 140737488355328 then (name_value.l1 k x3 (x5 ++ y644) x43 (wrap64 (x44 + 1))) else (none))) else (if x9 = 32 then (if x8 = 0 then ((some (([92, x9] : List Int) : List Int)).bind fun y650 => (if x5.length + y650.length < 140737488355328 then (name_value.l1 k x3 (x5 ++ y650) x43 (wrap64 (x44 + 1))) else (none))) else (if x8 = (wrap64 ((x3.size : Int) - 1)) then ((some (([92, x9] : List Int) : List Int)).bind fun y656 => (if x5.length + y656.length < 140737488355328 then (name_value.l1 k x3 (x5 ++ y656) x43 (wrap64 (x44 + 1))) else (none))) else (if x5.length < 140737488355328 then (name_value.l1 k x3 (x5 ++ [x9]) x43 (wrap64 (x44 + 1))) else (none)))) else (if x5.length < 140737488355328 then (name_value.l1 k x3 (x5 ++ [x9]) x43 (wrap64 (x44 + 1))) else (none)))
def name_value.l0 : Nat → List Int → List Int → Int → Int → Option (ByteArray)
  | 0, _, _, _, _ => none
  | k + 1, x5, x24, x25, x26 => if x26 < x25 then (if 0 ≤ x26 then (if x26 < (x24.length : Int) then (if 0 ≤ ((rd x24 x26) / 16) then (if ((rd x24 x26) / 16) < 16 then (if 0 ≤ (Go.bits .and .u8 (rd x24 x26) 15) then (if (Go.bits .and .u8 (rd x24 x26) 15) < 16 then ((some (([bt (⟨#[48, 49, 50, 51, 52, 53, 54, 55, 56, 57, 97, 98, 99, 100, 101, 102]⟩ : ByteArray) ((rd x24 x26) / 16), bt (⟨#[48, 49, 50, 51, 52, 53, 54, 55, 56, 57, 97, 98, 99, 100, 101, 102]⟩ : ByteArray) (Go.bits .and .u8 (rd x24 x26) 15)] : List Int) : List Int)).bind fun y625 => (if x5.length + y625.length < 140737488355328 then (name_value.l0 k (x5 ++ y625) x24 x25 (wrap64 (x26 + 1))) else (none))) else (none)) else (none)) else (none)) else (none)) else (none)) else (none)) else (some (strOfNums x5))
end
def name_value.f (k : Nat) (a0_0 : ByteArray) (a0_1 : Int) (l0_2 : List Int) : Option (ByteArray) := (text_Text.f k a0_1 l0_2).bind fun bt619 => (if bt619.2 = 0 then (name_value.l1 k bt619.1 ([] : List Int) (bt619.1.size : Int) 0) else (if ([] : List Int).length < 140737488355328 then (name_value.l0 k (([] : List Int) ++ [35]) l0_2 (l0_2.length : Int) 0) else (none)))
def name_value.T8 : Bool × List (List Nat × List Nat) := (true, [([], []), ([], []), ([1], [1]), ([2], [2]), ([], []), ([4], [4]), ([5], [5]), ([3, 6], [3, 6]), ([0, 7], [0, 7]), ([8, 8, 0, 1, 2, 3, 4, 5, 6, 7, 8], [0, 8])])
def name_value.B8 : List Nat := [0, 0, 2, 6, 0, 16, 48, 126, 255, 511]
theorem name_value.tab8 : rtab .any (opsOf Tryz.f87 8) = name_value.T8 := by kernel_rfl
theorem name_value.bits8 : waitsOk name_value.T8.2 name_value.B8 = true := by kernel_rfl
def name_value.T17 : Bool × List (List Nat × List Nat) := (true, [([], []), ([], []), ([1], [1]), ([2], [2]), ([], []), ([4], [4]), ([5], [5]), ([3, 6], [3, 6]), ([0, 7], [0, 7]), ([8, 8, 0, 1, 2, 3, 4, 5, 6, 7, 8], [0, 8])])
def name_value.B17 : List Nat := [0, 0, 2, 6, 0, 16, 48, 126, 255, 511]
theorem name_value.tab17 : rtab .any (opsOf Tryz.f87 17) = name_value.T17 := by kernel_rfl
theorem name_value.bits17 : waitsOk name_value.T17.2 name_value.B17 = true := by kernel_rfl
set_option maxHeartbeats 8000000 in
set_option maxRecDepth 100000 in
theorem name_value.calls (k : Nat) (a0_0 : ByteArray) (a0_1 : Int) (A0_2 : Option Addr) (c0_2 : Nat) (l0_2 : List Int) (r : ByteArray) (w : World) (hr0_2 : Kd.C (Kd.int .u8) w A0_2 l0_2.length l0_2) (hc0_2 : l0_2.length ≤ c0_2) (h : name_value.f k a0_0 a0_1 l0_2 = some r) (hH : Tb w) :
    Calls Tryz.prog 87 #[.agg #[.string a0_0, .int .i64 a0_1, .slice A0_2 l0_2.length c0_2]] w fun e w' => e = .returned (.string r) ∧ Below w.heap.size w w' := by
  have hu64 := Tryz.underlying64
  have HR0_2 := Aside0.mk hr0_2
  have HC0_2 := Aside0.mk hc0_2
  clear hr0_2 hc0_2
  have HB := Aside0.mk (Below.refl w.heap.size w)
  have HHd := Aside0.mk hH
  clear hH
  have H : ((text_Text.f k a0_1 l0_2).bind fun bt619 => (if bt619.2 = 0 then (name_value.l1 k bt619.1 ([] : List Int) (bt619.1.size : Int) 0) else (if ([] : List Int).length < 140737488355328 then (name_value.l0 k (([] : List Int) ++ [35]) l0_2 (l0_2.length : Int) 0) else (none)))) = some r := h
  clear h
  replace H := Option.bind_eq_some_iff.mp H
  obtain ⟨⟨t619, t620⟩, A20, H⟩ := H
  replace H : (if t620 = 0 then (name_value.l1 k t619 ([] : List Int) (t619.size : Int) 0) else (if ([] : List Int).length < 140737488355328 then (name_value.l0 k (([] : List Int) ++ [35]) l0_2 (l0_2.length : Int) 0) else (none))) = some r := H
  have A2 := Aside0.mk A20
  clear A20
  by_cases c3 : t620 = 0
  rotate_left
  · rw [if_neg c3] at H
    have c3b0 : (t620 == 0) = false := beq_eq_false_iff_ne.mpr c3
    have c3b1 : (t620 != 0) = true := bne_iff_ne.mpr c3
    by_cases c61 : ([] : List Int).length < 140737488355328
    rotate_left
    · rw [if_neg c61] at H
      exact absurd H (by simp)
    rw [if_pos c61] at H
    have LMc61 := Aside0.mk c61
    clear c61
    obtain ⟨y621, hy621⟩ : ∃ y_ : List Int, y_ = (([] : List Int) ++ [35]) := ⟨_, rfl⟩
    replace H : (name_value.l0 k y621 l0_2 (l0_2.length : Int) 0) = some r := by first | (rw [hy621]; with_reducible exact H) | (have H2_ := (Option.bind_some _ _).symm.trans H; rw [hy621]; with_reducible exact H2_) | (have H2_ := (Option.bind_some _ _).symm.trans H; with_reducible exact H2_) | with_reducible exact H | (rw [hy621]; exact H) | exact H
    have Ny621 := Aside0.mk hy621
    clear hy621
    have H' := Aside0.mk H
    clear H
    go_enter Tryz.func87, Tryz.ntmps87
    go_wp2_with (first | ((with_reducible refine gate_dst (N := 1) rfl ?_); (try (refine gate_guard (by rfl) ?_; dsimp only)); refine box_event ?hg (N := 1) ?hd (cs := #[.string a0_0, .int .i64 a0_1, .slice A0_2 l0_2.length c0_2]) (t := 64) ?hr ?_; (case hd => rfl); (case hg => rfl); (case hr => first | (go_simp; done) | (go_simp; rfl)); intro gb618 hg w62 hbox hb; have n0_ := Aside0.mk (below_step (by repeat (first | (with_reducible first | exact HB.out | apply below_alloc | apply pw_below_drewN | apply below_drew1) | exact HB.out)) hb); have n1_ := Aside0.mk (hbox); have n2_ := Aside0.mk ((by rw [hg]; exact (below_size (by repeat (first | (with_reducible first | exact HB.out | apply below_alloc | apply pw_below_drewN | apply below_drew1) | exact HB.out))) : w.heap.size ≤ gb618)); have n3_ := Aside0.mk ((by rw [hg]; exact (below_size (by repeat (first | (with_reducible first | exact HB.out | apply below_alloc | apply pw_below_drewN | apply below_drew1) | exact HB.out))) : w.heap.size ≤ gb618)); clear HB; have HB := n0_; have BK618 := n1_; have GW618 := n2_; have GE618 := n3_; clear n0_ n1_ n2_ n3_; clear hb hbox hg; have hcz63_0 : w62.cell? ⟨gb618, 0, none⟩ = some (.string a0_0) := (blk_cell BK618.out 0).trans rfl; have hcz63_1 : w62.cell? ⟨gb618, 1, none⟩ = some (.int .i64 a0_1) := (blk_cell BK618.out 1).trans rfl; have hcz63_2 : w62.cell? ⟨gb618, 2, none⟩ = some (.slice A0_2 l0_2.length c0_2) := (blk_cell BK618.out 2).trans rfl; have hfz63_0 := blk_frozen BK618.out 0; have hfz63_1 := blk_frozen BK618.out 1; have hfz63_2 := blk_frozen BK618.out 2) | ((with_reducible refine gate_callee (f := 153) rfl ?_); refine goesL_ (some 15) rfl rfl Tryz.func153 (by kernel_rfl) rfl #[.int .i64 a0_1, .slice A0_2 l0_2.length c0_2] rfl (by (try simp only [List.map_toArray, List.map_cons, List.map_nil]); first | done | rfl | (simp only [List.length_drop, List.length_take]; rfl)) ?_; (with_reducible refine (text_Text.calls k a0_1 _ _ l0_2 t619 t620 _ ?side1 ?side2 A2.out (Tb.below HHd.out (by repeat (first | (with_reducible first | exact HB.out | apply below_alloc | apply pw_below_drewN | apply below_drew1 | refine below_set ?_ GE618.out) | exact HB.out)))).mono ?_); (case side1 => repeat (first | exact (Kd.C_below HR0_2.out HB.out) | (with_reducible refine Kd.C_alloc ?_ _) | (with_reducible refine Kd.C_drewN ?_ _) | (with_reducible refine Kd.C_drew ?_))); (case side2 => exact HC0_2.out); rintro e w64 ⟨rfl, hb⟩; refine ⟨_, rfl, ?_⟩; have n0_ := Aside0.mk (blk_below (g := gb618) (o := .cells #[.string a0_0, .int .i64 a0_1, .slice A0_2 l0_2.length c0_2] 64 (0, 0)) (by (with_reducible repeat (first | refine blk_drewN ?_ _ | refine blk_drew ?_ | refine blk_alloc ?_ _)); exact BK618.out) hb); have n1_ := Aside0.mk (below_step (by repeat (first | (with_reducible first | exact HB.out | apply below_alloc | apply pw_below_drewN | apply below_drew1 | refine below_set ?_ GE618.out) | exact HB.out)) hb); clear BK618; clear HB; have BK618 := n0_; have HB := n1_; clear n0_ n1_; (try clear hb); (try clear hb2); (try clear hk); (try clear hi)) | ((with_reducible refine gate_builtin (b := .append) (xs := #[.tmp 20, .tmp 21]) rfl ?_); (try (refine gate_guard (by rfl) ?_; dsimp only)); at_builtin; refine Kd.R_append (Kd.int .u8) (w0 := w) w.heap.size rfl (.tmp 20) (.tmp 21) 22 5 (.int .u8 0) 1 rfl Tryz.underlying22 info5 rfl (by decide) (by omega) (.slice none 0 0) ([] : List Int) 35 [.int .u8 35] (fun _ => True) (fun _ => False) rfl rfl ?aP (fun _ hk => hk.elim) ?aF ?aO ?aB ?aS ?aL ?_; (case aP => exact rfl); (case aB => exact (by repeat (first | (with_reducible first | exact HB.out | apply below_alloc | apply pw_below_drewN | apply below_drew1 | refine below_set ?_ GE618.out) | exact HB.out))); (case aF => exact (fun _ _ => trivial)); (case aO => exact ((Kd.R_nil _ _ _ _ (fun _ => True)))); (case aS => exact (below_size (by repeat (first | (with_reducible first | exact HB.out | apply below_alloc | apply pw_below_drewN | apply below_drew1 | refine below_set ?_ GE618.out) | exact HB.out)))); (case aL => have := LMc61.out; omega); intro v622 w65 ho hb hg hat; rw [← Ny621.out] at ho; have n0_ := Aside0.mk (blk_grown (g := gb618) (o := .cells #[.string a0_0, .int .i64 a0_1, .slice A0_2 l0_2.length c0_2] 64 (0, 0)) (by (with_reducible repeat (first | refine blk_drewN ?_ _ | refine blk_drew ?_ | refine blk_alloc ?_ _)); exact BK618.out) hg (by simp [Value.ownBlock])); have n1_ := Aside0.mk (hb); have n2_ := Aside0.mk (ho); clear BK618; clear HB; have BK618 := n0_; have HB := n1_; have HO623 := n2_; clear n0_ n1_ n2_; clear ho hb hg hat; have hcz66_0 : w65.cell? ⟨gb618, 0, none⟩ = some (.string a0_0) := (blk_cell BK618.out 0).trans rfl; have hcz66_1 : w65.cell? ⟨gb618, 1, none⟩ = some (.int .i64 a0_1) := (blk_cell BK618.out 1).trans rfl; have hcz66_2 : w65.cell? ⟨gb618, 2, none⟩ = some (.slice A0_2 l0_2.length c0_2) := (blk_cell BK618.out 2).trans rfl; have hfz66_0 := blk_frozen BK618.out 0; have hfz66_1 := blk_frozen BK618.out 1; have hfz66_2 := blk_frozen BK618.out 2))
    go_loopg [5, 26] k (fun kq v5 v26 w' => ∃ (x5_1 : List Int) (x26_1 : Int), v26 = .int .i64 x26_1 ∧ Aside0 (name_value.l0 kq x5_1 l0_2 (l0_2.length : Int) x26_1 = some r) ∧ Aside0 (kq ≤ k) ∧ Aside0 (Kd.R (Kd.int .u8) 5 w' w.heap.size (fun _ => True) v5 x5_1) ∧ Aside0 (w'.heap[gb618]? = some (.cells #[.string a0_0, .int .i64 a0_1, (.slice A0_2 l0_2.length c0_2)] 64 (0, 0))) ∧ Aside0 (Below w.heap.size w w'))
    case atStart => exact ⟨(y621), (0), (by first | rfl | (simp; done) | (simp [*]; done)), H', ⟨Nat.le_refl _⟩, ⟨by (with_reducible repeat (first | apply Kd.R_alloc | apply Kd.R_drewN | apply Kd.R_drew)); exact HO623.out⟩, ⟨by (with_reducible repeat (first | refine blk_drewN ?_ _ | refine blk_drew ?_ | refine blk_alloc ?_ _)); exact BK618.out⟩, ⟨by repeat (first | (with_reducible first | exact HB.out | apply below_alloc | apply pw_below_drewN | apply below_drew1 | refine below_set ?_ GE618.out) | exact HB.out)⟩⟩
    case round =>
      clear H'
      obtain ⟨x5_1, x26_1, rfl, HA, HK1, HO_5, BK618, HB⟩ := hrel
      cases gk with
      | zero => exact absurd HA.out (by simp [name_value.l0])
      | succ k1 =>
        have H := HA.out
        clear HA
        simp only [name_value.l0] at H
        by_cases c67 : x26_1 < (l0_2.length : Int)
        rotate_left
        · rw [if_neg c67] at H
          have c67b0 : decide (x26_1 < (l0_2.length : Int)) = false := decide_eq_false c67
          clear c67
          obtain rfl := Option.some.inj H
          have hcv82 := own_string (P := Tryz.prog) Tryz.underlying22 Tryz.underlying5 Tryz.underlying9 (Kd.own_of_R HO_5.out)
          go_wp2
          go_ret
          exact ⟨by first | rfl | (simp [errW_none, errW_some] <;> rfl) | (simp [*, errW_none, errW_some] <;> rfl), by repeat (first | (with_reducible first | exact HB.out | apply below_alloc | apply pw_below_drewN | apply below_drew1 | refine below_set ?_ GE618.out) | exact HB.out)⟩
        rw [if_pos c67] at H
        have c67b0 : decide (x26_1 < (l0_2.length : Int)) = true := decide_eq_true c67
        clear c67
        by_cases c68 : 0 ≤ x26_1
        rotate_left
        · rw [if_neg c68] at H
          exact absurd H (by simp)
        rw [if_pos c68] at H
        have c68b0 : decide (0 ≤ x26_1) = true := decide_eq_true c68
        clear c68
        by_cases c69 : x26_1 < (l0_2.length : Int)
        rotate_left
        · rw [if_neg c69] at H
          exact absurd H (by simp)
        rw [if_pos c69] at H
        have c69b0 : decide (x26_1 < (l0_2.length : Int)) = true := decide_eq_true c69
        clear c69
        by_cases c70 : 0 ≤ ((rd l0_2 x26_1) / 16)
        rotate_left
        · rw [if_neg c70] at H
          exact absurd H (by simp)
        rw [if_pos c70] at H
        have c70b0 : decide (0 ≤ ((rd l0_2 x26_1) / 16)) = true := decide_eq_true c70
        clear c70
        by_cases c71 : ((rd l0_2 x26_1) / 16) < 16
        rotate_left
        · rw [if_neg c71] at H
          exact absurd H (by simp)
        rw [if_pos c71] at H
        have c71b0 : decide (((rd l0_2 x26_1) / 16) < 16) = true := decide_eq_true c71
        clear c71
        by_cases c73 : 0 ≤ (Go.bits .and .u8 (rd l0_2 x26_1) 15)
        rotate_left
        · rw [if_neg c73] at H
          exact absurd H (by simp)
        rw [if_pos c73] at H
        have c73b0 : decide (0 ≤ (Go.bits .and .u8 (rd l0_2 x26_1) 15)) = true := decide_eq_true c73
        clear c73
        by_cases c74 : (Go.bits .and .u8 (rd l0_2 x26_1) 15) < 16
        rotate_left
        · rw [if_neg c74] at H
          exact absurd H (by simp)
        rw [if_pos c74] at H
        have c74b0 : decide ((Go.bits .and .u8 (rd l0_2 x26_1) 15) < 16) = true := decide_eq_true c74
        clear c74
        obtain ⟨y625, hy625⟩ : ∃ y_ : List Int, y_ = (([bt (⟨#[48, 49, 50, 51, 52, 53, 54, 55, 56, 57, 97, 98, 99, 100, 101, 102]⟩ : ByteArray) ((rd l0_2 x26_1) / 16), bt (⟨#[48, 49, 50, 51, 52, 53, 54, 55, 56, 57, 97, 98, 99, 100, 101, 102]⟩ : ByteArray) (Go.bits .and .u8 (rd l0_2 x26_1) 15)] : List Int)) := ⟨_, rfl⟩
        replace H : (if x5_1.length + y625.length < 140737488355328 then (name_value.l0 k1 (x5_1 ++ y625) l0_2 (l0_2.length : Int) (wrap64 (x26_1 + 1))) else (none)) = some r := by first | (rw [hy625]; with_reducible exact H) | (have H2_ := (Option.bind_some _ _).symm.trans H; rw [hy625]; with_reducible exact H2_) | (have H2_ := (Option.bind_some _ _).symm.trans H; with_reducible exact H2_) | with_reducible exact H | (rw [hy625]; exact H) | exact H
        have Ny625 := Aside0.mk hy625
        clear hy625
        by_cases c76 : x5_1.length + y625.length < 140737488355328
        rotate_left
        · rw [if_neg c76] at H
          exact absurd H (by simp)
        rw [if_pos c76] at H
        have LMc76 := Aside0.mk c76
        clear c76
        obtain ⟨y628, hy628⟩ : ∃ y_ : List Int, y_ = (x5_1 ++ y625) := ⟨_, rfl⟩
        replace H : (name_value.l0 k1 y628 l0_2 (l0_2.length : Int) (wrap64 (x26_1 + 1))) = some r := by first | (rw [hy628]; with_reducible exact H) | (have H2_ := (Option.bind_some _ _).symm.trans H; rw [hy628]; with_reducible exact H2_) | (have H2_ := (Option.bind_some _ _).symm.trans H; with_reducible exact H2_) | with_reducible exact H | (rw [hy628]; exact H) | exact H
        have Ny628 := Aside0.mk hy628
        clear hy628
        have H' := Aside0.mk H
        clear H
        have p624 : 0 ≤ (x26_1 : Int) := of_decide_eq_true (by first | (with_reducible assumption) | assumption)
        have q624 : x26_1 < (l0_2.length : Int) := of_decide_eq_true (by first | (with_reducible assumption) | assumption)
        obtain ⟨ad624, e624, hx624_0⟩ := Kd.at_int HR0_2.out x26_1 p624 q624
        cases e624
        replace hx624_0 := (HB.out.cell (World.block_lt_of_cell? w _ hx624_0)).trans hx624_0
        replace p624 := eq_true p624
        replace q624 := eq_true q624
        try go_wp2
        have n0_ := Aside0.mk (Kd.R_drew HO_5.out)
        have n1_ := Aside0.mk (blk_drew BK618.out)
        have n2_ := Aside0.mk (below_drew1 HB.out)
        clear HO_5
        clear BK618
        clear HB
        have HO_5 := n0_
        have BK618 := n1_
        have HB := n2_
        clear n0_ n1_ n2_
        have p72 : 0 ≤ (((rd l0_2 x26_1) / 16) : Int) := of_decide_eq_true (by first | (with_reducible assumption) | assumption)
        have q72 : ((rd l0_2 x26_1) / 16) < (16 : Int) := of_decide_eq_true (by first | (with_reducible assumption) | assumption)
        have hx72 := bt_at (⟨#[48, 49, 50, 51, 52, 53, 54, 55, 56, 57, 97, 98, 99, 100, 101, 102]⟩ : ByteArray) ((rd l0_2 x26_1) / 16)
        replace p72 := eq_true p72
        replace q72 := eq_true q72
        have p75 : 0 ≤ ((Go.bits .and .u8 (rd l0_2 x26_1) 15) : Int) := of_decide_eq_true (by first | (with_reducible assumption) | assumption)
        have q75 : (Go.bits .and .u8 (rd l0_2 x26_1) 15) < (16 : Int) := of_decide_eq_true (by first | (with_reducible assumption) | assumption)
        have hx75 := bt_at (⟨#[48, 49, 50, 51, 52, 53, 54, 55, 56, 57, 97, 98, 99, 100, 101, 102]⟩ : ByteArray) (Go.bits .and .u8 (rd l0_2 x26_1) 15)
        replace p75 := eq_true p75
        replace q75 := eq_true q75
        refine start_ (n := 10) (S := fun w' => True) (ds := []) #[false, false, false, false, false, false, false, false, false, false] (by kernel_rfl) rfl rfl trivial (fun hHeld => ?_); refine with_tabW name_value.tab8 name_value.bits8 (fun HT_ HW_ => ?_)
        generalize wr.drew = w77 at HO_5 BK618 HB hHeld ⊢
        refine pure_ (i := 0) (N := some 30) (v := ?_) (a' := ?_) #[true, false, false, false, false, false, false, false, false, false] rfl rfl (any_of HT_.out (by kernel_rfl)) (fun _ _ _ h => h) (Or.inl ⟨by rfl, ?_⟩) ?_ ?_; rotate_left; (intro w'; go_simp; with_reducible rfl); rotate_left; (simp only [Act.put, List.setIfInBounds_toArray, List.set_cons_zero, List.set_cons_succ, i64_w, i32_w]; rfl)
        refine pure_ (i := 1) (N := some 31) (v := ?_) (a' := ?_) #[true, true, false, false, false, false, false, false, false, false] rfl rfl (any_of HT_.out (by kernel_rfl)) (fun _ _ _ h => h) (Or.inl ⟨by rfl, ?_⟩) ?_ ?_; rotate_left; (intro w'; go_simp; with_reducible rfl); rotate_left; (simp only [Act.put, List.setIfInBounds_toArray, List.set_cons_zero, List.set_cons_succ, i64_w, i32_w]; rfl)
        refine pure_ (i := 2) (N := some 32) (v := ?_) (a' := ?_) #[true, true, true, false, false, false, false, false, false, false] rfl rfl (any_of HT_.out (by kernel_rfl)) (fun _ _ _ h => h) (Or.inl ⟨by rfl, ?_⟩) ?_ ?_; rotate_left; (intro w'; go_simp; with_reducible rfl); rotate_left; (simp only [Act.put, List.setIfInBounds_toArray, List.set_cons_zero, List.set_cons_succ, i64_w, i32_w]; rfl)
        refine pure_ (i := 4) (N := some 34) (v := ?_) (a' := ?_) #[true, true, true, false, true, false, false, false, false, false] rfl rfl (any_of HT_.out (by kernel_rfl)) (fun _ _ _ h => h) (Or.inl ⟨by rfl, ?_⟩) ?_ ?_; rotate_left; (intro w'; go_simp; with_reducible rfl); rotate_left; (simp only [Act.put, List.setIfInBounds_toArray, List.set_cons_zero, List.set_cons_succ, i64_w, i32_w]; rfl)
        refine pure_ (i := 5) (N := some 35) (v := ?_) (a' := ?_) #[true, true, true, false, true, true, false, false, false, false] rfl rfl (any_of HT_.out (by kernel_rfl)) (fun _ _ _ h => h) (Or.inl ⟨by rfl, ?_⟩) ?_ ?_; rotate_left; (intro w'; go_simp; with_reducible rfl); rotate_left; (simp only [Act.put, List.setIfInBounds_toArray, List.set_cons_zero, List.set_cons_succ, i64_w, i32_w]; rfl)
        refine take_ (i := 3) (N := some 33) (v := ?_) (a' := ?_) #[true, true, true, true, true, true, false, false, false, false] rfl rfl (take_ofW HT_.out HW_.out (by kernel_rfl)) (fun _ _ _ h => h) (Or.inl ⟨by rfl, ?_⟩) hHeld ?_ ?_; rotate_left; (intro w' _; go_simp; with_reducible rfl); rotate_left; (simp only [Act.put, List.setIfInBounds_toArray, List.set_cons_zero, List.set_cons_succ, i64_w, i32_w]; rfl)
        refine take_ (i := 6) (N := some 36) (v := ?_) (a' := ?_) #[true, true, true, true, true, true, true, false, false, false] rfl rfl (take_ofW HT_.out HW_.out (by kernel_rfl)) (fun _ _ _ h => h) (Or.inl ⟨by rfl, ?_⟩) hHeld ?_ ?_; rotate_left; (intro w' _; go_simp; with_reducible rfl); rotate_left; (simp only [Act.put, List.setIfInBounds_toArray, List.set_cons_zero, List.set_cons_succ, i64_w, i32_w]; rfl)
        refine one_ (i := 7) (N := some 37) #[true, true, true, true, true, true, true, true, false, false] rfl rfl (one_of HT_.out (by kernel_rfl)) (by decide) (fun K hK => ?_)
        refine Kd.R_lit_step (Kd.int .u8) _ 5 ?hg (N := 37) ?hd (xs := ([bt (⟨#[48, 49, 50, 51, 52, 53, 54, 55, 56, 57, 97, 98, 99, 100, 101, 102]⟩ : ByteArray) ((rd l0_2 x26_1) / 16), bt (⟨#[48, 49, 50, 51, 52, 53, 54, 55, 56, 57, 97, 98, 99, 100, 101, 102]⟩ : ByteArray) (Go.bits .and .u8 (rd l0_2 x26_1) 15)] : List Int)) (inner := [.int .u8 (bt (⟨#[48, 49, 50, 51, 52, 53, 54, 55, 56, 57, 97, 98, 99, 100, 101, 102]⟩ : ByteArray) ((rd l0_2 x26_1) / 16)), .int .u8 (bt (⟨#[48, 49, 50, 51, 52, 53, 54, 55, 56, 57, 97, 98, 99, 100, 101, 102]⟩ : ByteArray) (Go.bits .and .u8 (rd l0_2 x26_1) 15))]) (ok := fun _ => True) (okp := fun _ => True) ?hr ?hp (fun _ hk => hk) trivial (Below.refl _ _) (Nat.le_refl _) (by simp) ?_; (case hd => rfl); (case hg => rfl); (case hr => first | (go_simp; done) | (go_simp; rfl)); (case hp => exact (Reps.one (show Kd.M (Kd.int .u8) _ _ _ (bt (⟨#[48, 49, 50, 51, 52, 53, 54, 55, 56, 57, 97, 98, 99, 100, 101, 102]⟩ : ByteArray) ((rd l0_2 x26_1) / 16)) [.int .u8 (bt (⟨#[48, 49, 50, 51, 52, 53, 54, 55, 56, 57, 97, 98, 99, 100, 101, 102]⟩ : ByteArray) ((rd l0_2 x26_1) / 16))] from rfl) (Reps.one (show Kd.M (Kd.int .u8) _ _ _ (bt (⟨#[48, 49, 50, 51, 52, 53, 54, 55, 56, 57, 97, 98, 99, 100, 101, 102]⟩ : ByteArray) (Go.bits .and .u8 (rd l0_2 x26_1) 15)) [.int .u8 (bt (⟨#[48, 49, 50, 51, 52, 53, 54, 55, 56, 57, 97, 98, 99, 100, 101, 102]⟩ : ByteArray) (Go.bits .and .u8 (rd l0_2 x26_1) 15))] from rfl) (Reps.none _ _))))
        intro v626 w78 ho79 hb hg_ hnew_
        clear hg_ hnew_
        (first | rw [← Ny625.out] at ho79 | (simp only [Int.reduceToNat] at ho79; rw [← Ny625.out] at ho79))
        have n0_ := Aside0.mk (Kd.R_elder' (by (with_reducible repeat (first | apply Kd.R_alloc | apply Kd.R_drewN | apply Kd.R_drew)); exact HO_5.out) (Kd.R_base ho79) hb)
        have n1_ := Aside0.mk (Kd.R_lower (Kd.R_new' ho79 (Kd.R_lt (by (with_reducible repeat (first | apply Kd.R_alloc | apply Kd.R_drewN | apply Kd.R_drew)); exact HO_5.out))) (below_size (by repeat (first | (with_reducible first | exact HB.out | apply below_alloc | apply pw_below_drewN | apply below_drew1 | refine below_set ?_ GE618.out) | exact HB.out))))
        have n2_ := Aside0.mk (blk_below (g := gb618) (o := .cells #[.string a0_0, .int .i64 a0_1, .slice (some ad624) l0_2.length c0_2] 64 (0, 0)) (by (with_reducible repeat (first | refine blk_drewN ?_ _ | refine blk_drew ?_ | refine blk_alloc ?_ _)); exact BK618.out) hb)
        have n3_ := Aside0.mk (below_step (by repeat (first | (with_reducible first | exact HB.out | apply below_alloc | apply pw_below_drewN | apply below_drew1 | refine below_set ?_ GE618.out) | exact HB.out)) hb)
        clear HO_5
        clear BK618
        clear HB
        have HO_5 := n0_
        have HO627 := n1_
        have BK618 := n2_
        have HB := n3_
        clear n0_ n1_ n2_ n3_
        clear hb ho79
        obtain ⟨Ao81, co81, eo81⟩ := Kd.R_slice HO627.out
        (first | subst eo81 | (injection eo81 with f1_ f2_ f3_; have f4_ := f1_.symm; have f5_ := f3_.symm; clear f1_ f2_ f3_; subst f4_; subst f5_))
        refine hK.out _ _ trivial (fun hHeld => ?_)
        clear hK K
        refine norm_ (a' := ?_) ?_ ?_; rotate_left; (show Act.put _ (some 37) _ = _; simp only [Act.put, List.setIfInBounds_toArray, List.set_cons_zero, List.set_cons_succ, i64_w, i32_w]; rfl)
        refine one_ (i := 8) (N := some 38) #[true, true, true, true, true, true, true, true, true, false] rfl rfl (one_of HT_.out (by kernel_rfl)) (by decide) (fun K hK => ?_)
        refine Kd.R_append_rows_step (Kd.int .u8) (w0 := w) w.heap.size (by rfl) (.tmp 30) (.tmp 37) 22 5 (.int .u8 0) 1 rfl Tryz.underlying22 info5 rfl (by decide) (by omega) u5 x5_1 y625 _ _ _ (fun k_ => some k_ ≠ (.slice Ao81 y625.length co81 : Value).ownBlock) (fun _ => False) rfl rfl ?aO ?aR (fun _ _ h => h) (fun _ h => h.elim) ?aF ?aB ?aS ?aL ?_
        (case aR => repeat (first | exact (Kd.R_reads' HO627.out).2.2 | (with_reducible refine Kd.C_alloc ?_ _) | (with_reducible refine Kd.C_drewN ?_ _) | (with_reducible refine Kd.C_drew ?_)))
        (case aB => exact (by repeat (first | (with_reducible first | exact HB.out | apply below_alloc | apply pw_below_drewN | apply below_drew1 | refine below_set ?_ GE618.out) | exact HB.out)))
        (case aF => exact (fun k_ hk => Kd.fresh' (Kd.R_lt (by (with_reducible repeat (first | apply Kd.R_alloc | apply Kd.R_drewN | apply Kd.R_drew)); exact HO627.out)) k_ hk))
        (case aO => exact (by (with_reducible repeat (first | apply Kd.R_alloc | apply Kd.R_drewN | apply Kd.R_drew)); exact Kd.R_mono HO_5.out (fun _ hk => hk.2)))
        (case aS => exact (below_size (by repeat (first | (with_reducible first | exact HB.out | apply below_alloc | apply pw_below_drewN | apply below_drew1 | refine below_set ?_ GE618.out) | exact HB.out))))
        (case aL => have := LMc76.out; omega)
        intro v629 w80 ho hb hg hat
        rw [← Ny628.out] at ho
        have n0_ := Aside0.mk (blk_grown (g := gb618) (o := .cells #[.string a0_0, .int .i64 a0_1, .slice (some ad624) l0_2.length c0_2] 64 (0, 0)) (by (with_reducible repeat (first | refine blk_drewN ?_ _ | refine blk_drew ?_ | refine blk_alloc ?_ _)); exact BK618.out) hg (Kd.R_ne HO_5.out BK618.out (by decide)))
        have n1_ := Aside0.mk (Kd.R_after (ok := (fun _ => True)) (by (with_reducible repeat (first | apply Kd.R_alloc | apply Kd.R_drewN | apply Kd.R_drew)); exact HO627.out) hg hat)
        have n2_ := Aside0.mk (hb)
        have n3_ := Aside0.mk (ho)
        clear BK618
        clear HO627
        clear HB
        clear HO_5
        have BK618 := n0_
        have HO627 := n1_
        have HB := n2_
        have HO630 := n3_
        clear n0_ n1_ n2_ n3_
        clear ho hb hg hat
        refine hK.out _ _ trivial (fun hHeld => ?_)
        clear hK K
        refine norm_ (a' := ?_) ?_ ?_; rotate_left; (show Act.put _ (some 38) _ = _; simp only [Act.put, List.setIfInBounds_toArray, List.set_cons_zero, List.set_cons_succ, i64_w, i32_w]; rfl)
        refine pure_ (i := 9) (N := some 5) (v := ?_) (a' := ?_) #[true, true, true, true, true, true, true, true, true, true] rfl rfl (any_of HT_.out (by kernel_rfl)) (fun _ _ _ h => h) (Or.inl ⟨by rfl, ?_⟩) ?_ ?_; rotate_left; (intro w'; go_simp; with_reducible rfl); rotate_left; (simp only [Act.put, List.setIfInBounds_toArray, List.set_cons_zero, List.set_cons_succ, i64_w, i32_w]; rfl)
        refine done_ (done_of HT_.out (by kernel_rfl)) ?_
        try go_wp2
        go_roundg k1
        case measure => have := HK1.out; omega
        case rel => exact ⟨(y628), (wrap64 (x26_1 + 1)), (by first | rfl | (simp; done) | (simp [*]; done)), H', ⟨by have := HK1.out; omega⟩, ⟨by (with_reducible repeat (first | apply Kd.R_alloc | apply Kd.R_drewN | apply Kd.R_drew)); exact Kd.R_mono HO630.out (fun _ hk => trivial)⟩, ⟨by (with_reducible repeat (first | refine blk_drewN ?_ _ | refine blk_drew ?_ | refine blk_alloc ?_ _)); exact BK618.out⟩, ⟨by repeat (first | (with_reducible first | exact HB.out | apply below_alloc | apply pw_below_drewN | apply below_drew1 | refine below_set ?_ GE618.out) | exact HB.out)⟩⟩
  rw [if_pos c3] at H
  have c3b0 : (t620 == 0) = true := beq_iff_eq.mpr c3
  have c3b1 : (t620 != 0) = false := bne_eq_false_iff_eq.mpr c3
  clear c3
  have H' := Aside0.mk H
  clear H
  go_enter Tryz.func87, Tryz.ntmps87
  go_wp2_with (first | ((with_reducible refine gate_dst (N := 1) rfl ?_); (try (refine gate_guard (by rfl) ?_; dsimp only)); refine box_event ?hg (N := 1) ?hd (cs := #[.string a0_0, .int .i64 a0_1, .slice A0_2 l0_2.length c0_2]) (t := 64) ?hr ?_; (case hd => rfl); (case hg => rfl); (case hr => first | (go_simp; done) | (go_simp; rfl)); intro gb618 hg w4 hbox hb; have n0_ := Aside0.mk (below_step (by repeat (first | (with_reducible first | exact HB.out | apply below_alloc | apply pw_below_drewN | apply below_drew1) | exact HB.out)) hb); have n1_ := Aside0.mk (hbox); have n2_ := Aside0.mk ((by rw [hg]; exact (below_size (by repeat (first | (with_reducible first | exact HB.out | apply below_alloc | apply pw_below_drewN | apply below_drew1) | exact HB.out))) : w.heap.size ≤ gb618)); have n3_ := Aside0.mk ((by rw [hg]; exact (below_size (by repeat (first | (with_reducible first | exact HB.out | apply below_alloc | apply pw_below_drewN | apply below_drew1) | exact HB.out))) : w.heap.size ≤ gb618)); clear HB; have HB := n0_; have BK618 := n1_; have GW618 := n2_; have GE618 := n3_; clear n0_ n1_ n2_ n3_; clear hb hbox hg; have hcz5_0 : w4.cell? ⟨gb618, 0, none⟩ = some (.string a0_0) := (blk_cell BK618.out 0).trans rfl; have hcz5_1 : w4.cell? ⟨gb618, 1, none⟩ = some (.int .i64 a0_1) := (blk_cell BK618.out 1).trans rfl; have hcz5_2 : w4.cell? ⟨gb618, 2, none⟩ = some (.slice A0_2 l0_2.length c0_2) := (blk_cell BK618.out 2).trans rfl; have hfz5_0 := blk_frozen BK618.out 0; have hfz5_1 := blk_frozen BK618.out 1; have hfz5_2 := blk_frozen BK618.out 2) | ((with_reducible refine gate_callee (f := 153) rfl ?_); refine goesL_ (some 15) rfl rfl Tryz.func153 (by kernel_rfl) rfl #[.int .i64 a0_1, .slice A0_2 l0_2.length c0_2] rfl (by (try simp only [List.map_toArray, List.map_cons, List.map_nil]); first | done | rfl | (simp only [List.length_drop, List.length_take]; rfl)) ?_; (with_reducible refine (text_Text.calls k a0_1 _ _ l0_2 t619 t620 _ ?side1 ?side2 A2.out (Tb.below HHd.out (by repeat (first | (with_reducible first | exact HB.out | apply below_alloc | apply pw_below_drewN | apply below_drew1 | refine below_set ?_ GE618.out) | exact HB.out)))).mono ?_); (case side1 => repeat (first | exact (Kd.C_below HR0_2.out HB.out) | (with_reducible refine Kd.C_alloc ?_ _) | (with_reducible refine Kd.C_drewN ?_ _) | (with_reducible refine Kd.C_drew ?_))); (case side2 => exact HC0_2.out); rintro e w6 ⟨rfl, hb⟩; refine ⟨_, rfl, ?_⟩; have n0_ := Aside0.mk (blk_below (g := gb618) (o := .cells #[.string a0_0, .int .i64 a0_1, .slice A0_2 l0_2.length c0_2] 64 (0, 0)) (by (with_reducible repeat (first | refine blk_drewN ?_ _ | refine blk_drew ?_ | refine blk_alloc ?_ _)); exact BK618.out) hb); have n1_ := Aside0.mk (below_step (by repeat (first | (with_reducible first | exact HB.out | apply below_alloc | apply pw_below_drewN | apply below_drew1 | refine below_set ?_ GE618.out) | exact HB.out)) hb); clear BK618; clear HB; have BK618 := n0_; have HB := n1_; clear n0_ n1_; (try clear hb); (try clear hb2); (try clear hk); (try clear hi)))
  go_loopg [5, 44] k (fun kq v5 v44 w' => ∃ (x5_1 : List Int) (x44_1 : Int), v44 = .int .i64 x44_1 ∧ Aside0 (name_value.l1 kq t619 x5_1 (t619.size : Int) x44_1 = some r) ∧ Aside0 (kq ≤ k) ∧ Aside0 (Kd.R (Kd.int .u8) 5 w' w.heap.size (fun _ => True) v5 x5_1) ∧ Aside0 (w'.heap[gb618]? = some (.cells #[.string a0_0, .int .i64 a0_1, (.slice A0_2 l0_2.length c0_2)] 64 (0, 0))) ∧ Aside0 (Below w.heap.size w w'))
  case atStart => exact ⟨(([] : List Int)), (0), (by first | rfl | (simp; done) | (simp [*]; done)), H', ⟨Nat.le_refl _⟩, ⟨by first | exact Kd.R_nil _ _ _ _ _ | exact Kd.N_nil _ _ _ _ _ | exact Kd.V_nil _ _ _ _ _ | exact Kd.Q_nil _ _ _ _ _ | exact Kd.S_nil _ _ _ _ _⟩, ⟨by (with_reducible repeat (first | refine blk_drewN ?_ _ | refine blk_drew ?_ | refine blk_alloc ?_ _)); exact BK618.out⟩, ⟨by repeat (first | (with_reducible first | exact HB.out | apply below_alloc | apply pw_below_drewN | apply below_drew1 | refine below_set ?_ GE618.out) | exact HB.out)⟩⟩
  case round =>
    clear H'
    obtain ⟨x5_1, x44_1, rfl, HA, HK1, HO_5, BK618, HB⟩ := hrel
    cases gk with
    | zero => exact absurd HA.out (by simp [name_value.l1])
    | succ k1 =>
      have H := HA.out
      clear HA
      simp only [name_value.l1] at H
      by_cases c7 : x44_1 < (t619.size : Int)
      rotate_left
      · rw [if_neg c7] at H
        have c7b0 : decide (x44_1 < (t619.size : Int)) = false := decide_eq_false c7
        clear c7
        obtain rfl := Option.some.inj H
        have hcv60 := own_string (P := Tryz.prog) Tryz.underlying22 Tryz.underlying5 Tryz.underlying9 (Kd.own_of_R HO_5.out)
        go_wp2
        go_ret
        exact ⟨by first | rfl | (simp [errW_none, errW_some] <;> rfl) | (simp [*, errW_none, errW_some] <;> rfl), by repeat (first | (with_reducible first | exact HB.out | apply below_alloc | apply pw_below_drewN | apply below_drew1 | refine below_set ?_ GE618.out) | exact HB.out)⟩
      rw [if_pos c7] at H
      have c7b0 : decide (x44_1 < (t619.size : Int)) = true := decide_eq_true c7
      clear c7
      by_cases c8 : 0 ≤ x44_1
      rotate_left
      · rw [if_neg c8] at H
        exact absurd H (by simp)
      rw [if_pos c8] at H
      have c8b0 : decide (0 ≤ x44_1) = true := decide_eq_true c8
      clear c8
      by_cases c9 : x44_1 < (t619.size : Int)
      rotate_left
      · rw [if_neg c9] at H
        exact absurd H (by simp)
      rw [if_pos c9] at H
      have c9b0 : decide (x44_1 < (t619.size : Int)) = true := decide_eq_true c9
      clear c9
      have HC11 := Aside0.mk H
      clear H
      have p10 : 0 ≤ (x44_1 : Int) := of_decide_eq_true (by first | (with_reducible assumption) | assumption)
      have q10 : x44_1 < (t619.size : Int) := of_decide_eq_true (by first | (with_reducible assumption) | assumption)
      have hx10 := bt_at t619 x44_1
      replace p10 := eq_true p10
      replace q10 := eq_true q10
      go_upto_region 16 with (fail)
      go_cut [54] (fun v54 wc => ∃ (kq : Nat) (x54_10 : Bool), v54 = .bool x54_10 ∧ Aside0 (name_value.j2 kq t619 x5_1 x44_1 (bt t619 x44_1) (t619.size : Int) x44_1 x54_10 = some r) ∧ Aside0 (kq ≤ k1) ∧ Aside0 (Kd.R (Kd.int .u8) 5 wc w.heap.size (fun _ => True) u5 x5_1) ∧ Aside0 (wc.heap[gb618]? = some (.cells #[.string a0_0, .int .i64 a0_1, (.slice A0_2 l0_2.length c0_2)] 64 (0, 0))) ∧ Aside0 (Below w.heap.size w wc))
      case first =>
        have H := HC11.out
        clear HC11
        by_cases c12 : (bt t619 x44_1) < 32
        rotate_left
        · rw [if_neg c12] at H
          have c12b0 : decide ((bt t619 x44_1) < 32) = false := decide_eq_false c12
          clear c12
          (first | rw [c12b0] | (simp only [i64_w, i32_w]; rw [c12b0]) | skip)
          have H' := Aside0.mk H
          clear H
          go_wp2
          go_meet
          case rel => exact ⟨_, (((bt t619 x44_1) == 127)), (by first | rfl | (simp; done) | (simp [*]; done)), H', ⟨by have := HK1.out; first | omega | exact Nat.le_refl _⟩, ⟨by (with_reducible repeat (first | apply Kd.R_alloc | apply Kd.R_drewN | apply Kd.R_drew)); exact HO_5.out⟩, ⟨by (with_reducible repeat (first | refine blk_drewN ?_ _ | refine blk_drew ?_ | refine blk_alloc ?_ _)); exact BK618.out⟩, ⟨by repeat (first | (with_reducible first | exact HB.out | apply below_alloc | apply pw_below_drewN | apply below_drew1 | refine below_set ?_ GE618.out) | exact HB.out)⟩⟩
        rw [if_pos c12] at H
        have c12b0 : decide ((bt t619 x44_1) < 32) = true := decide_eq_true c12
        clear c12
        (first | rw [c12b0] | (simp only [i64_w, i32_w]; rw [c12b0]) | skip)
        have H' := Aside0.mk H
        clear H
        go_wp2
        go_meet
        case rel => exact ⟨_, (true), (by first | rfl | (simp; done) | (simp [*]; done)), H', ⟨by have := HK1.out; first | omega | exact Nat.le_refl _⟩, ⟨by (with_reducible repeat (first | apply Kd.R_alloc | apply Kd.R_drewN | apply Kd.R_drew)); exact HO_5.out⟩, ⟨by (with_reducible repeat (first | refine blk_drewN ?_ _ | refine blk_drew ?_ | refine blk_alloc ?_ _)); exact BK618.out⟩, ⟨by repeat (first | (with_reducible first | exact HB.out | apply below_alloc | apply pw_below_drewN | apply below_drew1 | refine below_set ?_ GE618.out) | exact HB.out)⟩⟩
      clear HC11
      obtain ⟨kq, x54_10, rfl, HA, HJ10, HO_5, BK618, HB⟩ := hcut
      cases kq with
      | zero => exact absurd HA.out (by simp [name_value.j2])
      | succ kj10 =>
        have H := HA.out
        clear HA
        simp only [name_value.j2] at H
        by_cases c13 : x54_10 = true
        · subst c13
          have H1 : (if 0 ≤ ((bt t619 x44_1) / 16) then (if ((bt t619 x44_1) / 16) < 16 then (if 0 ≤ (Go.bits .and .u8 (bt t619 x44_1) 15) then (if (Go.bits .and .u8 (bt t619 x44_1) 15) < 16 then ((some (([92, bt (⟨#[48, 49, 50, 51, 52, 53, 54, 55, 56, 57, 97, 98, 99, 100, 101, 102]⟩ : ByteArray) ((bt t619 x44_1) / 16), bt (⟨#[48, 49, 50, 51, 52, 53, 54, 55, 56, 57, 97, 98, 99, 100, 101, 102]⟩ : ByteArray) (Go.bits .and .u8 (bt t619 x44_1) 15)] : List Int) : List Int)).bind fun y631 => (if x5_1.length + y631.length < 140737488355328 then (name_value.l1 kj10 t619 (x5_1 ++ y631) (t619.size : Int) (wrap64 (x44_1 + 1))) else (none))) else (none)) else (none)) else (none)) else (none)) = some r := by rw [if_pos rfl] at H; exact H
          clear H
          have H := H1
          clear H1
          by_cases c14 : 0 ≤ ((bt t619 x44_1) / 16)
          rotate_left
          · rw [if_neg c14] at H
            exact absurd H (by simp)
          rw [if_pos c14] at H
          have c14b0 : decide (0 ≤ ((bt t619 x44_1) / 16)) = true := decide_eq_true c14
          clear c14
          by_cases c15 : ((bt t619 x44_1) / 16) < 16
          rotate_left
          · rw [if_neg c15] at H
            exact absurd H (by simp)
          rw [if_pos c15] at H
          have c15b0 : decide (((bt t619 x44_1) / 16) < 16) = true := decide_eq_true c15
          clear c15
          by_cases c17 : 0 ≤ (Go.bits .and .u8 (bt t619 x44_1) 15)
          rotate_left
          · rw [if_neg c17] at H
            exact absurd H (by simp)
          rw [if_pos c17] at H
          have c17b0 : decide (0 ≤ (Go.bits .and .u8 (bt t619 x44_1) 15)) = true := decide_eq_true c17
          clear c17
          by_cases c18 : (Go.bits .and .u8 (bt t619 x44_1) 15) < 16
          rotate_left
          · rw [if_neg c18] at H
            exact absurd H (by simp)
          rw [if_pos c18] at H
          have c18b0 : decide ((Go.bits .and .u8 (bt t619 x44_1) 15) < 16) = true := decide_eq_true c18
          clear c18
          obtain ⟨y631, hy631⟩ : ∃ y_ : List Int, y_ = (([92, bt (⟨#[48, 49, 50, 51, 52, 53, 54, 55, 56, 57, 97, 98, 99, 100, 101, 102]⟩ : ByteArray) ((bt t619 x44_1) / 16), bt (⟨#[48, 49, 50, 51, 52, 53, 54, 55, 56, 57, 97, 98, 99, 100, 101, 102]⟩ : ByteArray) (Go.bits .and .u8 (bt t619 x44_1) 15)] : List Int)) := ⟨_, rfl⟩
          replace H : (if x5_1.length + y631.length < 140737488355328 then (name_value.l1 kj10 t619 (x5_1 ++ y631) (t619.size : Int) (wrap64 (x44_1 + 1))) else (none)) = some r := by first | (rw [hy631]; with_reducible exact H) | (have H2_ := (Option.bind_some _ _).symm.trans H; rw [hy631]; with_reducible exact H2_) | (have H2_ := (Option.bind_some _ _).symm.trans H; with_reducible exact H2_) | with_reducible exact H | (rw [hy631]; exact H) | exact H
          have Ny631 := Aside0.mk hy631
          clear hy631
          by_cases c20 : x5_1.length + y631.length < 140737488355328
          rotate_left
          · rw [if_neg c20] at H
            exact absurd H (by simp)
          rw [if_pos c20] at H
          have LMc20 := Aside0.mk c20
          clear c20
          obtain ⟨y634, hy634⟩ : ∃ y_ : List Int, y_ = (x5_1 ++ y631) := ⟨_, rfl⟩
          replace H : (name_value.l1 kj10 t619 y634 (t619.size : Int) (wrap64 (x44_1 + 1))) = some r := by first | (rw [hy634]; with_reducible exact H) | (have H2_ := (Option.bind_some _ _).symm.trans H; rw [hy634]; with_reducible exact H2_) | (have H2_ := (Option.bind_some _ _).symm.trans H; with_reducible exact H2_) | with_reducible exact H | (rw [hy634]; exact H) | exact H
          have Ny634 := Aside0.mk hy634
          clear hy634
          have H' := Aside0.mk H
          clear H
          try go_wp2
          have n0_ := Aside0.mk (Kd.R_drew HO_5.out)
          have n1_ := Aside0.mk (blk_drew BK618.out)
          have n2_ := Aside0.mk (below_drew1 HB.out)
          clear HO_5
          clear BK618
          clear HB
          have HO_5 := n0_
          have BK618 := n1_
          have HB := n2_
          clear n0_ n1_ n2_
          have p16 : 0 ≤ (((bt t619 x44_1) / 16) : Int) := of_decide_eq_true (by first | (with_reducible assumption) | assumption)
          have q16 : ((bt t619 x44_1) / 16) < (16 : Int) := of_decide_eq_true (by first | (with_reducible assumption) | assumption)
          have hx16 := bt_at (⟨#[48, 49, 50, 51, 52, 53, 54, 55, 56, 57, 97, 98, 99, 100, 101, 102]⟩ : ByteArray) ((bt t619 x44_1) / 16)
          replace p16 := eq_true p16
          replace q16 := eq_true q16
          have p19 : 0 ≤ ((Go.bits .and .u8 (bt t619 x44_1) 15) : Int) := of_decide_eq_true (by first | (with_reducible assumption) | assumption)
          have q19 : (Go.bits .and .u8 (bt t619 x44_1) 15) < (16 : Int) := of_decide_eq_true (by first | (with_reducible assumption) | assumption)
          have hx19 := bt_at (⟨#[48, 49, 50, 51, 52, 53, 54, 55, 56, 57, 97, 98, 99, 100, 101, 102]⟩ : ByteArray) (Go.bits .and .u8 (bt t619 x44_1) 15)
          replace p19 := eq_true p19
          replace q19 := eq_true q19
          refine start_ (n := 10) (S := fun w' => True) (ds := []) #[false, false, false, false, false, false, false, false, false, false] (by kernel_rfl) rfl rfl trivial (fun hHeld => ?_); refine with_tabW name_value.tab17 name_value.bits17 (fun HT_ HW_ => ?_)
          generalize wc.drew = w21 at HO_5 BK618 HB hHeld ⊢
          refine pure_ (i := 0) (N := some 61) (v := ?_) (a' := ?_) #[true, false, false, false, false, false, false, false, false, false] rfl rfl (any_of HT_.out (by kernel_rfl)) (fun _ _ _ h => h) (Or.inl ⟨by rfl, ?_⟩) ?_ ?_; rotate_left; (intro w'; go_simp; with_reducible rfl); rotate_left; (simp only [Act.put, List.setIfInBounds_toArray, List.set_cons_zero, List.set_cons_succ, i64_w, i32_w]; rfl)
          refine pure_ (i := 1) (N := some 62) (v := ?_) (a' := ?_) #[true, true, false, false, false, false, false, false, false, false] rfl rfl (any_of HT_.out (by kernel_rfl)) (fun _ _ _ h => h) (Or.inl ⟨by rfl, ?_⟩) ?_ ?_; rotate_left; (intro w'; go_simp; with_reducible rfl); rotate_left; (simp only [Act.put, List.setIfInBounds_toArray, List.set_cons_zero, List.set_cons_succ, i64_w, i32_w]; rfl)
          refine pure_ (i := 2) (N := some 63) (v := ?_) (a' := ?_) #[true, true, true, false, false, false, false, false, false, false] rfl rfl (any_of HT_.out (by kernel_rfl)) (fun _ _ _ h => h) (Or.inl ⟨by rfl, ?_⟩) ?_ ?_; rotate_left; (intro w'; go_simp; with_reducible rfl); rotate_left; (simp only [Act.put, List.setIfInBounds_toArray, List.set_cons_zero, List.set_cons_succ, i64_w, i32_w]; rfl)
          refine pure_ (i := 4) (N := some 65) (v := ?_) (a' := ?_) #[true, true, true, false, true, false, false, false, false, false] rfl rfl (any_of HT_.out (by kernel_rfl)) (fun _ _ _ h => h) (Or.inl ⟨by rfl, ?_⟩) ?_ ?_; rotate_left; (intro w'; go_simp; with_reducible rfl); rotate_left; (simp only [Act.put, List.setIfInBounds_toArray, List.set_cons_zero, List.set_cons_succ, i64_w, i32_w]; rfl)
          refine pure_ (i := 5) (N := some 66) (v := ?_) (a' := ?_) #[true, true, true, false, true, true, false, false, false, false] rfl rfl (any_of HT_.out (by kernel_rfl)) (fun _ _ _ h => h) (Or.inl ⟨by rfl, ?_⟩) ?_ ?_; rotate_left; (intro w'; go_simp; with_reducible rfl); rotate_left; (simp only [Act.put, List.setIfInBounds_toArray, List.set_cons_zero, List.set_cons_succ, i64_w, i32_w]; rfl)
          refine take_ (i := 3) (N := some 64) (v := ?_) (a' := ?_) #[true, true, true, true, true, true, false, false, false, false] rfl rfl (take_ofW HT_.out HW_.out (by kernel_rfl)) (fun _ _ _ h => h) (Or.inl ⟨by rfl, ?_⟩) hHeld ?_ ?_; rotate_left; (intro w' _; go_simp; with_reducible rfl); rotate_left; (simp only [Act.put, List.setIfInBounds_toArray, List.set_cons_zero, List.set_cons_succ, i64_w, i32_w]; rfl)
          refine take_ (i := 6) (N := some 67) (v := ?_) (a' := ?_) #[true, true, true, true, true, true, true, false, false, false] rfl rfl (take_ofW HT_.out HW_.out (by kernel_rfl)) (fun _ _ _ h => h) (Or.inl ⟨by rfl, ?_⟩) hHeld ?_ ?_; rotate_left; (intro w' _; go_simp; with_reducible rfl); rotate_left; (simp only [Act.put, List.setIfInBounds_toArray, List.set_cons_zero, List.set_cons_succ, i64_w, i32_w]; rfl)
          refine one_ (i := 7) (N := some 68) #[true, true, true, true, true, true, true, true, false, false] rfl rfl (one_of HT_.out (by kernel_rfl)) (by decide) (fun K hK => ?_)
          refine Kd.R_lit_step (Kd.int .u8) _ 5 ?hg (N := 68) ?hd (xs := ([92, bt (⟨#[48, 49, 50, 51, 52, 53, 54, 55, 56, 57, 97, 98, 99, 100, 101, 102]⟩ : ByteArray) ((bt t619 x44_1) / 16), bt (⟨#[48, 49, 50, 51, 52, 53, 54, 55, 56, 57, 97, 98, 99, 100, 101, 102]⟩ : ByteArray) (Go.bits .and .u8 (bt t619 x44_1) 15)] : List Int)) (inner := [.int .u8 92, .int .u8 (bt (⟨#[48, 49, 50, 51, 52, 53, 54, 55, 56, 57, 97, 98, 99, 100, 101, 102]⟩ : ByteArray) ((bt t619 x44_1) / 16)), .int .u8 (bt (⟨#[48, 49, 50, 51, 52, 53, 54, 55, 56, 57, 97, 98, 99, 100, 101, 102]⟩ : ByteArray) (Go.bits .and .u8 (bt t619 x44_1) 15))]) (ok := fun _ => True) (okp := fun _ => True) ?hr ?hp (fun _ hk => hk) trivial (Below.refl _ _) (Nat.le_refl _) (by simp) ?_; (case hd => rfl); (case hg => rfl); (case hr => first | (go_simp; done) | (go_simp; rfl)); (case hp => exact (Reps.one (show Kd.M (Kd.int .u8) _ _ _ 92 [.int .u8 92] from rfl) (Reps.one (show Kd.M (Kd.int .u8) _ _ _ (bt (⟨#[48, 49, 50, 51, 52, 53, 54, 55, 56, 57, 97, 98, 99, 100, 101, 102]⟩ : ByteArray) ((bt t619 x44_1) / 16)) [.int .u8 (bt (⟨#[48, 49, 50, 51, 52, 53, 54, 55, 56, 57, 97, 98, 99, 100, 101, 102]⟩ : ByteArray) ((bt t619 x44_1) / 16))] from rfl) (Reps.one (show Kd.M (Kd.int .u8) _ _ _ (bt (⟨#[48, 49, 50, 51, 52, 53, 54, 55, 56, 57, 97, 98, 99, 100, 101, 102]⟩ : ByteArray) (Go.bits .and .u8 (bt t619 x44_1) 15)) [.int .u8 (bt (⟨#[48, 49, 50, 51, 52, 53, 54, 55, 56, 57, 97, 98, 99, 100, 101, 102]⟩ : ByteArray) (Go.bits .and .u8 (bt t619 x44_1) 15))] from rfl) (Reps.none _ _)))))
          intro v632 w22 ho23 hb hg_ hnew_
          clear hg_ hnew_
          (first | rw [← Ny631.out] at ho23 | (simp only [Int.reduceToNat] at ho23; rw [← Ny631.out] at ho23))
          have n0_ := Aside0.mk (Kd.R_elder' (by (with_reducible repeat (first | apply Kd.R_alloc | apply Kd.R_drewN | apply Kd.R_drew)); exact HO_5.out) (Kd.R_base ho23) hb)
          have n1_ := Aside0.mk (Kd.R_lower (Kd.R_new' ho23 (Kd.R_lt (by (with_reducible repeat (first | apply Kd.R_alloc | apply Kd.R_drewN | apply Kd.R_drew)); exact HO_5.out))) (below_size (by repeat (first | (with_reducible first | exact HB.out | apply below_alloc | apply pw_below_drewN | apply below_drew1 | refine below_set ?_ GE618.out) | exact HB.out))))
          have n2_ := Aside0.mk (blk_below (g := gb618) (o := .cells #[.string a0_0, .int .i64 a0_1, .slice A0_2 l0_2.length c0_2] 64 (0, 0)) (by (with_reducible repeat (first | refine blk_drewN ?_ _ | refine blk_drew ?_ | refine blk_alloc ?_ _)); exact BK618.out) hb)
          have n3_ := Aside0.mk (below_step (by repeat (first | (with_reducible first | exact HB.out | apply below_alloc | apply pw_below_drewN | apply below_drew1 | refine below_set ?_ GE618.out) | exact HB.out)) hb)
          clear HO_5
          clear BK618
          clear HB
          have HO_5 := n0_
          have HO633 := n1_
          have BK618 := n2_
          have HB := n3_
          clear n0_ n1_ n2_ n3_
          clear hb ho23
          obtain ⟨Ao25, co25, eo25⟩ := Kd.R_slice HO633.out
          (first | subst eo25 | (injection eo25 with f1_ f2_ f3_; have f4_ := f1_.symm; have f5_ := f3_.symm; clear f1_ f2_ f3_; subst f4_; subst f5_))
          refine hK.out _ _ trivial (fun hHeld => ?_)
          clear hK K
          refine norm_ (a' := ?_) ?_ ?_; rotate_left; (show Act.put _ (some 68) _ = _; simp only [Act.put, List.setIfInBounds_toArray, List.set_cons_zero, List.set_cons_succ, i64_w, i32_w]; rfl)
          refine one_ (i := 8) (N := some 69) #[true, true, true, true, true, true, true, true, true, false] rfl rfl (one_of HT_.out (by kernel_rfl)) (by decide) (fun K hK => ?_)
          refine Kd.R_append_rows_step (Kd.int .u8) (w0 := w) w.heap.size (by rfl) (.tmp 61) (.tmp 68) 22 5 (.int .u8 0) 1 rfl Tryz.underlying22 info5 rfl (by decide) (by omega) u5 x5_1 y631 _ _ _ (fun k_ => some k_ ≠ (.slice Ao25 y631.length co25 : Value).ownBlock) (fun _ => False) rfl rfl ?aO ?aR (fun _ _ h => h) (fun _ h => h.elim) ?aF ?aB ?aS ?aL ?_
          (case aR => repeat (first | exact (Kd.R_reads' HO633.out).2.2 | (with_reducible refine Kd.C_alloc ?_ _) | (with_reducible refine Kd.C_drewN ?_ _) | (with_reducible refine Kd.C_drew ?_)))
          (case aB => exact (by repeat (first | (with_reducible first | exact HB.out | apply below_alloc | apply pw_below_drewN | apply below_drew1 | refine below_set ?_ GE618.out) | exact HB.out)))
          (case aF => exact (fun k_ hk => Kd.fresh' (Kd.R_lt (by (with_reducible repeat (first | apply Kd.R_alloc | apply Kd.R_drewN | apply Kd.R_drew)); exact HO633.out)) k_ hk))
          (case aO => exact (by (with_reducible repeat (first | apply Kd.R_alloc | apply Kd.R_drewN | apply Kd.R_drew)); exact Kd.R_mono HO_5.out (fun _ hk => hk.2)))
          (case aS => exact (below_size (by repeat (first | (with_reducible first | exact HB.out | apply below_alloc | apply pw_below_drewN | apply below_drew1 | refine below_set ?_ GE618.out) | exact HB.out))))
          (case aL => have := LMc20.out; omega)
          intro v635 w24 ho hb hg hat
          rw [← Ny634.out] at ho
          have n0_ := Aside0.mk (blk_grown (g := gb618) (o := .cells #[.string a0_0, .int .i64 a0_1, .slice A0_2 l0_2.length c0_2] 64 (0, 0)) (by (with_reducible repeat (first | refine blk_drewN ?_ _ | refine blk_drew ?_ | refine blk_alloc ?_ _)); exact BK618.out) hg (Kd.R_ne HO_5.out BK618.out (by decide)))
          have n1_ := Aside0.mk (Kd.R_after (ok := (fun _ => True)) (by (with_reducible repeat (first | apply Kd.R_alloc | apply Kd.R_drewN | apply Kd.R_drew)); exact HO633.out) hg hat)
          have n2_ := Aside0.mk (hb)
          have n3_ := Aside0.mk (ho)
          clear BK618
          clear HO633
          clear HB
          clear HO_5
          have BK618 := n0_
          have HO633 := n1_
          have HB := n2_
          have HO636 := n3_
          clear n0_ n1_ n2_ n3_
          clear ho hb hg hat
          refine hK.out _ _ trivial (fun hHeld => ?_)
          clear hK K
          refine norm_ (a' := ?_) ?_ ?_; rotate_left; (show Act.put _ (some 69) _ = _; simp only [Act.put, List.setIfInBounds_toArray, List.set_cons_zero, List.set_cons_succ, i64_w, i32_w]; rfl)
          refine pure_ (i := 9) (N := some 5) (v := ?_) (a' := ?_) #[true, true, true, true, true, true, true, true, true, true] rfl rfl (any_of HT_.out (by kernel_rfl)) (fun _ _ _ h => h) (Or.inl ⟨by rfl, ?_⟩) ?_ ?_; rotate_left; (intro w'; go_simp; with_reducible rfl); rotate_left; (simp only [Act.put, List.setIfInBounds_toArray, List.set_cons_zero, List.set_cons_succ, i64_w, i32_w]; rfl)
          refine done_ (done_of HT_.out (by kernel_rfl)) ?_
          try go_wp2
          go_roundg kj10
          case measure => have := HK1.out; have := HJ10.out; omega
          case rel => exact ⟨(y634), (wrap64 (x44_1 + 1)), (by first | rfl | (simp; done) | (simp [*]; done)), H', ⟨by have := HK1.out; have := HJ10.out; omega⟩, ⟨by (with_reducible repeat (first | apply Kd.R_alloc | apply Kd.R_drewN | apply Kd.R_drew)); exact Kd.R_mono HO636.out (fun _ hk => trivial)⟩, ⟨by (with_reducible repeat (first | refine blk_drewN ?_ _ | refine blk_drew ?_ | refine blk_alloc ?_ _)); exact BK618.out⟩, ⟨by repeat (first | (with_reducible first | exact HB.out | apply below_alloc | apply pw_below_drewN | apply below_drew1 | refine below_set ?_ GE618.out) | exact HB.out)⟩⟩
        replace c13 := Bool.eq_false_iff.mpr c13
        subst c13
        have H1 : ((strings_IndexByte.f (⟨#[34, 43, 44, 59, 60, 62, 61, 92]⟩ : ByteArray) (bt t619 x44_1)).bind fun t637 => (if t637 ≥ 0 then ((some (([92, (bt t619 x44_1)] : List Int) : List Int)).bind fun y638 => (if x5_1.length + y638.length < 140737488355328 then (name_value.l1 kj10 t619 (x5_1 ++ y638) (t619.size : Int) (wrap64 (x44_1 + 1))) else (none))) else (if (bt t619 x44_1) = 35 then (name_value.j3 kj10 t619 x5_1 x44_1 (bt t619 x44_1) (t619.size : Int) x44_1 (x44_1 == 0)) else (name_value.j3 kj10 t619 x5_1 x44_1 (bt t619 x44_1) (t619.size : Int) x44_1 false)))) = some r := by rw [if_neg (show ¬ (false = true) by decide)] at H; exact H
        clear H
        have H := H1
        clear H1
        replace H := Option.bind_eq_some_iff.mp H
        obtain ⟨t637, A260, H⟩ := H
        replace H : (if t637 ≥ 0 then ((some (([92, (bt t619 x44_1)] : List Int) : List Int)).bind fun y638 => (if x5_1.length + y638.length < 140737488355328 then (name_value.l1 kj10 t619 (x5_1 ++ y638) (t619.size : Int) (wrap64 (x44_1 + 1))) else (none))) else (if (bt t619 x44_1) = 35 then (name_value.j3 kj10 t619 x5_1 x44_1 (bt t619 x44_1) (t619.size : Int) x44_1 (x44_1 == 0)) else (name_value.j3 kj10 t619 x5_1 x44_1 (bt t619 x44_1) (t619.size : Int) x44_1 false))) = some r := H
        have A26 := Aside0.mk A260
        clear A260
        by_cases c27 : t637 ≥ 0
        · rw [if_pos c27] at H
          have c27b0 : decide (0 ≤ t637) = true := decide_eq_true c27
          clear c27
          obtain ⟨y638, hy638⟩ : ∃ y_ : List Int, y_ = (([92, (bt t619 x44_1)] : List Int)) := ⟨_, rfl⟩
          replace H : (if x5_1.length + y638.length < 140737488355328 then (name_value.l1 kj10 t619 (x5_1 ++ y638) (t619.size : Int) (wrap64 (x44_1 + 1))) else (none)) = some r := by first | (rw [hy638]; with_reducible exact H) | (have H2_ := (Option.bind_some _ _).symm.trans H; rw [hy638]; with_reducible exact H2_) | (have H2_ := (Option.bind_some _ _).symm.trans H; with_reducible exact H2_) | with_reducible exact H | (rw [hy638]; exact H) | exact H
          have Ny638 := Aside0.mk hy638
          clear hy638
          by_cases c28 : x5_1.length + y638.length < 140737488355328
          rotate_left
          · rw [if_neg c28] at H
            exact absurd H (by simp)
          rw [if_pos c28] at H
          have LMc28 := Aside0.mk c28
          clear c28
          obtain ⟨y641, hy641⟩ : ∃ y_ : List Int, y_ = (x5_1 ++ y638) := ⟨_, rfl⟩
          replace H : (name_value.l1 kj10 t619 y641 (t619.size : Int) (wrap64 (x44_1 + 1))) = some r := by first | (rw [hy641]; with_reducible exact H) | (have H2_ := (Option.bind_some _ _).symm.trans H; rw [hy641]; with_reducible exact H2_) | (have H2_ := (Option.bind_some _ _).symm.trans H; with_reducible exact H2_) | with_reducible exact H | (rw [hy641]; exact H) | exact H
          have Ny641 := Aside0.mk hy641
          clear hy641
          have H' := Aside0.mk H
          clear H
          go_wp2_with (first | ((with_reducible refine gate_callee (f := 154) rfl ?_); refine goesL_ (some 72) rfl rfl Tryz.func154 (by kernel_rfl) rfl #[.string (⟨#[34, 43, 44, 59, 60, 62, 61, 92]⟩ : ByteArray), .int .u8 (bt t619 x44_1)] rfl (by (try simp only [List.map_toArray, List.map_cons, List.map_nil]); first | done | rfl | (simp only [List.length_drop, List.length_take]; rfl)) ?_; (with_reducible refine (strings_IndexByte.calls (⟨#[34, 43, 44, 59, 60, 62, 61, 92]⟩ : ByteArray) (bt t619 x44_1) t637 _ A26.out).mono ?_); rintro e w29 ⟨rfl, hb⟩; refine ⟨_, rfl, ?_⟩; have n0_ := Aside0.mk (Kd.R_below (by (with_reducible repeat (first | apply Kd.R_alloc | apply Kd.R_drewN | apply Kd.R_drew)); exact HO_5.out) hb); have n1_ := Aside0.mk (blk_below (g := gb618) (o := .cells #[.string a0_0, .int .i64 a0_1, .slice A0_2 l0_2.length c0_2] 64 (0, 0)) (by (with_reducible repeat (first | refine blk_drewN ?_ _ | refine blk_drew ?_ | refine blk_alloc ?_ _)); exact BK618.out) hb); have n2_ := Aside0.mk (below_step (by repeat (first | (with_reducible first | exact HB.out | apply below_alloc | apply pw_below_drewN | apply below_drew1 | refine below_set ?_ GE618.out) | exact HB.out)) hb); clear HO_5; clear BK618; clear HB; have HO_5 := n0_; have BK618 := n1_; have HB := n2_; clear n0_ n1_ n2_; (try clear hb); (try clear hb2); (try clear hk); (try clear hi)) | ((with_reducible refine gate_dst (N := 95) rfl ?_); (try (refine gate_guard (by rfl) ?_; dsimp only)); refine Kd.R_lit (Kd.int .u8) _ 5 ?hg (N := 95) ?hd (xs := ([92, (bt t619 x44_1)] : List Int)) (inner := [.int .u8 92, .int .u8 (bt t619 x44_1)]) (ok := fun _ => True) (okp := fun _ => True) ?hr ?hp (fun _ hk => hk) trivial (Below.refl _ _) (Nat.le_refl _) (by simp) ?_; (case hd => rfl); (case hg => rfl); (case hr => first | (go_simp; done) | (go_simp; rfl)); (case hp => exact (Reps.one (show Kd.M (Kd.int .u8) _ _ _ 92 [.int .u8 92] from rfl) (Reps.one (show Kd.M (Kd.int .u8) _ _ _ (bt t619 x44_1) [.int .u8 (bt t619 x44_1)] from rfl) (Reps.none _ _)))); intro v639 w30 ho31 hb hg_ hnew_; clear hg_ hnew_; (first | rw [← Ny638.out] at ho31 | (simp only [Int.reduceToNat] at ho31; rw [← Ny638.out] at ho31)); have n0_ := Aside0.mk (Kd.R_elder' (by (with_reducible repeat (first | apply Kd.R_alloc | apply Kd.R_drewN | apply Kd.R_drew)); exact HO_5.out) (Kd.R_base ho31) hb); have n1_ := Aside0.mk (Kd.R_lower (Kd.R_new' ho31 (Kd.R_lt (by (with_reducible repeat (first | apply Kd.R_alloc | apply Kd.R_drewN | apply Kd.R_drew)); exact HO_5.out))) (below_size (by repeat (first | (with_reducible first | exact HB.out | apply below_alloc | apply pw_below_drewN | apply below_drew1 | refine below_set ?_ GE618.out) | exact HB.out)))); have n2_ := Aside0.mk (blk_below (g := gb618) (o := .cells #[.string a0_0, .int .i64 a0_1, .slice A0_2 l0_2.length c0_2] 64 (0, 0)) (by (with_reducible repeat (first | refine blk_drewN ?_ _ | refine blk_drew ?_ | refine blk_alloc ?_ _)); exact BK618.out) hb); have n3_ := Aside0.mk (below_step (by repeat (first | (with_reducible first | exact HB.out | apply below_alloc | apply pw_below_drewN | apply below_drew1 | refine below_set ?_ GE618.out) | exact HB.out)) hb); clear HO_5; clear BK618; clear HB; have HO_5 := n0_; have HO640 := n1_; have BK618 := n2_; have HB := n3_; clear n0_ n1_ n2_ n3_; clear hb ho31; obtain ⟨Ao33, co33, eo33⟩ := Kd.R_slice HO640.out; subst eo33) | ((with_reducible refine gate_builtin (b := .append) (xs := #[.tmp 93, .tmp 95]) rfl ?_); (try (refine gate_guard (by rfl) ?_; dsimp only)); at_builtin; refine Kd.R_append_rows (Kd.int .u8) (w0 := w) w.heap.size rfl (.tmp 93) (.tmp 95) 22 5 (.int .u8 0) 1 rfl Tryz.underlying22 info5 rfl (by decide) (by omega) u5 x5_1 y638 _ _ _ (fun k_ => some k_ ≠ (.slice Ao33 y638.length co33 : Value).ownBlock) (fun _ => False) rfl rfl ?aO ?aR (fun _ _ h => h) (fun _ h => h.elim) ?aF ?aB ?aS ?aL ?_; (case aR => repeat (first | exact (Kd.R_reads' HO640.out).2.2 | (with_reducible refine Kd.C_alloc ?_ _) | (with_reducible refine Kd.C_drewN ?_ _) | (with_reducible refine Kd.C_drew ?_))); (case aB => exact (by repeat (first | (with_reducible first | exact HB.out | apply below_alloc | apply pw_below_drewN | apply below_drew1 | refine below_set ?_ GE618.out) | exact HB.out))); (case aF => exact (fun k_ hk => Kd.fresh' (Kd.R_lt (by (with_reducible repeat (first | apply Kd.R_alloc | apply Kd.R_drewN | apply Kd.R_drew)); exact HO640.out)) k_ hk)); (case aO => exact (by (with_reducible repeat (first | apply Kd.R_alloc | apply Kd.R_drewN | apply Kd.R_drew)); exact Kd.R_mono HO_5.out (fun _ hk => hk.2))); (case aS => exact (below_size (by repeat (first | (with_reducible first | exact HB.out | apply below_alloc | apply pw_below_drewN | apply below_drew1 | refine below_set ?_ GE618.out) | exact HB.out)))); (case aL => have := LMc28.out; omega); intro v642 w32 ho hb hg hat; rw [← Ny641.out] at ho; have n0_ := Aside0.mk (blk_grown (g := gb618) (o := .cells #[.string a0_0, .int .i64 a0_1, .slice A0_2 l0_2.length c0_2] 64 (0, 0)) (by (with_reducible repeat (first | refine blk_drewN ?_ _ | refine blk_drew ?_ | refine blk_alloc ?_ _)); exact BK618.out) hg (Kd.R_ne HO_5.out BK618.out (by decide))); have n1_ := Aside0.mk (Kd.R_after (ok := (fun _ => True)) (by (with_reducible repeat (first | apply Kd.R_alloc | apply Kd.R_drewN | apply Kd.R_drew)); exact HO640.out) hg hat); have n2_ := Aside0.mk (hb); have n3_ := Aside0.mk (ho); clear BK618; clear HO640; clear HB; clear HO_5; have BK618 := n0_; have HO640 := n1_; have HB := n2_; have HO643 := n3_; clear n0_ n1_ n2_ n3_; clear ho hb hg hat))
          go_roundg kj10
          case measure => have := HK1.out; have := HJ10.out; omega
          case rel => exact ⟨(y641), (wrap64 (x44_1 + 1)), (by first | rfl | (simp; done) | (simp [*]; done)), H', ⟨by have := HK1.out; have := HJ10.out; omega⟩, ⟨by (with_reducible repeat (first | apply Kd.R_alloc | apply Kd.R_drewN | apply Kd.R_drew)); exact Kd.R_mono HO643.out (fun _ hk => trivial)⟩, ⟨by (with_reducible repeat (first | refine blk_drewN ?_ _ | refine blk_drew ?_ | refine blk_alloc ?_ _)); exact BK618.out⟩, ⟨by repeat (first | (with_reducible first | exact HB.out | apply below_alloc | apply pw_below_drewN | apply below_drew1 | refine below_set ?_ GE618.out) | exact HB.out)⟩⟩
        rw [if_neg c27] at H
        have c27b0 : decide (0 ≤ t637) = false := decide_eq_false c27
        clear c27
        have HC34 := Aside0.mk H
        clear H
        go_upto_region 19 with (first | ((with_reducible refine gate_callee (f := 154) rfl ?_); refine goesL_ (some 72) rfl rfl Tryz.func154 (by kernel_rfl) rfl #[.string (⟨#[34, 43, 44, 59, 60, 62, 61, 92]⟩ : ByteArray), .int .u8 (bt t619 x44_1)] rfl (by (try simp only [List.map_toArray, List.map_cons, List.map_nil]); first | done | rfl | (simp only [List.length_drop, List.length_take]; rfl)) ?_; (with_reducible refine (strings_IndexByte.calls (⟨#[34, 43, 44, 59, 60, 62, 61, 92]⟩ : ByteArray) (bt t619 x44_1) t637 _ A26.out).mono ?_); rintro e w35 ⟨rfl, hb⟩; refine ⟨_, rfl, ?_⟩; have n0_ := Aside0.mk (Kd.R_below (by (with_reducible repeat (first | apply Kd.R_alloc | apply Kd.R_drewN | apply Kd.R_drew)); exact HO_5.out) hb); have n1_ := Aside0.mk (blk_below (g := gb618) (o := .cells #[.string a0_0, .int .i64 a0_1, .slice A0_2 l0_2.length c0_2] 64 (0, 0)) (by (with_reducible repeat (first | refine blk_drewN ?_ _ | refine blk_drew ?_ | refine blk_alloc ?_ _)); exact BK618.out) hb); have n2_ := Aside0.mk (below_step (by repeat (first | (with_reducible first | exact HB.out | apply below_alloc | apply pw_below_drewN | apply below_drew1 | refine below_set ?_ GE618.out) | exact HB.out)) hb); clear HO_5; clear BK618; clear HB; have HO_5 := n0_; have BK618 := n1_; have HB := n2_; clear n0_ n1_ n2_; (try clear hb); (try clear hb2); (try clear hk); (try clear hi)))
        (try simp only [Act.put, List.setIfInBounds_toArray, List.set_cons_zero, List.set_cons_succ])
        go_cut [70] (fun v70 wc => ∃ (kq : Nat) (x70_33 : Bool), v70 = .bool x70_33 ∧ Aside0 (name_value.j3 kq t619 x5_1 x44_1 (bt t619 x44_1) (t619.size : Int) x44_1 x70_33 = some r) ∧ Aside0 (kq ≤ kj10) ∧ Aside0 (Kd.R (Kd.int .u8) 5 wc w.heap.size (fun _ => True) u5 x5_1) ∧ Aside0 (wc.heap[gb618]? = some (.cells #[.string a0_0, .int .i64 a0_1, (.slice A0_2 l0_2.length c0_2)] 64 (0, 0))) ∧ Aside0 (Below w.heap.size w wc))
        case first =>
          have H := HC34.out
          clear HC34
          by_cases c36 : (bt t619 x44_1) = 35
          rotate_left
          · rw [if_neg c36] at H
            have c36b0 : ((bt t619 x44_1) == 35) = false := beq_eq_false_iff_ne.mpr c36
            have c36b1 : ((bt t619 x44_1) != 35) = true := bne_iff_ne.mpr c36
            (first | rw [c36b0] | (simp only [i64_w, i32_w]; rw [c36b0]) | skip)
            have H' := Aside0.mk H
            clear H
            go_wp2
            go_meet
            case rel => exact ⟨_, (false), (by first | rfl | (simp; done) | (simp [*]; done)), H', ⟨by have := HK1.out; have := HJ10.out; first | omega | exact Nat.le_refl _⟩, ⟨by (with_reducible repeat (first | apply Kd.R_alloc | apply Kd.R_drewN | apply Kd.R_drew)); exact HO_5.out⟩, ⟨by (with_reducible repeat (first | refine blk_drewN ?_ _ | refine blk_drew ?_ | refine blk_alloc ?_ _)); exact BK618.out⟩, ⟨by repeat (first | (with_reducible first | exact HB.out | apply below_alloc | apply pw_below_drewN | apply below_drew1 | refine below_set ?_ GE618.out) | exact HB.out)⟩⟩
          rw [if_pos c36] at H
          have c36b0 : ((bt t619 x44_1) == 35) = true := beq_iff_eq.mpr c36
          have c36b1 : ((bt t619 x44_1) != 35) = false := bne_eq_false_iff_eq.mpr c36
          clear c36
          (first | rw [c36b0] | (simp only [i64_w, i32_w]; rw [c36b0]) | skip)
          have H' := Aside0.mk H
          clear H
          go_wp2
          go_meet
          case rel => exact ⟨_, ((x44_1 == 0)), (by first | rfl | (simp; done) | (simp [*]; done)), H', ⟨by have := HK1.out; have := HJ10.out; first | omega | exact Nat.le_refl _⟩, ⟨by (with_reducible repeat (first | apply Kd.R_alloc | apply Kd.R_drewN | apply Kd.R_drew)); exact HO_5.out⟩, ⟨by (with_reducible repeat (first | refine blk_drewN ?_ _ | refine blk_drew ?_ | refine blk_alloc ?_ _)); exact BK618.out⟩, ⟨by repeat (first | (with_reducible first | exact HB.out | apply below_alloc | apply pw_below_drewN | apply below_drew1 | refine below_set ?_ GE618.out) | exact HB.out)⟩⟩
        clear HC34
        obtain ⟨kq, x70_33, rfl, HA, HJ33, HO_5, BK618, HB⟩ := hcut
        cases kq with
        | zero => exact absurd HA.out (by simp [name_value.j3])
        | succ kj33 =>
          have H := HA.out
          clear HA
          simp only [name_value.j3] at H
          by_cases c37 : x70_33 = true
          · subst c37
            have H1 : ((some (([92, (bt t619 x44_1)] : List Int) : List Int)).bind fun y644 => (if x5_1.length + y644.length < 140737488355328 then (name_value.l1 kj33 t619 (x5_1 ++ y644) (t619.size : Int) (wrap64 (x44_1 + 1))) else (none))) = some r := by rw [if_pos rfl] at H; exact H
            clear H
            have H := H1
            clear H1
            obtain ⟨y644, hy644⟩ : ∃ y_ : List Int, y_ = (([92, (bt t619 x44_1)] : List Int)) := ⟨_, rfl⟩
            replace H : (if x5_1.length + y644.length < 140737488355328 then (name_value.l1 kj33 t619 (x5_1 ++ y644) (t619.size : Int) (wrap64 (x44_1 + 1))) else (none)) = some r := by first | (rw [hy644]; with_reducible exact H) | (have H2_ := (Option.bind_some _ _).symm.trans H; rw [hy644]; with_reducible exact H2_) | (have H2_ := (Option.bind_some _ _).symm.trans H; with_reducible exact H2_) | with_reducible exact H | (rw [hy644]; exact H) | exact H
            have Ny644 := Aside0.mk hy644
            clear hy644
            by_cases c38 : x5_1.length + y644.length < 140737488355328
            rotate_left
            · rw [if_neg c38] at H
              exact absurd H (by simp)
            rw [if_pos c38] at H
            have LMc38 := Aside0.mk c38
            clear c38
            obtain ⟨y647, hy647⟩ : ∃ y_ : List Int, y_ = (x5_1 ++ y644) := ⟨_, rfl⟩
            replace H : (name_value.l1 kj33 t619 y647 (t619.size : Int) (wrap64 (x44_1 + 1))) = some r := by first | (rw [hy647]; with_reducible exact H) | (have H2_ := (Option.bind_some _ _).symm.trans H; rw [hy647]; with_reducible exact H2_) | (have H2_ := (Option.bind_some _ _).symm.trans H; with_reducible exact H2_) | with_reducible exact H | (rw [hy647]; exact H) | exact H
            have Ny647 := Aside0.mk hy647
            clear hy647
            have H' := Aside0.mk H
            clear H
            go_wp2_with (first | ((with_reducible refine gate_dst (N := 95) rfl ?_); (try (refine gate_guard (by rfl) ?_; dsimp only)); refine Kd.R_lit (Kd.int .u8) _ 5 ?hg (N := 95) ?hd (xs := ([92, (bt t619 x44_1)] : List Int)) (inner := [.int .u8 92, .int .u8 (bt t619 x44_1)]) (ok := fun _ => True) (okp := fun _ => True) ?hr ?hp (fun _ hk => hk) trivial (Below.refl _ _) (Nat.le_refl _) (by simp) ?_; (case hd => rfl); (case hg => rfl); (case hr => first | (go_simp; done) | (go_simp; rfl)); (case hp => exact (Reps.one (show Kd.M (Kd.int .u8) _ _ _ 92 [.int .u8 92] from rfl) (Reps.one (show Kd.M (Kd.int .u8) _ _ _ (bt t619 x44_1) [.int .u8 (bt t619 x44_1)] from rfl) (Reps.none _ _)))); intro v645 w39 ho40 hb hg_ hnew_; clear hg_ hnew_; (first | rw [← Ny644.out] at ho40 | (simp only [Int.reduceToNat] at ho40; rw [← Ny644.out] at ho40)); have n0_ := Aside0.mk (Kd.R_elder' (by (with_reducible repeat (first | apply Kd.R_alloc | apply Kd.R_drewN | apply Kd.R_drew)); exact HO_5.out) (Kd.R_base ho40) hb); have n1_ := Aside0.mk (Kd.R_lower (Kd.R_new' ho40 (Kd.R_lt (by (with_reducible repeat (first | apply Kd.R_alloc | apply Kd.R_drewN | apply Kd.R_drew)); exact HO_5.out))) (below_size (by repeat (first | (with_reducible first | exact HB.out | apply below_alloc | apply pw_below_drewN | apply below_drew1 | refine below_set ?_ GE618.out) | exact HB.out)))); have n2_ := Aside0.mk (blk_below (g := gb618) (o := .cells #[.string a0_0, .int .i64 a0_1, .slice A0_2 l0_2.length c0_2] 64 (0, 0)) (by (with_reducible repeat (first | refine blk_drewN ?_ _ | refine blk_drew ?_ | refine blk_alloc ?_ _)); exact BK618.out) hb); have n3_ := Aside0.mk (below_step (by repeat (first | (with_reducible first | exact HB.out | apply below_alloc | apply pw_below_drewN | apply below_drew1 | refine below_set ?_ GE618.out) | exact HB.out)) hb); clear HO_5; clear BK618; clear HB; have HO_5 := n0_; have HO646 := n1_; have BK618 := n2_; have HB := n3_; clear n0_ n1_ n2_ n3_; clear hb ho40; obtain ⟨Ao42, co42, eo42⟩ := Kd.R_slice HO646.out; subst eo42) | ((with_reducible refine gate_builtin (b := .append) (xs := #[.tmp 93, .tmp 95]) rfl ?_); (try (refine gate_guard (by rfl) ?_; dsimp only)); at_builtin; refine Kd.R_append_rows (Kd.int .u8) (w0 := w) w.heap.size rfl (.tmp 93) (.tmp 95) 22 5 (.int .u8 0) 1 rfl Tryz.underlying22 info5 rfl (by decide) (by omega) u5 x5_1 y644 _ _ _ (fun k_ => some k_ ≠ (.slice Ao42 y644.length co42 : Value).ownBlock) (fun _ => False) rfl rfl ?aO ?aR (fun _ _ h => h) (fun _ h => h.elim) ?aF ?aB ?aS ?aL ?_; (case aR => repeat (first | exact (Kd.R_reads' HO646.out).2.2 | (with_reducible refine Kd.C_alloc ?_ _) | (with_reducible refine Kd.C_drewN ?_ _) | (with_reducible refine Kd.C_drew ?_))); (case aB => exact (by repeat (first | (with_reducible first | exact HB.out | apply below_alloc | apply pw_below_drewN | apply below_drew1 | refine below_set ?_ GE618.out) | exact HB.out))); (case aF => exact (fun k_ hk => Kd.fresh' (Kd.R_lt (by (with_reducible repeat (first | apply Kd.R_alloc | apply Kd.R_drewN | apply Kd.R_drew)); exact HO646.out)) k_ hk)); (case aO => exact (by (with_reducible repeat (first | apply Kd.R_alloc | apply Kd.R_drewN | apply Kd.R_drew)); exact Kd.R_mono HO_5.out (fun _ hk => hk.2))); (case aS => exact (below_size (by repeat (first | (with_reducible first | exact HB.out | apply below_alloc | apply pw_below_drewN | apply below_drew1 | refine below_set ?_ GE618.out) | exact HB.out)))); (case aL => have := LMc38.out; omega); intro v648 w41 ho hb hg hat; rw [← Ny647.out] at ho; have n0_ := Aside0.mk (blk_grown (g := gb618) (o := .cells #[.string a0_0, .int .i64 a0_1, .slice A0_2 l0_2.length c0_2] 64 (0, 0)) (by (with_reducible repeat (first | refine blk_drewN ?_ _ | refine blk_drew ?_ | refine blk_alloc ?_ _)); exact BK618.out) hg (Kd.R_ne HO_5.out BK618.out (by decide))); have n1_ := Aside0.mk (Kd.R_after (ok := (fun _ => True)) (by (with_reducible repeat (first | apply Kd.R_alloc | apply Kd.R_drewN | apply Kd.R_drew)); exact HO646.out) hg hat); have n2_ := Aside0.mk (hb); have n3_ := Aside0.mk (ho); clear BK618; clear HO646; clear HB; clear HO_5; have BK618 := n0_; have HO646 := n1_; have HB := n2_; have HO649 := n3_; clear n0_ n1_ n2_ n3_; clear ho hb hg hat))
            go_roundg kj33
            case measure => have := HK1.out; have := HJ10.out; have := HJ33.out; omega
            case rel => exact ⟨(y647), (wrap64 (x44_1 + 1)), (by first | rfl | (simp; done) | (simp [*]; done)), H', ⟨by have := HK1.out; have := HJ10.out; have := HJ33.out; omega⟩, ⟨by (with_reducible repeat (first | apply Kd.R_alloc | apply Kd.R_drewN | apply Kd.R_drew)); exact Kd.R_mono HO649.out (fun _ hk => trivial)⟩, ⟨by (with_reducible repeat (first | refine blk_drewN ?_ _ | refine blk_drew ?_ | refine blk_alloc ?_ _)); exact BK618.out⟩, ⟨by repeat (first | (with_reducible first | exact HB.out | apply below_alloc | apply pw_below_drewN | apply below_drew1 | refine below_set ?_ GE618.out) | exact HB.out)⟩⟩
          replace c37 := Bool.eq_false_iff.mpr c37
          subst c37
          have H1 : (if (bt t619 x44_1) = 32 then (if x44_1 = 0 then ((some (([92, (bt t619 x44_1)] : List Int) : List Int)).bind fun y650 => (if x5_1.length + y650.length < 140737488355328 then (name_value.l1 kj33 t619 (x5_1 ++ y650) (t619.size : Int) (wrap64 (x44_1 + 1))) else (none))) else (if x44_1 = (wrap64 ((t619.size : Int) - 1)) then ((some (([92, (bt t619 x44_1)] : List Int) : List Int)).bind fun y656 => (if x5_1.length + y656.length < 140737488355328 then (name_value.l1 kj33 t619 (x5_1 ++ y656) (t619.size : Int) (wrap64 (x44_1 + 1))) else (none))) else (if x5_1.length < 140737488355328 then (name_value.l1 kj33 t619 (x5_1 ++ [(bt t619 x44_1)]) (t619.size : Int) (wrap64 (x44_1 + 1))) else (none)))) else (if x5_1.length < 140737488355328 then (name_value.l1 kj33 t619 (x5_1 ++ [(bt t619 x44_1)]) (t619.size : Int) (wrap64 (x44_1 + 1))) else (none))) = some r := by rw [if_neg (show ¬ (false = true) by decide)] at H; exact H
          clear H
          have H := H1
          clear H1
          by_cases c43 : (bt t619 x44_1) = 32
          rotate_left
          · rw [if_neg c43] at H
            have c43b0 : ((bt t619 x44_1) == 32) = false := beq_eq_false_iff_ne.mpr c43
            have c43b1 : ((bt t619 x44_1) != 32) = true := bne_iff_ne.mpr c43
            by_cases c58 : x5_1.length < 140737488355328
            rotate_left
            · rw [if_neg c58] at H
              exact absurd H (by simp)
            rw [if_pos c58] at H
            have LMc58 := Aside0.mk c58
            clear c58
            obtain ⟨y665, hy665⟩ : ∃ y_ : List Int, y_ = (x5_1 ++ [(bt t619 x44_1)]) := ⟨_, rfl⟩
            replace H : (name_value.l1 kj33 t619 y665 (t619.size : Int) (wrap64 (x44_1 + 1))) = some r := by first | (rw [hy665]; with_reducible exact H) | (have H2_ := (Option.bind_some _ _).symm.trans H; rw [hy665]; with_reducible exact H2_) | (have H2_ := (Option.bind_some _ _).symm.trans H; with_reducible exact H2_) | with_reducible exact H | (rw [hy665]; exact H) | exact H
            have Ny665 := Aside0.mk hy665
            clear hy665
            have H' := Aside0.mk H
            clear H
            go_wp2_with (first | ((with_reducible refine gate_builtin (b := .append) (xs := #[.tmp 50, .tmp 52]) rfl ?_); (try (refine gate_guard (by rfl) ?_; dsimp only)); at_builtin; refine Kd.R_append (Kd.int .u8) (w0 := w) w.heap.size rfl (.tmp 50) (.tmp 52) 22 5 (.int .u8 0) 1 rfl Tryz.underlying22 info5 rfl (by decide) (by omega) u5 x5_1 (bt t619 x44_1) [.int .u8 (bt t619 x44_1)] (fun _ => True) (fun _ => False) rfl rfl ?aP (fun _ hk => hk.elim) ?aF ?aO ?aB ?aS ?aL ?_; (case aP => exact rfl); (case aB => exact (by repeat (first | (with_reducible first | exact HB.out | apply below_alloc | apply pw_below_drewN | apply below_drew1 | refine below_set ?_ GE618.out) | exact HB.out))); (case aF => exact (fun _ _ => trivial)); (case aO => exact (by (with_reducible repeat (first | apply Kd.R_alloc | apply Kd.R_drewN | apply Kd.R_drew)); exact HO_5.out)); (case aS => exact (below_size (by repeat (first | (with_reducible first | exact HB.out | apply below_alloc | apply pw_below_drewN | apply below_drew1 | refine below_set ?_ GE618.out) | exact HB.out)))); (case aL => have := LMc58.out; omega); intro v666 w59 ho hb hg hat; rw [← Ny665.out] at ho; have n0_ := Aside0.mk (blk_grown (g := gb618) (o := .cells #[.string a0_0, .int .i64 a0_1, .slice A0_2 l0_2.length c0_2] 64 (0, 0)) (by (with_reducible repeat (first | refine blk_drewN ?_ _ | refine blk_drew ?_ | refine blk_alloc ?_ _)); exact BK618.out) hg (Kd.R_ne HO_5.out BK618.out (by decide))); have n1_ := Aside0.mk (hb); have n2_ := Aside0.mk (ho); clear BK618; clear HB; clear HO_5; have BK618 := n0_; have HB := n1_; have HO667 := n2_; clear n0_ n1_ n2_; clear ho hb hg hat))
            go_roundg kj33
            case measure => have := HK1.out; have := HJ10.out; have := HJ33.out; omega
            case rel => exact ⟨(y665), (wrap64 (x44_1 + 1)), (by first | rfl | (simp; done) | (simp [*]; done)), H', ⟨by have := HK1.out; have := HJ10.out; have := HJ33.out; omega⟩, ⟨by (with_reducible repeat (first | apply Kd.R_alloc | apply Kd.R_drewN | apply Kd.R_drew)); exact HO667.out⟩, ⟨by (with_reducible repeat (first | refine blk_drewN ?_ _ | refine blk_drew ?_ | refine blk_alloc ?_ _)); exact BK618.out⟩, ⟨by repeat (first | (with_reducible first | exact HB.out | apply below_alloc | apply pw_below_drewN | apply below_drew1 | refine below_set ?_ GE618.out) | exact HB.out)⟩⟩
          rw [if_pos c43] at H
          have c43b0 : ((bt t619 x44_1) == 32) = true := beq_iff_eq.mpr c43
          have c43b1 : ((bt t619 x44_1) != 32) = false := bne_eq_false_iff_eq.mpr c43
          clear c43
          by_cases c44 : x44_1 = 0
          · rw [if_pos c44] at H
            have c44b0 : (x44_1 == 0) = true := beq_iff_eq.mpr c44
            have c44b1 : (x44_1 != 0) = false := bne_eq_false_iff_eq.mpr c44
            clear c44
            obtain ⟨y650, hy650⟩ : ∃ y_ : List Int, y_ = (([92, (bt t619 x44_1)] : List Int)) := ⟨_, rfl⟩
            replace H : (if x5_1.length + y650.length < 140737488355328 then (name_value.l1 kj33 t619 (x5_1 ++ y650) (t619.size : Int) (wrap64 (x44_1 + 1))) else (none)) = some r := by first | (rw [hy650]; with_reducible exact H) | (have H2_ := (Option.bind_some _ _).symm.trans H; rw [hy650]; with_reducible exact H2_) | (have H2_ := (Option.bind_some _ _).symm.trans H; with_reducible exact H2_) | with_reducible exact H | (rw [hy650]; exact H) | exact H
            have Ny650 := Aside0.mk hy650
            clear hy650
            by_cases c45 : x5_1.length + y650.length < 140737488355328
            rotate_left
            · rw [if_neg c45] at H
              exact absurd H (by simp)
            rw [if_pos c45] at H
            have LMc45 := Aside0.mk c45
            clear c45
            obtain ⟨y653, hy653⟩ : ∃ y_ : List Int, y_ = (x5_1 ++ y650) := ⟨_, rfl⟩
            replace H : (name_value.l1 kj33 t619 y653 (t619.size : Int) (wrap64 (x44_1 + 1))) = some r := by first | (rw [hy653]; with_reducible exact H) | (have H2_ := (Option.bind_some _ _).symm.trans H; rw [hy653]; with_reducible exact H2_) | (have H2_ := (Option.bind_some _ _).symm.trans H; with_reducible exact H2_) | with_reducible exact H | (rw [hy653]; exact H) | exact H
            have Ny653 := Aside0.mk hy653
            clear hy653
            have H' := Aside0.mk H
            clear H
            go_wp2_with (first | ((with_reducible refine gate_dst (N := 95) rfl ?_); (try (refine gate_guard (by rfl) ?_; dsimp only)); refine Kd.R_lit (Kd.int .u8) _ 5 ?hg (N := 95) ?hd (xs := ([92, (bt t619 x44_1)] : List Int)) (inner := [.int .u8 92, .int .u8 (bt t619 x44_1)]) (ok := fun _ => True) (okp := fun _ => True) ?hr ?hp (fun _ hk => hk) trivial (Below.refl _ _) (Nat.le_refl _) (by simp) ?_; (case hd => rfl); (case hg => rfl); (case hr => first | (go_simp; done) | (go_simp; rfl)); (case hp => exact (Reps.one (show Kd.M (Kd.int .u8) _ _ _ 92 [.int .u8 92] from rfl) (Reps.one (show Kd.M (Kd.int .u8) _ _ _ (bt t619 x44_1) [.int .u8 (bt t619 x44_1)] from rfl) (Reps.none _ _)))); intro v651 w46 ho47 hb hg_ hnew_; clear hg_ hnew_; (first | rw [← Ny650.out] at ho47 | (simp only [Int.reduceToNat] at ho47; rw [← Ny650.out] at ho47)); have n0_ := Aside0.mk (Kd.R_elder' (by (with_reducible repeat (first | apply Kd.R_alloc | apply Kd.R_drewN | apply Kd.R_drew)); exact HO_5.out) (Kd.R_base ho47) hb); have n1_ := Aside0.mk (Kd.R_lower (Kd.R_new' ho47 (Kd.R_lt (by (with_reducible repeat (first | apply Kd.R_alloc | apply Kd.R_drewN | apply Kd.R_drew)); exact HO_5.out))) (below_size (by repeat (first | (with_reducible first | exact HB.out | apply below_alloc | apply pw_below_drewN | apply below_drew1 | refine below_set ?_ GE618.out) | exact HB.out)))); have n2_ := Aside0.mk (blk_below (g := gb618) (o := .cells #[.string a0_0, .int .i64 a0_1, .slice A0_2 l0_2.length c0_2] 64 (0, 0)) (by (with_reducible repeat (first | refine blk_drewN ?_ _ | refine blk_drew ?_ | refine blk_alloc ?_ _)); exact BK618.out) hb); have n3_ := Aside0.mk (below_step (by repeat (first | (with_reducible first | exact HB.out | apply below_alloc | apply pw_below_drewN | apply below_drew1 | refine below_set ?_ GE618.out) | exact HB.out)) hb); clear HO_5; clear BK618; clear HB; have HO_5 := n0_; have HO652 := n1_; have BK618 := n2_; have HB := n3_; clear n0_ n1_ n2_ n3_; clear hb ho47; obtain ⟨Ao49, co49, eo49⟩ := Kd.R_slice HO652.out; subst eo49) | ((with_reducible refine gate_builtin (b := .append) (xs := #[.tmp 93, .tmp 95]) rfl ?_); (try (refine gate_guard (by rfl) ?_; dsimp only)); at_builtin; refine Kd.R_append_rows (Kd.int .u8) (w0 := w) w.heap.size rfl (.tmp 93) (.tmp 95) 22 5 (.int .u8 0) 1 rfl Tryz.underlying22 info5 rfl (by decide) (by omega) u5 x5_1 y650 _ _ _ (fun k_ => some k_ ≠ (.slice Ao49 y650.length co49 : Value).ownBlock) (fun _ => False) rfl rfl ?aO ?aR (fun _ _ h => h) (fun _ h => h.elim) ?aF ?aB ?aS ?aL ?_; (case aR => repeat (first | exact (Kd.R_reads' HO652.out).2.2 | (with_reducible refine Kd.C_alloc ?_ _) | (with_reducible refine Kd.C_drewN ?_ _) | (with_reducible refine Kd.C_drew ?_))); (case aB => exact (by repeat (first | (with_reducible first | exact HB.out | apply below_alloc | apply pw_below_drewN | apply below_drew1 | refine below_set ?_ GE618.out) | exact HB.out))); (case aF => exact (fun k_ hk => Kd.fresh' (Kd.R_lt (by (with_reducible repeat (first | apply Kd.R_alloc | apply Kd.R_drewN | apply Kd.R_drew)); exact HO652.out)) k_ hk)); (case aO => exact (by (with_reducible repeat (first | apply Kd.R_alloc | apply Kd.R_drewN | apply Kd.R_drew)); exact Kd.R_mono HO_5.out (fun _ hk => hk.2))); (case aS => exact (below_size (by repeat (first | (with_reducible first | exact HB.out | apply below_alloc | apply pw_below_drewN | apply below_drew1 | refine below_set ?_ GE618.out) | exact HB.out)))); (case aL => have := LMc45.out; omega); intro v654 w48 ho hb hg hat; rw [← Ny653.out] at ho; have n0_ := Aside0.mk (blk_grown (g := gb618) (o := .cells #[.string a0_0, .int .i64 a0_1, .slice A0_2 l0_2.length c0_2] 64 (0, 0)) (by (with_reducible repeat (first | refine blk_drewN ?_ _ | refine blk_drew ?_ | refine blk_alloc ?_ _)); exact BK618.out) hg (Kd.R_ne HO_5.out BK618.out (by decide))); have n1_ := Aside0.mk (Kd.R_after (ok := (fun _ => True)) (by (with_reducible repeat (first | apply Kd.R_alloc | apply Kd.R_drewN | apply Kd.R_drew)); exact HO652.out) hg hat); have n2_ := Aside0.mk (hb); have n3_ := Aside0.mk (ho); clear BK618; clear HO652; clear HB; clear HO_5; have BK618 := n0_; have HO652 := n1_; have HB := n2_; have HO655 := n3_; clear n0_ n1_ n2_ n3_; clear ho hb hg hat))
            go_roundg kj33
            case measure => have := HK1.out; have := HJ10.out; have := HJ33.out; omega
            case rel => exact ⟨(y653), (wrap64 (x44_1 + 1)), (by first | rfl | (simp; done) | (simp [*]; done)), H', ⟨by have := HK1.out; have := HJ10.out; have := HJ33.out; omega⟩, ⟨by (with_reducible repeat (first | apply Kd.R_alloc | apply Kd.R_drewN | apply Kd.R_drew)); exact Kd.R_mono HO655.out (fun _ hk => trivial)⟩, ⟨by (with_reducible repeat (first | refine blk_drewN ?_ _ | refine blk_drew ?_ | refine blk_alloc ?_ _)); exact BK618.out⟩, ⟨by repeat (first | (with_reducible first | exact HB.out | apply below_alloc | apply pw_below_drewN | apply below_drew1 | refine below_set ?_ GE618.out) | exact HB.out)⟩⟩
          rw [if_neg c44] at H
          have c44b0 : (x44_1 == 0) = false := beq_eq_false_iff_ne.mpr c44
          have c44b1 : (x44_1 != 0) = true := bne_iff_ne.mpr c44
          by_cases c50 : x44_1 = (wrap64 ((t619.size : Int) - 1))
          rotate_left
          · rw [if_neg c50] at H
            have c50b0 : (x44_1 == (wrap64 ((t619.size : Int) - 1))) = false := beq_eq_false_iff_ne.mpr c50
            have c50b1 : (x44_1 != (wrap64 ((t619.size : Int) - 1))) = true := bne_iff_ne.mpr c50
            by_cases c56 : x5_1.length < 140737488355328
            rotate_left
            · rw [if_neg c56] at H
              exact absurd H (by simp)
            rw [if_pos c56] at H
            have LMc56 := Aside0.mk c56
            clear c56
            obtain ⟨y662, hy662⟩ : ∃ y_ : List Int, y_ = (x5_1 ++ [(bt t619 x44_1)]) := ⟨_, rfl⟩
            replace H : (name_value.l1 kj33 t619 y662 (t619.size : Int) (wrap64 (x44_1 + 1))) = some r := by first | (rw [hy662]; with_reducible exact H) | (have H2_ := (Option.bind_some _ _).symm.trans H; rw [hy662]; with_reducible exact H2_) | (have H2_ := (Option.bind_some _ _).symm.trans H; with_reducible exact H2_) | with_reducible exact H | (rw [hy662]; exact H) | exact H
            have Ny662 := Aside0.mk hy662
            clear hy662
            have H' := Aside0.mk H
            clear H
            go_wp2_with (first | ((with_reducible refine gate_builtin (b := .append) (xs := #[.tmp 50, .tmp 52]) rfl ?_); (try (refine gate_guard (by rfl) ?_; dsimp only)); at_builtin; refine Kd.R_append (Kd.int .u8) (w0 := w) w.heap.size rfl (.tmp 50) (.tmp 52) 22 5 (.int .u8 0) 1 rfl Tryz.underlying22 info5 rfl (by decide) (by omega) u5 x5_1 (bt t619 x44_1) [.int .u8 (bt t619 x44_1)] (fun _ => True) (fun _ => False) rfl rfl ?aP (fun _ hk => hk.elim) ?aF ?aO ?aB ?aS ?aL ?_; (case aP => exact rfl); (case aB => exact (by repeat (first | (with_reducible first | exact HB.out | apply below_alloc | apply pw_below_drewN | apply below_drew1 | refine below_set ?_ GE618.out) | exact HB.out))); (case aF => exact (fun _ _ => trivial)); (case aO => exact (by (with_reducible repeat (first | apply Kd.R_alloc | apply Kd.R_drewN | apply Kd.R_drew)); exact HO_5.out)); (case aS => exact (below_size (by repeat (first | (with_reducible first | exact HB.out | apply below_alloc | apply pw_below_drewN | apply below_drew1 | refine below_set ?_ GE618.out) | exact HB.out)))); (case aL => have := LMc56.out; omega); intro v663 w57 ho hb hg hat; rw [← Ny662.out] at ho; have n0_ := Aside0.mk (blk_grown (g := gb618) (o := .cells #[.string a0_0, .int .i64 a0_1, .slice A0_2 l0_2.length c0_2] 64 (0, 0)) (by (with_reducible repeat (first | refine blk_drewN ?_ _ | refine blk_drew ?_ | refine blk_alloc ?_ _)); exact BK618.out) hg (Kd.R_ne HO_5.out BK618.out (by decide))); have n1_ := Aside0.mk (hb); have n2_ := Aside0.mk (ho); clear BK618; clear HB; clear HO_5; have BK618 := n0_; have HB := n1_; have HO664 := n2_; clear n0_ n1_ n2_; clear ho hb hg hat))
            go_roundg kj33
            case measure => have := HK1.out; have := HJ10.out; have := HJ33.out; omega
            case rel => exact ⟨(y662), (wrap64 (x44_1 + 1)), (by first | rfl | (simp; done) | (simp [*]; done)), H', ⟨by have := HK1.out; have := HJ10.out; have := HJ33.out; omega⟩, ⟨by (with_reducible repeat (first | apply Kd.R_alloc | apply Kd.R_drewN | apply Kd.R_drew)); exact HO664.out⟩, ⟨by (with_reducible repeat (first | refine blk_drewN ?_ _ | refine blk_drew ?_ | refine blk_alloc ?_ _)); exact BK618.out⟩, ⟨by repeat (first | (with_reducible first | exact HB.out | apply below_alloc | apply pw_below_drewN | apply below_drew1 | refine below_set ?_ GE618.out) | exact HB.out)⟩⟩
          rw [if_pos c50] at H
          have c50b0 : (x44_1 == (wrap64 ((t619.size : Int) - 1))) = true := beq_iff_eq.mpr c50
          have c50b1 : (x44_1 != (wrap64 ((t619.size : Int) - 1))) = false := bne_eq_false_iff_eq.mpr c50
          clear c50
          obtain ⟨y656, hy656⟩ : ∃ y_ : List Int, y_ = (([92, (bt t619 x44_1)] : List Int)) := ⟨_, rfl⟩
          replace H : (if x5_1.length + y656.length < 140737488355328 then (name_value.l1 kj33 t619 (x5_1 ++ y656) (t619.size : Int) (wrap64 (x44_1 + 1))) else (none)) = some r := by first | (rw [hy656]; with_reducible exact H) | (have H2_ := (Option.bind_some _ _).symm.trans H; rw [hy656]; with_reducible exact H2_) | (have H2_ := (Option.bind_some _ _).symm.trans H; with_reducible exact H2_) | with_reducible exact H | (rw [hy656]; exact H) | exact H
          have Ny656 := Aside0.mk hy656
          clear hy656
          by_cases c51 : x5_1.length + y656.length < 140737488355328
          rotate_left
          · rw [if_neg c51] at H
            exact absurd H (by simp)
          rw [if_pos c51] at H
          have LMc51 := Aside0.mk c51
          clear c51
          obtain ⟨y659, hy659⟩ : ∃ y_ : List Int, y_ = (x5_1 ++ y656) := ⟨_, rfl⟩
          replace H : (name_value.l1 kj33 t619 y659 (t619.size : Int) (wrap64 (x44_1 + 1))) = some r := by first | (rw [hy659]; with_reducible exact H) | (have H2_ := (Option.bind_some _ _).symm.trans H; rw [hy659]; with_reducible exact H2_) | (have H2_ := (Option.bind_some _ _).symm.trans H; with_reducible exact H2_) | with_reducible exact H | (rw [hy659]; exact H) | exact H
          have Ny659 := Aside0.mk hy659
          clear hy659
          have H' := Aside0.mk H
          clear H
          go_wp2_with (first | ((with_reducible refine gate_dst (N := 95) rfl ?_); (try (refine gate_guard (by rfl) ?_; dsimp only)); refine Kd.R_lit (Kd.int .u8) _ 5 ?hg (N := 95) ?hd (xs := ([92, (bt t619 x44_1)] : List Int)) (inner := [.int .u8 92, .int .u8 (bt t619 x44_1)]) (ok := fun _ => True) (okp := fun _ => True) ?hr ?hp (fun _ hk => hk) trivial (Below.refl _ _) (Nat.le_refl _) (by simp) ?_; (case hd => rfl); (case hg => rfl); (case hr => first | (go_simp; done) | (go_simp; rfl)); (case hp => exact (Reps.one (show Kd.M (Kd.int .u8) _ _ _ 92 [.int .u8 92] from rfl) (Reps.one (show Kd.M (Kd.int .u8) _ _ _ (bt t619 x44_1) [.int .u8 (bt t619 x44_1)] from rfl) (Reps.none _ _)))); intro v657 w52 ho53 hb hg_ hnew_; clear hg_ hnew_; (first | rw [← Ny656.out] at ho53 | (simp only [Int.reduceToNat] at ho53; rw [← Ny656.out] at ho53)); have n0_ := Aside0.mk (Kd.R_elder' (by (with_reducible repeat (first | apply Kd.R_alloc | apply Kd.R_drewN | apply Kd.R_drew)); exact HO_5.out) (Kd.R_base ho53) hb); have n1_ := Aside0.mk (Kd.R_lower (Kd.R_new' ho53 (Kd.R_lt (by (with_reducible repeat (first | apply Kd.R_alloc | apply Kd.R_drewN | apply Kd.R_drew)); exact HO_5.out))) (below_size (by repeat (first | (with_reducible first | exact HB.out | apply below_alloc | apply pw_below_drewN | apply below_drew1 | refine below_set ?_ GE618.out) | exact HB.out)))); have n2_ := Aside0.mk (blk_below (g := gb618) (o := .cells #[.string a0_0, .int .i64 a0_1, .slice A0_2 l0_2.length c0_2] 64 (0, 0)) (by (with_reducible repeat (first | refine blk_drewN ?_ _ | refine blk_drew ?_ | refine blk_alloc ?_ _)); exact BK618.out) hb); have n3_ := Aside0.mk (below_step (by repeat (first | (with_reducible first | exact HB.out | apply below_alloc | apply pw_below_drewN | apply below_drew1 | refine below_set ?_ GE618.out) | exact HB.out)) hb); clear HO_5; clear BK618; clear HB; have HO_5 := n0_; have HO658 := n1_; have BK618 := n2_; have HB := n3_; clear n0_ n1_ n2_ n3_; clear hb ho53; obtain ⟨Ao55, co55, eo55⟩ := Kd.R_slice HO658.out; subst eo55) | ((with_reducible refine gate_builtin (b := .append) (xs := #[.tmp 93, .tmp 95]) rfl ?_); (try (refine gate_guard (by rfl) ?_; dsimp only)); at_builtin; refine Kd.R_append_rows (Kd.int .u8) (w0 := w) w.heap.size rfl (.tmp 93) (.tmp 95) 22 5 (.int .u8 0) 1 rfl Tryz.underlying22 info5 rfl (by decide) (by omega) u5 x5_1 y656 _ _ _ (fun k_ => some k_ ≠ (.slice Ao55 y656.length co55 : Value).ownBlock) (fun _ => False) rfl rfl ?aO ?aR (fun _ _ h => h) (fun _ h => h.elim) ?aF ?aB ?aS ?aL ?_; (case aR => repeat (first | exact (Kd.R_reads' HO658.out).2.2 | (with_reducible refine Kd.C_alloc ?_ _) | (with_reducible refine Kd.C_drewN ?_ _) | (with_reducible refine Kd.C_drew ?_))); (case aB => exact (by repeat (first | (with_reducible first | exact HB.out | apply below_alloc | apply pw_below_drewN | apply below_drew1 | refine below_set ?_ GE618.out) | exact HB.out))); (case aF => exact (fun k_ hk => Kd.fresh' (Kd.R_lt (by (with_reducible repeat (first | apply Kd.R_alloc | apply Kd.R_drewN | apply Kd.R_drew)); exact HO658.out)) k_ hk)); (case aO => exact (by (with_reducible repeat (first | apply Kd.R_alloc | apply Kd.R_drewN | apply Kd.R_drew)); exact Kd.R_mono HO_5.out (fun _ hk => hk.2))); (case aS => exact (below_size (by repeat (first | (with_reducible first | exact HB.out | apply below_alloc | apply pw_below_drewN | apply below_drew1 | refine below_set ?_ GE618.out) | exact HB.out)))); (case aL => have := LMc51.out; omega); intro v660 w54 ho hb hg hat; rw [← Ny659.out] at ho; have n0_ := Aside0.mk (blk_grown (g := gb618) (o := .cells #[.string a0_0, .int .i64 a0_1, .slice A0_2 l0_2.length c0_2] 64 (0, 0)) (by (with_reducible repeat (first | refine blk_drewN ?_ _ | refine blk_drew ?_ | refine blk_alloc ?_ _)); exact BK618.out) hg (Kd.R_ne HO_5.out BK618.out (by decide))); have n1_ := Aside0.mk (Kd.R_after (ok := (fun _ => True)) (by (with_reducible repeat (first | apply Kd.R_alloc | apply Kd.R_drewN | apply Kd.R_drew)); exact HO658.out) hg hat); have n2_ := Aside0.mk (hb); have n3_ := Aside0.mk (ho); clear BK618; clear HO658; clear HB; clear HO_5; have BK618 := n0_; have HO658 := n1_; have HB := n2_; have HO661 := n3_; clear n0_ n1_ n2_ n3_; clear ho hb hg hat))
          go_roundg kj33
          case measure => have := HK1.out; have := HJ10.out; have := HJ33.out; omega
          case rel => exact ⟨(y659), (wrap64 (x44_1 + 1)), (by first | rfl | (simp; done) | (simp [*]; done)), H', ⟨by have := HK1.out; have := HJ10.out; have := HJ33.out; omega⟩, ⟨by (with_reducible repeat (first | apply Kd.R_alloc | apply Kd.R_drewN | apply Kd.R_drew)); exact Kd.R_mono HO661.out (fun _ hk => trivial)⟩, ⟨by (with_reducible repeat (first | refine blk_drewN ?_ _ | refine blk_drew ?_ | refine blk_alloc ?_ _)); exact BK618.out⟩, ⟨by repeat (first | (with_reducible first | exact HB.out | apply below_alloc | apply pw_below_drewN | apply below_drew1 | refine below_set ?_ GE618.out) | exact HB.out)⟩⟩
mutual
def chirographref06_whole.j2 : Nat → List Int → Int → Int → Int → Int → Option (Int)
  | 0, _, _, _, _, _ => none
  | k + 1, x0, x1, x6, x7, x8 => if (wrap64 (x1 + x6)) > (x0.length : Int) then (some 0) else (chirographref06_whole.l0 k x0 x1 x6 x7 x8 (wrap64 (x1 + 1)))
def chirographref06_whole.l0 : Nat → List Int → Int → Int → Int → Int → Int → Option (Int)
  | 0, _, _, _, _, _, _ => none
  | k + 1, x0, x1, x6, x7, x8, x9 => if x9 < (wrap64 (x1 + x6)) then (if 0 ≤ x9 then (if x9 < (x0.length : Int) then (if (rd x0 x9) < 128 then (some 0) else (if (rd x0 x9) ≥ 192 then (some 0) else (chirographref06_whole.l0 k x0 x1 x6 (wrap64 ((wrap64 ((wrap64 (x7 * 64)) + (wrap64 (rd x0 x9)))) - 128)) x8 (wrap64 (x9 + 1))))) else (none)) else (none)) else (if x7 < x8 then (some 0) else (if x7 > 1114111 then (some 0) else (if x7 ≥ 55296 then (if x7 ≤ 57343 then (some 0) else (some x6)) else (some x6))))
def chirographref06_whole.j0 : Nat → List Int → Int → Int → Bool → Option (Int)
  | 0, _, _, _, _ => none
  | k + 1, x0, x1, x5, x18 => if x18 = true then (chirographref06_whole.j2 k x0 x1 2 (wrap64 (x5 - 192)) 128) else (if x5 ≥ 224 then (chirographref06_whole.j1 k x0 x1 x5 (decide (x5 < 240))) else (chirographref06_whole.j1 k x0 x1 x5 false))
def chirographref06_whole.j1 : Nat → List Int → Int → Int → Bool → Option (Int)
  | 0, _, _, _, _ => none
  | k + 1, x0, x1, x5, x27 => if x27 = true then (chirographref06_whole.j2 k x0 x1 3 (wrap64 (x5 - 224)) 2048) else (if x5 ≥ 240 then (if x5 < 248 then (chirographref06_whole.j2 k x0 x1 4 (wrap64 (x5 - 240)) 65536) else (some 0)) else (some 0))
end
def chirographref06_whole.f (k : Nat) (l0 : List Int) (a1 : Int) : Option (Int) := if 0 ≤ a1 then (if a1 < (l0.length : Int) then (if (wrap64 (rd l0 a1)) < 128 then (some 1) else (if (wrap64 (rd l0 a1)) ≥ 192 then (chirographref06_whole.j0 k l0 a1 (wrap64 (rd l0 a1)) (decide ((wrap64 (rd l0 a1)) < 224))) else (chirographref06_whole.j0 k l0 a1 (wrap64 (rd l0 a1)) false))) else (none)) else (none)
set_option maxHeartbeats 8000000 in
set_option maxRecDepth 100000 in
theorem chirographref06_whole.calls (k : Nat) (A0 : Option Addr) (c0 : Nat) (l0 : List Int) (a1 : Int) (r : Int) (w : World) (hr0 : Kd.C (Kd.int .u8) w A0 l0.length l0) (hc0 : l0.length ≤ c0) (h : chirographref06_whole.f k l0 a1 = some r) :
    Calls Tryz.prog 253 #[.slice A0 l0.length c0, .int .i64 a1] w fun e w' => e = .returned (.int .i64 r) ∧ Drawn0 w w' := by
  have HR0 := Aside0.mk hr0
  have HC0 := Aside0.mk hc0
  clear hr0 hc0
  have H : (if 0 ≤ a1 then (if a1 < (l0.length : Int) then (if (wrap64 (rd l0 a1)) < 128 then (some 1) else (if (wrap64 (rd l0 a1)) ≥ 192 then (chirographref06_whole.j0 k l0 a1 (wrap64 (rd l0 a1)) (decide ((wrap64 (rd l0 a1)) < 224))) else (chirographref06_whole.j0 k l0 a1 (wrap64 (rd l0 a1)) false))) else (none)) else (none)) = some r := h
  clear h
  by_cases c3 : 0 ≤ a1
  rotate_left
  · rw [if_neg c3] at H
    exact absurd H (by simp)
  rw [if_pos c3] at H
  have c3b0 : decide (0 ≤ a1) = true := decide_eq_true c3
  clear c3
  by_cases c4 : a1 < (l0.length : Int)
  rotate_left
  · rw [if_neg c4] at H
    exact absurd H (by simp)
  rw [if_pos c4] at H
  have c4b0 : decide (a1 < (l0.length : Int)) = true := decide_eq_true c4
  clear c4
  have HC5 := Aside0.mk H
  clear H
  have p1067 : 0 ≤ (a1 : Int) := of_decide_eq_true (by first | (with_reducible assumption) | assumption)
  have q1067 : a1 < (l0.length : Int) := of_decide_eq_true (by first | (with_reducible assumption) | assumption)
  obtain ⟨ad1067, e1067, hx1067_0⟩ := Kd.at_int HR0.out a1 p1067 q1067
  cases e1067
  replace p1067 := eq_true p1067
  replace q1067 := eq_true q1067
  go_enter Tryz.func253, Tryz.ntmps253
  go_upto_block 0 with (fail)
  go_cut [6, 7, 8] (fun v6 v7 v8 wc => ∃ (kq : Nat) (x6_4 : Int) (x7_4 : Int) (x8_4 : Int), v6 = .int .i64 x6_4 ∧ v7 = .int .i64 x7_4 ∧ v8 = .int .i64 x8_4 ∧ Aside0 (chirographref06_whole.j2 kq l0 a1 x6_4 x7_4 x8_4 = some r) ∧ Aside0 (kq ≤ k) ∧ Drawn0 w wc)
  case first =>
    have H := HC5.out
    clear HC5
    by_cases c6 : (wrap64 (rd l0 a1)) < 128
    · rw [if_pos c6] at H
      have c6b0 : decide ((wrap64 (rd l0 a1)) < 128) = true := decide_eq_true c6
      clear c6
      (first | rw [c6b0] | (simp only [i64_w, i32_w]; rw [c6b0]) | skip)
      obtain rfl := Option.some.inj H
      go_wp2
      go_ret
      exact ⟨by first | rfl | (simp; done) | (simp [*]; done), by repeat (first | exact Drawn0.refl _ | apply Drawn0.step)⟩
    rw [if_neg c6] at H
    have c6b0 : decide ((wrap64 (rd l0 a1)) < 128) = false := decide_eq_false c6
    clear c6
    (first | rw [c6b0] | (simp only [i64_w, i32_w]; rw [c6b0]) | skip)
    have HC7 := Aside0.mk H
    clear H
    go_upto_region 6 with (fail)
    go_cut [18] (fun v18 wc => ∃ (kq : Nat) (x18_6 : Bool), v18 = .bool x18_6 ∧ Aside0 (chirographref06_whole.j0 kq l0 a1 (wrap64 (rd l0 a1)) x18_6 = some r) ∧ Aside0 (kq ≤ k) ∧ Drawn0 w wc)
    case first =>
      have H := HC7.out
      clear HC7
      by_cases c8 : (wrap64 (rd l0 a1)) ≥ 192
      rotate_left
      · rw [if_neg c8] at H
        have c8b0 : decide (192 ≤ (wrap64 (rd l0 a1))) = false := decide_eq_false c8
        clear c8
        (first | rw [c8b0] | (simp only [i64_w, i32_w]; rw [c8b0]) | skip)
        have H' := Aside0.mk H
        clear H
        go_wp2
        go_meet
        case rel => exact ⟨_, (false), (by first | rfl | (simp; done) | (simp [*]; done)), H', ⟨by first | omega | exact Nat.le_refl _⟩, by repeat (first | exact Drawn0.refl _ | apply Drawn0.step)⟩
      rw [if_pos c8] at H
      have c8b0 : decide (192 ≤ (wrap64 (rd l0 a1))) = true := decide_eq_true c8
      clear c8
      (first | rw [c8b0] | (simp only [i64_w, i32_w]; rw [c8b0]) | skip)
      have H' := Aside0.mk H
      clear H
      go_wp2
      go_meet
      case rel => exact ⟨_, (decide ((wrap64 (rd l0 a1)) < 224)), (by first | rfl | (simp; done) | (simp [*]; done)), H', ⟨by first | omega | exact Nat.le_refl _⟩, by repeat (first | exact Drawn0.refl _ | apply Drawn0.step)⟩
    clear HC7
    obtain ⟨kq, x18_6, rfl, HA, HJ6, ⟨mc6, rfl⟩⟩ := hcut
    cases kq with
    | zero => exact absurd HA.out (by simp [chirographref06_whole.j0])
    | succ kj6 =>
      have H := HA.out
      clear HA
      simp only [chirographref06_whole.j0] at H
      by_cases c9 : x18_6 = true
      · subst c9
        have H1 : (chirographref06_whole.j2 kj6 l0 a1 2 (wrap64 ((wrap64 (rd l0 a1)) - 192)) 128) = some r := by rw [if_pos rfl] at H; exact H
        clear H
        have H := H1
        clear H1
        have H' := Aside0.mk H
        clear H
        go_wp2
        go_meet
        case rel => exact ⟨_, (2), (wrap64 ((wrap64 (rd l0 a1)) - 192)), (128), (by first | rfl | (simp; done) | (simp [*]; done)), (by first | rfl | (simp; done) | (simp [*]; done)), (by first | rfl | (simp; done) | (simp [*]; done)), H', ⟨by have := HJ6.out; first | omega | exact Nat.le_refl _⟩, by repeat (first | exact Drawn0.refl _ | apply Drawn0.step)⟩
      replace c9 := Bool.eq_false_iff.mpr c9
      subst c9
      have H1 : (if (wrap64 (rd l0 a1)) ≥ 224 then (chirographref06_whole.j1 kj6 l0 a1 (wrap64 (rd l0 a1)) (decide ((wrap64 (rd l0 a1)) < 240))) else (chirographref06_whole.j1 kj6 l0 a1 (wrap64 (rd l0 a1)) false)) = some r := by rw [if_neg (show ¬ (false = true) by decide)] at H; exact H
      clear H
      have H := H1
      clear H1
      have HC10 := Aside0.mk H
      clear H
      go_upto_region 8 with (fail)
      go_cut [27] (fun v27 wc => ∃ (kq : Nat) (x27_9 : Bool), v27 = .bool x27_9 ∧ Aside0 (chirographref06_whole.j1 kq l0 a1 (wrap64 (rd l0 a1)) x27_9 = some r) ∧ Aside0 (kq ≤ kj6) ∧ Drawn0 w wc)
      case first =>
        have H := HC10.out
        clear HC10
        by_cases c11 : (wrap64 (rd l0 a1)) ≥ 224
        rotate_left
        · rw [if_neg c11] at H
          have c11b0 : decide (224 ≤ (wrap64 (rd l0 a1))) = false := decide_eq_false c11
          clear c11
          (first | rw [c11b0] | (simp only [i64_w, i32_w]; rw [c11b0]) | skip)
          have H' := Aside0.mk H
          clear H
          go_wp2
          go_meet
          case rel => exact ⟨_, (false), (by first | rfl | (simp; done) | (simp [*]; done)), H', ⟨by have := HJ6.out; first | omega | exact Nat.le_refl _⟩, by repeat (first | exact Drawn0.refl _ | apply Drawn0.step)⟩
        rw [if_pos c11] at H
        have c11b0 : decide (224 ≤ (wrap64 (rd l0 a1))) = true := decide_eq_true c11
        clear c11
        (first | rw [c11b0] | (simp only [i64_w, i32_w]; rw [c11b0]) | skip)
        have H' := Aside0.mk H
        clear H
        go_wp2
        go_meet
        case rel => exact ⟨_, (decide ((wrap64 (rd l0 a1)) < 240)), (by first | rfl | (simp; done) | (simp [*]; done)), H', ⟨by have := HJ6.out; first | omega | exact Nat.le_refl _⟩, by repeat (first | exact Drawn0.refl _ | apply Drawn0.step)⟩
      clear HC10
      obtain ⟨kq, x27_9, rfl, HA, HJ9, ⟨mc9, rfl⟩⟩ := hcut
      cases kq with
      | zero => exact absurd HA.out (by simp [chirographref06_whole.j1])
      | succ kj9 =>
        have H := HA.out
        clear HA
        simp only [chirographref06_whole.j1] at H
        by_cases c12 : x27_9 = true
        · subst c12
          have H1 : (chirographref06_whole.j2 kj9 l0 a1 3 (wrap64 ((wrap64 (rd l0 a1)) - 224)) 2048) = some r := by rw [if_pos rfl] at H; exact H
          clear H
          have H := H1
          clear H1
          have H' := Aside0.mk H
          clear H
          go_wp2
          go_meet
          case rel => exact ⟨_, (3), (wrap64 ((wrap64 (rd l0 a1)) - 224)), (2048), (by first | rfl | (simp; done) | (simp [*]; done)), (by first | rfl | (simp; done) | (simp [*]; done)), (by first | rfl | (simp; done) | (simp [*]; done)), H', ⟨by have := HJ6.out; have := HJ9.out; first | omega | exact Nat.le_refl _⟩, by repeat (first | exact Drawn0.refl _ | apply Drawn0.step)⟩
        replace c12 := Bool.eq_false_iff.mpr c12
        subst c12
        have H1 : (if (wrap64 (rd l0 a1)) ≥ 240 then (if (wrap64 (rd l0 a1)) < 248 then (chirographref06_whole.j2 kj9 l0 a1 4 (wrap64 ((wrap64 (rd l0 a1)) - 240)) 65536) else (some 0)) else (some 0)) = some r := by rw [if_neg (show ¬ (false = true) by decide)] at H; exact H
        clear H
        have H := H1
        clear H1
        by_cases c13 : (wrap64 (rd l0 a1)) ≥ 240
        rotate_left
        · rw [if_neg c13] at H
          have c13b0 : decide (240 ≤ (wrap64 (rd l0 a1))) = false := decide_eq_false c13
          clear c13
          obtain rfl := Option.some.inj H
          go_wp2
          go_ret
          exact ⟨by first | rfl | (simp; done) | (simp [*]; done), by repeat (first | exact Drawn0.refl _ | apply Drawn0.step)⟩
        rw [if_pos c13] at H
        have c13b0 : decide (240 ≤ (wrap64 (rd l0 a1))) = true := decide_eq_true c13
        clear c13
        by_cases c14 : (wrap64 (rd l0 a1)) < 248
        rotate_left
        · rw [if_neg c14] at H
          have c14b0 : decide ((wrap64 (rd l0 a1)) < 248) = false := decide_eq_false c14
          clear c14
          obtain rfl := Option.some.inj H
          go_wp2
          go_ret
          exact ⟨by first | rfl | (simp; done) | (simp [*]; done), by repeat (first | exact Drawn0.refl _ | apply Drawn0.step)⟩
        rw [if_pos c14] at H
        have c14b0 : decide ((wrap64 (rd l0 a1)) < 248) = true := decide_eq_true c14
        clear c14
        have H' := Aside0.mk H
        clear H
        go_wp2
        go_meet
        case rel => exact ⟨_, (4), (wrap64 ((wrap64 (rd l0 a1)) - 240)), (65536), (by first | rfl | (simp; done) | (simp [*]; done)), (by first | rfl | (simp; done) | (simp [*]; done)), (by first | rfl | (simp; done) | (simp [*]; done)), H', ⟨by have := HJ6.out; have := HJ9.out; first | omega | exact Nat.le_refl _⟩, by repeat (first | exact Drawn0.refl _ | apply Drawn0.step)⟩
  clear HC5
  obtain ⟨kq, x6_4, x7_4, x8_4, rfl, rfl, rfl, HA, HJ4, ⟨mc4, rfl⟩⟩ := hcut
  cases kq with
  | zero => exact absurd HA.out (by simp [chirographref06_whole.j2])
  | succ kj4 =>
    have H := HA.out
    clear HA
    simp only [chirographref06_whole.j2] at H
    by_cases c15 : (wrap64 (a1 + x6_4)) > (l0.length : Int)
    · rw [if_pos c15] at H
      have c15b0 : decide ((l0.length : Int) < (wrap64 (a1 + x6_4))) = true := decide_eq_true c15
      clear c15
      obtain rfl := Option.some.inj H
      go_wp2
      go_ret
      exact ⟨by first | rfl | (simp; done) | (simp [*]; done), by repeat (first | exact Drawn0.refl _ | apply Drawn0.step)⟩
    rw [if_neg c15] at H
    have c15b0 : decide ((l0.length : Int) < (wrap64 (a1 + x6_4))) = false := decide_eq_false c15
    clear c15
    have H' := Aside0.mk H
    clear H
    go_wp2
    go_loopg [7, 9] kj4 (fun kq v7 v9 w' => ∃ (x7_2 : Int) (x9_2 : Int), v7 = .int .i64 x7_2 ∧ v9 = .int .i64 x9_2 ∧ Aside0 (chirographref06_whole.l0 kq l0 a1 x6_4 x7_2 x8_4 x9_2 = some r) ∧ Aside0 (kq ≤ kj4) ∧ Drawn0 w w')
    case atStart => exact ⟨(x7_4), (wrap64 (a1 + 1)), (by first | rfl | (simp; done) | (simp [*]; done)), (by first | rfl | (simp; done) | (simp [*]; done)), H', ⟨Nat.le_refl _⟩, by repeat (first | exact Drawn0.refl _ | apply Drawn0.step)⟩
    case round =>
      clear H'
      obtain ⟨x7_2, x9_2, rfl, rfl, HA, HK2, ⟨m2, rfl⟩⟩ := hrel
      cases gk with
      | zero => exact absurd HA.out (by simp [chirographref06_whole.l0])
      | succ k2 =>
        have H := HA.out
        clear HA
        simp only [chirographref06_whole.l0] at H
        by_cases c16 : x9_2 < (wrap64 (a1 + x6_4))
        rotate_left
        · rw [if_neg c16] at H
          have c16b0 : decide (x9_2 < (wrap64 (a1 + x6_4))) = false := decide_eq_false c16
          clear c16
          by_cases c21 : x7_2 < x8_4
          · rw [if_pos c21] at H
            have c21b0 : decide (x7_2 < x8_4) = true := decide_eq_true c21
            clear c21
            obtain rfl := Option.some.inj H
            go_wp2
            go_ret
            exact ⟨by first | rfl | (simp; done) | (simp [*]; done), by repeat (first | exact Drawn0.refl _ | apply Drawn0.step)⟩
          rw [if_neg c21] at H
          have c21b0 : decide (x7_2 < x8_4) = false := decide_eq_false c21
          clear c21
          by_cases c22 : x7_2 > 1114111
          · rw [if_pos c22] at H
            have c22b0 : decide (1114111 < x7_2) = true := decide_eq_true c22
            clear c22
            obtain rfl := Option.some.inj H
            go_wp2
            go_ret
            exact ⟨by first | rfl | (simp; done) | (simp [*]; done), by repeat (first | exact Drawn0.refl _ | apply Drawn0.step)⟩
          rw [if_neg c22] at H
          have c22b0 : decide (1114111 < x7_2) = false := decide_eq_false c22
          clear c22
          by_cases c23 : x7_2 ≥ 55296
          rotate_left
          · rw [if_neg c23] at H
            have c23b0 : decide (55296 ≤ x7_2) = false := decide_eq_false c23
            clear c23
            obtain rfl := Option.some.inj H
            go_wp2
            go_ret
            exact ⟨by first | rfl | (simp; done) | (simp [*]; done), by repeat (first | exact Drawn0.refl _ | apply Drawn0.step)⟩
          rw [if_pos c23] at H
          have c23b0 : decide (55296 ≤ x7_2) = true := decide_eq_true c23
          clear c23
          by_cases c24 : x7_2 ≤ 57343
          rotate_left
          · rw [if_neg c24] at H
            have c24b0 : decide (x7_2 ≤ 57343) = false := decide_eq_false c24
            clear c24
            obtain rfl := Option.some.inj H
            go_wp2
            go_ret
            exact ⟨by first | rfl | (simp; done) | (simp [*]; done), by repeat (first | exact Drawn0.refl _ | apply Drawn0.step)⟩
          rw [if_pos c24] at H
          have c24b0 : decide (x7_2 ≤ 57343) = true := decide_eq_true c24
          clear c24
          obtain rfl := Option.some.inj H
          go_wp2
          go_ret
          exact ⟨by first | rfl | (simp; done) | (simp [*]; done), by repeat (first | exact Drawn0.refl _ | apply Drawn0.step)⟩
        rw [if_pos c16] at H
        have c16b0 : decide (x9_2 < (wrap64 (a1 + x6_4))) = true := decide_eq_true c16
        clear c16
        by_cases c17 : 0 ≤ x9_2
        rotate_left
        · rw [if_neg c17] at H
          exact absurd H (by simp)
        rw [if_pos c17] at H
        have c17b0 : decide (0 ≤ x9_2) = true := decide_eq_true c17
        clear c17
        by_cases c18 : x9_2 < (l0.length : Int)
        rotate_left
        · rw [if_neg c18] at H
          exact absurd H (by simp)
        rw [if_pos c18] at H
        have c18b0 : decide (x9_2 < (l0.length : Int)) = true := decide_eq_true c18
        clear c18
        by_cases c19 : (rd l0 x9_2) < 128
        · rw [if_pos c19] at H
          have c19b0 : decide ((rd l0 x9_2) < 128) = true := decide_eq_true c19
          clear c19
          obtain rfl := Option.some.inj H
          have p1068 : 0 ≤ (x9_2 : Int) := of_decide_eq_true (by first | (with_reducible assumption) | assumption)
          have q1068 : x9_2 < (l0.length : Int) := of_decide_eq_true (by first | (with_reducible assumption) | assumption)
          obtain ⟨ad1068, e1068, hx1068_0⟩ := Kd.at_int HR0.out x9_2 p1068 q1068
          obtain rfl : ad1067 = ad1068 := (by injection e1068)
          replace p1068 := eq_true p1068
          replace q1068 := eq_true q1068
          go_wp2
          go_ret
          exact ⟨by first | rfl | (simp; done) | (simp [*]; done), by repeat (first | exact Drawn0.refl _ | apply Drawn0.step)⟩
        rw [if_neg c19] at H
        have c19b0 : decide ((rd l0 x9_2) < 128) = false := decide_eq_false c19
        clear c19
        by_cases c20 : (rd l0 x9_2) ≥ 192
        · rw [if_pos c20] at H
          have c20b0 : decide (192 ≤ (rd l0 x9_2)) = true := decide_eq_true c20
          clear c20
          obtain rfl := Option.some.inj H
          have p1068 : 0 ≤ (x9_2 : Int) := of_decide_eq_true (by first | (with_reducible assumption) | assumption)
          have q1068 : x9_2 < (l0.length : Int) := of_decide_eq_true (by first | (with_reducible assumption) | assumption)
          obtain ⟨ad1068, e1068, hx1068_0⟩ := Kd.at_int HR0.out x9_2 p1068 q1068
          obtain rfl : ad1067 = ad1068 := (by injection e1068)
          replace p1068 := eq_true p1068
          replace q1068 := eq_true q1068
          have p1069 : 0 ≤ (x9_2 : Int) := of_decide_eq_true (by first | (with_reducible assumption) | assumption)
          have q1069 : x9_2 < (l0.length : Int) := of_decide_eq_true (by first | (with_reducible assumption) | assumption)
          obtain ⟨ad1069, e1069, hx1069_0⟩ := Kd.at_int HR0.out x9_2 p1069 q1069
          obtain rfl : ad1067 = ad1069 := (by injection e1069)
          replace p1069 := eq_true p1069
          replace q1069 := eq_true q1069
          go_wp2
          go_ret
          exact ⟨by first | rfl | (simp; done) | (simp [*]; done), by repeat (first | exact Drawn0.refl _ | apply Drawn0.step)⟩
        rw [if_neg c20] at H
        have c20b0 : decide (192 ≤ (rd l0 x9_2)) = false := decide_eq_false c20
        clear c20
        have H' := Aside0.mk H
        clear H
        have p1068 : 0 ≤ (x9_2 : Int) := of_decide_eq_true (by first | (with_reducible assumption) | assumption)
        have q1068 : x9_2 < (l0.length : Int) := of_decide_eq_true (by first | (with_reducible assumption) | assumption)
        obtain ⟨ad1068, e1068, hx1068_0⟩ := Kd.at_int HR0.out x9_2 p1068 q1068
        obtain rfl : ad1067 = ad1068 := (by injection e1068)
        replace p1068 := eq_true p1068
        replace q1068 := eq_true q1068
        have p1069 : 0 ≤ (x9_2 : Int) := of_decide_eq_true (by first | (with_reducible assumption) | assumption)
        have q1069 : x9_2 < (l0.length : Int) := of_decide_eq_true (by first | (with_reducible assumption) | assumption)
        obtain ⟨ad1069, e1069, hx1069_0⟩ := Kd.at_int HR0.out x9_2 p1069 q1069
        obtain rfl : ad1067 = ad1069 := (by injection e1069)
        replace p1069 := eq_true p1069
        replace q1069 := eq_true q1069
        have p1070 : 0 ≤ (x9_2 : Int) := of_decide_eq_true (by first | (with_reducible assumption) | assumption)
        have q1070 : x9_2 < (l0.length : Int) := of_decide_eq_true (by first | (with_reducible assumption) | assumption)
        obtain ⟨ad1070, e1070, hx1070_0⟩ := Kd.at_int HR0.out x9_2 p1070 q1070
        obtain rfl : ad1067 = ad1070 := (by injection e1070)
        replace p1070 := eq_true p1070
        replace q1070 := eq_true q1070
        go_wp2
        go_roundg k2
        case measure => have := HJ4.out; have := HK2.out; omega
        case rel => exact ⟨(wrap64 ((wrap64 ((wrap64 (x7_2 * 64)) + (wrap64 (rd l0 x9_2)))) - 128)), (wrap64 (x9_2 + 1)), (by first | rfl | (simp; done) | (simp [*]; done)), (by first | rfl | (simp; done) | (simp [*]; done)), H', ⟨by have := HJ4.out; have := HK2.out; omega⟩, by repeat (first | exact Drawn0.refl _ | apply Drawn0.step)⟩
def chirographref06_utf8.l0 : Nat → List Int → Int → Option (Bool)
  | 0, _, _ => none
  | k + 1, x0, x3 => if x3 < (x0.length : Int) then ((chirographref06_whole.f k x0 x3).bind fun t1071 => (if t1071 = 0 then (some false) else (chirographref06_utf8.l0 k x0 (wrap64 (x3 + t1071))))) else (some true)
def chirographref06_utf8.f (k : Nat) (l0 : List Int) : Option (Bool) := chirographref06_utf8.l0 k l0 0
set_option maxHeartbeats 8000000 in
set_option maxRecDepth 100000 in
theorem chirographref06_utf8.calls (k : Nat) (A0 : Option Addr) (c0 : Nat) (l0 : List Int) (r : Bool) (w : World) (hr0 : Kd.C (Kd.int .u8) w A0 l0.length l0) (hc0 : l0.length ≤ c0) (h : chirographref06_utf8.f k l0 = some r) :
    Calls Tryz.prog 208 #[.slice A0 l0.length c0] w fun e w' => e = .returned (.bool r) ∧ Drawn0 w w' := by
  have HR0 := Aside0.mk hr0
  have HC0 := Aside0.mk hc0
  clear hr0 hc0
  have H : (chirographref06_utf8.l0 k l0 0) = some r := h
  clear h
  have H' := Aside0.mk H
  clear H
  go_enter Tryz.func208, Tryz.ntmps208
  go_wp2
  go_loopg [3] k (fun kq v3 w' => ∃ (x3_1 : Int), v3 = .int .i64 x3_1 ∧ Aside0 (chirographref06_utf8.l0 kq l0 x3_1 = some r) ∧ Aside0 (kq ≤ k) ∧ Drawn0 w w')
  case atStart => exact ⟨(0), (by first | rfl | (simp; done) | (simp [*]; done)), H', ⟨Nat.le_refl _⟩, by repeat (first | exact Drawn0.refl _ | apply Drawn0.step)⟩
  case round =>
    clear H'
    obtain ⟨x3_1, rfl, HA, HK1, ⟨m1, rfl⟩⟩ := hrel
    cases gk with
    | zero => exact absurd HA.out (by simp [chirographref06_utf8.l0])
    | succ k1 =>
      have H := HA.out
      clear HA
      simp only [chirographref06_utf8.l0] at H
      by_cases c2 : x3_1 < (l0.length : Int)
      rotate_left
      · rw [if_neg c2] at H
        have c2b0 : decide (x3_1 < (l0.length : Int)) = false := decide_eq_false c2
        clear c2
        obtain rfl := Option.some.inj H
        go_wp2
        go_ret
        exact ⟨by first | rfl | (simp; done) | (simp [*]; done), by repeat (first | exact Drawn0.refl _ | apply Drawn0.step)⟩
      rw [if_pos c2] at H
      have c2b0 : decide (x3_1 < (l0.length : Int)) = true := decide_eq_true c2
      clear c2
      replace H := Option.bind_eq_some_iff.mp H
      obtain ⟨t1071, A30, H⟩ := H
      replace H : (if t1071 = 0 then (some false) else (chirographref06_utf8.l0 k1 l0 (wrap64 (x3_1 + t1071)))) = some r := H
      have A3 := Aside0.mk A30
      clear A30
      by_cases c4 : t1071 = 0
      · rw [if_pos c4] at H
        have c4b0 : (t1071 == 0) = true := beq_iff_eq.mpr c4
        have c4b1 : (t1071 != 0) = false := bne_eq_false_iff_eq.mpr c4
        clear c4
        obtain rfl := Option.some.inj H
        go_wp2_with (first | ((with_reducible refine gate_callee (f := 253) rfl ?_); refine goesL_ (some 11) rfl rfl Tryz.func253 (by kernel_rfl) rfl #[.slice A0 l0.length c0, .int .i64 x3_1] rfl (by (try simp only [List.map_toArray, List.map_cons, List.map_nil]); first | done | rfl | (simp only [List.length_drop, List.length_take]; rfl)) ?_; (with_reducible refine (chirographref06_whole.calls k1 _ _ l0 x3_1 t1071 _ ?side1 ?side2 A3.out).mono ?_); (case side1 => repeat (first | exact HR0.out | (with_reducible refine Kd.C_alloc ?_ _) | (with_reducible refine Kd.C_drewN ?_ _) | (with_reducible refine Kd.C_drew ?_))); (case side2 => exact HC0.out); rintro e w' ⟨rfl, ⟨nd, rfl⟩⟩; refine ⟨_, rfl, ?_⟩))
        go_ret
        exact ⟨by first | rfl | (simp; done) | (simp [*]; done), by repeat (first | exact Drawn0.refl _ | apply Drawn0.step)⟩
      rw [if_neg c4] at H
      have c4b0 : (t1071 == 0) = false := beq_eq_false_iff_ne.mpr c4
      have c4b1 : (t1071 != 0) = true := bne_iff_ne.mpr c4
      have H' := Aside0.mk H
      clear H
      go_wp2_with (first | ((with_reducible refine gate_callee (f := 253) rfl ?_); refine goesL_ (some 11) rfl rfl Tryz.func253 (by kernel_rfl) rfl #[.slice A0 l0.length c0, .int .i64 x3_1] rfl (by (try simp only [List.map_toArray, List.map_cons, List.map_nil]); first | done | rfl | (simp only [List.length_drop, List.length_take]; rfl)) ?_; (with_reducible refine (chirographref06_whole.calls k1 _ _ l0 x3_1 t1071 _ ?side1 ?side2 A3.out).mono ?_); (case side1 => repeat (first | exact HR0.out | (with_reducible refine Kd.C_alloc ?_ _) | (with_reducible refine Kd.C_drewN ?_ _) | (with_reducible refine Kd.C_drew ?_))); (case side2 => exact HC0.out); rintro e w' ⟨rfl, ⟨nd, rfl⟩⟩; refine ⟨_, rfl, ?_⟩))
      go_roundg k1
      case measure => have := HK1.out; omega
      case rel => exact ⟨(wrap64 (x3_1 + t1071)), (by first | rfl | (simp; done) | (simp [*]; done)), H', ⟨by have := HK1.out; omega⟩, by repeat (first | exact Drawn0.refl _ | apply Drawn0.step)⟩
mutual
def chirographref06_printable.j0 : Nat → Int → Bool → Option (Bool)
  | 0, _, _ => none
  | k + 1, x0, x26 => if x26 = true then (some true) else (chirographref06_printable.l0 k x0 (⟨#[32, 39, 40, 41, 43, 44, 45, 46, 47, 58, 61, 63]⟩ : ByteArray) 0)
def chirographref06_printable.l0 : Nat → Int → ByteArray → Int → Option (Bool)
  | 0, _, _, _ => none
  | k + 1, x0, x3, x4 => if x4 < (x3.size : Int) then (if 0 ≤ x4 then (if (bt x3 x4) = x0 then (some true) else (chirographref06_printable.l0 k x0 x3 (wrap64 (x4 + 1)))) else (none)) else (some false)
end
def chirographref06_printable.f (k : Nat) (a0 : Int) : Option (Bool) := if a0 ≥ 65 then (if a0 ≤ 90 then (chirographref06_printable.j0 k a0 true) else (if a0 ≥ 97 then (if a0 ≤ 122 then (chirographref06_printable.j0 k a0 true) else (if a0 ≥ 48 then (chirographref06_printable.j0 k a0 (decide (a0 ≤ 57))) else (chirographref06_printable.j0 k a0 false))) else (if a0 ≥ 48 then (chirographref06_printable.j0 k a0 (decide (a0 ≤ 57))) else (chirographref06_printable.j0 k a0 false)))) else (if a0 ≥ 97 then (if a0 ≤ 122 then (chirographref06_printable.j0 k a0 true) else (if a0 ≥ 48 then (chirographref06_printable.j0 k a0 (decide (a0 ≤ 57))) else (chirographref06_printable.j0 k a0 false))) else (if a0 ≥ 48 then (chirographref06_printable.j0 k a0 (decide (a0 ≤ 57))) else (chirographref06_printable.j0 k a0 false)))
theorem chirographref06_printable.mono_l : ∀ k, (∀ y0 y1, LeO (chirographref06_printable.j0 k y0 y1) (chirographref06_printable.j0 (k + 1) y0 y1)) ∧ (∀ y0 y1 y2, LeO (chirographref06_printable.l0 k y0 y1 y2) (chirographref06_printable.l0 (k + 1) y0 y1 y2))
  | 0 => ⟨fun _ _ r h => by simp [chirographref06_printable.j0] at h, fun _ _ _ r h => by simp [chirographref06_printable.l0] at h⟩
  | k + 1 => by
    obtain ⟨ih0, ih1⟩ := chirographref06_printable.mono_l k
    refine ⟨?_, ?_⟩
    · intro y0 y1
      unfold chirographref06_printable.j0
      repeat' first
      | (with_reducible exact ih0 _ _)
      | (with_reducible exact ih1 _ _ _)
      | (with_reducible exact LeO.refl _)
      | (with_reducible exact LeO.none _)
      | (with_reducible refine LeO.ite ?_ ?_)
      | (with_reducible refine LeO.bind ?_ (fun _ => ?_))
      | exact ih0 _ _
      | exact ih1 _ _ _
      | exact LeO.none _
      | refine LeO.ite ?_ ?_
      | refine LeO.bind ?_ (fun _ => ?_)
    · intro y0 y1 y2
      unfold chirographref06_printable.l0
      repeat' first
      | (with_reducible exact ih0 _ _)
      | (with_reducible exact ih1 _ _ _)
      | (with_reducible exact LeO.refl _)
      | (with_reducible exact LeO.none _)
      | (with_reducible refine LeO.ite ?_ ?_)
      | (with_reducible refine LeO.bind ?_ (fun _ => ?_))
      | exact ih0 _ _
      | exact ih1 _ _ _
      | exact LeO.none _
      | refine LeO.ite ?_ ?_
      | refine LeO.bind ?_ (fun _ => ?_)
theorem chirographref06_printable.mono : ∀ a0 k, LeO (chirographref06_printable.f k a0) (chirographref06_printable.f (k + 1) a0) := by
  intro a0 k
  obtain ⟨ih0, ih1⟩ := chirographref06_printable.mono_l k
  unfold chirographref06_printable.f
  repeat' first
      | (with_reducible exact ih0 _ _)
      | (with_reducible exact ih1 _ _ _)
      | (with_reducible exact LeO.refl _)
      | (with_reducible exact LeO.none _)
      | (with_reducible refine LeO.ite ?_ ?_)
      | (with_reducible refine LeO.bind ?_ (fun _ => ?_))
      | exact ih0 _ _
      | exact ih1 _ _ _
      | exact LeO.none _
      | refine LeO.ite ?_ ?_
      | refine LeO.bind ?_ (fun _ => ?_)
set_option maxHeartbeats 8000000 in
set_option maxRecDepth 100000 in
theorem chirographref06_printable.calls (k : Nat) (a0 : Int) (r : Bool) (w : World) (h : chirographref06_printable.f k a0 = some r) :
    Calls Tryz.prog 209 #[.int .u8 a0] w fun e w' => e = .returned (.bool r) ∧ Drawn0 w w' := by
  have H : (if a0 ≥ 65 then (if a0 ≤ 90 then (chirographref06_printable.j0 k a0 true) else (if a0 ≥ 97 then (if a0 ≤ 122 then (chirographref06_printable.j0 k a0 true) else (if a0 ≥ 48 then (chirographref06_printable.j0 k a0 (decide (a0 ≤ 57))) else (chirographref06_printable.j0 k a0 false))) else (if a0 ≥ 48 then (chirographref06_printable.j0 k a0 (decide (a0 ≤ 57))) else (chirographref06_printable.j0 k a0 false)))) else (if a0 ≥ 97 then (if a0 ≤ 122 then (chirographref06_printable.j0 k a0 true) else (if a0 ≥ 48 then (chirographref06_printable.j0 k a0 (decide (a0 ≤ 57))) else (chirographref06_printable.j0 k a0 false))) else (if a0 ≥ 48 then (chirographref06_printable.j0 k a0 (decide (a0 ≤ 57))) else (chirographref06_printable.j0 k a0 false)))) = some r := h
  clear h
  have HC2 := Aside0.mk H
  clear H
  go_enter Tryz.func209, Tryz.ntmps209
  go_upto_region 1 with (fail)
  go_cut [26] (fun v26 wc => ∃ (kq : Nat) (x26_1 : Bool), v26 = .bool x26_1 ∧ Aside0 (chirographref06_printable.j0 kq a0 x26_1 = some r) ∧ Aside0 (kq ≤ k) ∧ Drawn0 w wc)
  case first =>
    have H := HC2.out
    clear HC2
    by_cases c3 : a0 ≥ 65
    rotate_left
    · rw [if_neg c3] at H
      have c3b0 : decide (65 ≤ a0) = false := decide_eq_false c3
      clear c3
      (first | rw [c3b0] | (simp only [i64_w, i32_w]; rw [c3b0]) | skip)
      by_cases c9 : a0 ≥ 97
      rotate_left
      · rw [if_neg c9] at H
        have c9b0 : decide (97 ≤ a0) = false := decide_eq_false c9
        clear c9
        by_cases c12 : a0 ≥ 48
        rotate_left
        · rw [if_neg c12] at H
          have c12b0 : decide (48 ≤ a0) = false := decide_eq_false c12
          clear c12
          have H' := Aside0.mk H
          clear H
          go_wp2
          go_meet
          case rel => exact ⟨_, (false), (by first | rfl | (simp; done) | (simp [*]; done)), H', ⟨by first | omega | exact Nat.le_refl _⟩, by repeat (first | exact Drawn0.refl _ | apply Drawn0.step)⟩
        rw [if_pos c12] at H
        have c12b0 : decide (48 ≤ a0) = true := decide_eq_true c12
        clear c12
        have H' := Aside0.mk H
        clear H
        go_wp2
        go_meet
        case rel => exact ⟨_, (decide (a0 ≤ 57)), (by first | rfl | (simp; done) | (simp [*]; done)), H', ⟨by first | omega | exact Nat.le_refl _⟩, by repeat (first | exact Drawn0.refl _ | apply Drawn0.step)⟩
      rw [if_pos c9] at H
      have c9b0 : decide (97 ≤ a0) = true := decide_eq_true c9
      clear c9
      by_cases c10 : a0 ≤ 122
      · rw [if_pos c10] at H
        have c10b0 : decide (a0 ≤ 122) = true := decide_eq_true c10
        clear c10
        have H' := Aside0.mk H
        clear H
        go_wp2
        go_meet
        case rel => exact ⟨_, (true), (by first | rfl | (simp; done) | (simp [*]; done)), H', ⟨by first | omega | exact Nat.le_refl _⟩, by repeat (first | exact Drawn0.refl _ | apply Drawn0.step)⟩
      rw [if_neg c10] at H
      have c10b0 : decide (a0 ≤ 122) = false := decide_eq_false c10
      clear c10
      by_cases c11 : a0 ≥ 48
      rotate_left
      · rw [if_neg c11] at H
        have c11b0 : decide (48 ≤ a0) = false := decide_eq_false c11
        clear c11
        have H' := Aside0.mk H
        clear H
        go_wp2
        go_meet
        case rel => exact ⟨_, (false), (by first | rfl | (simp; done) | (simp [*]; done)), H', ⟨by first | omega | exact Nat.le_refl _⟩, by repeat (first | exact Drawn0.refl _ | apply Drawn0.step)⟩
      rw [if_pos c11] at H
      have c11b0 : decide (48 ≤ a0) = true := decide_eq_true c11
      clear c11
      have H' := Aside0.mk H
      clear H
      go_wp2
      go_meet
      case rel => exact ⟨_, (decide (a0 ≤ 57)), (by first | rfl | (simp; done) | (simp [*]; done)), H', ⟨by first | omega | exact Nat.le_refl _⟩, by repeat (first | exact Drawn0.refl _ | apply Drawn0.step)⟩
    rw [if_pos c3] at H
    have c3b0 : decide (65 ≤ a0) = true := decide_eq_true c3
    clear c3
    (first | rw [c3b0] | (simp only [i64_w, i32_w]; rw [c3b0]) | skip)
    by_cases c4 : a0 ≤ 90
    · rw [if_pos c4] at H
      have c4b0 : decide (a0 ≤ 90) = true := decide_eq_true c4
      clear c4
      have H' := Aside0.mk H
      clear H
      go_wp2
      go_meet
      case rel => exact ⟨_, (true), (by first | rfl | (simp; done) | (simp [*]; done)), H', ⟨by first | omega | exact Nat.le_refl _⟩, by repeat (first | exact Drawn0.refl _ | apply Drawn0.step)⟩
    rw [if_neg c4] at H
    have c4b0 : decide (a0 ≤ 90) = false := decide_eq_false c4
    clear c4
    by_cases c5 : a0 ≥ 97
    rotate_left
    · rw [if_neg c5] at H
      have c5b0 : decide (97 ≤ a0) = false := decide_eq_false c5
      clear c5
      by_cases c8 : a0 ≥ 48
      rotate_left
      · rw [if_neg c8] at H
        have c8b0 : decide (48 ≤ a0) = false := decide_eq_false c8
        clear c8
        have H' := Aside0.mk H
        clear H
        go_wp2
        go_meet
        case rel => exact ⟨_, (false), (by first | rfl | (simp; done) | (simp [*]; done)), H', ⟨by first | omega | exact Nat.le_refl _⟩, by repeat (first | exact Drawn0.refl _ | apply Drawn0.step)⟩
      rw [if_pos c8] at H
      have c8b0 : decide (48 ≤ a0) = true := decide_eq_true c8
      clear c8
      have H' := Aside0.mk H
      clear H
      go_wp2
      go_meet
      case rel => exact ⟨_, (decide (a0 ≤ 57)), (by first | rfl | (simp; done) | (simp [*]; done)), H', ⟨by first | omega | exact Nat.le_refl _⟩, by repeat (first | exact Drawn0.refl _ | apply Drawn0.step)⟩
    rw [if_pos c5] at H
    have c5b0 : decide (97 ≤ a0) = true := decide_eq_true c5
    clear c5
    by_cases c6 : a0 ≤ 122
    · rw [if_pos c6] at H
      have c6b0 : decide (a0 ≤ 122) = true := decide_eq_true c6
      clear c6
      have H' := Aside0.mk H
      clear H
      go_wp2
      go_meet
      case rel => exact ⟨_, (true), (by first | rfl | (simp; done) | (simp [*]; done)), H', ⟨by first | omega | exact Nat.le_refl _⟩, by repeat (first | exact Drawn0.refl _ | apply Drawn0.step)⟩
    rw [if_neg c6] at H
    have c6b0 : decide (a0 ≤ 122) = false := decide_eq_false c6
    clear c6
    by_cases c7 : a0 ≥ 48
    rotate_left
    · rw [if_neg c7] at H
      have c7b0 : decide (48 ≤ a0) = false := decide_eq_false c7
      clear c7
      have H' := Aside0.mk H
      clear H
      go_wp2
      go_meet
      case rel => exact ⟨_, (false), (by first | rfl | (simp; done) | (simp [*]; done)), H', ⟨by first | omega | exact Nat.le_refl _⟩, by repeat (first | exact Drawn0.refl _ | apply Drawn0.step)⟩
    rw [if_pos c7] at H
    have c7b0 : decide (48 ≤ a0) = true := decide_eq_true c7
    clear c7
    have H' := Aside0.mk H
    clear H
    go_wp2
    go_meet
    case rel => exact ⟨_, (decide (a0 ≤ 57)), (by first | rfl | (simp; done) | (simp [*]; done)), H', ⟨by first | omega | exact Nat.le_refl _⟩, by repeat (first | exact Drawn0.refl _ | apply Drawn0.step)⟩
  clear HC2
  obtain ⟨kq, x26_1, rfl, HA, HJ1, ⟨mc1, rfl⟩⟩ := hcut
  cases kq with
  | zero => exact absurd HA.out (by simp [chirographref06_printable.j0])
  | succ kj1 =>
    have H := HA.out
    clear HA
    simp only [chirographref06_printable.j0] at H
    by_cases c13 : x26_1 = true
    · subst c13
      have H1 : (some true) = some r := by rw [if_pos rfl] at H; exact H
      clear H
      have H := H1
      clear H1
      obtain rfl := Option.some.inj H
      go_wp2
      go_ret
      exact ⟨by first | rfl | (simp; done) | (simp [*]; done), by repeat (first | exact Drawn0.refl _ | apply Drawn0.step)⟩
    replace c13 := Bool.eq_false_iff.mpr c13
    subst c13
    have H1 : (chirographref06_printable.l0 kj1 a0 (⟨#[32, 39, 40, 41, 43, 44, 45, 46, 47, 58, 61, 63]⟩ : ByteArray) 0) = some r := by rw [if_neg (show ¬ (false = true) by decide)] at H; exact H
    clear H
    have H := H1
    clear H1
    have H' := Aside0.mk H
    clear H
    go_wp2
    go_loopg [4] kj1 (fun kq v4 w' => ∃ (x4_2 : Int), v4 = .int .i64 x4_2 ∧ Aside0 (chirographref06_printable.l0 kq a0 (⟨#[32, 39, 40, 41, 43, 44, 45, 46, 47, 58, 61, 63]⟩ : ByteArray) x4_2 = some r) ∧ Aside0 (kq ≤ kj1) ∧ Drawn0 w w')
    case atStart => exact ⟨(0), (by first | rfl | (simp; done) | (simp [*]; done)), H', ⟨Nat.le_refl _⟩, by repeat (first | exact Drawn0.refl _ | apply Drawn0.step)⟩
    case round =>
      clear H'
      obtain ⟨x4_2, rfl, HA, HK2, ⟨m2, rfl⟩⟩ := hrel
      cases gk with
      | zero => exact absurd HA.out (by simp [chirographref06_printable.l0])
      | succ k2 =>
        have H := HA.out
        clear HA
        simp only [chirographref06_printable.l0] at H
        generalize hS : (⟨#[32, 39, 40, 41, 43, 44, 45, 46, 47, 58, 61, 63]⟩ : ByteArray) = S at *
        clear hS
        by_cases c14 : x4_2 < (S.size : Int)
        rotate_left
        · rw [if_neg c14] at H
          have c14b0 : decide (x4_2 < (S.size : Int)) = false := decide_eq_false c14
          clear c14
          obtain rfl := Option.some.inj H
          go_wp2
          go_ret
          exact ⟨by first | rfl | (simp; done) | (simp [*]; done), by repeat (first | exact Drawn0.refl _ | apply Drawn0.step)⟩
        rw [if_pos c14] at H
        have c14b0 : decide (x4_2 < (S.size : Int)) = true := decide_eq_true c14
        clear c14
        by_cases c15 : 0 ≤ x4_2
        rotate_left
        · rw [if_neg c15] at H
          exact absurd H (by simp)
        rw [if_pos c15] at H
        have c15b0 : decide (0 ≤ x4_2) = true := decide_eq_true c15
        clear c15
        by_cases c17 : (bt S x4_2) = a0
        · rw [if_pos c17] at H
          have c17b0 : ((bt S x4_2) == a0) = true := beq_iff_eq.mpr c17
          have c17b1 : ((bt S x4_2) != a0) = false := bne_eq_false_iff_eq.mpr c17
          clear c17
          obtain rfl := Option.some.inj H
          have p16 : 0 ≤ (x4_2 : Int) := of_decide_eq_true (by first | (with_reducible assumption) | assumption)
          have q16 : x4_2 < (S.size : Int) := of_decide_eq_true (by first | (with_reducible assumption) | assumption)
          have hx16 := bt_at S x4_2
          replace p16 := eq_true p16
          replace q16 := eq_true q16
          go_wp2
          go_ret
          exact ⟨by first | rfl | (simp; done) | (simp [*]; done), by repeat (first | exact Drawn0.refl _ | apply Drawn0.step)⟩
        rw [if_neg c17] at H
        have c17b0 : ((bt S x4_2) == a0) = false := beq_eq_false_iff_ne.mpr c17
        have c17b1 : ((bt S x4_2) != a0) = true := bne_iff_ne.mpr c17
        have H' := Aside0.mk H
        clear H
        have p16 : 0 ≤ (x4_2 : Int) := of_decide_eq_true (by first | (with_reducible assumption) | assumption)
        have q16 : x4_2 < (S.size : Int) := of_decide_eq_true (by first | (with_reducible assumption) | assumption)
        have hx16 := bt_at S x4_2
        replace p16 := eq_true p16
        replace q16 := eq_true q16
        go_wp2
        go_roundg k2
        case measure => have := HJ1.out; have := HK2.out; omega
        case rel => exact ⟨(wrap64 (x4_2 + 1)), (by first | rfl | (simp; done) | (simp [*]; done)), H', ⟨by have := HJ1.out; have := HK2.out; omega⟩, by repeat (first | exact Drawn0.refl _ | apply Drawn0.step)⟩
end Go.Proofs.YtkioddjjfifadaaGreatDoor.P
