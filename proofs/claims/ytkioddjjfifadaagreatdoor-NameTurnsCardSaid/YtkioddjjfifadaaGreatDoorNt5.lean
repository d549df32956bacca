/- What the proof of NameTurns needs of: Pxf153, Ht3, Pxf159, Hm0, Pxf93, Hm1, Pxf39, Lx0, Lx1, Lk0, Pxf266, Hp0, Pxf219. -/
import Derived.Lib.OthersKept
import Derived.Lib.RuneCountTail
import Derived.Deep.MidRow
import Derived.Lib.ItoaLen
import Derived.Test.YtkioddjjfifadaaGreatDoorNt2
import Derived.Test.YtkioddjjfifadaaGreatDoorNt3
import Derived.Test.YtkioddjjfifadaaGreatDoorNt4
namespace Go.Proofs.YtkioddjjfifadaaGreatDoor.P
open Go.RowKit Go.Proofs.YtkioddjjfifadaaGreatDoorW.PrintWords Go.Proofs.YtkioddjjfifadaaGreatDoorW.PrintLast Go.Proofs.YtkioddjjfifadaaGreatDoorW.PrintMore
attribute [local go_sem] max2_int min2_int max_two min_two max_three min_three max_four min_four
set_option linter.unusedVariables false
set_option linter.unusedSimpArgs false
mutual
def text_Text.j0 : Nat → Int → List Int → Bool → Option (ByteArray × Int)
  | 0, _, _, _ => none
  | k + 1, x0, x1, x22 => if x22 = true then (text_Text.l0 k x0 x1 x1 (x1.length : Int) 0) else (some ((⟨#[]⟩ : ByteArray), 61))
def text_Text.l0 : Nat → Int → List Int → List Int → Int → Int → Option (ByteArray × Int)
  | 0, _, _, _, _, _ => none
  | k + 1, x0, x1, x27, x28, x29 => if x29 < x28 then (if 0 ≤ x29 then (if x29 < (x27.length : Int) then ((text_fits.f x0 (rd x27 x29)).bind fun t610 => (if t610 = true then (text_Text.l0 k x0 x1 x27 x28 (wrap64 (x29 + 1))) else (some ((⟨#[]⟩ : ByteArray), 60)))) else (none)) else (none)) else (some (strOfNums x1, 0))
end
def text_Text.f (k : Nat) (a0 : Int) (l1 : List Int) : Option (ByteArray × Int) := if a0 = 30 then ((text_wide.f l1).bind fun bt606 => (some (bt606.1, bt606.2))) else (if a0 = 12 then ((utf8_Valid.f l1).bind fun t608 => (if t608 = true then (some (strOfNums l1, 0)) else (some ((⟨#[]⟩ : ByteArray), 60)))) else (if a0 = 18 then (text_Text.j0 k a0 l1 (a0 == 18)) else (if a0 = 19 then (text_Text.j0 k a0 l1 (a0 == 19)) else (if a0 = 22 then (text_Text.j0 k a0 l1 (a0 == 22)) else (text_Text.j0 k a0 l1 (a0 == 26))))))
theorem text_Text.mono_l : ∀ k, (∀ y0 y1 y2, LeO (text_Text.j0 k y0 y1 y2) (text_Text.j0 (k + 1) y0 y1 y2)) ∧ (∀ y0 y1 y2 y3 y4, LeO (text_Text.l0 k y0 y1 y2 y3 y4) (text_Text.l0 (k + 1) y0 y1 y2 y3 y4))
  | 0 => ⟨fun _ _ _ r h => by simp [text_Text.j0] at h, fun _ _ _ _ _ r h => by simp [text_Text.l0] at h⟩
  | k + 1 => by
    obtain ⟨ih0, ih1⟩ := text_Text.mono_l k
    refine ⟨?_, ?_⟩
    · intro y0 y1 y2
      unfold text_Text.j0
      repeat' first
      | (with_reducible exact ih0 _ _ _)
      | (with_reducible exact ih1 _ _ _ _ _)
      | (with_reducible exact LeO.refl _)
      | (with_reducible exact LeO.none _)
      | (with_reducible refine LeO.ite ?_ ?_)
      | (with_reducible refine LeO.bind ?_ (fun _ => ?_))
      | exact ih0 _ _ _
      | exact ih1 _ _ _ _ _
      | exact LeO.none _
      | refine LeO.ite ?_ ?_
      | refine LeO.bind ?_ (fun _ => ?_)
    · intro y0 y1 y2 y3 y4
      unfold text_Text.l0
      repeat' first
      | (with_reducible exact ih0 _ _ _)
      | (with_reducible exact ih1 _ _ _ _ _)
      | (with_reducible exact LeO.refl _)
      | (with_reducible exact LeO.none _)
      | (with_reducible refine LeO.ite ?_ ?_)
      | (with_reducible refine LeO.bind ?_ (fun _ => ?_))
      | exact ih0 _ _ _
      | exact ih1 _ _ _ _ _
      | exact LeO.none _
      | refine LeO.ite ?_ ?_
      | refine LeO.bind ?_ (fun _ => ?_)
theorem text_Text.mono : ∀ a0 a1 k, LeO (text_Text.f k a0 a1) (text_Text.f (k + 1) a0 a1) := by
  intro a0 a1 k
  obtain ⟨ih0, ih1⟩ := text_Text.mono_l k
  unfold text_Text.f
  repeat' first
      | (with_reducible exact ih0 _ _ _)
      | (with_reducible exact ih1 _ _ _ _ _)
      | (with_reducible exact LeO.refl _)
      | (with_reducible exact LeO.none _)
      | (with_reducible refine LeO.ite ?_ ?_)
      | (with_reducible refine LeO.bind ?_ (fun _ => ?_))
      | exact ih0 _ _ _
      | exact ih1 _ _ _ _ _
      | exact LeO.none _
      | refine LeO.ite ?_ ?_
      | refine LeO.bind ?_ (fun _ => ?_)
set_option maxHeartbeats 8000000 in
set_option maxRecDepth 100000 in
theorem text_Text.calls (k : Nat) (a0 : Int) (A1 : Option Addr) (c1 : Nat) (l1 : List Int) (r1 : ByteArray) (r2 : Int) (w : World) (hr1 : Kd.C (Kd.int .u8) w A1 l1.length l1) (hc1 : l1.length ≤ c1) (h : text_Text.f k a0 l1 = some (r1, r2)) (hH : Tb w) :
    Calls Tryz.prog 153 #[.int .i64 a0, .slice A1 l1.length c1] w fun e w' => e = .returned (.tuple #[.string r1, .int .i64 r2]) ∧ Below w.heap.size w w' := by
  have HR1 := Aside0.mk hr1
  have HC1 := Aside0.mk hc1
  clear hr1 hc1
  have HB := Aside0.mk (Below.refl w.heap.size w)
  have HHd := Aside0.mk hH
  clear hH
  have H : (if a0 = 30 then ((text_wide.f l1).bind fun bt606 => (some (bt606.1, bt606.2))) else (if a0 = 12 then ((utf8_Valid.f l1).bind fun t608 => (if t608 = true then (some (strOfNums l1, 0)) else (some ((⟨#[]⟩ : ByteArray), 60)))) else (if a0 = 18 then (text_Text.j0 k a0 l1 (a0 == 18)) else (if a0 = 19 then (text_Text.j0 k a0 l1 (a0 == 19)) else (if a0 = 22 then (text_Text.j0 k a0 l1 (a0 == 22)) else (text_Text.j0 k a0 l1 (a0 == 26))))))) = some (r1, r2) := h
  clear h
  by_cases c3 : a0 = 30
  · rw [if_pos c3] at H
    have c3b0 : (a0 == 30) = true := beq_iff_eq.mpr c3
    have c3b1 : (a0 != 30) = false := bne_eq_false_iff_eq.mpr c3
    clear c3
    replace H := Option.bind_eq_some_iff.mp H
    obtain ⟨⟨t606, t607⟩, A40, H⟩ := H
    try dsimp only at H
    have A4 := Aside0.mk A40
    clear A40
    simp only [Option.some.injEq, Prod.mk.injEq] at H
    obtain ⟨rfl, rfl⟩ := H
    go_enter Tryz.func153, Tryz.ntmps153
    go_wp2_with (first | ((with_reducible refine gate_callee (f := 203) rfl ?_); refine goesL_ (some 12) rfl rfl Tryz.func203 (by kernel_rfl) rfl #[.slice A1 l1.length c1] rfl (by (try simp only [List.map_toArray, List.map_cons, List.map_nil]); first | done | rfl | (simp only [List.length_drop, List.length_take]; rfl)) ?_; (with_reducible refine (text_wide.calls _ _ l1 t606 t607 _ ?side1 ?side2 A4.out).mono ?_); (case side1 => exact Kd.C_u HR1.out); (case side2 => exact HC1.out); rintro e w5 ⟨rfl, hb⟩; refine ⟨_, rfl, ?_⟩; have n0_ := Aside0.mk (below_step (bU HB.out) hb); replace HB := n0_; clear n0_; (try clear hb); (try clear hb2); (try clear hk); (try clear hi)))
    go_ret2
    exact ⟨by first | rfl | (simp [errW_none, errW_some] <;> rfl), bU HB.out⟩
  rw [if_neg c3] at H
  have c3b0 : (a0 == 30) = false := beq_eq_false_iff_ne.mpr c3
  have c3b1 : (a0 != 30) = true := bne_iff_ne.mpr c3
  by_cases c6 : a0 = 12
  · rw [if_pos c6] at H
    have c6b0 : (a0 == 12) = true := beq_iff_eq.mpr c6
    have c6b1 : (a0 != 12) = false := bne_eq_false_iff_eq.mpr c6
    clear c6
    replace H := Option.bind_eq_some_iff.mp H
    obtain ⟨t608, A70, H⟩ := H
    try dsimp only at H
    have A7 := Aside0.mk A70
    clear A70
    by_cases c8 : t608 = true
    · subst c8
      have H1 : (some (strOfNums l1, 0)) = some (r1, r2) := by rw [if_pos rfl] at H; exact H
      clear H
      have H := H1
      clear H1
      simp only [Option.some.injEq, Prod.mk.injEq] at H
      obtain ⟨rfl, rfl⟩ := H
      go_enter Tryz.func153, Tryz.ntmps153
      go_wp2_with (first | ((with_reducible refine gate_callee (f := 204) rfl ?_); refine goesL_ (some 18) rfl rfl Tryz.func204 (by kernel_rfl) rfl #[.slice A1 l1.length c1] rfl (by (try simp only [List.map_toArray, List.map_cons, List.map_nil]); first | done | rfl | (simp only [List.length_drop, List.length_take]; rfl)) ?_; (with_reducible refine (utf8_Valid.calls _ _ l1 true _ ?side1 ?side2 A7.out (Tb.below HHd.out (bU HB.out))).mono ?_); (case side1 => exact Kd.C_u HR1.out); (case side2 => exact HC1.out); rintro e w9 ⟨rfl, hb⟩; refine ⟨_, rfl, ?_⟩; have n0_ := Aside0.mk (below_step (bU HB.out) hb); replace HB := n0_; clear n0_; (try clear hb); (try clear hb2); (try clear hk); (try clear hi); have hcv10 := Kd.C_string (P := Tryz.prog) (A := A1) (c := c1) Tryz.underlying22 Tryz.underlying5 Tryz.underlying9 (Kd.C_below HR1.out HB.out)))
      go_ret2
      exact ⟨by first | rfl | (simp [errW_none, errW_some] <;> rfl), bU HB.out⟩
    replace c8 := Bool.eq_false_iff.mpr c8
    subst c8
    have H1 : (some ((⟨#[]⟩ : ByteArray), 60)) = some (r1, r2) := by rw [if_neg (show ¬ (false = true) by decide)] at H; exact H
    clear H
    have H := H1
    clear H1
    simp only [Option.some.injEq, Prod.mk.injEq] at H
    obtain ⟨rfl, rfl⟩ := H
    go_enter Tryz.func153, Tryz.ntmps153
    go_wp2_with (first | ((with_reducible refine gate_callee (f := 204) rfl ?_); refine goesL_ (some 18) rfl rfl Tryz.func204 (by kernel_rfl) rfl #[.slice A1 l1.length c1] rfl (by (try simp only [List.map_toArray, List.map_cons, List.map_nil]); first | done | rfl | (simp only [List.length_drop, List.length_take]; rfl)) ?_; (with_reducible refine (utf8_Valid.calls _ _ l1 false _ ?side1 ?side2 A7.out (Tb.below HHd.out (bU HB.out))).mono ?_); (case side1 => exact Kd.C_u HR1.out); (case side2 => exact HC1.out); rintro e w11 ⟨rfl, hb⟩; refine ⟨_, rfl, ?_⟩; have n0_ := Aside0.mk (below_step (bU HB.out) hb); replace HB := n0_; clear n0_; (try clear hb); (try clear hb2); (try clear hk); (try clear hi)))
    go_ret2
    exact ⟨by first | rfl | (simp [errW_none, errW_some] <;> rfl), bU HB.out⟩
  rw [if_neg c6] at H
  have c6b0 : (a0 == 12) = false := beq_eq_false_iff_ne.mpr c6
  have c6b1 : (a0 != 12) = true := bne_iff_ne.mpr c6
  have HC12 := Aside0.mk H
  clear H
  go_enter Tryz.func153, Tryz.ntmps153
  go_upto_if 22 with (fail)
  go_cut [22] (fun v22 wc => ∃ (kq : Nat) (x22_11 : Bool), v22 = .bool x22_11 ∧ Aside0 (text_Text.j0 kq a0 l1 x22_11 = some (r1, r2)) ∧ Aside0 (kq ≤ k) ∧ Aside0 (Below w.heap.size w wc))
  case first =>
    have H := HC12.out
    clear HC12
    by_cases c13 : a0 = 18
    · rw [if_pos c13] at H
      have c13b0 : (a0 == 18) = true := beq_iff_eq.mpr c13
      have c13b1 : (a0 != 18) = false := bne_eq_false_iff_eq.mpr c13
      clear c13
      (first | rw [c13b0] | (simp only [i64_w, i32_w]; rw [c13b0]) | skip)
      have H' := Aside0.mk H
      clear H
      go_wp2
      go_meet
      case rel => exact ⟨_, ((a0 == 18)), (by first | rfl | (simp; done) | (simp [*]; done)), H', ⟨by first | omega | exact Nat.le_refl _⟩, ⟨bU HB.out⟩⟩
    rw [if_neg c13] at H
    have c13b0 : (a0 == 18) = false := beq_eq_false_iff_ne.mpr c13
    have c13b1 : (a0 != 18) = true := bne_iff_ne.mpr c13
    (first | rw [c13b0] | (simp only [i64_w, i32_w]; rw [c13b0]) | skip)
    by_cases c14 : a0 = 19
    · rw [if_pos c14] at H
      have c14b0 : (a0 == 19) = true := beq_iff_eq.mpr c14
      have c14b1 : (a0 != 19) = false := bne_eq_false_iff_eq.mpr c14
      clear c14
      have H' := Aside0.mk H
      clear H
      go_wp2
      go_meet
      case rel => exact ⟨_, ((a0 == 19)), (by first | rfl | (simp; done) | (simp [*]; done)), H', ⟨by first | omega | exact Nat.le_refl _⟩, ⟨bU HB.out⟩⟩
    rw [if_neg c14] at H
    have c14b0 : (a0 == 19) = false := beq_eq_false_iff_ne.mpr c14
    have c14b1 : (a0 != 19) = true := bne_iff_ne.mpr c14
    by_cases c15 : a0 = 22
    rotate_left
    · rw [if_neg c15] at H
      have c15b0 : (a0 == 22) = false := beq_eq_false_iff_ne.mpr c15
      have c15b1 : (a0 != 22) = true := bne_iff_ne.mpr c15
      have H' := Aside0.mk H
      clear H
      go_wp2
      go_meet
      case rel => exact ⟨_, ((a0 == 26)), (by first | rfl | (simp; done) | (simp [*]; done)), H', ⟨by first | omega | exact Nat.le_refl _⟩, ⟨bU HB.out⟩⟩
    rw [if_pos c15] at H
    have c15b0 : (a0 == 22) = true := beq_iff_eq.mpr c15
    have c15b1 : (a0 != 22) = false := bne_eq_false_iff_eq.mpr c15
    clear c15
    have H' := Aside0.mk H
    clear H
    go_wp2
    go_meet
    case rel => exact ⟨_, ((a0 == 22)), (by first | rfl | (simp; done) | (simp [*]; done)), H', ⟨by first | omega | exact Nat.le_refl _⟩, ⟨bU HB.out⟩⟩
  clear HC12
  try clear c1
  try clear hcv1
  try clear c2
  try clear p2
  try clear c3
  try clear c3b0
  try clear c3b1
  try clear c6
  try clear c6b0
  try clear c6b1
  try clear c8
  try clear hcv10
  try clear c13
  try clear c13b0
  try clear c13b1
  try clear c14
  try clear c14b0
  try clear c14b1
  try clear c15
  try clear c15b0
  try clear c15b1
  obtain ⟨kq, x22_11, rfl, HA, HJ11, HB⟩ := hcut
  cases kq with
  | zero => exact absurd HA.out (by simp [text_Text.j0])
  | succ kj11 =>
    have H := HA.out
    clear HA
    simp only [text_Text.j0] at H
    by_cases c16 : x22_11 = true
    rotate_left
    · replace c16 := Bool.eq_false_iff.mpr c16
      subst c16
      have H1 : (some ((⟨#[]⟩ : ByteArray), 61)) = some (r1, r2) := by rw [if_neg (show ¬ (false = true) by decide)] at H; exact H
      clear H
      have H := H1
      clear H1
      simp only [Option.some.injEq, Prod.mk.injEq] at H
      obtain ⟨rfl, rfl⟩ := H
      go_wp2
      go_ret2
      exact ⟨by first | rfl | (simp [errW_none, errW_some] <;> rfl), bU HB.out⟩
    subst c16
    have H1 : (text_Text.l0 kj11 a0 l1 l1 (l1.length : Int) 0) = some (r1, r2) := by rw [if_pos rfl] at H; exact H
    clear H
    have H := H1
    clear H1
    have H' := Aside0.mk H
    clear H
    go_wp2
    go_loopg [29] kj11 (fun kq v29 w' => ∃ (x29_2 : Int), v29 = .int .i64 x29_2 ∧ Aside0 (text_Text.l0 kq a0 l1 l1 (l1.length : Int) x29_2 = some (r1, r2)) ∧ Aside0 (kq ≤ kj11) ∧ Aside0 (Below w.heap.size w w'))
    case atStart => exact ⟨(0), (by first | rfl | (simp; done) | (simp [*]; done)), H', ⟨Nat.le_refl _⟩, ⟨bU HB.out⟩⟩
    case round =>
      clear H'
      try clear c1
      try clear hcv1
      try clear c2
      try clear p2
      try clear c3
      try clear c3b0
      try clear c3b1
      try clear c6
      try clear c6b0
      try clear c6b1
      try clear c8
      try clear hcv10
      try clear c13
      try clear c13b0
      try clear c13b1
      try clear c14
      try clear c14b0
      try clear c14b1
      try clear c15
      try clear c15b0
      try clear c15b1
      try clear c16
      try clear p2
      obtain ⟨x29_2, rfl, HA, HK2, HB⟩ := hrel
      cases gk with
      | zero => exact absurd HA.out (by simp [text_Text.l0])
      | succ k2 =>
        have H := HA.out
        clear HA
        simp only [text_Text.l0] at H
        by_cases c17 : x29_2 < (l1.length : Int)
        rotate_left
        · rw [if_neg c17] at H
          have c17b0 : decide (x29_2 < (l1.length : Int)) = false := decide_eq_false c17
          clear c17
          simp only [Option.some.injEq, Prod.mk.injEq] at H
          obtain ⟨rfl, rfl⟩ := H
          have hcv24 := Kd.C_string (P := Tryz.prog) (A := A1) (c := c1) Tryz.underlying22 Tryz.underlying5 Tryz.underlying9 (Kd.C_below HR1.out HB.out)
          go_wp2
          go_ret2
          exact ⟨by first | rfl | (simp [errW_none, errW_some] <;> rfl), bU HB.out⟩
        rw [if_pos c17] at H
        have c17b0 : decide (x29_2 < (l1.length : Int)) = true := decide_eq_true c17
        clear c17
        by_cases c18 : 0 ≤ x29_2
        rotate_left
        · rw [if_neg c18] at H
          exact absurd H (by simp)
        rw [if_pos c18] at H
        have c18b0 : decide (0 ≤ x29_2) = true := decide_eq_true c18
        clear c18
        by_cases c19 : x29_2 < (l1.length : Int)
        rotate_left
        · rw [if_neg c19] at H
          exact absurd H (by simp)
        rw [if_pos c19] at H
        have c19b0 : decide (x29_2 < (l1.length : Int)) = true := decide_eq_true c19
        clear c19
        replace H := Option.bind_eq_some_iff.mp H
        obtain ⟨t610, A200, H⟩ := H
        try dsimp only at H
        have A20 := Aside0.mk A200
        clear A200
        by_cases c21 : t610 = true
        rotate_left
        · replace c21 := Bool.eq_false_iff.mpr c21
          subst c21
          have H1 : (some ((⟨#[]⟩ : ByteArray), 60)) = some (r1, r2) := by rw [if_neg (show ¬ (false = true) by decide)] at H; exact H
          clear H
          have H := H1
          clear H1
          simp only [Option.some.injEq, Prod.mk.injEq] at H
          obtain ⟨rfl, rfl⟩ := H
          have p609 : 0 ≤ (x29_2 : Int) := of_decide_eq_true (by first | (with_reducible assumption) | assumption)
          have q609 : x29_2 < (l1.length : Int) := of_decide_eq_true (by first | (with_reducible assumption) | assumption)
          obtain ⟨ad609, e609, hx609_0⟩ := Kd.at_int HR1.out x29_2 p609 q609
          cases e609
          replace hx609_0 := (HB.out.cell (World.block_lt_of_cell? w _ hx609_0)).trans hx609_0
          replace p609 := eq_true p609
          replace q609 := eq_true q609
          go_wp2_with (first | ((with_reducible refine gate_callee (f := 205) rfl ?_); refine goesL_ (some 35) rfl rfl Tryz.func205 (by kernel_rfl) rfl #[.int .i64 a0, .int .u8 (rd l1 x29_2)] rfl (by (try simp only [List.map_toArray, List.map_cons, List.map_nil]); first | done | rfl | (simp only [List.length_drop, List.length_take]; rfl)) ?_; (with_reducible refine (text_fits.calls a0 (rd l1 x29_2) false _ A20.out).mono ?_); rintro e w23 ⟨rfl, hb⟩; refine ⟨_, rfl, ?_⟩; have n0_ := Aside0.mk (below_step (bU HB.out) hb); replace HB := n0_; clear n0_; (try clear hb); (try clear hb2); (try clear hk); (try clear hi)))
          go_ret2
          exact ⟨by first | rfl | (simp [errW_none, errW_some] <;> rfl), bU HB.out⟩
        subst c21
        have H1 : (text_Text.l0 k2 a0 l1 l1 (l1.length : Int) (wrap64 (x29_2 + 1))) = some (r1, r2) := by rw [if_pos rfl] at H; exact H
        clear H
        have H := H1
        clear H1
        have H' := Aside0.mk H
        clear H
        have p609 : 0 ≤ (x29_2 : Int) := of_decide_eq_true (by first | (with_reducible assumption) | assumption)
        have q609 : x29_2 < (l1.length : Int) := of_decide_eq_true (by first | (with_reducible assumption) | assumption)
        obtain ⟨ad609, e609, hx609_0⟩ := Kd.at_int HR1.out x29_2 p609 q609
        cases e609
        replace hx609_0 := (HB.out.cell (World.block_lt_of_cell? w _ hx609_0)).trans hx609_0
        replace p609 := eq_true p609
        replace q609 := eq_true q609
        go_wp2_with (first | ((with_reducible refine gate_callee (f := 205) rfl ?_); refine goesL_ (some 35) rfl rfl Tryz.func205 (by kernel_rfl) rfl #[.int .i64 a0, .int .u8 (rd l1 x29_2)] rfl (by (try simp only [List.map_toArray, List.map_cons, List.map_nil]); first | done | rfl | (simp only [List.length_drop, List.length_take]; rfl)) ?_; (with_reducible refine (text_fits.calls a0 (rd l1 x29_2) true _ A20.out).mono ?_); rintro e w22 ⟨rfl, hb⟩; refine ⟨_, rfl, ?_⟩; have n0_ := Aside0.mk (below_step (bU HB.out) hb); replace HB := n0_; clear n0_; (try clear hb); (try clear hb2); (try clear hk); (try clear hi)))
        go_roundg k2
        case measure => have := HJ11.out; have := HK2.out; omega
        case rel => exact ⟨(wrap64 (x29_2 + 1)), (by first | rfl | (simp; done) | (simp [*]; done)), H', ⟨by have := HJ11.out; have := HK2.out; omega⟩, ⟨bU HB.out⟩⟩
end Go.Proofs.YtkioddjjfifadaaGreatDoor.P
namespace Go.Proofs.YtkioddjjfifadaaGreatDoor.P
open Go.RowKit Go.Proofs.YtkioddjjfifadaaGreatDoorW.PrintWords Go.Proofs.YtkioddjjfifadaaGreatDoorW.PrintLast Go.Proofs.YtkioddjjfifadaaGreatDoorW.PrintMore
theorem decode_width (s : ByteArray) (pos : Nat) (h : pos < s.size) : 1 ≤ (Utf8.decode s pos).2 ∧ pos + (Utf8.decode s pos).2 ≤ s.size ∧ (Utf8.decode s pos).2 ≤ 4 := by
  unfold Utf8.decode
  simp only []
  split
  · simp; omega
  split
  · rename_i h1
    simp only [Bool.and_eq_true, decide_eq_true_eq, beq_iff_eq] at h1
    split <;> simp <;> omega
  split
  · rename_i h1
    simp only [Bool.and_eq_true, decide_eq_true_eq, beq_iff_eq] at h1
    split <;> simp <;> omega
  split
  rotate_left
  · simp; omega
  rename_i h1
  simp only [Bool.and_eq_true, decide_eq_true_eq, beq_iff_eq] at h1
  split <;> simp <;> omega
def low (c : Int) : Int := if 65 ≤ c ∧ c ≤ 90 then c + 32 else c
def foldOut (bl : Bool) (out : List Int) : List Int := if bl = true ∧ 0 < out.length then out ++ [32] else out
def foldGo (s : ByteArray) : Nat → Nat → Bool → List Int → List Int
  | 0, _, _, out => out
  | f + 1, pos, bl, out =>
    if pos < s.size then
      (if ((Utf8.decode s pos).1 : Int) = 32 then foldGo s f (pos + (Utf8.decode s pos).2) true out
      else if low ((Utf8.decode s pos).1 : Int) = 65533 then foldGo s f (pos + (Utf8.decode s pos).2) false (foldOut bl out ++ bytesOf (s.extract pos (pos + (Utf8.decode s pos).2)))
      else foldGo s f (pos + (Utf8.decode s pos).2) false (foldOut bl out ++ Lib.encodeRuneZ (low ((Utf8.decode s pos).1 : Int))))
    else out
def text_Fold.f (s : ByteArray) : Option ByteArray := if s.size ≤ 1099511627776 then some (strOfNums (foldGo s s.size 0 false [])) else none
theorem R_iter {B kb p : Nat} {s : ByteArray} {w : World} {v : Value} {xs : List Int} (h : (Kd.int .u8).R 5 w B (fun _ => True) v xs) (hb : w.heap[kb]? = some (.stringIter s p)) (p' : Nat) : (Kd.int .u8).R 5 (w.iterAt kb s p') B (fun _ => True) v xs :=
  Kd.R_mono (Kd.R_move (Kd.R_bound h) (fun k hk => by
    refine Lib.iterAt_other w kb k s p' ?_
    rintro rfl
    obtain ⟨_, _, _, _, _, cells, hc⟩ := hk
    rw [hb] at hc
    cases hc)) (fun _ hk => hk.1)
theorem iter_ne {B kb p : Nat} {s : ByteArray} {w : World} {v : Value} {xs : List Int} (h : (Kd.int .u8).R 5 w B (fun _ => True) v xs) (hb : w.heap[kb]? = some (.stringIter s p)) : some kb ≠ v.ownBlock := fun e => by
  obtain ⟨inner, ho⟩ := Kd.R_own h
  obtain ⟨cells, hc⟩ := own_typed ho kb e.symm
  rw [hb] at hc
  cases hc
theorem keep_blk {w w1 : World} {g : Nat} {o : Obj} (hb : Below w.heap.size w w1) (h : w.heap[g]? = some o) : w1.heap[g]? = some o := (hb.block g (blk_lt h)).trans h
theorem ext_size (s : ByteArray) (a b : Nat) (h : b ≤ s.size) : (s.extract a b).size = b - a := by
  rw [ByteArray.size_extract]
  omega
set_option maxRecDepth 100000 in
set_option maxHeartbeats 8000000 in
theorem text_Fold.calls (a0 : ByteArray) (r : ByteArray) (w : World) (h : text_Fold.f a0 = some r) (hH : Tb w) :
    Calls Tryz.prog 211 #[.string a0] w fun e w' => e = .returned (.string r) ∧ Below w.heap.size w w' := by
  unfold text_Fold.f at h
  split at h
  case isFalse => cases h
  case isTrue hlen =>
  obtain rfl := Option.some.inj h
  have HT := Aside0.mk hH
  have HLEN := Aside0.mk hlen
  have HB := Aside0.mk (Below.refl w.heap.size w)
  clear h hH hlen
  go_enter Tryz.func211, Tryz.ntmps211
  go_wp2_with ((with_reducible refine gate_dst (N := 12) rfl ?_); refine make_bytes w rfl rfl rfl a0.size rfl Tryz.underlying22 info5 (by have := HLEN.out; omega) HB.out ?_; intro v w1 hv hb; have HO := Aside0.mk hv; have HB1 := Aside0.mk hb; clear hv hb HB)
  generalize hkb : w1.heap.size = kb
  have HKB : Aside0 (w.heap.size ≤ kb) := ⟨by rw [← hkb]; exact HB1.out.size⟩
  have HIT : Aside0 ((w1.alloc (.stringIter a0 0)).heap[kb]? = some (.stringIter a0 0)) := ⟨by rw [← hkb]; exact heap_alloc_new w1 _⟩
  have HO0 := Aside0.mk (Kd.R_alloc HO.out (.stringIter a0 0))
  have HB0 := Aside0.mk (below_alloc HB1.out (.stringIter a0 0))
  clear HO HB1 hkb
  go_loopg [3, 4] (a0.size + 1) (fun kq v3 v4 w' => ∃ (pos : Nat) (bl : Bool) (acc : List Int) (f : Nat), v4 = .bool bl ∧ Aside0 (foldGo a0 f pos bl acc = foldGo a0 a0.size 0 false []) ∧ Aside0 (pos ≤ a0.size ∧ a0.size ≤ f + pos ∧ a0.size < kq + pos) ∧ Aside0 (acc.length ≤ 5 * pos) ∧
    Aside0 ((Kd.int .u8).R 5 w' w.heap.size (fun _ => True) v3 acc) ∧ Aside0 (w'.heap[kb]? = some (.stringIter a0 pos)) ∧ Aside0 (Below w.heap.size w w'))
  case atStart => exact ⟨0, false, [], a0.size, rfl, ⟨rfl⟩, ⟨⟨Nat.zero_le _, by omega, by omega⟩⟩, ⟨Nat.zero_le _⟩, HO0, HIT, HB0⟩
  case round =>
    clear HO0 HB0 HIT
    obtain ⟨pos, bl, acc, f, rfl, HF, HI, HA, HO, HIT, HB⟩ := hrel
    cases gk with
    | zero => exact absurd HI.out (by omega)
    | succ g1 =>
      by_cases hp : pos < a0.size
      rotate_left
      · have hnx : ∀ ty, (Instr.next (.pointer (some ⟨kb, 0, none⟩)) true ty).run Tryz.prog wr = _ := fun ty => Lib.run_next_end_at wr kb a0 pos ty HIT.out hp
        have hcv := own_string (P := Tryz.prog) Tryz.underlying22 Tryz.underlying5 Tryz.underlying9 (Kd.own_of_R HO.out)
        have hfe : foldGo a0 a0.size 0 false [] = acc := by
          rw [← HF.out]
          cases f with
          | zero => rfl
          | succ f => rw [foldGo, if_neg hp]
        go_wp2_with fail
        go_ret
        exact ⟨by rw [hfe]; rfl, HB.out⟩
      have hnx0 : ∀ ty, (Instr.next (.pointer (some ⟨kb, 0, none⟩)) true ty).run Tryz.prog wr = _ := fun ty => Lib.run_next_any_at wr kb a0 pos ty HIT.out hp
      obtain ⟨n1, n2, n4⟩ := decode_width a0 pos hp
      have hle := decode_le a0 pos
      obtain ⟨f1, rfl⟩ : ∃ f1, f = f1 + 1 := ⟨f - 1, by have := HI.out; omega⟩
      have hf := HF.out
      rw [foldGo, if_pos hp] at hf
      have hdg : Lib.decodeGo (a0.extract pos a0.size) = Utf8.decode a0 pos := by
        unfold Lib.decodeGo
        rw [if_neg (by rw [Lib.tail_size]; omega), Lib.tail_decode]
        first | done | rfl
      have HO1 := Aside0.mk (R_iter HO.out HIT.out (pos + (Utf8.decode a0 pos).2))
      have HIT1 := Aside0.mk (Lib.iterAt_heap wr kb a0 pos (pos + (Utf8.decode a0 pos).2) HIT.out)
      have HB1 := Aside0.mk (Lib.below_iterAt HB.out HKB.out a0 (pos + (Utf8.decode a0 pos).2))
      have hnx := hnx0
      clear HF HO HIT HB hnx0
      generalize wr.iterAt kb a0 (pos + (Utf8.decode a0 pos).2) = W2 at *
      generalize hc : (Utf8.decode a0 pos).1 = C at *
      generalize hn : (Utf8.decode a0 pos).2 = n at *
      have DG1 : Aside0 ((Lib.decodeGo (a0.extract pos a0.size)).1 = C) := ⟨by rw [hdg]; exact hc⟩
      have DG2 : Aside0 ((Lib.decodeGo (a0.extract pos a0.size)).2 = n) := ⟨by rw [hdg]; exact hn⟩
      have HFF := Aside0.mk hf
      have hw : wrap64 ((pos : Int) + (n : Int)) = (pos : Int) + (n : Int) := by unfold wrap64; have := HLEN.out; omega
      clear hdg hc hn hf
      by_cases h32 : (C : Int) = 32
      · have e1 : ((C : Int) == 32) = true := beq_iff_eq.2 h32
        go_wp2_with fail
        go_roundg g1
        case measure => exact Nat.lt_succ_self _
        case rel => exact ⟨pos + n, true, acc, f1, rfl, ⟨by have := HFF.out; rw [if_pos h32] at this; exact this⟩, ⟨by have := HI.out; omega⟩, ⟨by have := HA.out; omega⟩, HO1, HIT1, HB1⟩
      have e1 : ((C : Int) == 32) = false := by simpa using h32
      have HF2 : Aside0 ((if low (C : Int) = 65533 then foldGo a0 f1 (pos + n) false (foldOut bl acc ++ bytesOf (a0.extract pos (pos + n))) else foldGo a0 f1 (pos + n) false (foldOut bl acc ++ Lib.encodeRuneZ (low (C : Int)))) = foldGo a0 a0.size 0 false []) := ⟨by have := HFF.out; rw [if_neg h32] at this; exact this⟩
      clear HFF
      cases bl with
      | true =>
        obtain ⟨Ao, co, hu⟩ := Kd.R_slice HO1.out
        subst hu
        by_cases hlen : 0 < acc.length
        rotate_left
        · have e2 : decide ((0 : Int) < (acc.length : Int)) = false := decide_eq_false (by omega)
          by_cases u1 : (65 : Int) ≤ (C : Int)
          rotate_left
          · have e3 : decide ((65 : Int) ≤ (C : Int)) = false := decide_eq_false u1
            have e5 : ((C : Int) == 65533) = false := by simp; omega
            have hlo : low (C : Int) = (C : Int) := if_neg (by omega)
            have hfo : foldOut true acc = acc := by simp [foldOut, hlen]
            go_wp2_with fail
            refine (append_rune w (.slice Ao acc.length co) (acc) ((C : Int)) (by omega) (by omega) _ HO1.out (by have := HA.out; have := HLEN.out; omega) HB1.out).mono ?_
            rintro e W5 ⟨v5, rfl, hR5, hb5, hk5⟩
            have HO5 := Aside0.mk hR5
            have HB5 := Aside0.mk hb5
            have HIT5 := Aside0.mk (hk5 kb _ HIT1.out (iter_ne HO1.out HIT1.out))
            clear hR5 hb5 hk5
            go_wp2_with fail
            go_roundg g1
            case measure => exact Nat.lt_succ_self _
            case rel => exact ⟨pos + n, false, (acc) ++ Lib.encodeRuneZ ((C : Int)), f1, rfl, ⟨by have := HF2.out; rw [if_neg (by rw [hlo]; omega), hfo, hlo] at this; exact this⟩, ⟨by have := HI.out; omega⟩, ⟨by rw [List.length_append]; have := encodeRuneZ_len ((C : Int)); have := HA.out; omega⟩, HO5, HIT5, HB5⟩
          have e3 : decide ((65 : Int) ≤ (C : Int)) = true := decide_eq_true u1
          by_cases u2 : (C : Int) ≤ 90
          · have e4 : decide ((C : Int) ≤ 90) = true := decide_eq_true u2
            have e5 : ((C : Int) + 32 == 65533) = false := by simp; omega
            have hlo : low (C : Int) = (C : Int) + 32 := if_pos ⟨u1, u2⟩
            have hfo : foldOut true acc = acc := by simp [foldOut, hlen]
            go_wp2_with fail
            refine (append_rune w (.slice Ao acc.length co) (acc) ((C : Int) + 32) (by omega) (by omega) _ HO1.out (by have := HA.out; have := HLEN.out; omega) HB1.out).mono ?_
            rintro e W5 ⟨v5, rfl, hR5, hb5, hk5⟩
            have HO5 := Aside0.mk hR5
            have HB5 := Aside0.mk hb5
            have HIT5 := Aside0.mk (hk5 kb _ HIT1.out (iter_ne HO1.out HIT1.out))
            clear hR5 hb5 hk5
            go_wp2_with fail
            go_roundg g1
            case measure => exact Nat.lt_succ_self _
            case rel => exact ⟨pos + n, false, (acc) ++ Lib.encodeRuneZ ((C : Int) + 32), f1, rfl, ⟨by have := HF2.out; rw [if_neg (by rw [hlo]; omega), hfo, hlo] at this; exact this⟩, ⟨by have := HI.out; omega⟩, ⟨by rw [List.length_append]; have := encodeRuneZ_len ((C : Int) + 32); have := HA.out; omega⟩, HO5, HIT5, HB5⟩
          have e4 : decide ((C : Int) ≤ 90) = false := decide_eq_false u2
          have hl0 : low (C : Int) = (C : Int) := if_neg (by omega)
          by_cases u3_ : (C : Int) = 65533
          rotate_left
          · have e5 : ((C : Int) == 65533) = false := by simpa using u3_
            have hlo : low (C : Int) = (C : Int) := hl0
            have hfo : foldOut true acc = acc := by simp [foldOut, hlen]
            go_wp2_with fail
            refine (append_rune w (.slice Ao acc.length co) (acc) ((C : Int)) (by omega) (by omega) _ HO1.out (by have := HA.out; have := HLEN.out; omega) HB1.out).mono ?_
            rintro e W5 ⟨v5, rfl, hR5, hb5, hk5⟩
            have HO5 := Aside0.mk hR5
            have HB5 := Aside0.mk hb5
            have HIT5 := Aside0.mk (hk5 kb _ HIT1.out (iter_ne HO1.out HIT1.out))
            clear hR5 hb5 hk5
            go_wp2_with fail
            go_roundg g1
            case measure => exact Nat.lt_succ_self _
            case rel => exact ⟨pos + n, false, (acc) ++ Lib.encodeRuneZ ((C : Int)), f1, rfl, ⟨by have := HF2.out; rw [if_neg (by rw [hlo]; omega), hfo, hlo] at this; exact this⟩, ⟨by have := HI.out; omega⟩, ⟨by rw [List.length_append]; have := encodeRuneZ_len ((C : Int)); have := HA.out; omega⟩, HO5, HIT5, HB5⟩
          have e5 : ((C : Int) == 65533) = true := beq_iff_eq.2 u3_
          have hlo : low (C : Int) = 65533 := hl0.trans u3_
          have hfo : foldOut true acc = acc := by simp [foldOut, hlen]
          go_wp2_with fail
          refine (Tryz.utf8_DecodeRuneInString (a0.extract pos a0.size) _ (HT.out.below HB1.out).utf).mono ?_
          rintro e W5 ⟨rfl, hb5⟩
          rw [DG1.out, DG2.out]
          have HO5 := Aside0.mk (Kd.R_below HO1.out hb5)
          have HIT5 := Aside0.mk (keep_blk hb5 HIT1.out)
          have HB5 := Aside0.mk (below_step HB1.out hb5)
          clear hb5
          have hsl : (Instr.slice 9 (.string a0) (some (.int .i64 (pos : Int))) (some (.int .i64 ((pos : Int) + (n : Int)))) none).run Tryz.prog W5 = .ok (.string (a0.extract pos (pos + n))) W5 := by
            have := run_slice_string (P := Tryz.prog) W5 9 a0 .i64 .i64 (pos : Int) ((pos : Int) + (n : Int)) Tryz.underlying9 (by omega) (by omega) (by omega)
            rwa [Int.toNat_natCast, show ((pos : Int) + (n : Int)).toNat = pos + n by omega] at this
          go_wp2_with ((with_reducible refine gate_builtin (b := .append) (xs := #[.tmp 48, .tmp 54]) rfl ?_); at_builtin; refine print_append_str (w0 := w) w.heap.size rfl (.tmp 48) (.tmp 54) 22 9 5 rfl Tryz.underlying22 Tryz.underlying9 info5 (.slice Ao acc.length co) (acc) (a0.extract pos (pos + n)) rfl ?sx ?sO ?sB ?sS ?sL ?_; (case sx => rfl); (case sO => exact Kd.own_of_R HO5.out); (case sB => exact HB5.out); (case sS => exact below_size HB5.out); (case sL => have hz := ext_size a0 pos (pos + n) n2; have := HA.out; have := HLEN.out; omega); intro v6 W6 ho hb hgr; have HO6 : Aside0 ((Kd.int .u8).R 5 W6 w.heap.size (fun _ => True) v6 ((acc) ++ bytesOf (a0.extract pos (pos + n)))) := ⟨Kd.R_of_own ho (fun _ _ => trivial)⟩; have HB6 := Aside0.mk hb; have HIT6 := Aside0.mk (blk_grown HIT5.out hgr (iter_ne HO5.out HIT5.out)); clear ho hb hgr)
          go_roundg g1
          case measure => exact Nat.lt_succ_self _
          case rel => exact ⟨pos + n, false, (acc) ++ bytesOf (a0.extract pos (pos + n)), f1, rfl, ⟨by have := HF2.out; rw [if_pos hlo, hfo] at this; exact this⟩, ⟨by have := HI.out; omega⟩, ⟨by rw [List.length_append, bytesOf_length, ext_size a0 pos (pos + n) n2]; have := HA.out; omega⟩, HO6, HIT6, HB6⟩
        have e2 : decide ((0 : Int) < (acc.length : Int)) = true := decide_eq_true (by omega)
        by_cases u1 : (65 : Int) ≤ (C : Int)
        rotate_left
        · have e3 : decide ((65 : Int) ≤ (C : Int)) = false := decide_eq_false u1
          have e5 : ((C : Int) == 65533) = false := by simp; omega
          have hlo : low (C : Int) = (C : Int) := if_neg (by omega)
          have hfo : foldOut true acc = acc ++ [32] := by simp [foldOut, hlen]
          go_wp2_with (first | ((with_reducible refine gate_builtin (b := .append) (xs := #[.tmp 28, .tmp 29]) rfl ?_); at_builtin; refine Kd.R_append (Kd.int .u8) (w0 := w) w.heap.size rfl (.tmp 28) (.tmp 29) 22 5 (.int .u8 0) 1 rfl Tryz.underlying22 info5 rfl (by decide) (by omega) (.slice Ao acc.length co) acc 32 [.int .u8 32] (fun _ => True) (fun _ => False) rfl rfl ?aP (fun _ hk => hk.elim) ?aF ?aO ?aB ?aS ?aL ?_; (case aP => exact rfl); (case aF => exact (fun _ _ => trivial)); (case aO => exact HO1.out); (case aB => exact HB1.out); (case aS => exact (below_size HB1.out)); (case aL => have := HA.out; have := HLEN.out; omega); intro v2 W3 ho hb hgr hat; have HO2 := Aside0.mk ho; have HB2 := Aside0.mk hb; have HIT2 := Aside0.mk (blk_grown HIT1.out hgr (iter_ne HO1.out HIT1.out)); clear ho hb hgr hat))
          refine (append_rune w v2 (acc ++ [32]) ((C : Int)) (by omega) (by omega) _ HO2.out (by rw [List.length_append, List.length_singleton]; have := HA.out; have := HLEN.out; omega) HB2.out).mono ?_
          rintro e W5 ⟨v5, rfl, hR5, hb5, hk5⟩
          have HO5 := Aside0.mk hR5
          have HB5 := Aside0.mk hb5
          have HIT5 := Aside0.mk (hk5 kb _ HIT2.out (iter_ne HO2.out HIT2.out))
          clear hR5 hb5 hk5
          go_wp2_with fail
          go_roundg g1
          case measure => exact Nat.lt_succ_self _
          case rel => exact ⟨pos + n, false, (acc ++ [32]) ++ Lib.encodeRuneZ ((C : Int)), f1, rfl, ⟨by have := HF2.out; rw [if_neg (by rw [hlo]; omega), hfo, hlo] at this; exact this⟩, ⟨by have := HI.out; omega⟩, ⟨by rw [List.length_append]; rw [List.length_append, List.length_singleton]; have := encodeRuneZ_len ((C : Int)); have := HA.out; omega⟩, HO5, HIT5, HB5⟩
        have e3 : decide ((65 : Int) ≤ (C : Int)) = true := decide_eq_true u1
        by_cases u2 : (C : Int) ≤ 90
        · have e4 : decide ((C : Int) ≤ 90) = true := decide_eq_true u2
          have e5 : ((C : Int) + 32 == 65533) = false := by simp; omega
          have hlo : low (C : Int) = (C : Int) + 32 := if_pos ⟨u1, u2⟩
          have hfo : foldOut true acc = acc ++ [32] := by simp [foldOut, hlen]
          go_wp2_with (first | ((with_reducible refine gate_builtin (b := .append) (xs := #[.tmp 28, .tmp 29]) rfl ?_); at_builtin; refine Kd.R_append (Kd.int .u8) (w0 := w) w.heap.size rfl (.tmp 28) (.tmp 29) 22 5 (.int .u8 0) 1 rfl Tryz.underlying22 info5 rfl (by decide) (by omega) (.slice Ao acc.length co) acc 32 [.int .u8 32] (fun _ => True) (fun _ => False) rfl rfl ?aP (fun _ hk => hk.elim) ?aF ?aO ?aB ?aS ?aL ?_; (case aP => exact rfl); (case aF => exact (fun _ _ => trivial)); (case aO => exact HO1.out); (case aB => exact HB1.out); (case aS => exact (below_size HB1.out)); (case aL => have := HA.out; have := HLEN.out; omega); intro v2 W3 ho hb hgr hat; have HO2 := Aside0.mk ho; have HB2 := Aside0.mk hb; have HIT2 := Aside0.mk (blk_grown HIT1.out hgr (iter_ne HO1.out HIT1.out)); clear ho hb hgr hat))
          refine (append_rune w v2 (acc ++ [32]) ((C : Int) + 32) (by omega) (by omega) _ HO2.out (by rw [List.length_append, List.length_singleton]; have := HA.out; have := HLEN.out; omega) HB2.out).mono ?_
          rintro e W5 ⟨v5, rfl, hR5, hb5, hk5⟩
          have HO5 := Aside0.mk hR5
          have HB5 := Aside0.mk hb5
          have HIT5 := Aside0.mk (hk5 kb _ HIT2.out (iter_ne HO2.out HIT2.out))
          clear hR5 hb5 hk5
          go_wp2_with fail
          go_roundg g1
          case measure => exact Nat.lt_succ_self _
          case rel => exact ⟨pos + n, false, (acc ++ [32]) ++ Lib.encodeRuneZ ((C : Int) + 32), f1, rfl, ⟨by have := HF2.out; rw [if_neg (by rw [hlo]; omega), hfo, hlo] at this; exact this⟩, ⟨by have := HI.out; omega⟩, ⟨by rw [List.length_append]; rw [List.length_append, List.length_singleton]; have := encodeRuneZ_len ((C : Int) + 32); have := HA.out; omega⟩, HO5, HIT5, HB5⟩
        have e4 : decide ((C : Int) ≤ 90) = false := decide_eq_false u2
        have hl0 : low (C : Int) = (C : Int) := if_neg (by omega)
        by_cases u3_ : (C : Int) = 65533
        rotate_left
        · have e5 : ((C : Int) == 65533) = false := by simpa using u3_
          have hlo : low (C : Int) = (C : Int) := hl0
          have hfo : foldOut true acc = acc ++ [32] := by simp [foldOut, hlen]
          go_wp2_with (first | ((with_reducible refine gate_builtin (b := .append) (xs := #[.tmp 28, .tmp 29]) rfl ?_); at_builtin; refine Kd.R_append (Kd.int .u8) (w0 := w) w.heap.size rfl (.tmp 28) (.tmp 29) 22 5 (.int .u8 0) 1 rfl Tryz.underlying22 info5 rfl (by decide) (by omega) (.slice Ao acc.length co) acc 32 [.int .u8 32] (fun _ => True) (fun _ => False) rfl rfl ?aP (fun _ hk => hk.elim) ?aF ?aO ?aB ?aS ?aL ?_; (case aP => exact rfl); (case aF => exact (fun _ _ => trivial)); (case aO => exact HO1.out); (case aB => exact HB1.out); (case aS => exact (below_size HB1.out)); (case aL => have := HA.out; have := HLEN.out; omega); intro v2 W3 ho hb hgr hat; have HO2 := Aside0.mk ho; have HB2 := Aside0.mk hb; have HIT2 := Aside0.mk (blk_grown HIT1.out hgr (iter_ne HO1.out HIT1.out)); clear ho hb hgr hat))
          refine (append_rune w v2 (acc ++ [32]) ((C : Int)) (by omega) (by omega) _ HO2.out (by rw [List.length_append, List.length_singleton]; have := HA.out; have := HLEN.out; omega) HB2.out).mono ?_
          rintro e W5 ⟨v5, rfl, hR5, hb5, hk5⟩
          have HO5 := Aside0.mk hR5
          have HB5 := Aside0.mk hb5
          have HIT5 := Aside0.mk (hk5 kb _ HIT2.out (iter_ne HO2.out HIT2.out))
          clear hR5 hb5 hk5
          go_wp2_with fail
          go_roundg g1
          case measure => exact Nat.lt_succ_self _
          case rel => exact ⟨pos + n, false, (acc ++ [32]) ++ Lib.encodeRuneZ ((C : Int)), f1, rfl, ⟨by have := HF2.out; rw [if_neg (by rw [hlo]; omega), hfo, hlo] at this; exact this⟩, ⟨by have := HI.out; omega⟩, ⟨by rw [List.length_append]; rw [List.length_append, List.length_singleton]; have := encodeRuneZ_len ((C : Int)); have := HA.out; omega⟩, HO5, HIT5, HB5⟩
        have e5 : ((C : Int) == 65533) = true := beq_iff_eq.2 u3_
        have hlo : low (C : Int) = 65533 := hl0.trans u3_
        have hfo : foldOut true acc = acc ++ [32] := by simp [foldOut, hlen]
        go_wp2_with (first | ((with_reducible refine gate_builtin (b := .append) (xs := #[.tmp 28, .tmp 29]) rfl ?_); at_builtin; refine Kd.R_append (Kd.int .u8) (w0 := w) w.heap.size rfl (.tmp 28) (.tmp 29) 22 5 (.int .u8 0) 1 rfl Tryz.underlying22 info5 rfl (by decide) (by omega) (.slice Ao acc.length co) acc 32 [.int .u8 32] (fun _ => True) (fun _ => False) rfl rfl ?aP (fun _ hk => hk.elim) ?aF ?aO ?aB ?aS ?aL ?_; (case aP => exact rfl); (case aF => exact (fun _ _ => trivial)); (case aO => exact HO1.out); (case aB => exact HB1.out); (case aS => exact (below_size HB1.out)); (case aL => have := HA.out; have := HLEN.out; omega); intro v2 W3 ho hb hgr hat; have HO2 := Aside0.mk ho; have HB2 := Aside0.mk hb; have HIT2 := Aside0.mk (blk_grown HIT1.out hgr (iter_ne HO1.out HIT1.out)); clear ho hb hgr hat))
        refine (Tryz.utf8_DecodeRuneInString (a0.extract pos a0.size) _ (HT.out.below HB2.out).utf).mono ?_
        rintro e W5 ⟨rfl, hb5⟩
        rw [DG1.out, DG2.out]
        have HO5 := Aside0.mk (Kd.R_below HO2.out hb5)
        have HIT5 := Aside0.mk (keep_blk hb5 HIT2.out)
        have HB5 := Aside0.mk (below_step HB2.out hb5)
        clear hb5
        have hsl : (Instr.slice 9 (.string a0) (some (.int .i64 (pos : Int))) (some (.int .i64 ((pos : Int) + (n : Int)))) none).run Tryz.prog W5 = .ok (.string (a0.extract pos (pos + n))) W5 := by
          have := run_slice_string (P := Tryz.prog) W5 9 a0 .i64 .i64 (pos : Int) ((pos : Int) + (n : Int)) Tryz.underlying9 (by omega) (by omega) (by omega)
          rwa [Int.toNat_natCast, show ((pos : Int) + (n : Int)).toNat = pos + n by omega] at this
        go_wp2_with ((with_reducible refine gate_builtin (b := .append) (xs := #[.tmp 48, .tmp 54]) rfl ?_); at_builtin; refine print_append_str (w0 := w) w.heap.size rfl (.tmp 48) (.tmp 54) 22 9 5 rfl Tryz.underlying22 Tryz.underlying9 info5 v2 (acc ++ [32]) (a0.extract pos (pos + n)) rfl ?sx ?sO ?sB ?sS ?sL ?_; (case sx => rfl); (case sO => exact Kd.own_of_R HO5.out); (case sB => exact HB5.out); (case sS => exact below_size HB5.out); (case sL => have hz := ext_size a0 pos (pos + n) n2; rw [List.length_append, List.length_singleton]; have := HA.out; have := HLEN.out; omega); intro v6 W6 ho hb hgr; have HO6 : Aside0 ((Kd.int .u8).R 5 W6 w.heap.size (fun _ => True) v6 ((acc ++ [32]) ++ bytesOf (a0.extract pos (pos + n)))) := ⟨Kd.R_of_own ho (fun _ _ => trivial)⟩; have HB6 := Aside0.mk hb; have HIT6 := Aside0.mk (blk_grown HIT5.out hgr (iter_ne HO5.out HIT5.out)); clear ho hb hgr)
        go_roundg g1
        case measure => exact Nat.lt_succ_self _
        case rel => exact ⟨pos + n, false, (acc ++ [32]) ++ bytesOf (a0.extract pos (pos + n)), f1, rfl, ⟨by have := HF2.out; rw [if_pos hlo, hfo] at this; exact this⟩, ⟨by have := HI.out; omega⟩, ⟨by rw [List.length_append, bytesOf_length, ext_size a0 pos (pos + n) n2]; rw [List.length_append, List.length_singleton]; have := HA.out; omega⟩, HO6, HIT6, HB6⟩
      | false =>
        by_cases u1 : (65 : Int) ≤ (C : Int)
        rotate_left
        · have e3 : decide ((65 : Int) ≤ (C : Int)) = false := decide_eq_false u1
          have e5 : ((C : Int) == 65533) = false := by simp; omega
          have hlo : low (C : Int) = (C : Int) := if_neg (by omega)
          have hfo : foldOut false acc = acc := by simp [foldOut]
          go_wp2_with fail
          refine (append_rune w u3 (acc) ((C : Int)) (by omega) (by omega) _ HO1.out (by have := HA.out; have := HLEN.out; omega) HB1.out).mono ?_
          rintro e W5 ⟨v5, rfl, hR5, hb5, hk5⟩
          have HO5 := Aside0.mk hR5
          have HB5 := Aside0.mk hb5
          have HIT5 := Aside0.mk (hk5 kb _ HIT1.out (iter_ne HO1.out HIT1.out))
          clear hR5 hb5 hk5
          go_wp2_with fail
          go_roundg g1
          case measure => exact Nat.lt_succ_self _
          case rel => exact ⟨pos + n, false, (acc) ++ Lib.encodeRuneZ ((C : Int)), f1, rfl, ⟨by have := HF2.out; rw [if_neg (by rw [hlo]; omega), hfo, hlo] at this; exact this⟩, ⟨by have := HI.out; omega⟩, ⟨by rw [List.length_append]; have := encodeRuneZ_len ((C : Int)); have := HA.out; omega⟩, HO5, HIT5, HB5⟩
        have e3 : decide ((65 : Int) ≤ (C : Int)) = true := decide_eq_true u1
        by_cases u2 : (C : Int) ≤ 90
        · have e4 : decide ((C : Int) ≤ 90) = true := decide_eq_true u2
          have e5 : ((C : Int) + 32 == 65533) = false := by simp; omega
          have hlo : low (C : Int) = (C : Int) + 32 := if_pos ⟨u1, u2⟩
          have hfo : foldOut false acc = acc := by simp [foldOut]
          go_wp2_with fail
          refine (append_rune w u3 (acc) ((C : Int) + 32) (by omega) (by omega) _ HO1.out (by have := HA.out; have := HLEN.out; omega) HB1.out).mono ?_
          rintro e W5 ⟨v5, rfl, hR5, hb5, hk5⟩
          have HO5 := Aside0.mk hR5
          have HB5 := Aside0.mk hb5
          have HIT5 := Aside0.mk (hk5 kb _ HIT1.out (iter_ne HO1.out HIT1.out))
          clear hR5 hb5 hk5
          go_wp2_with fail
          go_roundg g1
          case measure => exact Nat.lt_succ_self _
          case rel => exact ⟨pos + n, false, (acc) ++ Lib.encodeRuneZ ((C : Int) + 32), f1, rfl, ⟨by have := HF2.out; rw [if_neg (by rw [hlo]; omega), hfo, hlo] at this; exact this⟩, ⟨by have := HI.out; omega⟩, ⟨by rw [List.length_append]; have := encodeRuneZ_len ((C : Int) + 32); have := HA.out; omega⟩, HO5, HIT5, HB5⟩
        have e4 : decide ((C : Int) ≤ 90) = false := decide_eq_false u2
        have hl0 : low (C : Int) = (C : Int) := if_neg (by omega)
        by_cases u3_ : (C : Int) = 65533
        rotate_left
        · have e5 : ((C : Int) == 65533) = false := by simpa using u3_
          have hlo : low (C : Int) = (C : Int) := hl0
          have hfo : foldOut false acc = acc := by simp [foldOut]
          go_wp2_with fail
          refine (append_rune w u3 (acc) ((C : Int)) (by omega) (by omega) _ HO1.out (by have := HA.out; have := HLEN.out; omega) HB1.out).mono ?_
          rintro e W5 ⟨v5, rfl, hR5, hb5, hk5⟩
          have HO5 := Aside0.mk hR5
          have HB5 := Aside0.mk hb5
          have HIT5 := Aside0.mk (hk5 kb _ HIT1.out (iter_ne HO1.out HIT1.out))
          clear hR5 hb5 hk5
          go_wp2_with fail
          go_roundg g1
          case measure => exact Nat.lt_succ_self _
          case rel => exact ⟨pos + n, false, (acc) ++ Lib.encodeRuneZ ((C : Int)), f1, rfl, ⟨by have := HF2.out; rw [if_neg (by rw [hlo]; omega), hfo, hlo] at this; exact this⟩, ⟨by have := HI.out; omega⟩, ⟨by rw [List.length_append]; have := encodeRuneZ_len ((C : Int)); have := HA.out; omega⟩, HO5, HIT5, HB5⟩
        have e5 : ((C : Int) == 65533) = true := beq_iff_eq.2 u3_
        have hlo : low (C : Int) = 65533 := hl0.trans u3_
        have hfo : foldOut false acc = acc := by simp [foldOut]
        go_wp2_with fail
        refine (Tryz.utf8_DecodeRuneInString (a0.extract pos a0.size) _ (HT.out.below HB1.out).utf).mono ?_
        rintro e W5 ⟨rfl, hb5⟩
        rw [DG1.out, DG2.out]
        have HO5 := Aside0.mk (Kd.R_below HO1.out hb5)
        have HIT5 := Aside0.mk (keep_blk hb5 HIT1.out)
        have HB5 := Aside0.mk (below_step HB1.out hb5)
        clear hb5
        have hsl : (Instr.slice 9 (.string a0) (some (.int .i64 (pos : Int))) (some (.int .i64 ((pos : Int) + (n : Int)))) none).run Tryz.prog W5 = .ok (.string (a0.extract pos (pos + n))) W5 := by
          have := run_slice_string (P := Tryz.prog) W5 9 a0 .i64 .i64 (pos : Int) ((pos : Int) + (n : Int)) Tryz.underlying9 (by omega) (by omega) (by omega)
          rwa [Int.toNat_natCast, show ((pos : Int) + (n : Int)).toNat = pos + n by omega] at this
        go_wp2_with ((with_reducible refine gate_builtin (b := .append) (xs := #[.tmp 48, .tmp 54]) rfl ?_); at_builtin; refine print_append_str (w0 := w) w.heap.size rfl (.tmp 48) (.tmp 54) 22 9 5 rfl Tryz.underlying22 Tryz.underlying9 info5 u3 (acc) (a0.extract pos (pos + n)) rfl ?sx ?sO ?sB ?sS ?sL ?_; (case sx => rfl); (case sO => exact Kd.own_of_R HO5.out); (case sB => exact HB5.out); (case sS => exact below_size HB5.out); (case sL => have hz := ext_size a0 pos (pos + n) n2; have := HA.out; have := HLEN.out; omega); intro v6 W6 ho hb hgr; have HO6 : Aside0 ((Kd.int .u8).R 5 W6 w.heap.size (fun _ => True) v6 ((acc) ++ bytesOf (a0.extract pos (pos + n)))) := ⟨Kd.R_of_own ho (fun _ _ => trivial)⟩; have HB6 := Aside0.mk hb; have HIT6 := Aside0.mk (blk_grown HIT5.out hgr (iter_ne HO5.out HIT5.out)); clear ho hb hgr)
        go_roundg g1
        case measure => exact Nat.lt_succ_self _
        case rel => exact ⟨pos + n, false, (acc) ++ bytesOf (a0.extract pos (pos + n)), f1, rfl, ⟨by have := HF2.out; rw [if_pos hlo, hfo] at this; exact this⟩, ⟨by have := HI.out; omega⟩, ⟨by rw [List.length_append, bytesOf_length, ext_size a0 pos (pos + n) n2]; have := HA.out; omega⟩, HO6, HIT6, HB6⟩
end Go.Proofs.YtkioddjjfifadaaGreatDoor.P
namespace Go.Proofs.YtkioddjjfifadaaGreatDoor.P
open Go.RowKit Go.Proofs.YtkioddjjfifadaaGreatDoorW.PrintWords Go.Proofs.YtkioddjjfifadaaGreatDoorW.PrintLast Go.Proofs.YtkioddjjfifadaaGreatDoorW.PrintMore
attribute [local go_sem] max2_int min2_int max_two min_two max_three min_three max_four min_four
set_option linter.unusedVariables false
set_option linter.unusedSimpArgs false
def text_Key.f (k : Nat) (a0 : Int) (l1 : List Int) : Option (ByteArray) := (text_Text.f k a0 l1).bind fun bt666 => (if bt666.2 = 0 then ((text_Fold.f bt666.1).bind fun t668 => (if 1 + t668.size ≤ 9223372036854775807 then (some ((⟨#[61]⟩ : ByteArray) ++ t668)) else (none))) else ((strconv_Itoa.f a0).bind fun t669 => (if 1 + t669.size ≤ 9223372036854775807 then (if ((⟨#[35]⟩ : ByteArray) ++ t669).size + 1 ≤ 9223372036854775807 then (if (((⟨#[35]⟩ : ByteArray) ++ t669) ++ (⟨#[58]⟩ : ByteArray)).size + (strOfNums l1).size ≤ 9223372036854775807 then (some ((((⟨#[35]⟩ : ByteArray) ++ t669) ++ (⟨#[58]⟩ : ByteArray)) ++ (strOfNums l1))) else (none)) else (none)) else (none))))
theorem text_Key.mono : ∀ a0 a1 k, LeO (text_Key.f k a0 a1) (text_Key.f (k + 1) a0 a1) := by
  intro a0 a1 k
  unfold text_Key.f
  repeat' first
      | (with_reducible exact text_Text.mono _ _ _)
      | (with_reducible exact LeO.refl _)
      | (with_reducible exact LeO.none _)
      | (with_reducible refine LeO.ite ?_ ?_)
      | (with_reducible refine LeO.bind ?_ (fun _ => ?_))
      | exact text_Text.mono _ _ _
      | exact LeO.none _
      | refine LeO.ite ?_ ?_
      | refine LeO.bind ?_ (fun _ => ?_)
def text_Key.T3 : Bool × List (List Nat × List Nat) := (true, [([], []), ([0], [0]), ([1], [1]), ([2], [2]), ([], []), ([4], [4]), ([3, 5], [3, 5]), ([6, 1, 0, 1, 2, 3, 4, 5, 6], [6])])
def text_Key.B3 : List Nat := [0, 1, 3, 7, 0, 16, 63, 127]
theorem text_Key.tab3 : rtab .any (opsOf Tryz.f159 3) = text_Key.T3 := by kernel_rfl
theorem text_Key.bits3 : waitsOk text_Key.T3.2 text_Key.B3 = true := by kernel_rfl
set_option maxHeartbeats 8000000 in
set_option maxRecDepth 100000 in
theorem text_Key.calls (k : Nat) (a0 : Int) (A1 : Option Addr) (c1 : Nat) (l1 : List Int) (r : ByteArray) (w : World) (hr1 : Kd.C (Kd.int .u8) w A1 l1.length l1) (hc1 : l1.length ≤ c1) (h : text_Key.f k a0 l1 = some r) (hH : Tb w) :
    Calls Tryz.prog 159 #[.int .i64 a0, .slice A1 l1.length c1] w fun e w' => e = .returned (.string r) ∧ Below w.heap.size w w' := by
  have HR1 := Aside0.mk hr1
  have HC1 := Aside0.mk hc1
  clear hr1 hc1
  have HB := Aside0.mk (Below.refl w.heap.size w)
  have HHd := Aside0.mk hH
  clear hH
  have H : ((text_Text.f k a0 l1).bind fun bt666 => (if bt666.2 = 0 then ((text_Fold.f bt666.1).bind fun t668 => (if 1 + t668.size ≤ 9223372036854775807 then (some ((⟨#[61]⟩ : ByteArray) ++ t668)) else (none))) else ((strconv_Itoa.f a0).bind fun t669 => (if 1 + t669.size ≤ 9223372036854775807 then (if ((⟨#[35]⟩ : ByteArray) ++ t669).size + 1 ≤ 9223372036854775807 then (if (((⟨#[35]⟩ : ByteArray) ++ t669) ++ (⟨#[58]⟩ : ByteArray)).size + (strOfNums l1).size ≤ 9223372036854775807 then (some ((((⟨#[35]⟩ : ByteArray) ++ t669) ++ (⟨#[58]⟩ : ByteArray)) ++ (strOfNums l1))) else (none)) else (none)) else (none))))) = some r := h
  clear h
  replace H := Option.bind_eq_some_iff.mp H
  obtain ⟨⟨t666, t667⟩, A30, H⟩ := H
  try dsimp only at H
  have A3 := Aside0.mk A30
  clear A30
  by_cases c4 : t667 = 0
  · rw [if_pos c4] at H
    have c4b0 : (t667 == 0) = true := beq_iff_eq.mpr c4
    have c4b1 : (t667 != 0) = false := bne_eq_false_iff_eq.mpr c4
    clear c4
    replace H := Option.bind_eq_some_iff.mp H
    obtain ⟨t668, A50, H⟩ := H
    try dsimp only at H
    have A5 := Aside0.mk A50
    clear A50
    by_cases c6 : 1 + t668.size ≤ 9223372036854775807
    rotate_left
    · rw [if_neg c6] at H
      exact absurd H (by simp)
    rw [if_pos c6] at H
    have c6b0 := eq_true c6
    have c6b1 : decide (1 + t668.size ≤ 9223372036854775807) = true := decide_eq_true c6
    try have c6b2 : (9223372036854775807 < 1 + t668.size) = False := eq_false (Nat.not_lt.2 c6)
    obtain rfl := Option.some.inj H
    go_enter Tryz.func159, Tryz.ntmps159
    go_wp2_with (first | ((with_reducible refine gate_callee (f := 153) rfl ?_); refine goesL_ (some 10) rfl rfl Tryz.func153 (by kernel_rfl) rfl #[.int .i64 a0, .slice A1 l1.length c1] rfl (by (try simp only [List.map_toArray, List.map_cons, List.map_nil]); first | done | rfl | (simp only [List.length_drop, List.length_take]; rfl)) ?_; (with_reducible refine (text_Text.calls k a0 _ _ l1 t666 t667 _ ?side1 ?side2 A3.out (Tb.below HHd.out (bU HB.out))).mono ?_); (case side1 => exact Kd.C_u HR1.out); (case side2 => exact HC1.out); rintro e w7 ⟨rfl, hb⟩; refine ⟨_, rfl, ?_⟩; have n0_ := Aside0.mk (below_step (bU HB.out) hb); replace HB := n0_; clear n0_; (try clear hb); (try clear hb2); (try clear hk); (try clear hi)) | ((with_reducible refine gate_callee (f := 211) rfl ?_); refine goesL_ (some 23) rfl rfl Tryz.func211 (by kernel_rfl) rfl #[.string t666] rfl (by (try simp only [List.map_toArray, List.map_cons, List.map_nil]); first | done | rfl | (simp only [List.length_drop, List.length_take]; rfl)) ?_; (with_reducible refine (text_Fold.calls t666 t668 _ A5.out (Tb.below HHd.out (bU HB.out))).mono ?_); rintro e w8 ⟨rfl, hb⟩; refine ⟨_, rfl, ?_⟩; have n0_ := Aside0.mk (below_step (bU HB.out) hb); replace HB := n0_; clear n0_; (try clear hb); (try clear hb2); (try clear hk); (try clear hi)))
    go_ret
    exact ⟨by first | rfl | (simp [errW_none, errW_some] <;> rfl), bU HB.out⟩
  rw [if_neg c4] at H
  have c4b0 : (t667 == 0) = false := beq_eq_false_iff_ne.mpr c4
  have c4b1 : (t667 != 0) = true := bne_iff_ne.mpr c4
  replace H := Option.bind_eq_some_iff.mp H
  obtain ⟨t669, A90, H⟩ := H
  try dsimp only at H
  have A9 := Aside0.mk A90
  clear A90
  by_cases c10 : 1 + t669.size ≤ 9223372036854775807
  rotate_left
  · rw [if_neg c10] at H
    exact absurd H (by simp)
  rw [if_pos c10] at H
  have c10b0 := eq_true c10
  have c10b1 : decide (1 + t669.size ≤ 9223372036854775807) = true := decide_eq_true c10
  try have c10b2 : (9223372036854775807 < 1 + t669.size) = False := eq_false (Nat.not_lt.2 c10)
  by_cases c11 : ((⟨#[35]⟩ : ByteArray) ++ t669).size + 1 ≤ 9223372036854775807
  rotate_left
  · rw [if_neg c11] at H
    exact absurd H (by simp)
  rw [if_pos c11] at H
  have c11b0 := eq_true c11
  have c11b1 : decide (((⟨#[35]⟩ : ByteArray) ++ t669).size + 1 ≤ 9223372036854775807) = true := decide_eq_true c11
  try have c11b2 : (9223372036854775807 < ((⟨#[35]⟩ : ByteArray) ++ t669).size + 1) = False := eq_false (Nat.not_lt.2 c11)
  by_cases c12 : (((⟨#[35]⟩ : ByteArray) ++ t669) ++ (⟨#[58]⟩ : ByteArray)).size + (strOfNums l1).size ≤ 9223372036854775807
  rotate_left
  · rw [if_neg c12] at H
    exact absurd H (by simp)
  rw [if_pos c12] at H
  have c12b0 := eq_true c12
  have c12b1 : decide ((((⟨#[35]⟩ : ByteArray) ++ t669) ++ (⟨#[58]⟩ : ByteArray)).size + (strOfNums l1).size ≤ 9223372036854775807) = true := decide_eq_true c12
  try have c12b2 : (9223372036854775807 < (((⟨#[35]⟩ : ByteArray) ++ t669) ++ (⟨#[58]⟩ : ByteArray)).size + (strOfNums l1).size) = False := eq_false (Nat.not_lt.2 c12)
  have z1 : ((⟨#[35]⟩ : ByteArray) ++ t669).size = 1 + t669.size := by rw [ByteArray.size_append]; rfl
  have z2 : (⟨#[58]⟩ : ByteArray).size = 1 := rfl
  have y1 : (9223372036854775807 < 1 + t669.size + 1) = False := eq_false (by rw [z1] at c11; omega)
  have y2 : (9223372036854775807 < 1 + t669.size + 1 + (strOfNums l1).size) = False := eq_false (by rw [ByteArray.size_append, z1, z2] at c12; omega)
  clear z1 z2
  obtain rfl := Option.some.inj H
  go_enter Tryz.func159, Tryz.ntmps159
  try go_wp2_with (first | ((with_reducible refine gate_callee (f := 153) rfl ?_); refine goesL_ (some 10) rfl rfl Tryz.func153 (by kernel_rfl) rfl #[.int .i64 a0, .slice A1 l1.length c1] rfl (by (try simp only [List.map_toArray, List.map_cons, List.map_nil]); first | done | rfl | (simp only [List.length_drop, List.length_take]; rfl)) ?_; (with_reducible refine (text_Text.calls k a0 _ _ l1 t666 t667 _ ?side1 ?side2 A3.out (Tb.below HHd.out (bU HB.out))).mono ?_); (case side1 => exact Kd.C_u HR1.out); (case side2 => exact HC1.out); rintro e w13 ⟨rfl, hb⟩; refine ⟨_, rfl, ?_⟩; have n0_ := Aside0.mk (below_step (bU HB.out) hb); replace HB := n0_; clear n0_; (try clear hb); (try clear hb2); (try clear hk); (try clear hi)))
  have n0_ := Aside0.mk (below_drew1 HB.out)
  clear HB
  have HB := n0_
  clear n0_
  refine start_ (n := 8) (S := fun w' => (Kd.int .u8).C w' A1 l1.length l1) (ds := []) #[false, false, false, false, false, false, false, false] (by kernel_rfl) rfl rfl (Kd.C_below HR1.out HB.out) (fun hHeld => ?_); refine with_tabW text_Key.tab3 text_Key.bits3 (fun HT_ HW_ => ?_)
  generalize w13.drew = w14 at HB hHeld ⊢
  refine pure_ (i := 0) (N := some 15) (v := ?_) (a' := ?_) #[true, false, false, false, false, false, false, false] rfl rfl (any_of HT_.out (by kernel_rfl)) (fun _ _ _ h => h) (Or.inl ⟨by rfl, ?_⟩) ?_ ?_; rotate_left; (intro w'; go_simp; with_reducible rfl); rotate_left; (simp only [Act.put, List.setIfInBounds_toArray, List.set_cons_zero, List.set_cons_succ, i64_w, i32_w]; rfl)
  refine pure_ (i := 4) (N := some 19) (v := ?_) (a' := ?_) #[true, false, false, false, true, false, false, false] rfl rfl (any_of HT_.out (by kernel_rfl)) (fun _ _ _ h => h) (Or.inl ⟨by rfl, ?_⟩) ?_ ?_; rotate_left; (intro w'; go_simp; with_reducible rfl); rotate_left; (simp only [Act.put, List.setIfInBounds_toArray, List.set_cons_zero, List.set_cons_succ, i64_w, i32_w]; rfl)
  refine take_ (i := 5) (N := some 20) (v := .string (strOfNums l1)) (a' := ?_) #[true, false, false, false, true, true, false, false] rfl rfl (take_ofW HT_.out HW_.out (by kernel_rfl)) (fun _ _ _ h => h) (Or.inl ⟨by rfl, ?_⟩) hHeld ?_ ?_
  · intro w' hw'
    have hcv := Kd.C_string (P := Tryz.prog) (A := A1) (c := c1) Tryz.underlying22 Tryz.underlying5 Tryz.underlying9 hw'
    go_simp
  rotate_left
  · simp only [Act.put, List.setIfInBounds_toArray, List.set_cons_zero, List.set_cons_succ, i64_w, i32_w]
    rfl
  refine one_ (i := 1) (N := some 16) #[true, true, false, false, true, true, false, false] rfl rfl (one_of HT_.out (by kernel_rfl)) (by decide) (fun K hK => ?_)
  refine goes_ Tryz.func160 (by kernel_rfl) rfl #[.int .i64 a0] (by rfl) rfl rfl (by (try simp only [List.map_toArray, List.map_cons, List.map_nil]); first | done | rfl | (simp only [List.length_drop, List.length_take]; rfl)) ?_
  with_reducible refine (strconv_Itoa.calls a0 t669 _ A9.out (Tb.below HHd.out (bU HB.out))).mono ?_
  rintro e w15 ⟨rfl, hb⟩
  refine ⟨_, rfl, ?_⟩
  have n0_ := Aside0.mk (below_step (bU HB.out) hb)
  clear HB
  have HB := n0_
  clear n0_
  (try clear hb)
  (try clear hb2)
  (try clear hk)
  (try clear hi)
  have hcv16 := Kd.C_string (P := Tryz.prog) (A := A1) (c := c1) Tryz.underlying22 Tryz.underlying5 Tryz.underlying9 (Kd.C_below HR1.out HB.out)
  refine hK.out _ _ (Kd.C_below HR1.out HB.out) (fun hHeld => ?_)
  clear hK K
  refine norm_ (a' := ?_) ?_ ?_; rotate_left; (show Act.put _ (some 16) _ = _; simp only [Act.put, List.setIfInBounds_toArray, List.set_cons_zero, List.set_cons_succ, i64_w, i32_w]; rfl)
  refine pure_ (i := 2) (N := some 17) (v := ?_) (a' := ?_) #[true, true, true, false, true, true, false, false] rfl rfl (any_of HT_.out (by kernel_rfl)) (fun _ _ _ h => h) (Or.inl ⟨by rfl, ?_⟩) ?_ ?_; rotate_left; (intro w'; go_simp; with_reducible rfl); rotate_left; (simp only [Act.put, List.setIfInBounds_toArray, List.set_cons_zero, List.set_cons_succ, i64_w, i32_w]; rfl)
  refine pure_ (i := 3) (N := some 18) (v := ?_) (a' := ?_) #[true, true, true, true, true, true, false, false] rfl rfl (any_of HT_.out (by kernel_rfl)) (fun _ _ _ h => h) (Or.inl ⟨by rfl, ?_⟩) ?_ ?_; rotate_left; (intro w'; go_simp; with_reducible rfl); rotate_left; (simp only [Act.put, List.setIfInBounds_toArray, List.set_cons_zero, List.set_cons_succ, i64_w, i32_w]; rfl)
  refine pure_ (i := 6) (N := some 21) (v := ?_) (a' := ?_) #[true, true, true, true, true, true, true, false] rfl rfl (any_of HT_.out (by kernel_rfl)) (fun _ _ _ h => h) (Or.inl ⟨by rfl, ?_⟩) ?_ ?_; rotate_left; (intro w'; go_simp; with_reducible rfl); rotate_left; (simp only [Act.put, List.setIfInBounds_toArray, List.set_cons_zero, List.set_cons_succ, i64_w, i32_w]; rfl)
  refine pure_ (i := 7) (N := some 4) (v := ?_) (a' := ?_) #[true, true, true, true, true, true, true, true] rfl rfl (any_of HT_.out (by kernel_rfl)) (fun _ _ _ h => h) (Or.inl ⟨by rfl, ?_⟩) ?_ ?_; rotate_left; (intro w'; go_simp; with_reducible rfl); rotate_left; (simp only [Act.put, List.setIfInBounds_toArray, List.set_cons_zero, List.set_cons_succ, i64_w, i32_w]; rfl)
  refine done_ (done_of HT_.out (by kernel_rfl)) ?_
  try go_wp2
  go_ret
  exact ⟨by first | rfl | (simp [errW_none, errW_some] <;> rfl), bU HB.out⟩
end Go.Proofs.YtkioddjjfifadaaGreatDoor.P
namespace Go.Proofs.YtkioddjjfifadaaGreatDoor.P
open Go.RowKit Go.Proofs.YtkioddjjfifadaaGreatDoorW.PrintWords Go.Proofs.YtkioddjjfifadaaGreatDoorW.PrintLast Go.Proofs.YtkioddjjfifadaaGreatDoorW.PrintMore
def sortB (xs : List ByteArray) : List ByteArray := ((xs.map fun b => b.data.toList).mergeSort fun x y => decide (x ≤ y)).map fun l => ⟨l.toArray⟩
theorem sortB_len (xs : List ByteArray) : (sortB xs).length = xs.length := by simp [sortB]
def slices_Sort.f (xs : List ByteArray) : Option (List ByteArray) := if xs.length < 4611686018427387904 then some (sortB xs) else none
theorem sort_own (w0 : World) (v : Value) (xs r : List ByteArray) (w : World) (hR : Kd.string.R 9 w w0.heap.size (fun _ => True) v xs) (h0 : Below w0.heap.size w0 w) (h : slices_Sort.f xs = some r) :
    Calls Tryz.prog 161 #[v] w fun e w' => e = .returned (.tuple #[]) ∧ Kd.string.R 9 w' w0.heap.size (fun _ => True) v r ∧ Below w0.heap.size w0 w' := by
  unfold slices_Sort.f at h
  split at h
  case isFalse => cases h
  case isTrue hl =>
  obtain rfl := Option.some.inj h
  have ho := Kd.own_of_R hR
  rcases ho.2 with ⟨rfl, hn⟩ | ⟨g, cap, cur, rfl, hg, hh, hnc, hcm, hsz, htk⟩
  · have hx : xs = [] := List.eq_nil_of_length_eq_zero hn
    subst hx
    refine (Tryz.slices_Sort_string_none none 0 w).mono ?_
    rintro e w' ⟨rfl, rfl⟩
    have hnil : sortB [] = [] := List.eq_nil_of_length_eq_zero (sortB_len [])
    rw [hnil]
    exact ⟨rfl, hR, h0⟩
  have hcur : ∀ j, j < xs.length → cur[j]? = some (Value.string (xs[j]!)) := fun j hj => by
    have h1 : (cur.toList.take (xs.length * 1))[j]? = (encs Value.string xs)[j]? := by rw [htk]
    rw [List.getElem?_take_of_lt (by omega)] at h1
    rw [← Array.getElem?_toList, h1]
    simp [encs, List.getElem?_eq_getElem hj, getElem!_pos xs j hj]
  have hlt : g < w.heap.size := blk_lt hh
  have hH : Go.Sort.Holds Go.Proofs.encStr w g 0 (xs.map fun b => b.data.toList).toArray := fun j hj => by
    have hj' : j < xs.length := by simpa using hj
    refine ⟨?_, blk_frozen hh _⟩
    rw [Nat.zero_add]
    refine (blk_cell hh j).trans ?_
    rw [hcur j hj']
    simp [hj']
  refine (show Calls Tryz.prog 161 #[.slice (some ⟨g, 0, none⟩) xs.length cap] w _ from ?_)
  have hc := Tryz.slices_Sort_string g 0 cap (xs.map fun b => b.data.toList) w hH hlt (by simpa using hl)
  rw [List.length_map] at hc
  refine hc.mono ?_
  rintro e w' ⟨rfl, n, os, rfl⟩
  generalize hss : (((xs.map fun b => b.data.toList).mergeSort fun x y => decide (x ≤ y)) : List (List UInt8)) = ss
  have hsl : ss.length = xs.length := by rw [← hss]; simp
  have hsb : sortB xs = ss.map fun l => ⟨l.toArray⟩ := by rw [← hss]; rfl
  rw [hsb]
  have hgr : w.grownBy (Go.Sort.grow (Go.Sort.putRow Go.Proofs.encStr (Go.Sort.ahead w n) g 0 ss.toArray) os) (some g) := by
    refine ⟨rfl, rfl, rfl, ?_, fun k hk hne => ?_⟩
    · show w.heap.size ≤ ((Go.Sort.putRow Go.Proofs.encStr (Go.Sort.ahead w n) g 0 ss.toArray).heap ++ os).size
      rw [Array.size_append, Go.Sort.size_putRow]
      exact Nat.le_add_right _ _
    show ((Go.Sort.putRow Go.Proofs.encStr (Go.Sort.ahead w n) g 0 ss.toArray).heap ++ os)[k]? = _
    rw [Array.getElem?_append_left (by rw [Go.Sort.size_putRow]; exact hk)]
    show (w.heap.modify g _)[k]? = _
    rw [Array.getElem?_modify, if_neg (fun e => hne (by rw [e]))]
  refine ⟨rfl, Kd.R_of_own ⟨by simp [encs], Or.inr ⟨g, cap, Go.Sort.putCells Go.Proofs.encStr 0 ss.toArray cur, by rw [List.length_map, hsl], hg, ?_, by rw [List.length_map, hsl]; exact hnc, hcm, by simp [Go.Sort.putCells]; simpa using hsz, ?_⟩⟩ (fun _ _ => trivial), pw_below_grown h0 _ h0.size hgr (fun k hk => by injection hk with hk; omega)⟩
  · show ((Go.Sort.putRow Go.Proofs.encStr (Go.Sort.ahead w n) g 0 ss.toArray).heap ++ os)[g]? = _
    rw [Array.getElem?_append_left (by rw [Go.Sort.size_putRow]; exact hlt)]
    show (w.heap.modify g _)[g]? = _
    rw [Array.getElem?_modify, if_pos rfl, hh]
    rfl
  rw [List.length_map, Nat.mul_one]
  apply List.ext_getElem?
  intro j
  by_cases hj : j < ss.length
  rotate_left
  · rw [List.getElem?_eq_none (by rw [List.length_take]; omega), List.getElem?_eq_none (by simp [encs]; omega)]
  rw [List.getElem?_take_of_lt hj, Array.getElem?_toList]
  have hcl : j < cur.size := by omega
  simp [Go.Sort.putCells, hcl, hj, encs]
def strings_Join.f (xs : List ByteArray) (sep : ByteArray) : Option ByteArray :=
  if xs.length ≤ 140737488355328 ∧ (Lib.join (xs.map (·.data.toList)) sep.data.toList).length ≤ 140737488355328 then some ⟨(Lib.join (xs.map (·.data.toList)) sep.data.toList).toArray⟩ else none
theorem strings_Join.calls (A0 : Option Addr) (c0 : Nat) (l0 : List ByteArray) (a1 : ByteArray) (r : ByteArray) (w : World) (hr0 : Kd.C Kd.string w A0 l0.length l0) (hc0 : l0.length ≤ c0) (h : strings_Join.f l0 a1 = some r) :
    Calls Tryz.prog 88 #[.slice A0 l0.length c0, .string a1] w fun e w' => e = .returned (.string r) ∧ Below w.heap.size w w' := by
  unfold strings_Join.f at h
  split at h
  case isFalse => cases h
  case isTrue hl =>
  obtain rfl := Option.some.inj h
  cases l0 with
  | nil =>
    refine (Tryz.strings_Join_none A0 c0 a1 w).mono ?_
    rintro e w' ⟨rfl, rfl⟩
    exact ⟨rfl, Below.refl _ _⟩
  | cons x xs =>
    obtain ⟨ad, rfl, hcell⟩ := hr0.2.2 (by simp)
    have hc1 : ∀ (j : Nat) y, (x :: xs)[j]? = some y → w.cell? (ad.add j) = some (.string y) := fun j y hy => by
      obtain ⟨c, _, hK, hu⟩ := hcell j y hy
      have hK' : c = [Value.string y] := hK
      subst hK'
      have := hu 0 _ rfl
      simpa [Kd.string, Kd.scalar] using this
    obtain ⟨b, o, spot⟩ := ad
    have h0 := hc1 0 x rfl
    have hspot : spot = none := by simpa [Addr.add] using World.cell?_spot h0
    subst hspot
    refine (Tryz.strings_Join b o c0 (x :: xs) a1 w (fun j y hy => by have := hc1 j y hy; rwa [Go.Addr.add_mid] at this) (World.block_lt_of_cell? w _ h0) hl.1 hc0 hl.2).mono ?_
    rintro e w' ⟨rfl, hb⟩
    exact ⟨rfl, hb⟩
end Go.Proofs.YtkioddjjfifadaaGreatDoor.P
namespace Go.Proofs.YtkioddjjfifadaaGreatDoor.P
open Go.RowKit Go.Proofs.YtkioddjjfifadaaGreatDoorW.PrintWords Go.Proofs.YtkioddjjfifadaaGreatDoorW.PrintLast Go.Proofs.YtkioddjjfifadaaGreatDoorW.PrintMore
attribute [local go_sem] max2_int min2_int max_two min_two max_three min_three max_four min_four
set_option linter.unusedVariables false
set_option linter.unusedSimpArgs false
def name_mark.l0 : Nat → List ByteArray → List (S64) → Int → Int → Option (ByteArray)
  | 0, _, _, _, _ => none
  | k + 1, x3, x7, x8, x9 => if x9 < x8 then (if 0 ≤ x9 then (if x9 < (x7.length : Int) then ((text_Key.f k ((rd_T64 x7 x9).f1) ((rd_T64 x7 x9).f2)).bind fun t788 => (if ((rd_T64 x7 x9).f0).size + 1 ≤ 9223372036854775807 then ((strconv_Itoa.f (t788.size : Int)).bind fun t789 => (if (((rd_T64 x7 x9).f0) ++ (⟨#[61]⟩ : ByteArray)).size + t789.size ≤ 9223372036854775807 then (if ((((rd_T64 x7 x9).f0) ++ (⟨#[61]⟩ : ByteArray)) ++ t789).size + 1 ≤ 9223372036854775807 then (if (((((rd_T64 x7 x9).f0) ++ (⟨#[61]⟩ : ByteArray)) ++ t789) ++ (⟨#[58]⟩ : ByteArray)).size + t788.size ≤ 9223372036854775807 then (if ((((((rd_T64 x7 x9).f0) ++ (⟨#[61]⟩ : ByteArray)) ++ t789) ++ (⟨#[58]⟩ : ByteArray)) ++ t788).size + 1 ≤ 9223372036854775807 then (if x3.length < 8796093022208 then (name_mark.l0 k (x3 ++ [((((((rd_T64 x7 x9).f0) ++ (⟨#[61]⟩ : ByteArray)) ++ t789) ++ (⟨#[58]⟩ : ByteArray)) ++ t788) ++ (⟨#[59]⟩ : ByteArray)]) x7 x8 (wrap64 (x9 + 1))) else (none)) else (none)) else (none)) else (none)) else (none))) else (none))) else (none)) else (none)) else ((slices_Sort.f x3).bind fun y3 => ((strings_Join.f y3 (⟨#[]⟩ : ByteArray)).bind fun t793 => (if t793.size + 1 ≤ 9223372036854775807 then (some (t793 ++ (⟨#[47]⟩ : ByteArray))) else (none))))
def name_mark.f (k : Nat) (l0 : List (S64)) : Option (ByteArray) := name_mark.l0 k ([] : List ByteArray) l0 (l0.length : Int) 0
def name_mark.T6 : Bool × List (List Nat × List Nat) := (true, [([], []), ([], []), ([1], [1]), ([2], [2]), ([], []), ([4], [4]), ([5], [5]), ([3, 6], [3, 6]), ([7], [7]), ([], []), ([8, 9], [8, 9]), ([10], [10]), ([11], [11]), ([0, 12, 6], [0, 12]), ([13, 13, 0, 1, 2, 3, 4, 5, 6, 7, 8, 9, 10, 11, 12, 13], [0, 13])])
def name_mark.B6 : List Nat := [0, 0, 2, 6, 0, 16, 48, 126, 254, 0, 1022, 2046, 4094, 8191, 16383]
theorem name_mark.tab6 : rtab .any (opsOf Tryz.f93 6) = name_mark.T6 := by kernel_rfl
theorem name_mark.bits6 : waitsOk name_mark.T6.2 name_mark.B6 = true := by kernel_rfl
set_option maxHeartbeats 8000000 in
set_option maxRecDepth 100000 in
theorem name_mark.calls (k : Nat) (A0 : Option Addr) (c0 : Nat) (l0 : List (S64)) (r : ByteArray) (w : World) (hr0 : Kd.C k64 w A0 l0.length l0) (hc0 : l0.length ≤ c0) (h : name_mark.f k l0 = some r) (hH : Tb w) :
    Calls Tryz.prog 93 #[.slice A0 l0.length c0] w fun e w' => e = .returned (.string r) ∧ Below w.heap.size w w' := by
  have hu64 := Tryz.underlying64
  have HR0 := Aside0.mk hr0
  have HC0 := Aside0.mk hc0
  clear hr0 hc0
  have HB := Aside0.mk (Below.refl w.heap.size w)
  have HHd := Aside0.mk hH
  clear hH
  have H : (name_mark.l0 k ([] : List ByteArray) l0 (l0.length : Int) 0) = some r := h
  clear h
  have H' := Aside0.mk H
  clear H
  go_enter Tryz.func93, Tryz.ntmps93
  go_wp2
  go_loopg [3, 9] k (fun kq v3 v9 w' => ∃ (x3_1 : List ByteArray) (x9_1 : Int), v9 = .int .i64 x9_1 ∧ Aside0 (name_mark.l0 kq x3_1 l0 (l0.length : Int) x9_1 = some r) ∧ Aside0 (kq ≤ k) ∧ Aside0 (Kd.R Kd.string 9 w' w.heap.size (fun _ => True) v3 x3_1) ∧ Aside0 (Below w.heap.size w w'))
  case atStart => exact ⟨(([] : List ByteArray)), (0), (by first | rfl | (simp; done) | (simp [*]; done)), H', ⟨Nat.le_refl _⟩, ⟨by first | exact Kd.R_nil _ _ _ _ _ | exact Kd.N_nil _ _ _ _ _ | exact Kd.V_nil _ _ _ _ _ | exact Kd.Q_nil _ _ _ _ _ | exact Kd.S_nil _ _ _ _ _⟩, ⟨bU HB.out⟩⟩
  case round =>
    clear H'
    obtain ⟨x3_1, x9_1, rfl, HA, HK1, HO_3, HB⟩ := hrel
    cases gk with
    | zero => exact absurd HA.out (by simp [name_mark.l0])
    | succ k1 =>
      have H := HA.out
      clear HA
      simp only [name_mark.l0] at H
      by_cases c2 : x9_1 < (l0.length : Int)
      rotate_left
      · rw [if_neg c2] at H
        have c2b0 : decide (x9_1 < (l0.length : Int)) = false := decide_eq_false c2
        clear c2
        replace H := Option.bind_eq_some_iff.mp H
        obtain ⟨y3, A190, H⟩ := H
        try dsimp only at H
        have A19 := Aside0.mk A190
        have hylen : x3_1.length = y3.length := by
          have h1 := A190
          unfold slices_Sort.f at h1
          split at h1
          rotate_left
          · cases h1
          rw [← Option.some.inj h1, sortB_len]
        have YL := Aside0.mk hylen
        clear hylen
        clear A190
        replace H := Option.bind_eq_some_iff.mp H
        obtain ⟨t793, A200, H⟩ := H
        try dsimp only at H
        have A20 := Aside0.mk A200
        clear A200
        by_cases c21 : t793.size + 1 ≤ 9223372036854775807
        rotate_left
        · rw [if_neg c21] at H
          exact absurd H (by simp)
        rw [if_pos c21] at H
        have c21b0 := eq_true c21
        have c21b1 : decide (t793.size + 1 ≤ 9223372036854775807) = true := decide_eq_true c21
        try have c21b2 : (9223372036854775807 < t793.size + 1) = False := eq_false (Nat.not_lt.2 c21)
        obtain rfl := Option.some.inj H
        obtain ⟨Ao22, co22, eo22⟩ := Kd.R_slice HO_3.out
        subst eo22
        go_wp2_with (first | ((with_reducible refine gate_callee (f := 161) rfl ?_); refine goesL_ (some 34) rfl rfl Tryz.func161 (by kernel_rfl) rfl #[.slice Ao22 x3_1.length co22] rfl (by (try simp only [List.map_toArray, List.map_cons, List.map_nil]); first | done | rfl | (simp only [List.length_drop, List.length_take]; rfl)) ?_; (with_reducible refine (sort_own w _ x3_1 y3 _ ?side1 ?side2 A19.out).mono ?_); (case side1 => exact (Kd.R_u HO_3.out)); (case side2 => exact (bU HB.out)); rintro e w23 ⟨rfl, hsr, hb⟩; refine ⟨_, rfl, ?_⟩; have n0_ := Aside0.mk hsr; have n1_ := Aside0.mk hb; clear hsr; clear HO_3; clear HB; have HO_3 := n0_; have HB := n1_; clear n0_ n1_; (try clear hb); (try clear hb2); (try clear hk); (try clear hi)) | ((with_reducible refine gate_callee (f := 88) rfl ?_); refine goesL_ (some 36) rfl rfl Tryz.func88 (by kernel_rfl) rfl #[.slice Ao22 x3_1.length co22, .string (⟨#[]⟩ : ByteArray)] rfl (by (try simp only [List.map_toArray, List.map_cons, List.map_nil]); first | done | rfl | (simp only [List.length_drop, List.length_take]; rfl)) ?_; (rw [YL.out]); (with_reducible refine (strings_Join.calls _ _ y3 (⟨#[]⟩ : ByteArray) t793 _ ?side1 ?side2 A20.out).mono ?_); (case side1 => exact Kd.C_u (Kd.R_reads' HO_3.out).2.2); (case side2 => exact (Kd.R_reads' HO_3.out).2.1); rintro e w24 ⟨rfl, hb⟩; refine ⟨_, rfl, ?_⟩; have n0_ := Aside0.mk (Kd.R_below (Kd.R_u HO_3.out) hb); have n1_ := Aside0.mk (below_step (bU HB.out) hb); clear HO_3; clear HB; have HO_3 := n0_; have HB := n1_; clear n0_ n1_; (try clear hb); (try clear hb2); (try clear hk); (try clear hi)))
        have hrd := Kd.R_reads' HO_3.out
        have hj := strings_Join.calls Ao22 co22 y3 (⟨#[]⟩ : ByteArray) t793 _ hrd.2.2 (YL.out ▸ hrd.2.1) A20.out
        rw [← YL.out] at hj
        refine hj.mono ?_
        rintro e w24 ⟨rfl, hb⟩
        have HB2 := Aside0.mk (below_step HB.out hb)
        clear hb hj hrd
        go_wp2_with fail
        go_ret
        exact ⟨rfl, HB2.out⟩
      rw [if_pos c2] at H
      have c2b0 : decide (x9_1 < (l0.length : Int)) = true := decide_eq_true c2
      clear c2
      by_cases c3 : 0 ≤ x9_1
      rotate_left
      · rw [if_neg c3] at H
        exact absurd H (by simp)
      rw [if_pos c3] at H
      have c3b0 : decide (0 ≤ x9_1) = true := decide_eq_true c3
      clear c3
      by_cases c4 : x9_1 < (l0.length : Int)
      rotate_left
      · rw [if_neg c4] at H
        exact absurd H (by simp)
      rw [if_pos c4] at H
      have c4b0 : decide (x9_1 < (l0.length : Int)) = true := decide_eq_true c4
      clear c4
      replace H := Option.bind_eq_some_iff.mp H
      obtain ⟨t788, A50, H⟩ := H
      try dsimp only at H
      have A5 := Aside0.mk A50
      clear A50
      by_cases c6 : ((rd_T64 l0 x9_1).f0).size + 1 ≤ 9223372036854775807
      rotate_left
      · rw [if_neg c6] at H
        exact absurd H (by simp)
      rw [if_pos c6] at H
      have c6b0 := eq_true c6
      have c6b1 : decide (((rd_T64 l0 x9_1).f0).size + 1 ≤ 9223372036854775807) = true := decide_eq_true c6
      try have c6b2 : (9223372036854775807 < ((rd_T64 l0 x9_1).f0).size + 1) = False := eq_false (Nat.not_lt.2 c6)
      replace H := Option.bind_eq_some_iff.mp H
      obtain ⟨t789, A70, H⟩ := H
      try dsimp only at H
      have A7 := Aside0.mk A70
      clear A70
      by_cases c8 : (((rd_T64 l0 x9_1).f0) ++ (⟨#[61]⟩ : ByteArray)).size + t789.size ≤ 9223372036854775807
      rotate_left
      · rw [if_neg c8] at H
        exact absurd H (by simp)
      rw [if_pos c8] at H
      have c8b0 := eq_true c8
      have c8b1 : decide ((((rd_T64 l0 x9_1).f0) ++ (⟨#[61]⟩ : ByteArray)).size + t789.size ≤ 9223372036854775807) = true := decide_eq_true c8
      try have c8b2 : (9223372036854775807 < (((rd_T64 l0 x9_1).f0) ++ (⟨#[61]⟩ : ByteArray)).size + t789.size) = False := eq_false (Nat.not_lt.2 c8)
      by_cases c9 : ((((rd_T64 l0 x9_1).f0) ++ (⟨#[61]⟩ : ByteArray)) ++ t789).size + 1 ≤ 9223372036854775807
      rotate_left
      · rw [if_neg c9] at H
        exact absurd H (by simp)
      rw [if_pos c9] at H
      have c9b0 := eq_true c9
      have c9b1 : decide (((((rd_T64 l0 x9_1).f0) ++ (⟨#[61]⟩ : ByteArray)) ++ t789).size + 1 ≤ 9223372036854775807) = true := decide_eq_true c9
      try have c9b2 : (9223372036854775807 < ((((rd_T64 l0 x9_1).f0) ++ (⟨#[61]⟩ : ByteArray)) ++ t789).size + 1) = False := eq_false (Nat.not_lt.2 c9)
      by_cases c10 : (((((rd_T64 l0 x9_1).f0) ++ (⟨#[61]⟩ : ByteArray)) ++ t789) ++ (⟨#[58]⟩ : ByteArray)).size + t788.size ≤ 9223372036854775807
      rotate_left
      · rw [if_neg c10] at H
        exact absurd H (by simp)
      rw [if_pos c10] at H
      have c10b0 := eq_true c10
      have c10b1 : decide ((((((rd_T64 l0 x9_1).f0) ++ (⟨#[61]⟩ : ByteArray)) ++ t789) ++ (⟨#[58]⟩ : ByteArray)).size + t788.size ≤ 9223372036854775807) = true := decide_eq_true c10
      try have c10b2 : (9223372036854775807 < (((((rd_T64 l0 x9_1).f0) ++ (⟨#[61]⟩ : ByteArray)) ++ t789) ++ (⟨#[58]⟩ : ByteArray)).size + t788.size) = False := eq_false (Nat.not_lt.2 c10)
      by_cases c11 : ((((((rd_T64 l0 x9_1).f0) ++ (⟨#[61]⟩ : ByteArray)) ++ t789) ++ (⟨#[58]⟩ : ByteArray)) ++ t788).size + 1 ≤ 9223372036854775807
      rotate_left
      · rw [if_neg c11] at H
        exact absurd H (by simp)
      rw [if_pos c11] at H
      have c11b0 := eq_true c11
      have c11b1 : decide (((((((rd_T64 l0 x9_1).f0) ++ (⟨#[61]⟩ : ByteArray)) ++ t789) ++ (⟨#[58]⟩ : ByteArray)) ++ t788).size + 1 ≤ 9223372036854775807) = true := decide_eq_true c11
      try have c11b2 : (9223372036854775807 < ((((((rd_T64 l0 x9_1).f0) ++ (⟨#[61]⟩ : ByteArray)) ++ t789) ++ (⟨#[58]⟩ : ByteArray)) ++ t788).size + 1) = False := eq_false (Nat.not_lt.2 c11)
      by_cases c12 : x3_1.length < 8796093022208
      rotate_left
      · rw [if_neg c12] at H
        exact absurd H (by simp)
      rw [if_pos c12] at H
      have LMc12 := Aside0.mk c12
      clear c12
      obtain ⟨y790, hy790⟩ : ∃ y_ : List ByteArray, y_ = (x3_1 ++ [((((((rd_T64 l0 x9_1).f0) ++ (⟨#[61]⟩ : ByteArray)) ++ t789) ++ (⟨#[58]⟩ : ByteArray)) ++ t788) ++ (⟨#[59]⟩ : ByteArray)]) := ⟨_, rfl⟩
      replace H : (name_mark.l0 k1 y790 l0 (l0.length : Int) (wrap64 (x9_1 + 1))) = some r := by first | (rw [hy790]; with_reducible exact H) | (have H2_ := (Option.bind_some _ _).symm.trans H; rw [hy790]; with_reducible exact H2_) | (have H2_ := (Option.bind_some _ _).symm.trans H; with_reducible exact H2_) | with_reducible exact H | (rw [hy790]; exact H) | exact H
      have Ny790 := Aside0.mk hy790
      clear hy790
      have H' := Aside0.mk H
      clear H
      have p786 : 0 ≤ (x9_1 : Int) := of_decide_eq_true (by first | (with_reducible assumption) | assumption)
      have q786 : x9_1 < (l0.length : Int) := of_decide_eq_true (by first | (with_reducible assumption) | assumption)
      obtain ⟨ad786, A786_2, c786_2, e786, hx786_0, hx786_1, hx786_2, hl786_2, hi786_2⟩ := at_T64 HR0.out x9_1 p786 q786
      cases e786
      replace hx786_0 := (HB.out.cell (World.block_lt_of_cell? w _ hx786_0)).trans hx786_0
      replace hx786_1 := (HB.out.cell (World.block_lt_of_cell? w _ hx786_1)).trans hx786_1
      replace hx786_2 := (HB.out.cell (World.block_lt_of_cell? w _ hx786_2)).trans hx786_2
      have HR786_2 := Aside0.mk hi786_2
      have HC786_2 := Aside0.mk hl786_2
      clear hi786_2 hl786_2
      have ZZ61 : (⟨#[61]⟩ : ByteArray).size = 1 := rfl
      have ZZ58 : (⟨#[58]⟩ : ByteArray).size = 1 := rfl
      have ZZ59 : (⟨#[59]⟩ : ByteArray).size = 1 := rfl
      have YY1 : (9223372036854775807 < ((rd_T64 l0 x9_1).f0).size + 1 + t789.size) = False := eq_false (by have h_ := c8; simp only [ByteArray.size_append, ZZ61, ZZ58, ZZ59] at h_; omega)
      have YY2 : (9223372036854775807 < ((rd_T64 l0 x9_1).f0).size + 1 + t789.size + 1) = False := eq_false (by have h_ := c9; simp only [ByteArray.size_append, ZZ61, ZZ58, ZZ59] at h_; omega)
      have YY3 : (9223372036854775807 < ((rd_T64 l0 x9_1).f0).size + 1 + t789.size + 1 + t788.size) = False := eq_false (by have h_ := c10; simp only [ByteArray.size_append, ZZ61, ZZ58, ZZ59] at h_; omega)
      have YY4 : (9223372036854775807 < ((rd_T64 l0 x9_1).f0).size + 1 + t789.size + 1 + t788.size + 1) = False := eq_false (by have h_ := c11; simp only [ByteArray.size_append, ZZ61, ZZ58, ZZ59] at h_; omega)
      replace p786 := eq_true p786
      replace q786 := eq_true q786
      try go_wp2_with (first | ((with_reducible refine gate_dst (N := 5) rfl ?_); refine box_event ?hg (N := 5) ?hd (cs := #[.string (⟨#[]⟩ : ByteArray), .int .i64 0, .slice none 0 0]) (t := 64) ?hr ?_; (case hd => rfl); (case hg => rfl); (case hr => first | (go_simp; done) | (go_simp; rfl)); intro gb787 hg w13 hbox hb; have n0_ := Aside0.mk (Kd.R_below (Kd.R_u HO_3.out) hb); have n1_ := Aside0.mk (below_step (bU HB.out) hb); have n2_ := Aside0.mk (hbox); have n3_ := Aside0.mk ((by rw [hg]; exact (below_size (bU HB.out)) : w.heap.size ≤ gb787)); have n4_ := Aside0.mk ((by rw [hg]; exact (below_size (bU HB.out)) : w.heap.size ≤ gb787)); clear HO_3; clear HB; have HO_3 := n0_; have HB := n1_; have BK787 := n2_; have GW787 := n3_; have GE787 := n4_; clear n0_ n1_ n2_ n3_ n4_; clear hb hbox hg; have hcz14_0 : w13.cell? ⟨gb787, 0, none⟩ = some (.string (⟨#[]⟩ : ByteArray)) := (blk_cell BK787.out 0).trans rfl; have hcz14_1 : w13.cell? ⟨gb787, 1, none⟩ = some (.int .i64 0) := (blk_cell BK787.out 1).trans rfl; have hcz14_2 : w13.cell? ⟨gb787, 2, none⟩ = some (.slice none 0 0) := (blk_cell BK787.out 2).trans rfl; have hfz14_0 := blk_frozen BK787.out 0; have hfz14_1 := blk_frozen BK787.out 1; have hfz14_2 := blk_frozen BK787.out 2) | ((with_reducible refine gate_callee (f := 159) rfl ?_); refine goesL_ (some 17) rfl rfl Tryz.func159 (by kernel_rfl) rfl #[.int .i64 ((rd_T64 l0 x9_1).f1), .slice A786_2 ((rd_T64 l0 x9_1).f2).length c786_2] rfl (by (try simp only [List.map_toArray, List.map_cons, List.map_nil]); first | done | rfl | (simp only [List.length_drop, List.length_take]; rfl)) ?_; (with_reducible refine (text_Key.calls k1 ((rd_T64 l0 x9_1).f1) _ _ ((rd_T64 l0 x9_1).f2) t788 _ ?side1 ?side2 A5.out (Tb.below HHd.out (by repeat (first | exact HB.out | apply below_alloc | apply pw_below_drewN | apply below_drew1 | refine below_set ?_ GE787.out)))).mono ?_); (case side1 => exact Kd.C_below HR786_2.out (by repeat (first | exact HB.out | apply below_alloc | apply pw_below_drewN | apply below_drew1 | refine below_set ?_ GE787.out))); (case side2 => exact HC786_2.out); rintro e w15 ⟨rfl, hb⟩; refine ⟨_, rfl, ?_⟩; have n0_ := Aside0.mk (Kd.R_below (Kd.R_u ((Kd.R_mono (Kd.R_far (p := ⟨gb787, 2, none⟩) (Kd.R_far (p := ⟨gb787, 1, none⟩) (Kd.R_far (p := ⟨gb787, 0, none⟩) (Kd.R_types HO_3.out BK787.out (by decide)) (fun _ hk => hk.2) (.string ((rd_T64 l0 x9_1).f0))) (fun _ hk => hk.2) (.int .i64 ((rd_T64 l0 x9_1).f1))) (fun _ hk => hk.2) (.slice A786_2 ((rd_T64 l0 x9_1).f2).length c786_2)) (fun _ h_ => h_.1)))) hb); have n1_ := Aside0.mk (blk_below (g := gb787) (o := .cells #[.string ((rd_T64 l0 x9_1).f0), .int .i64 ((rd_T64 l0 x9_1).f1), .slice A786_2 ((rd_T64 l0 x9_1).f2).length c786_2] 64 (0, 0)) (by (with_reducible repeat (first | refine blk_drewN ?_ _ | refine blk_drew ?_ | refine blk_alloc ?_ _)); refine blk_put (cs := #[.string ((rd_T64 l0 x9_1).f0), .int .i64 ((rd_T64 l0 x9_1).f1), .slice none 0 0]) ?_ 2 _ rfl; (with_reducible repeat (first | refine blk_drewN ?_ _ | refine blk_drew ?_ | refine blk_alloc ?_ _)); refine blk_put (cs := #[.string ((rd_T64 l0 x9_1).f0), .int .i64 0, .slice none 0 0]) ?_ 1 _ rfl; (with_reducible repeat (first | refine blk_drewN ?_ _ | refine blk_drew ?_ | refine blk_alloc ?_ _)); refine blk_put (cs := #[.string (⟨#[]⟩ : ByteArray), .int .i64 0, .slice none 0 0]) ?_ 0 _ rfl; (with_reducible repeat (first | refine blk_drewN ?_ _ | refine blk_drew ?_ | refine blk_alloc ?_ _)); exact BK787.out) hb); have n2_ := Aside0.mk (below_step (by repeat (first | exact HB.out | apply below_alloc | apply pw_below_drewN | apply below_drew1 | refine below_set ?_ GE787.out)) hb); clear HO_3; clear BK787; clear HB; have HO_3 := n0_; have BK787 := n1_; have HB := n2_; clear n0_ n1_ n2_; (try clear hb); (try clear hb2); (try clear hk); (try clear hi)))
      have n0_ := Aside0.mk (Kd.R_drew HO_3.out)
      have n1_ := Aside0.mk (blk_drew BK787.out)
      have n2_ := Aside0.mk (below_drew1 HB.out)
      clear HO_3
      clear BK787
      clear HB
      have HO_3 := n0_
      have BK787 := n1_
      have HB := n2_
      clear n0_ n1_ n2_
      refine start_ (n := 15) (S := fun w' => w'.cell? ⟨gb787, 0, none⟩ = some (.string ((rd_T64 l0 x9_1).f0)) ∧ w'.cell? ⟨gb787, 1, none⟩ = some (.int .i64 ((rd_T64 l0 x9_1).f1)) ∧ w'.cell? ⟨gb787, 2, none⟩ = some (.slice A786_2 ((rd_T64 l0 x9_1).f2).length c786_2)) (ds := []) #[false, false, false, false, false, false, false, false, false, false, false, false, false, false, false] (by kernel_rfl) rfl rfl ⟨(blk_cell BK787.out 0).trans rfl, (blk_cell BK787.out 1).trans rfl, (blk_cell BK787.out 2).trans rfl⟩ (fun hHeld => ?_); refine with_tabW name_mark.tab6 name_mark.bits6 (fun HT_ HW_ => ?_)
      generalize w15.drew = w16 at HO_3 BK787 HB hHeld ⊢
      refine pure_ (i := 0) (N := some 18) (v := ?_) (a' := ?_) #[true, false, false, false, false, false, false, false, false, false, false, false, false, false, false] rfl rfl (any_of HT_.out (by kernel_rfl)) (fun _ _ _ h => h) (Or.inl ⟨by rfl, ?_⟩) ?_ ?_; rotate_left; (intro w'; go_simp; with_reducible rfl); rotate_left; (simp only [Act.put, List.setIfInBounds_toArray, List.set_cons_zero, List.set_cons_succ, i64_w, i32_w]; rfl)
      refine pure_ (i := 1) (N := some 19) (v := ?_) (a' := ?_) #[true, true, false, false, false, false, false, false, false, false, false, false, false, false, false] rfl rfl (any_of HT_.out (by kernel_rfl)) (fun _ _ _ h => h) (Or.inl ⟨by rfl, ?_⟩) ?_ ?_; rotate_left; (intro w'; go_simp; with_reducible rfl); rotate_left; (simp only [Act.put, List.setIfInBounds_toArray, List.set_cons_zero, List.set_cons_succ, i64_w, i32_w]; rfl)
      refine pure_ (i := 4) (N := some 22) (v := ?_) (a' := ?_) #[true, true, false, false, true, false, false, false, false, false, false, false, false, false, false] rfl rfl (any_of HT_.out (by kernel_rfl)) (fun _ _ _ h => h) (Or.inl ⟨by rfl, ?_⟩) ?_ ?_; rotate_left; (intro w'; go_simp; with_reducible rfl); rotate_left; (simp only [Act.put, List.setIfInBounds_toArray, List.set_cons_zero, List.set_cons_succ, i64_w, i32_w]; rfl)
      refine pure_ (i := 5) (N := some 23) (v := ?_) (a' := ?_) #[true, true, false, false, true, true, false, false, false, false, false, false, false, false, false] rfl rfl (any_of HT_.out (by kernel_rfl)) (fun _ _ _ h => h) (Or.inl ⟨by rfl, ?_⟩) ?_ ?_; rotate_left; (intro w'; go_simp; with_reducible rfl); rotate_left; (simp only [Act.put, List.setIfInBounds_toArray, List.set_cons_zero, List.set_cons_succ, i64_w, i32_w]; rfl)
      refine pure_ (i := 9) (N := some 27) (v := ?_) (a' := ?_) #[true, true, false, false, true, true, false, false, false, true, false, false, false, false, false] rfl rfl (any_of HT_.out (by kernel_rfl)) (fun _ _ _ h => h) (Or.inl ⟨by rfl, ?_⟩) ?_ ?_; rotate_left; (intro w'; go_simp; with_reducible rfl); rotate_left; (simp only [Act.put, List.setIfInBounds_toArray, List.set_cons_zero, List.set_cons_succ, i64_w, i32_w]; rfl)
      refine take_ (i := 2) (N := some 20) (v := ?_) (a' := ?_) #[true, true, true, false, true, true, false, false, false, true, false, false, false, false, false] rfl rfl (take_ofW HT_.out HW_.out (by kernel_rfl)) (fun _ _ _ h => h) (Or.inl ⟨by rfl, ?_⟩) hHeld ?_ ?_; rotate_left; (rintro w' ⟨s0, s1, s2⟩; go_simp; with_reducible rfl); rotate_left; (simp only [Act.put, List.setIfInBounds_toArray, List.set_cons_zero, List.set_cons_succ, i64_w, i32_w]; rfl)
      refine pure_ (i := 3) (N := some 21) (v := ?_) (a' := ?_) #[true, true, true, true, true, true, false, false, false, true, false, false, false, false, false] rfl rfl (any_of HT_.out (by kernel_rfl)) (fun _ _ _ h => h) (Or.inl ⟨by rfl, ?_⟩) ?_ ?_; rotate_left; (intro w'; go_simp; with_reducible rfl); rotate_left; (simp only [Act.put, List.setIfInBounds_toArray, List.set_cons_zero, List.set_cons_succ, i64_w, i32_w]; rfl)
      refine one_ (i := 6) (N := some 24) #[true, true, true, true, true, true, true, false, false, true, false, false, false, false, false] rfl rfl (one_of HT_.out (by kernel_rfl)) (by decide) (fun K hK => ?_)
      refine goes_ Tryz.func160 (by kernel_rfl) rfl #[.int .i64 (t788.size : Int)] (by rfl) rfl rfl (by (try simp only [List.map_toArray, List.map_cons, List.map_nil]); first | done | rfl | (simp only [List.length_drop, List.length_take]; rfl)) ?_
      with_reducible refine (strconv_Itoa.calls (t788.size : Int) t789 _ A7.out (Tb.below HHd.out (by repeat (first | exact HB.out | apply below_alloc | apply pw_below_drewN | apply below_drew1 | refine below_set ?_ GE787.out)))).mono ?_
      rintro e w17 ⟨rfl, hb⟩
      refine ⟨_, rfl, ?_⟩
      have n0_ := Aside0.mk (Kd.R_below (Kd.R_u HO_3.out) hb)
      have n1_ := Aside0.mk (blk_below (blk_u BK787.out) hb)
      have n2_ := Aside0.mk (below_step (by repeat (first | exact HB.out | apply below_alloc | apply pw_below_drewN | apply below_drew1 | refine below_set ?_ GE787.out)) hb)
      clear HO_3
      clear BK787
      clear HB
      have HO_3 := n0_
      have BK787 := n1_
      have HB := n2_
      clear n0_ n1_ n2_
      (try clear hb)
      (try clear hb2)
      (try clear hk)
      (try clear hi)
      refine hK.out _ _ ⟨(blk_cell BK787.out 0).trans rfl, (blk_cell BK787.out 1).trans rfl, (blk_cell BK787.out 2).trans rfl⟩ (fun hHeld => ?_)
      clear hK K
      refine norm_ (a' := ?_) ?_ ?_; rotate_left; (show Act.put _ (some 24) _ = _; simp only [Act.put, List.setIfInBounds_toArray, List.set_cons_zero, List.set_cons_succ, i64_w, i32_w]; rfl)
      refine pure_ (i := 7) (N := some 25) (v := ?_) (a' := ?_) #[true, true, true, true, true, true, true, true, false, true, false, false, false, false, false] rfl rfl (any_of HT_.out (by kernel_rfl)) (fun _ _ _ h => h) (Or.inl ⟨by rfl, ?_⟩) ?_ ?_; rotate_left; (intro w'; go_simp; with_reducible rfl); rotate_left; (simp only [Act.put, List.setIfInBounds_toArray, List.set_cons_zero, List.set_cons_succ, i64_w, i32_w]; rfl)
      refine pure_ (i := 8) (N := some 26) (v := ?_) (a' := ?_) #[true, true, true, true, true, true, true, true, true, true, false, false, false, false, false] rfl rfl (any_of HT_.out (by kernel_rfl)) (fun _ _ _ h => h) (Or.inl ⟨by rfl, ?_⟩) ?_ ?_; rotate_left; (intro w'; go_simp; with_reducible rfl); rotate_left; (simp only [Act.put, List.setIfInBounds_toArray, List.set_cons_zero, List.set_cons_succ, i64_w, i32_w]; rfl)
      refine pure_ (i := 10) (N := some 28) (v := ?_) (a' := ?_) #[true, true, true, true, true, true, true, true, true, true, true, false, false, false, false] rfl rfl (any_of HT_.out (by kernel_rfl)) (fun _ _ _ h => h) (Or.inl ⟨by rfl, ?_⟩) ?_ ?_; rotate_left; (intro w'; go_simp; with_reducible rfl); rotate_left; (simp only [Act.put, List.setIfInBounds_toArray, List.set_cons_zero, List.set_cons_succ, i64_w, i32_w]; rfl)
      refine pure_ (i := 11) (N := some 29) (v := ?_) (a' := ?_) #[true, true, true, true, true, true, true, true, true, true, true, true, false, false, false] rfl rfl (any_of HT_.out (by kernel_rfl)) (fun _ _ _ h => h) (Or.inl ⟨by rfl, ?_⟩) ?_ ?_; rotate_left; (intro w'; go_simp; with_reducible rfl); rotate_left; (simp only [Act.put, List.setIfInBounds_toArray, List.set_cons_zero, List.set_cons_succ, i64_w, i32_w]; rfl)
      refine one_ (i := 12) (N := some 30) #[true, true, true, true, true, true, true, true, true, true, true, true, true, false, false] rfl rfl (one_of HT_.out (by kernel_rfl)) (by decide) (fun K hK => ?_)
      refine value_ (w1 := ?_) (v := ?_) (by rfl) rfl ?_ ?_
      rotate_left 2
      · go_simp
        constructor
        rotate_left
        · rfl
        rfl
      refine hK.out _ _ ⟨(blk_cell (blk_alloc BK787.out _) 0).trans rfl, (blk_cell (blk_alloc BK787.out _) 1).trans rfl, (blk_cell (blk_alloc BK787.out _) 2).trans rfl⟩ (fun hHeld => ?_)
      clear hK K
      refine norm_ (a' := ?_) ?_ ?_; rotate_left; (show Act.put _ (some 30) _ = _; simp only [Act.put, List.setIfInBounds_toArray, List.set_cons_zero, List.set_cons_succ, i64_w, i32_w]; rfl)
      refine one_ (i := 13) (N := some 31) #[true, true, true, true, true, true, true, true, true, true, true, true, true, true, false] rfl rfl (one_of HT_.out (by kernel_rfl)) (by decide) (fun K hK => ?_)
      refine Kd.R_append_step Kd.string (w0 := w) w.heap.size (by rfl) (.tmp 18) (.tmp 30) 102 9 (.string ⟨#[]⟩) 16 rfl Tryz.underlying102 info9 rfl (by decide) (by omega) u3 x3_1 (((((((rd_T64 l0 x9_1).f0) ++ (⟨#[61]⟩ : ByteArray)) ++ t789) ++ (⟨#[58]⟩ : ByteArray)) ++ t788) ++ (⟨#[59]⟩ : ByteArray)) [.string (((((((rd_T64 l0 x9_1).f0) ++ (⟨#[61]⟩ : ByteArray)) ++ t789) ++ (⟨#[58]⟩ : ByteArray)) ++ t788) ++ (⟨#[59]⟩ : ByteArray))] (fun _ => True) (fun _ => False) rfl rfl ?aP (fun _ hk => hk.elim) ?aF ?aO ?aB ?aS ?aL ?_
      (case aP => exact rfl)
      (case aB => exact (by repeat (first | exact HB.out | apply below_alloc | apply pw_below_drewN | apply below_drew1 | refine below_set ?_ GE787.out)))
      (case aF => exact (fun _ _ => trivial))
      (case aO => exact (Kd.R_u HO_3.out))
      (case aS => exact (below_size (by repeat (first | exact HB.out | apply below_alloc | apply pw_below_drewN | apply below_drew1 | refine below_set ?_ GE787.out))))
      (case aL => have := LMc12.out; omega)
      intro v791 w18 ho hb hg hat
      rw [← Ny790.out] at ho
      have n0_ := Aside0.mk (blk_grown (blk_u BK787.out) hg (Kd.R_ne HO_3.out BK787.out (by decide)))
      have n1_ := Aside0.mk (hb)
      have n2_ := Aside0.mk (ho)
      clear BK787
      clear HB
      clear HO_3
      have BK787 := n0_
      have HB := n1_
      have HO792 := n2_
      clear n0_ n1_ n2_
      clear ho hb hg hat
      refine hK.out _ _ ⟨(blk_cell BK787.out 0).trans rfl, (blk_cell BK787.out 1).trans rfl, (blk_cell BK787.out 2).trans rfl⟩ (fun hHeld => ?_)
      clear hK K
      refine norm_ (a' := ?_) ?_ ?_; rotate_left; (show Act.put _ (some 31) _ = _; simp only [Act.put, List.setIfInBounds_toArray, List.set_cons_zero, List.set_cons_succ, i64_w, i32_w]; rfl)
      refine pure_ (i := 14) (N := some 3) (v := ?_) (a' := ?_) #[true, true, true, true, true, true, true, true, true, true, true, true, true, true, true] rfl rfl (any_of HT_.out (by kernel_rfl)) (fun _ _ _ h => h) (Or.inl ⟨by rfl, ?_⟩) ?_ ?_; rotate_left; (intro w'; go_simp; with_reducible rfl); rotate_left; (simp only [Act.put, List.setIfInBounds_toArray, List.set_cons_zero, List.set_cons_succ, i64_w, i32_w]; rfl)
      refine done_ (done_of HT_.out (by kernel_rfl)) ?_
      try go_wp2
      go_roundg k1
      case measure => have := HK1.out; omega
      case rel => exact ⟨(y790), (wrap64 (x9_1 + 1)), (by first | rfl | (simp; done) | (simp [*]; done)), H', ⟨by have := HK1.out; omega⟩, ⟨Kd.R_u HO792.out⟩, ⟨by repeat (first | exact HB.out | apply below_alloc | apply pw_below_drewN | apply below_drew1 | refine below_set ?_ GE787.out)⟩⟩
end Go.Proofs.YtkioddjjfifadaaGreatDoor.P
namespace Go.Proofs.YtkioddjjfifadaaGreatDoor.P
open Go.RowKit Go.Proofs.YtkioddjjfifadaaGreatDoorW.PrintWords Go.Proofs.YtkioddjjfifadaaGreatDoorW.PrintLast Go.Proofs.YtkioddjjfifadaaGreatDoorW.PrintMore
theorem write_string (B b : Nat) (bs : List Value) (s : ByteArray) (w : World) (h : Lib.IsBuilder 157 5 B b bs w) (hlen : bs.length + s.size ≤ 140737488355328) (hBw : B ≤ w.heap.size) :
    Calls Tryz.prog 92 #[.pointer (some ⟨b, 0, none⟩), .string s] w fun e w' => e = .returned (.tuple #[.int .i64 s.size, .nilIface]) ∧ (Lib.BuilderAt 157 5 B b (.pointer (some ⟨b, 0, none⟩)) (bs ++ Lib.strCells s) w' ∧ Below B w w') :=
  Go.Proofs.Any.Builder_WriteString (ρ := Tryz.lays156_ren) { Tryz.lays156 with } Tryz.Builder_Extra_156 B b bs s w h hlen hBw
theorem isBuilder_below {B b : Nat} {bs : List Value} {w w1 : World} (h : Lib.IsBuilder 157 5 B b bs w) (hb : Below w.heap.size w w1) : Lib.IsBuilder 157 5 B b bs w1 := by
  have key : ∀ p, Lib.BuilderAt 157 5 B b p bs w → Lib.BuilderAt 157 5 B b p bs w1 := by
    rintro p ⟨hB, v, hk, ho, hne⟩
    exact ⟨hB, v, (hb.block b (blk_lt hk)).trans hk, own_move ho (fun k hk => hb.block k (own_lt ho k hk)), hne⟩
  rcases h with h | h
  rotate_left
  · exact Or.inr (key _ h)
  exact Or.inl (key _ h)
def keyL (k : Nat) : List (List S64) → Option (List UInt8)
  | [] => some []
  | s :: r => (name_mark.f k s).bind fun m => (keyL k r).bind fun t => some (m.data.toList ++ t)
def name_Key.f (k : Nat) (n : List (List S64)) : Option ByteArray := (keyL k n).bind fun r => if r.length ≤ 140737488355328 ∧ n.length ≤ 1000000 then some ⟨r.toArray⟩ else none
set_option maxHeartbeats 4000000 in
theorem name_Key.calls (k : Nat) (A0 : Option Addr) (c0 : Nat) (l0 : List (List S64)) (r : ByteArray) (w : World) (hr0 : Kd.C (Kd.slice 64 k64) w A0 l0.length l0) (hc0 : l0.length ≤ c0) (h : name_Key.f k l0 = some r) (hH : Tb w) :
    Calls Tryz.prog 48 #[.slice A0 l0.length c0] w fun e w' => e = .returned (.string r) ∧ Below w.heap.size w w' := by
  unfold name_Key.f at h
  obtain ⟨R, hkey, h⟩ := Option.bind_eq_some_iff.mp h
  split at h
  case isFalse => cases h
  case isTrue hl =>
  obtain rfl := Option.some.inj h
  have HR0 := Aside0.mk hr0
  have HC0 := Aside0.mk hc0
  have HT := Aside0.mk hH
  have HL := Aside0.mk hl
  have HKEY := Aside0.mk hkey
  have HI := Aside0.mk (Lib.fresh_isBuilder 157 5 w)
  have HB := Aside0.mk (below_alloc (Below.refl w.heap.size w) (.cells #[.pointer none, .slice none 0 0] 157))
  clear hr0 hc0 hH hl hkey h
  go_enter Tryz.func48, Tryz.ntmps48
  go_wp2_with fail
  go_loopg [8] (l0.length + 1) (fun kq v8 w' => ∃ (j : Nat) (acc q : List UInt8), v8 = .int .i64 (j : Int) ∧ Aside0 (j ≤ l0.length ∧ l0.length < kq + j) ∧ Aside0 (keyL k (l0.drop j) = some q) ∧ Aside0 (acc ++ q = R) ∧
    Aside0 (Lib.IsBuilder 157 5 w.heap.size w.heap.size (Lib.byteCells acc) w') ∧ Aside0 (Below w.heap.size w w'))
  case atStart => exact ⟨0, [], R, rfl, ⟨⟨Nat.zero_le _, by omega⟩⟩, ⟨HKEY.out⟩, ⟨rfl⟩, HI, HB⟩
  case round =>
    clear HI HB HKEY
    obtain ⟨j, acc, q, rfl, HJ, HQ, HE, HI, HB⟩ := hrel
    cases gk with
    | zero => exact absurd HJ.out (by omega)
    | succ g1 =>
      by_cases hj : j < l0.length
      rotate_left
      · have c1 : decide ((j : Int) < (l0.length : Int)) = false := decide_eq_false (by omega)
        have he : l0.drop j = [] := List.drop_eq_nil_of_le (by omega)
        have hq := HQ.out
        rw [he, keyL] at hq
        have hq2 : [] = q := Option.some.inj hq
        have hacc : acc = R := by rw [← HE.out, ← hq2, List.append_nil]
        clear hq hq2 he
        go_wp2_with fail
        refine (Tryz.Builder_String_any w.heap.size w.heap.size acc _ HI.out HB.out.size).mono ?_
        rintro e w2 ⟨rfl, hb2⟩
        have HB2 := Aside0.mk (HB.out.trans hb2)
        clear hb2
        go_wp2_with fail
        go_ret
        exact ⟨by first | rfl | (rw [hacc]; rfl), HB2.out⟩
      have c1 : decide ((j : Int) < (l0.length : Int)) = true := decide_eq_true (by omega)
      have p1 : ((0 : Int) ≤ (j : Int)) = True := eq_true (by omega)
      have q1 : ((j : Int) < (l0.length : Int)) = True := eq_true (by omega)
      obtain ⟨ad, A1, c1', rfl, hx, hl1, hC1⟩ := at_L5 HR0.out (j : Int) (by omega) (by omega)
      replace hx := (HB.out.cell (World.block_lt_of_cell? w _ hx)).trans hx
      rw [Int.toNat_natCast] at hx
      have hd : l0.drop j = rd_L5 l0 (j : Int) :: l0.drop (j + 1) := by
        rw [List.drop_eq_getElem_cons hj]
        show _ = l0.getD (j : Int).toNat [] :: _
        rw [Int.toNat_natCast, List.getD_eq_getElem?_getD, List.getElem?_eq_getElem hj]
        rfl
      have hq := HQ.out
      rw [hd, keyL] at hq
      obtain ⟨m, hm, hq⟩ := Option.bind_eq_some_iff.mp hq
      obtain ⟨t, ht, hq⟩ := Option.bind_eq_some_iff.mp hq
      have hq' : m.data.toList ++ t = q := Option.some.inj hq
      have HM := Aside0.mk hm
      have HTL := Aside0.mk ht
      have hw3 : wrap64 ((j : Int) + 1) = ((j + 1 : Nat) : Int) := by unfold wrap64; have := HL.out; omega
      have HLEN : Aside0 (acc.length + m.size ≤ 140737488355328) := ⟨by
        have h1 := congrArg List.length HE.out
        rw [← hq'] at h1
        simp only [List.length_append, Array.length_toList] at h1
        have h2 : m.data.size = m.size := rfl
        have := HL.out.1
        omega⟩
      have HE2 : Aside0 ((acc ++ m.data.toList) ++ t = R) := ⟨by rw [List.append_assoc, hq']; exact HE.out⟩
      have HC1 := Aside0.mk hC1
      have HL1 := Aside0.mk hl1
      clear hd hq hm ht hq' HQ HE hC1 hl1
      generalize rd_L5 l0 (j : Int) = s at *
      go_wp2_with fail
      refine (name_mark.calls k A1 c1' s m _ (Kd.C_below HC1.out HB.out) HL1.out HM.out (HT.out.below HB.out)).mono ?_
      rintro e w1 ⟨rfl, hb1⟩
      have HI1 := Aside0.mk (isBuilder_below HI.out hb1)
      have HB1 := Aside0.mk (below_step HB.out hb1)
      clear hb1 HI HB hx
      go_wp2_with fail
      refine (write_string w.heap.size w.heap.size _ m _ HI1.out (by rw [Lib.byteCells_length]; exact HLEN.out) HB1.out.size).mono ?_
      rintro e w2 ⟨rfl, hI2, hb2⟩
      have HB2 := Aside0.mk (HB1.out.trans hb2)
      have HI2 : Aside0 (Lib.IsBuilder 157 5 w.heap.size w.heap.size (Lib.byteCells (acc ++ m.data.toList)) w2) := ⟨by
        rw [Lib.byteCells_append]
        exact Or.inr hI2⟩
      clear hI2 hb2 HI1 HB1
      go_wp2_with fail
      go_roundg g1
      case measure => exact Nat.lt_succ_self _
      case rel => exact ⟨j + 1, acc ++ m.data.toList, t, congrArg (Value.int .i64) hw3, ⟨by have := HJ.out; omega⟩, HTL, HE2, HI2, HB2⟩
def name_Same.f (k : Nat) (a b : List (List S64)) : Option Bool := (name_Key.f k a).bind fun x => (name_Key.f k b).bind fun y => some (x.toList == y.toList)
theorem name_Same.calls (k : Nat) (A0 : Option Addr) (c0 : Nat) (l0 : List (List S64)) (A1 : Option Addr) (c1 : Nat) (l1 : List (List S64)) (r : Bool) (w : World) (hr0 : Kd.C (Kd.slice 64 k64) w A0 l0.length l0) (hc0 : l0.length ≤ c0) (hr1 : Kd.C (Kd.slice 64 k64) w A1 l1.length l1) (hc1 : l1.length ≤ c1) (h : name_Same.f k l0 l1 = some r) (hH : Tb w) :
    Calls Tryz.prog 45 #[.slice A0 l0.length c0, .slice A1 l1.length c1] w fun e w' => e = .returned (.bool r) ∧ Below w.heap.size w w' := by
  unfold name_Same.f at h
  obtain ⟨x, hx, h⟩ := Option.bind_eq_some_iff.mp h
  obtain ⟨y, hy, h⟩ := Option.bind_eq_some_iff.mp h
  obtain rfl := Option.some.inj h
  have HR1 := Aside0.mk hr1
  have HC1 := Aside0.mk hc1
  have HX := Aside0.mk hx
  have HY := Aside0.mk hy
  have HT := Aside0.mk hH
  have HR0 := Aside0.mk hr0
  have HC0 := Aside0.mk hc0
  clear hr0 hc0 hr1 hc1 hx hy hH h
  go_enter Tryz.func45, Tryz.ntmps45
  go_wp2_with fail
  refine (name_Key.calls k A0 c0 l0 x _ HR0.out HC0.out HX.out HT.out).mono ?_
  rintro e w1 ⟨rfl, h1⟩
  have HB1 := Aside0.mk h1
  clear h1
  go_wp2_with fail
  refine (name_Key.calls k A1 c1 l1 y _ (Kd.C_below HR1.out HB1.out) HC1.out HY.out (HT.out.below HB1.out)).mono ?_
  rintro e w2 ⟨rfl, h2⟩
  have HB2 := Aside0.mk (below_step HB1.out h2)
  clear h2
  go_wp2_with fail
  go_ret
  exact ⟨by first | rfl | (simp; done) | trace_state, HB2.out⟩
end Go.Proofs.YtkioddjjfifadaaGreatDoor.P
namespace Go.Proofs.YtkioddjjfifadaaGreatDoor.P
open Go.RowKit Go.Proofs.YtkioddjjfifadaaGreatDoorW.PrintWords Go.Proofs.YtkioddjjfifadaaGreatDoorW.PrintLast Go.Proofs.YtkioddjjfifadaaGreatDoorW.PrintMore
attribute [local go_sem] max2_int min2_int max_two min_two max_three min_three max_four min_four
set_option linter.unusedVariables false
set_option linter.unusedSimpArgs false
mutual
def chirographref07_Huge.l0 : Nat → List (List (S64)) → Int → Int → Int → Option (Bool)
  | 0, _, _, _, _ => none
  | k + 1, x0, x1, x5, x6 => if x6 < (x0.length : Int) then (if 0 ≤ x6 then (if ((rd_L5 x0 x6).length : Int) > 200 then (some true) else (chirographref07_Huge.l1 k x0 x1 x5 x6 0)) else (none)) else (some false)
def chirographref07_Huge.l1 : Nat → List (List (S64)) → Int → Int → Int → Int → Option (Bool)
  | 0, _, _, _, _, _ => none
  | k + 1, x0, x1, x5, x6, x7 => if 0 ≤ x6 then (if x6 < (x0.length : Int) then (if x7 < ((rd_L5 x0 x6).length : Int) then (if 0 ≤ x7 then (if (((rd_T64 (rd_L5 x0 x6) x7).f2).length : Int) > (wrap64 (x1 - x5)) then (some true) else (if (((rd_T64 (rd_L5 x0 x6) x7).f0).size : Int) > (wrap64 (x1 - (wrap64 (x5 + (((rd_T64 (rd_L5 x0 x6) x7).f2).length : Int))))) then (some true) else (chirographref07_Huge.l1 k x0 x1 (wrap64 ((wrap64 (x5 + (((rd_T64 (rd_L5 x0 x6) x7).f2).length : Int))) + (((rd_T64 (rd_L5 x0 x6) x7).f0).size : Int))) x6 (wrap64 (x7 + 1))))) else (none)) else (chirographref07_Huge.l0 k x0 x1 x5 (wrap64 (x6 + 1)))) else (none)) else (none)
end
def chirographref07_Huge.f (k : Nat) (l0 : List (List (S64))) (a1 : Int) : Option (Bool) := if (l0.length : Int) > 200 then (some true) else (chirographref07_Huge.l0 k l0 a1 0 0)
set_option maxHeartbeats 8000000 in
set_option maxRecDepth 100000 in
theorem chirographref07_Huge.calls (k : Nat) (A0 : Option Addr) (c0 : Nat) (l0 : List (List (S64))) (a1 : Int) (r : Bool) (w : World) (hr0 : Kd.C (Kd.slice 64 k64) w A0 l0.length l0) (hc0 : l0.length ≤ c0) (h : chirographref07_Huge.f k l0 a1 = some r) :
    Calls Tryz.prog 39 #[.slice A0 l0.length c0, .int .i64 a1] w fun e w' => e = .returned (.bool r) ∧ Drawn0 w w' := by
  have HR0 := Aside0.mk hr0
  have HC0 := Aside0.mk hc0
  clear hr0 hc0
  have H : (if (l0.length : Int) > 200 then (some true) else (chirographref07_Huge.l0 k l0 a1 0 0)) = some r := h
  clear h
  by_cases c3 : (l0.length : Int) > 200
  · rw [if_pos c3] at H
    have c3b0 : decide (200 < (l0.length : Int)) = true := decide_eq_true c3
    have c3b1 : decide (200 < l0.length) = true := decide_eq_true (by omega)
    clear c3
    obtain rfl := Option.some.inj H
    go_enter Tryz.func39, Tryz.ntmps39
    go_wp2
    go_ret
    exact ⟨by first | rfl | (simp; done) | (simp [*]; done), by repeat (first | exact Drawn0.refl _ | apply Drawn0.step)⟩
  rw [if_neg c3] at H
  have c3b0 : decide (200 < (l0.length : Int)) = false := decide_eq_false c3
  have c3b1 : decide (200 < l0.length) = false := decide_eq_false (by omega)
  clear c3
  have H' := Aside0.mk H
  clear H
  go_enter Tryz.func39, Tryz.ntmps39
  go_wp2
  go_loopg [5, 6] k (fun kq v5 v6 w' => ∃ (x5_1 : Int) (x6_1 : Int), v5 = .int .i64 x5_1 ∧ v6 = .int .i64 x6_1 ∧ Aside0 (chirographref07_Huge.l0 kq l0 a1 x5_1 x6_1 = some r) ∧ Aside0 (kq ≤ k) ∧ Drawn0 w w')
  case atStart => exact ⟨(0), (0), (by first | rfl | (simp; done) | (simp [*]; done)), (by first | rfl | (simp; done) | (simp [*]; done)), H', ⟨Nat.le_refl _⟩, by repeat (first | exact Drawn0.refl _ | apply Drawn0.step)⟩
  case round =>
    clear H'
    try clear p2
    try clear c3
    try clear c3b0
    try clear c3b1
    obtain ⟨x5_1, x6_1, rfl, rfl, HA, HK1, ⟨m1, rfl⟩⟩ := hrel
    cases gk with
    | zero => exact absurd HA.out (by simp [chirographref07_Huge.l0])
    | succ k1 =>
      have H := HA.out
      clear HA
      simp only [chirographref07_Huge.l0] at H
      by_cases c4 : x6_1 < (l0.length : Int)
      rotate_left
      · rw [if_neg c4] at H
        have c4b0 : decide (x6_1 < (l0.length : Int)) = false := decide_eq_false c4
        clear c4
        obtain rfl := Option.some.inj H
        go_wp2
        go_ret
        exact ⟨by first | rfl | (simp; done) | (simp [*]; done), by repeat (first | exact Drawn0.refl _ | apply Drawn0.step)⟩
      rw [if_pos c4] at H
      have c4b0 : decide (x6_1 < (l0.length : Int)) = true := decide_eq_true c4
      clear c4
      by_cases c5 : 0 ≤ x6_1
      rotate_left
      · rw [if_neg c5] at H
        exact absurd H (by simp)
      rw [if_pos c5] at H
      have c5b0 : decide (0 ≤ x6_1) = true := decide_eq_true c5
      clear c5
      by_cases c6 : ((rd_L5 l0 x6_1).length : Int) > 200
      · rw [if_pos c6] at H
        have c6b0 : decide (200 < ((rd_L5 l0 x6_1).length : Int)) = true := decide_eq_true c6
        have c6b1 : decide (200 < (rd_L5 l0 x6_1).length) = true := decide_eq_true (by omega)
        clear c6
        obtain rfl := Option.some.inj H
        have p961 : 0 ≤ (x6_1 : Int) := of_decide_eq_true (by first | (with_reducible assumption) | assumption)
        have q961 : x6_1 < (l0.length : Int) := of_decide_eq_true (by first | (with_reducible assumption) | assumption)
        obtain ⟨ad961, A961_0, c961_0, e961, hx961_0, hl961_0, hi961_0⟩ := at_L5 HR0.out x6_1 p961 q961
        cases e961
        have HR961_0 := Aside0.mk hi961_0
        have HC961_0 := Aside0.mk hl961_0
        clear hi961_0 hl961_0
        replace p961 := eq_true p961
        replace q961 := eq_true q961
        go_wp2
        go_ret
        exact ⟨by first | rfl | (simp; done) | (simp [*]; done), by repeat (first | exact Drawn0.refl _ | apply Drawn0.step)⟩
      rw [if_neg c6] at H
      have c6b0 : decide (200 < ((rd_L5 l0 x6_1).length : Int)) = false := decide_eq_false c6
      have c6b1 : decide (200 < (rd_L5 l0 x6_1).length) = false := decide_eq_false (by omega)
      clear c6
      have H' := Aside0.mk H
      clear H
      have p961 : 0 ≤ (x6_1 : Int) := of_decide_eq_true (by first | (with_reducible assumption) | assumption)
      have q961 : x6_1 < (l0.length : Int) := of_decide_eq_true (by first | (with_reducible assumption) | assumption)
      obtain ⟨ad961, A961_0, c961_0, e961, hx961_0, hl961_0, hi961_0⟩ := at_L5 HR0.out x6_1 p961 q961
      cases e961
      have HR961_0 := Aside0.mk hi961_0
      have HC961_0 := Aside0.mk hl961_0
      clear hi961_0 hl961_0
      replace p961 := eq_true p961
      replace q961 := eq_true q961
      go_wp2
      go_loopg [5, 7] k1 (fun kq v5 v7 w' => ∃ (x5_2 : Int) (x7_2 : Int), v5 = .int .i64 x5_2 ∧ v7 = .int .i64 x7_2 ∧ Aside0 (chirographref07_Huge.l1 kq l0 a1 x5_2 x6_1 x7_2 = some r) ∧ Aside0 (kq ≤ k1) ∧ Drawn0 w w')
      case atStart => exact ⟨(x5_1), (0), (by first | rfl | (simp; done) | (simp [*]; done)), (by first | rfl | (simp; done) | (simp [*]; done)), H', ⟨Nat.le_refl _⟩, by repeat (first | exact Drawn0.refl _ | apply Drawn0.step)⟩
      case round =>
        clear H'
        try clear p2
        try clear c3
        try clear c3b0
        try clear c3b1
        try clear c4
        try clear c4b0
        try clear c5
        try clear c5b0
        try clear c6
        try clear c6b0
        try clear c6b1
        try clear hx961_0
        try clear p2
        try clear p961
        try clear q961
        obtain ⟨x5_2, x7_2, rfl, rfl, HA, HK2, ⟨m2, rfl⟩⟩ := hrel
        cases gk with
        | zero => exact absurd HA.out (by simp [chirographref07_Huge.l1])
        | succ k2 =>
          have H := HA.out
          clear HA
          simp only [chirographref07_Huge.l1] at H
          by_cases c7 : 0 ≤ x6_1
          rotate_left
          · rw [if_neg c7] at H
            exact absurd H (by simp)
          rw [if_pos c7] at H
          have c7b0 : decide (0 ≤ x6_1) = true := decide_eq_true c7
          clear c7
          by_cases c8 : x6_1 < (l0.length : Int)
          rotate_left
          · rw [if_neg c8] at H
            exact absurd H (by simp)
          rw [if_pos c8] at H
          have c8b0 : decide (x6_1 < (l0.length : Int)) = true := decide_eq_true c8
          clear c8
          by_cases c9 : x7_2 < ((rd_L5 l0 x6_1).length : Int)
          rotate_left
          · rw [if_neg c9] at H
            have c9b0 : decide (x7_2 < ((rd_L5 l0 x6_1).length : Int)) = false := decide_eq_false c9
            clear c9
            have H' := Aside0.mk H
            clear H
            have p962 : 0 ≤ (x6_1 : Int) := of_decide_eq_true (by first | (with_reducible assumption) | assumption)
            have q962 : x6_1 < (l0.length : Int) := of_decide_eq_true (by first | (with_reducible assumption) | assumption)
            obtain ⟨ad962, A962_0, c962_0, e962, hx962_0, hl962_0, hi962_0⟩ := at_L5 HR0.out x6_1 p962 q962
            obtain rfl : ad961 = ad962 := (by injection e962)
            have HR962_0 := Aside0.mk hi962_0
            have HC962_0 := Aside0.mk hl962_0
            clear hi962_0 hl962_0
            replace p962 := eq_true p962
            replace q962 := eq_true q962
            go_wp2
            go_roundg k2
            case measure => have := HK1.out; have := HK2.out; omega
            case rel => exact ⟨(x5_2), (wrap64 (x6_1 + 1)), (by first | rfl | (simp; done) | (simp [*]; done)), (by first | rfl | (simp; done) | (simp [*]; done)), H', ⟨by have := HK1.out; have := HK2.out; omega⟩, by repeat (first | exact Drawn0.refl _ | apply Drawn0.step)⟩
          rw [if_pos c9] at H
          have c9b0 : decide (x7_2 < ((rd_L5 l0 x6_1).length : Int)) = true := decide_eq_true c9
          clear c9
          by_cases c10 : 0 ≤ x7_2
          rotate_left
          · rw [if_neg c10] at H
            exact absurd H (by simp)
          rw [if_pos c10] at H
          have c10b0 : decide (0 ≤ x7_2) = true := decide_eq_true c10
          clear c10
          by_cases c11 : (((rd_T64 (rd_L5 l0 x6_1) x7_2).f2).length : Int) > (wrap64 (a1 - x5_2))
          · rw [if_pos c11] at H
            have c11b0 : decide ((wrap64 (a1 - x5_2)) < (((rd_T64 (rd_L5 l0 x6_1) x7_2).f2).length : Int)) = true := decide_eq_true c11
            clear c11
            obtain rfl := Option.some.inj H
            have p962 : 0 ≤ (x6_1 : Int) := of_decide_eq_true (by first | (with_reducible assumption) | assumption)
            have q962 : x6_1 < (l0.length : Int) := of_decide_eq_true (by first | (with_reducible assumption) | assumption)
            obtain ⟨ad962, A962_0, c962_0, e962, hx962_0, hl962_0, hi962_0⟩ := at_L5 HR0.out x6_1 p962 q962
            obtain rfl : ad961 = ad962 := (by injection e962)
            have HR962_0 := Aside0.mk hi962_0
            have HC962_0 := Aside0.mk hl962_0
            clear hi962_0 hl962_0
            replace p962 := eq_true p962
            replace q962 := eq_true q962
            have p963 : 0 ≤ (x6_1 : Int) := of_decide_eq_true (by first | (with_reducible assumption) | assumption)
            have q963 : x6_1 < (l0.length : Int) := of_decide_eq_true (by first | (with_reducible assumption) | assumption)
            obtain ⟨ad963, A963_0, c963_0, e963, hx963_0, hl963_0, hi963_0⟩ := at_L5 HR0.out x6_1 p963 q963
            obtain rfl : ad961 = ad963 := (by injection e963)
            have HR963_0 := Aside0.mk hi963_0
            have HC963_0 := Aside0.mk hl963_0
            clear hi963_0 hl963_0
            replace p963 := eq_true p963
            replace q963 := eq_true q963
            have ea_ := Option.some.inj (hx962_0.symm.trans hx963_0)
            injection ea_ with ea_ en_ ec_
            subst ea_
            subst ec_
            clear en_
            have p964 : 0 ≤ (x7_2 : Int) := of_decide_eq_true (by first | (with_reducible assumption) | assumption)
            have q964 : x7_2 < ((rd_L5 l0 x6_1).length : Int) := of_decide_eq_true (by first | (with_reducible assumption) | assumption)
            obtain ⟨ad964, A964_2, c964_2, e964, hx964_0, hx964_1, hx964_2, hl964_2, hi964_2⟩ := at_T64 HR963_0.out x7_2 p964 q964
            cases e964
            have HR964_2 := Aside0.mk hi964_2
            have HC964_2 := Aside0.mk hl964_2
            clear hi964_2 hl964_2
            replace p964 := eq_true p964
            replace q964 := eq_true q964
            go_wp2
            go_ret
            exact ⟨by first | rfl | (simp; done) | (simp [*]; done), by repeat (first | exact Drawn0.refl _ | apply Drawn0.step)⟩
          rw [if_neg c11] at H
          have c11b0 : decide ((wrap64 (a1 - x5_2)) < (((rd_T64 (rd_L5 l0 x6_1) x7_2).f2).length : Int)) = false := decide_eq_false c11
          clear c11
          by_cases c12 : (((rd_T64 (rd_L5 l0 x6_1) x7_2).f0).size : Int) > (wrap64 (a1 - (wrap64 (x5_2 + (((rd_T64 (rd_L5 l0 x6_1) x7_2).f2).length : Int)))))
          · rw [if_pos c12] at H
            have c12b0 : decide ((wrap64 (a1 - (wrap64 (x5_2 + (((rd_T64 (rd_L5 l0 x6_1) x7_2).f2).length : Int))))) < (((rd_T64 (rd_L5 l0 x6_1) x7_2).f0).size : Int)) = true := decide_eq_true c12
            clear c12
            obtain rfl := Option.some.inj H
            have p962 : 0 ≤ (x6_1 : Int) := of_decide_eq_true (by first | (with_reducible assumption) | assumption)
            have q962 : x6_1 < (l0.length : Int) := of_decide_eq_true (by first | (with_reducible assumption) | assumption)
            obtain ⟨ad962, A962_0, c962_0, e962, hx962_0, hl962_0, hi962_0⟩ := at_L5 HR0.out x6_1 p962 q962
            obtain rfl : ad961 = ad962 := (by injection e962)
            have HR962_0 := Aside0.mk hi962_0
            have HC962_0 := Aside0.mk hl962_0
            clear hi962_0 hl962_0
            replace p962 := eq_true p962
            replace q962 := eq_true q962
            have p963 : 0 ≤ (x6_1 : Int) := of_decide_eq_true (by first | (with_reducible assumption) | assumption)
            have q963 : x6_1 < (l0.length : Int) := of_decide_eq_true (by first | (with_reducible assumption) | assumption)
            obtain ⟨ad963, A963_0, c963_0, e963, hx963_0, hl963_0, hi963_0⟩ := at_L5 HR0.out x6_1 p963 q963
            obtain rfl : ad961 = ad963 := (by injection e963)
            have HR963_0 := Aside0.mk hi963_0
            have HC963_0 := Aside0.mk hl963_0
            clear hi963_0 hl963_0
            replace p963 := eq_true p963
            replace q963 := eq_true q963
            have ea_ := Option.some.inj (hx962_0.symm.trans hx963_0)
            injection ea_ with ea_ en_ ec_
            subst ea_
            subst ec_
            clear en_
            have p964 : 0 ≤ (x7_2 : Int) := of_decide_eq_true (by first | (with_reducible assumption) | assumption)
            have q964 : x7_2 < ((rd_L5 l0 x6_1).length : Int) := of_decide_eq_true (by first | (with_reducible assumption) | assumption)
            obtain ⟨ad964, A964_2, c964_2, e964, hx964_0, hx964_1, hx964_2, hl964_2, hi964_2⟩ := at_T64 HR963_0.out x7_2 p964 q964
            cases e964
            have HR964_2 := Aside0.mk hi964_2
            have HC964_2 := Aside0.mk hl964_2
            clear hi964_2 hl964_2
            replace p964 := eq_true p964
            replace q964 := eq_true q964
            have p965 : 0 ≤ (x6_1 : Int) := of_decide_eq_true (by first | (with_reducible assumption) | assumption)
            have q965 : x6_1 < (l0.length : Int) := of_decide_eq_true (by first | (with_reducible assumption) | assumption)
            obtain ⟨ad965, A965_0, c965_0, e965, hx965_0, hl965_0, hi965_0⟩ := at_L5 HR0.out x6_1 p965 q965
            obtain rfl : ad961 = ad965 := (by injection e965)
            have HR965_0 := Aside0.mk hi965_0
            have HC965_0 := Aside0.mk hl965_0
            clear hi965_0 hl965_0
            replace p965 := eq_true p965
            replace q965 := eq_true q965
            have ea_ := Option.some.inj (hx962_0.symm.trans hx965_0)
            injection ea_ with ea_ en_ ec_
            subst ea_
            subst ec_
            clear en_
            have p966 : 0 ≤ (x7_2 : Int) := of_decide_eq_true (by first | (with_reducible assumption) | assumption)
            have q966 : x7_2 < ((rd_L5 l0 x6_1).length : Int) := of_decide_eq_true (by first | (with_reducible assumption) | assumption)
            obtain ⟨ad966, A966_2, c966_2, e966, hx966_0, hx966_1, hx966_2, hl966_2, hi966_2⟩ := at_T64 HR965_0.out x7_2 p966 q966
            cases e966
            have HR966_2 := Aside0.mk hi966_2
            have HC966_2 := Aside0.mk hl966_2
            clear hi966_2 hl966_2
            replace p966 := eq_true p966
            replace q966 := eq_true q966
            have p967 : 0 ≤ (x6_1 : Int) := of_decide_eq_true (by first | (with_reducible assumption) | assumption)
            have q967 : x6_1 < (l0.length : Int) := of_decide_eq_true (by first | (with_reducible assumption) | assumption)
            obtain ⟨ad967, A967_0, c967_0, e967, hx967_0, hl967_0, hi967_0⟩ := at_L5 HR0.out x6_1 p967 q967
            obtain rfl : ad961 = ad967 := (by injection e967)
            have HR967_0 := Aside0.mk hi967_0
            have HC967_0 := Aside0.mk hl967_0
            clear hi967_0 hl967_0
            replace p967 := eq_true p967
            replace q967 := eq_true q967
            have ea_ := Option.some.inj (hx962_0.symm.trans hx967_0)
            injection ea_ with ea_ en_ ec_
            subst ea_
            subst ec_
            clear en_
            have p968 : 0 ≤ (x7_2 : Int) := of_decide_eq_true (by first | (with_reducible assumption) | assumption)
            have q968 : x7_2 < ((rd_L5 l0 x6_1).length : Int) := of_decide_eq_true (by first | (with_reducible assumption) | assumption)
            obtain ⟨ad968, A968_2, c968_2, e968, hx968_0, hx968_1, hx968_2, hl968_2, hi968_2⟩ := at_T64 HR967_0.out x7_2 p968 q968
            cases e968
            have HR968_2 := Aside0.mk hi968_2
            have HC968_2 := Aside0.mk hl968_2
            clear hi968_2 hl968_2
            replace p968 := eq_true p968
            replace q968 := eq_true q968
            go_wp2
            go_ret
            exact ⟨by first | rfl | (simp; done) | (simp [*]; done), by repeat (first | exact Drawn0.refl _ | apply Drawn0.step)⟩
          rw [if_neg c12] at H
          have c12b0 : decide ((wrap64 (a1 - (wrap64 (x5_2 + (((rd_T64 (rd_L5 l0 x6_1) x7_2).f2).length : Int))))) < (((rd_T64 (rd_L5 l0 x6_1) x7_2).f0).size : Int)) = false := decide_eq_false c12
          clear c12
          have H' := Aside0.mk H
          clear H
          have p962 : 0 ≤ (x6_1 : Int) := of_decide_eq_true (by first | (with_reducible assumption) | assumption)
          have q962 : x6_1 < (l0.length : Int) := of_decide_eq_true (by first | (with_reducible assumption) | assumption)
          obtain ⟨ad962, A962_0, c962_0, e962, hx962_0, hl962_0, hi962_0⟩ := at_L5 HR0.out x6_1 p962 q962
          obtain rfl : ad961 = ad962 := (by injection e962)
          have HR962_0 := Aside0.mk hi962_0
          have HC962_0 := Aside0.mk hl962_0
          clear hi962_0 hl962_0
          replace p962 := eq_true p962
          replace q962 := eq_true q962
          have p963 : 0 ≤ (x6_1 : Int) := of_decide_eq_true (by first | (with_reducible assumption) | assumption)
          have q963 : x6_1 < (l0.length : Int) := of_decide_eq_true (by first | (with_reducible assumption) | assumption)
          obtain ⟨ad963, A963_0, c963_0, e963, hx963_0, hl963_0, hi963_0⟩ := at_L5 HR0.out x6_1 p963 q963
          obtain rfl : ad961 = ad963 := (by injection e963)
          have HR963_0 := Aside0.mk hi963_0
          have HC963_0 := Aside0.mk hl963_0
          clear hi963_0 hl963_0
          replace p963 := eq_true p963
          replace q963 := eq_true q963
          have ea_ := Option.some.inj (hx962_0.symm.trans hx963_0)
          injection ea_ with ea_ en_ ec_
          subst ea_
          subst ec_
          clear en_
          have p964 : 0 ≤ (x7_2 : Int) := of_decide_eq_true (by first | (with_reducible assumption) | assumption)
          have q964 : x7_2 < ((rd_L5 l0 x6_1).length : Int) := of_decide_eq_true (by first | (with_reducible assumption) | assumption)
          obtain ⟨ad964, A964_2, c964_2, e964, hx964_0, hx964_1, hx964_2, hl964_2, hi964_2⟩ := at_T64 HR963_0.out x7_2 p964 q964
          cases e964
          have HR964_2 := Aside0.mk hi964_2
          have HC964_2 := Aside0.mk hl964_2
          clear hi964_2 hl964_2
          replace p964 := eq_true p964
          replace q964 := eq_true q964
          have p965 : 0 ≤ (x6_1 : Int) := of_decide_eq_true (by first | (with_reducible assumption) | assumption)
          have q965 : x6_1 < (l0.length : Int) := of_decide_eq_true (by first | (with_reducible assumption) | assumption)
          obtain ⟨ad965, A965_0, c965_0, e965, hx965_0, hl965_0, hi965_0⟩ := at_L5 HR0.out x6_1 p965 q965
          obtain rfl : ad961 = ad965 := (by injection e965)
          have HR965_0 := Aside0.mk hi965_0
          have HC965_0 := Aside0.mk hl965_0
          clear hi965_0 hl965_0
          replace p965 := eq_true p965
          replace q965 := eq_true q965
          have ea_ := Option.some.inj (hx962_0.symm.trans hx965_0)
          injection ea_ with ea_ en_ ec_
          subst ea_
          subst ec_
          clear en_
          have p966 : 0 ≤ (x7_2 : Int) := of_decide_eq_true (by first | (with_reducible assumption) | assumption)
          have q966 : x7_2 < ((rd_L5 l0 x6_1).length : Int) := of_decide_eq_true (by first | (with_reducible assumption) | assumption)
          obtain ⟨ad966, A966_2, c966_2, e966, hx966_0, hx966_1, hx966_2, hl966_2, hi966_2⟩ := at_T64 HR965_0.out x7_2 p966 q966
          cases e966
          have HR966_2 := Aside0.mk hi966_2
          have HC966_2 := Aside0.mk hl966_2
          clear hi966_2 hl966_2
          replace p966 := eq_true p966
          replace q966 := eq_true q966
          have p967 : 0 ≤ (x6_1 : Int) := of_decide_eq_true (by first | (with_reducible assumption) | assumption)
          have q967 : x6_1 < (l0.length : Int) := of_decide_eq_true (by first | (with_reducible assumption) | assumption)
          obtain ⟨ad967, A967_0, c967_0, e967, hx967_0, hl967_0, hi967_0⟩ := at_L5 HR0.out x6_1 p967 q967
          obtain rfl : ad961 = ad967 := (by injection e967)
          have HR967_0 := Aside0.mk hi967_0
          have HC967_0 := Aside0.mk hl967_0
          clear hi967_0 hl967_0
          replace p967 := eq_true p967
          replace q967 := eq_true q967
          have ea_ := Option.some.inj (hx962_0.symm.trans hx967_0)
          injection ea_ with ea_ en_ ec_
          subst ea_
          subst ec_
          clear en_
          have p968 : 0 ≤ (x7_2 : Int) := of_decide_eq_true (by first | (with_reducible assumption) | assumption)
          have q968 : x7_2 < ((rd_L5 l0 x6_1).length : Int) := of_decide_eq_true (by first | (with_reducible assumption) | assumption)
          obtain ⟨ad968, A968_2, c968_2, e968, hx968_0, hx968_1, hx968_2, hl968_2, hi968_2⟩ := at_T64 HR967_0.out x7_2 p968 q968
          cases e968
          have HR968_2 := Aside0.mk hi968_2
          have HC968_2 := Aside0.mk hl968_2
          clear hi968_2 hl968_2
          replace p968 := eq_true p968
          replace q968 := eq_true q968
          have p969 : 0 ≤ (x6_1 : Int) := of_decide_eq_true (by first | (with_reducible assumption) | assumption)
          have q969 : x6_1 < (l0.length : Int) := of_decide_eq_true (by first | (with_reducible assumption) | assumption)
          obtain ⟨ad969, A969_0, c969_0, e969, hx969_0, hl969_0, hi969_0⟩ := at_L5 HR0.out x6_1 p969 q969
          obtain rfl : ad961 = ad969 := (by injection e969)
          have HR969_0 := Aside0.mk hi969_0
          have HC969_0 := Aside0.mk hl969_0
          clear hi969_0 hl969_0
          replace p969 := eq_true p969
          replace q969 := eq_true q969
          have ea_ := Option.some.inj (hx962_0.symm.trans hx969_0)
          injection ea_ with ea_ en_ ec_
          subst ea_
          subst ec_
          clear en_
          have p970 : 0 ≤ (x7_2 : Int) := of_decide_eq_true (by first | (with_reducible assumption) | assumption)
          have q970 : x7_2 < ((rd_L5 l0 x6_1).length : Int) := of_decide_eq_true (by first | (with_reducible assumption) | assumption)
          obtain ⟨ad970, A970_2, c970_2, e970, hx970_0, hx970_1, hx970_2, hl970_2, hi970_2⟩ := at_T64 HR969_0.out x7_2 p970 q970
          cases e970
          have HR970_2 := Aside0.mk hi970_2
          have HC970_2 := Aside0.mk hl970_2
          clear hi970_2 hl970_2
          replace p970 := eq_true p970
          replace q970 := eq_true q970
          go_wp2
          go_roundg k2
          case measure => have := HK1.out; have := HK2.out; omega
          case rel => exact ⟨(wrap64 ((wrap64 (x5_2 + (((rd_T64 (rd_L5 l0 x6_1) x7_2).f2).length : Int))) + (((rd_T64 (rd_L5 l0 x6_1) x7_2).f0).size : Int))), (wrap64 (x7_2 + 1)), (by first | rfl | (simp; done) | (simp [*]; done)), (by first | rfl | (simp; done) | (simp [*]; done)), H', ⟨by have := HK1.out; have := HK2.out; omega⟩, by repeat (first | exact Drawn0.refl _ | apply Drawn0.step)⟩
end Go.Proofs.YtkioddjjfifadaaGreatDoor.P
namespace Go.Proofs.YtkioddjjfifadaaGreatDoor.P
open Go.RowKit Go.Proofs.YtkioddjjfifadaaGreatDoorW.PrintWords Go.Proofs.YtkioddjjfifadaaGreatDoorW.PrintLast Go.Proofs.YtkioddjjfifadaaGreatDoorW.PrintMore
theorem strOfNums_size (l : List Int) : (strOfNums l).size = l.length := by
  unfold strOfNums
  simp [ByteArray.size]
theorem wrap_up' {n : Nat} {i : Int} (hn : n ≤ 4611686018427387904) (h0 : 0 ≤ i) (h1 : i < n) : wrap64 (i + 1) = i + 1 := by unfold wrap64; omega
theorem fits_total (a b : Int) : ∃ r, text_fits.f a b = some r := by
  unfold text_fits.f strings_IndexByte.f
  simp only [Option.bind_some]
  repeat' split
  all_goals exact ⟨_, rfl⟩
theorem wideL_len : ∀ (l r : List Int), wideL l = some r → r.length ≤ 2 * l.length
  | [], r, h => by
    obtain rfl := Option.some.inj h
    simp
  | [_], r, h => by
    obtain rfl := Option.some.inj h
    simp
  | a :: b :: l, r, h => by
    rw [wideL] at h
    split at h
    · cases h
    · obtain ⟨t, ht, rfl⟩ := Option.map_eq_some_iff.1 h
      have := wideL_len l t ht
      have := encodeRuneZ_len (a * 256 + b)
      simp only [List.length_append, List.length_cons]
      omega
theorem foldOut_len (bl : Bool) (out : List Int) : (foldOut bl out).length ≤ out.length + 1 := by
  unfold foldOut
  split
  rotate_left
  · omega
  simp
theorem foldGo_len (s : ByteArray) : ∀ (f pos : Nat) (bl : Bool) (out : List Int), pos ≤ s.size → out.length ≤ 5 * pos → (foldGo s f pos bl out).length ≤ 5 * s.size
  | 0, pos, bl, out, hp, ho => by
    rw [foldGo]
    omega
  | f + 1, pos, bl, out, hp, ho => by
    rw [foldGo]
    split
    · rename_i h
      obtain ⟨n1, n2, n4⟩ := decode_width s pos h
      have hf := foldOut_len bl out
      split
      · exact foldGo_len s f _ _ _ n2 (by omega)
      · split
        · refine foldGo_len s f _ _ _ n2 ?_
          rw [List.length_append, bytesOf_length, ext_size s pos _ n2]
          omega
        · refine foldGo_len s f _ _ _ n2 ?_
          rw [List.length_append]
          have := encodeRuneZ_len (low ((Utf8.decode s pos).1 : Int))
          omega
    · omega
theorem fold_total (s : ByteArray) (h : s.size ≤ 1099511627776) : ∃ r, text_Fold.f s = some r ∧ r.size ≤ 5 * s.size := by
  unfold text_Fold.f
  rw [if_pos h]
  refine ⟨_, rfl, ?_⟩
  rw [strOfNums_size]
  exact foldGo_len s _ 0 _ _ (Nat.zero_le _) (Nat.zero_le _)
theorem text_loop (a : Int) (l : List Int) (hl : l.length ≤ 1000000) : ∀ (k : Nat) (i : Int), 0 ≤ i → (l.length : Int) - i < k → 0 < k → ∃ r, text_Text.l0 k a l l (l.length : Int) i = some r ∧ r.1.size ≤ l.length
  | 0, i, _, _, h3 => by omega
  | k + 1, i, h0, h2, _ => by
    rw [text_Text.l0]
    by_cases hi : i < (l.length : Int)
    · rw [if_pos hi, if_pos h0, if_pos hi]
      obtain ⟨r, hr⟩ := fits_total a (rd l i)
      rw [hr, Option.bind_some]
      split
      · rw [wrap_up' (n := l.length) (by omega) h0 hi]
        exact text_loop a l hl k (i + 1) (by omega) (by omega) (by omega)
      · exact ⟨_, rfl, Nat.zero_le _⟩
    · rw [if_neg hi]
      exact ⟨_, rfl, by rw [strOfNums_size]; exact Nat.le_refl _⟩
theorem text_total (k : Nat) (a : Int) (l : List Int) (hb : l.all isByte = true) (hl : l.length ≤ 1000000) (hk : l.length + 1 < k) : ∃ r, text_Text.f k a l = some r ∧ r.1.size ≤ 2 * l.length := by
  unfold text_Text.f
  split
  · unfold text_wide.f
    rw [if_pos ⟨hb, by omega⟩]
    split
    · exact ⟨_, rfl, Nat.zero_le _⟩
    cases hw : wideL l with
    | none => exact ⟨_, rfl, Nat.zero_le _⟩
    | some x => exact ⟨_, rfl, by show (strOfNums x).size ≤ _; rw [strOfNums_size]; exact wideL_len l x hw⟩
  split
  · unfold utf8_Valid.f
    rw [if_pos ⟨hb, by omega⟩, Option.bind_some]
    split
    rotate_left
    · exact ⟨_, rfl, Nat.zero_le _⟩
    exact ⟨_, rfl, by show (strOfNums l).size ≤ _; rw [strOfNums_size]; omega⟩
  obtain ⟨k1, rfl⟩ : ∃ k1, k = k1 + 1 := ⟨k - 1, by omega⟩
  have hj : ∀ b, ∃ r, text_Text.j0 (k1 + 1) a l b = some r ∧ r.1.size ≤ 2 * l.length := fun b => by
    rw [text_Text.j0]
    split
    · obtain ⟨r, h1, h2⟩ := text_loop a l hl k1 0 (by omega) (by omega) (by omega)
      exact ⟨r, h1, by omega⟩
    · exact ⟨_, rfl, Nat.zero_le _⟩
  repeat' split
  all_goals exact hj _
theorem itoa_total (n : Int) (h0 : -9223372036854775808 ≤ n) (h1 : n ≤ 9223372036854775807) : ∃ r, strconv_Itoa.f n = some r ∧ r.size ≤ 21 := by
  unfold strconv_Itoa.f
  rw [if_pos ⟨h0, h1⟩]
  refine ⟨_, rfl, ?_⟩
  have := Lib.itoa_length_le n h0 h1
  simpa [ByteArray.size] using this
def GoodP (p : S64) : Prop := p.f0.size ≤ 2000 ∧ p.f2.length ≤ 2000 ∧ p.f2.all isByte = true ∧ -9223372036854775808 ≤ p.f1 ∧ p.f1 ≤ 9223372036854775807
end Go.Proofs.YtkioddjjfifadaaGreatDoor.P
namespace Go.Proofs.YtkioddjjfifadaaGreatDoor.P
open Go.RowKit Go.Proofs.YtkioddjjfifadaaGreatDoorW.PrintWords Go.Proofs.YtkioddjjfifadaaGreatDoorW.PrintLast Go.Proofs.YtkioddjjfifadaaGreatDoorW.PrintMore
theorem join_len (B : Nat) : ∀ (xs : List (List UInt8)), (∀ x ∈ xs, x.length ≤ B) → (Lib.join xs []).length ≤ xs.length * B
  | [], _ => by simp [Lib.join]
  | [x], h => by
    have := h x List.mem_cons_self
    simp [Lib.join, List.intercalate]
    omega
  | x :: y :: r, h => by
    have h1 := join_len B (y :: r) (fun z hz => h z (List.mem_cons_of_mem _ hz))
    have h2 := h x List.mem_cons_self
    have e : Lib.join (x :: y :: r) [] = x ++ Lib.join (y :: r) [] := by simp [Lib.join, List.intercalate]
    rw [e, List.length_append, List.length_cons, Nat.add_mul]
    omega
theorem sortB_mem {xs : List ByteArray} {b : ByteArray} (h : b ∈ sortB xs) : ∃ a ∈ xs, b.size = a.size := by
  unfold sortB at h
  obtain ⟨l, hl, rfl⟩ := List.mem_map.1 h
  obtain ⟨a, ha, rfl⟩ := List.mem_map.1 (List.mem_mergeSort.1 hl)
  exact ⟨a, ha, by show (a.data.toList.toArray).size = a.data.size; rw [List.size_toArray, Array.length_toList]⟩
theorem getD_mem {α : Type} (l : List α) (d : α) (i : Int) (h0 : 0 ≤ i) (h1 : i < (l.length : Int)) : l.getD i.toNat d ∈ l := by
  rw [List.getD_eq_getElem?_getD, List.getElem?_eq_getElem (by omega)]
  exact List.getElem_mem _
end Go.Proofs.YtkioddjjfifadaaGreatDoor.P
namespace Go.Proofs.YtkioddjjfifadaaGreatDoor.P
open Go.RowKit Go.Proofs.YtkioddjjfifadaaGreatDoorW.PrintWords
def Good8 (p : S64) : Prop := p.f0.size ≤ 20000 ∧ p.f2.length ≤ 20000 ∧ p.f2.all isByte = true ∧ -9223372036854775808 ≤ p.f1 ∧ p.f1 ≤ 9223372036854775807
theorem key_total8 (k : Nat) (a : Int) (l : List Int) (h0 : -9223372036854775808 ≤ a) (h1 : a ≤ 9223372036854775807) (hb : l.all isByte = true) (hl : l.length ≤ 20000) (hk : l.length + 1 < k) : ∃ r, text_Key.f k a l = some r ∧ r.size ≤ 300000 := by
  unfold text_Key.f
  obtain ⟨r, hr, hs⟩ := text_total k a l hb (by omega) hk
  rw [hr, Option.bind_some]
  split
  · obtain ⟨q, hq, hqs⟩ := fold_total r.1 (by omega)
    rw [hq, Option.bind_some, if_pos (by omega)]
    refine ⟨_, rfl, ?_⟩
    rw [ByteArray.size_append]
    have : (⟨#[61]⟩ : ByteArray).size = 1 := rfl
    omega
  obtain ⟨q, hq, hqs⟩ := itoa_total a h0 h1
  have z1 : (⟨#[35]⟩ : ByteArray).size = 1 := rfl
  have z2 : (⟨#[58]⟩ : ByteArray).size = 1 := rfl
  have z3 := strOfNums_size l
  rw [hq, Option.bind_some, if_pos (by omega), if_pos (by rw [ByteArray.size_append]; omega), if_pos (by rw [ByteArray.size_append, ByteArray.size_append]; omega)]
  refine ⟨_, rfl, ?_⟩
  rw [ByteArray.size_append, ByteArray.size_append, ByteArray.size_append]
  omega
theorem upK {α : Type} {F : Nat → Option α} (hm : ∀ k, LeO (F k) (F (k + 1))) {K k' : Nat} (h : K ≤ k') {r : α} (e : F K = some r) : F k' = some r := by
  induction h with
  | refl => exact e
  | step _ ih => exact hm _ _ ih
def keyB (p : S64) : ByteArray := (text_Key.f 20010 p.f1 p.f2).getD ⟨#[]⟩
theorem keyB_at (p : S64) (h : Good8 p) (k : Nat) (hk : 20010 ≤ k) : text_Key.f k p.f1 p.f2 = some (keyB p) ∧ (keyB p).size ≤ 300000 := by
  obtain ⟨_, h2, h3, h4, h5⟩ := h
  obtain ⟨r, hr, hs⟩ := key_total8 20010 p.f1 p.f2 h4 h5 h3 h2 (by omega)
  have e : keyB p = r := by unfold keyB; rw [hr]; rfl
  rw [e]
  exact ⟨upK (F := fun k => text_Key.f k p.f1 p.f2) (fun k => text_Key.mono _ _ k) hk hr, hs⟩
def itemB (p : S64) : ByteArray := ((((p.f0 ++ (⟨#[61]⟩ : ByteArray)) ++ ⟨(Lib.itoa ((keyB p).size : Int)).toArray⟩) ++ (⟨#[58]⟩ : ByteArray)) ++ keyB p) ++ (⟨#[59]⟩ : ByteArray)
theorem itoa_len' (n : Int) (h0 : -9223372036854775808 ≤ n) (h1 : n ≤ 9223372036854775807) : strconv_Itoa.f n = some ⟨(Lib.itoa n).toArray⟩ ∧ (⟨(Lib.itoa n).toArray⟩ : ByteArray).size ≤ 21 := by
  obtain ⟨r, h2, h3⟩ := itoa_total n h0 h1
  have h4 := h2
  unfold strconv_Itoa.f at h4
  rw [if_pos ⟨h0, h1⟩] at h4
  rw [Option.some.inj h4]
  exact ⟨h2, h3⟩
theorem itemB_size (p : S64) (h : Good8 p) : (itemB p).size ≤ 400000 := by
  obtain ⟨_, h2⟩ := keyB_at p h 20010 (Nat.le_refl _)
  obtain ⟨_, h3⟩ := itoa_len' ((keyB p).size : Int) (by omega) (by omega)
  have z1 : (⟨#[61]⟩ : ByteArray).size = 1 := rfl
  have z2 : (⟨#[58]⟩ : ByteArray).size = 1 := rfl
  have z3 : (⟨#[59]⟩ : ByteArray).size = 1 := rfl
  have h1 := h.1
  unfold itemB
  simp only [ByteArray.size_append]
  omega
def finB (xs : List ByteArray) : ByteArray := ⟨(Lib.join ((sortB xs).map (·.data.toList)) []).toArray⟩ ++ (⟨#[47]⟩ : ByteArray)
theorem drop_64k (l : List S64) (i : Int) (h0 : 0 ≤ i) (h1 : i < (l.length : Int)) : l.drop i.toNat = rd_T64 l i :: l.drop (i + 1).toNat := by
  have e : (i + 1).toNat = i.toNat + 1 := by omega
  rw [e, List.drop_eq_getElem_cons (by omega)]
  congr 1
  unfold rd_T64
  rw [List.getD_eq_getElem?_getD, List.getElem?_eq_getElem (by omega), Option.getD_some]
theorem finB_at (xs : List ByteArray) (hl : xs.length ≤ 200) (h : ∀ b ∈ xs, b.size ≤ 400000) : ((slices_Sort.f xs).bind fun y3 => ((strings_Join.f y3 (⟨#[]⟩ : ByteArray)).bind fun t793 => (if t793.size + 1 ≤ 9223372036854775807 then (some (t793 ++ (⟨#[47]⟩ : ByteArray))) else (none)))) = some (finB xs) ∧ (finB xs).size ≤ 80000001 := by
  unfold slices_Sort.f strings_Join.f
  rw [if_pos (by omega), Option.bind_some]
  have hj := join_len 400000 ((sortB xs).map (·.data.toList)) (fun z hz => by
    obtain ⟨b, hb, rfl⟩ := List.mem_map.1 hz
    obtain ⟨a, ha, he⟩ := sortB_mem hb
    have := h a ha
    show b.data.toList.length ≤ _
    rw [Array.length_toList]
    show b.size ≤ _
    omega)
  rw [List.length_map, sortB_len] at hj
  have hj2 : xs.length * 400000 ≤ 80000000 := by omega
  have hs0 : (⟨#[]⟩ : ByteArray).data.toList = [] := rfl
  rw [hs0, if_pos ⟨by rw [sortB_len]; omega, by omega⟩, Option.bind_some]
  have hsz : (⟨(Lib.join ((sortB xs).map (·.data.toList)) []).toArray⟩ : ByteArray).size = (Lib.join ((sortB xs).map (·.data.toList)) []).length := by simp [ByteArray.size]
  have z4 : (⟨#[47]⟩ : ByteArray).size = 1 := rfl
  rw [if_pos (by rw [hsz]; omega)]
  refine ⟨rfl, ?_⟩
  unfold finB
  rw [ByteArray.size_append, hsz, z4]
  omega
theorem mark_loop8 (l : List S64) (hl : l.length ≤ 200) (hg : ∀ p ∈ l, Good8 p) : ∀ (m k : Nat) (acc : List ByteArray) (i : Int), 0 ≤ i → (l.length : Int) - i = m → m + 20011 ≤ k → acc.length + m ≤ 200 → (∀ b ∈ acc, b.size ≤ 400000) →
    name_mark.l0 k acc l (l.length : Int) i = some (finB (acc ++ (l.drop i.toNat).map itemB)) ∧ (finB (acc ++ (l.drop i.toNat).map itemB)).size ≤ 80000001
  | 0, k, acc, i, h0, hm, hk, ha, hb => by
    obtain ⟨k1, rfl⟩ : ∃ k1, k = k1 + 1 := ⟨k - 1, by omega⟩
    rw [name_mark.l0, if_neg (by omega), List.drop_eq_nil_of_le (by omega), List.map_nil, List.append_nil]
    exact finB_at acc (by omega) hb
  | m + 1, k, acc, i, h0, hm, hk, ha, hb => by
    obtain ⟨k1, rfl⟩ : ∃ k1, k = k1 + 1 := ⟨k - 1, by omega⟩
    have hd := drop_64k l i h0 (by omega)
    have hm' : rd_T64 l i ∈ l := List.mem_of_mem_drop (hd ▸ List.mem_cons_self)
    have hgd := hg _ hm'
    rw [hd, List.map_cons]
    obtain ⟨p, hp⟩ : ∃ p, rd_T64 l i = p := ⟨_, rfl⟩
    rw [hp] at hgd ⊢
    obtain ⟨hx, hxs⟩ := keyB_at p hgd k1 (by omega)
    obtain ⟨hy, hys⟩ := itoa_len' ((keyB p).size : Int) (by omega) (by omega)
    have hit := itemB_size p hgd
    have z1 : (⟨#[61]⟩ : ByteArray).size = 1 := rfl
    have z2 : (⟨#[58]⟩ : ByteArray).size = 1 := rfl
    have z3 : (⟨#[59]⟩ : ByteArray).size = 1 := rfl
    have g1 := hgd.1
    have ih := mark_loop8 l hl hg m k1 (acc ++ [itemB p]) (i + 1) (by omega) (by omega) (by omega) (by rw [List.length_append]; simp only [List.length_cons, List.length_nil]; omega) (fun b hb' => by
      rcases List.mem_append.1 hb' with hb' | hb'
      · exact hb b hb'
      · rw [List.mem_singleton.1 hb']
        exact hit)
    rw [List.append_assoc] at ih
    refine ⟨?_, ih.2⟩
    rw [name_mark.l0, if_pos (by omega), if_pos h0, if_pos (by omega), hp, hx, Option.bind_some, if_pos (by omega), hy, Option.bind_some, if_pos (by simp only [ByteArray.size_append]; omega), if_pos (by simp only [ByteArray.size_append]; omega), if_pos (by simp only [ByteArray.size_append]; omega), if_pos (by simp only [ByteArray.size_append]; omega), if_pos (by omega), wrap_up' (n := l.length) (by omega) h0 (by omega)]
    exact ih.1
def markB (s : List S64) : ByteArray := finB (s.map itemB)
theorem mark_at (k : Nat) (s : List S64) (hl : s.length ≤ 200) (hg : ∀ p ∈ s, Good8 p) (hk : 20300 ≤ k) : name_mark.f k s = some (markB s) ∧ (markB s).size ≤ 80000001 := by
  unfold name_mark.f
  have := mark_loop8 s hl hg s.length k [] 0 (Int.le_refl _) (by omega) (by omega) (by simpa using hl) (fun b hb => by cases hb)
  rw [show (0 : Int).toNat = 0 from rfl, List.drop_zero, List.nil_append] at this
  exact this
theorem sortB_perm {xs ys : List ByteArray} (h : xs.Perm ys) : sortB xs = sortB ys := by
  unfold sortB
  congr 1
  have tr : ∀ a b c : List UInt8, decide (a ≤ b) = true → decide (b ≤ c) = true → decide (a ≤ c) = true := fun a b c h1 h2 => by simp only [decide_eq_true_eq] at *; exact List.le_trans h1 h2
  have tot : ∀ a b : List UInt8, (decide (a ≤ b) || decide (b ≤ a)) = true := fun a b => by simp only [Bool.or_eq_true, decide_eq_true_eq]; exact List.le_total a b
  refine List.Perm.eq_of_pairwise (le := fun a b => decide (a ≤ b) = true) (fun a b _ _ h1 h2 => ?_) (List.pairwise_mergeSort tr tot _) (List.pairwise_mergeSort tr tot _) ?_
  rotate_left
  · exact ((List.mergeSort_perm _ _).trans (h.map _)).trans (List.mergeSort_perm _ _).symm
  simp only [decide_eq_true_eq] at h1 h2
  exact List.le_antisymm h1 h2
def keyBytes (n : List (List S64)) : List UInt8 := (n.map fun s => (markB s).data.toList).flatten
theorem keyL_at (k : Nat) (hk : 20300 ≤ k) : ∀ (n : List (List S64)), (∀ s ∈ n, s.length ≤ 200 ∧ ∀ p ∈ s, Good8 p) → keyL k n = some (keyBytes n) ∧ (keyBytes n).length ≤ n.length * 80000001
  | [], _ => ⟨rfl, by simp [keyBytes]⟩
  | s :: n, h => by
    obtain ⟨h1, h2⟩ := h s List.mem_cons_self
    obtain ⟨hm, hms⟩ := mark_at k s h1 h2 hk
    obtain ⟨ht, hts⟩ := keyL_at k hk n (fun z hz => h z (List.mem_cons_of_mem _ hz))
    have e : keyBytes (s :: n) = (markB s).data.toList ++ keyBytes n := by unfold keyBytes; rw [List.map_cons, List.flatten_cons]
    rw [keyL, hm, Option.bind_some, ht, Option.bind_some, e]
    refine ⟨rfl, ?_⟩
    have : (markB s).data.toList.length = (markB s).size := by rw [Array.length_toList]; rfl
    rw [List.length_append, List.length_cons, Nat.add_mul]
    omega
theorem key_at (k : Nat) (hk : 20300 ≤ k) (n : List (List S64)) (hn : n.length ≤ 200) (h : ∀ s ∈ n, s.length ≤ 200 ∧ ∀ p ∈ s, Good8 p) : name_Key.f k n = some ⟨(keyBytes n).toArray⟩ := by
  obtain ⟨h1, h2⟩ := keyL_at k hk n h
  unfold name_Key.f
  rw [h1, Option.bind_some, if_pos ⟨by omega, by omega⟩]
theorem same_at (k : Nat) (hk : 20300 ≤ k) (n m : List (List S64)) (hn : n.length ≤ 200) (hm : m.length ≤ 200) (h : ∀ s ∈ n, s.length ≤ 200 ∧ ∀ p ∈ s, Good8 p) (g : ∀ s ∈ m, s.length ≤ 200 ∧ ∀ p ∈ s, Good8 p) (e : keyBytes n = keyBytes m) : name_Same.f k n m = some true := by
  unfold name_Same.f
  rw [key_at k hk n hn h, Option.bind_some, key_at k hk m hm g, Option.bind_some, e]
  simp
end Go.Proofs.YtkioddjjfifadaaGreatDoor.P
namespace Go.Proofs.YtkioddjjfifadaaGreatDoor.P
open Go.RowKit Go.Proofs.YtkioddjjfifadaaGreatDoorW.PrintWords Go.Proofs.YtkioddjjfifadaaGreatDoorW.PrintLast Go.Proofs.YtkioddjjfifadaaGreatDoorW.PrintMore
attribute [local go_sem] max2_int min2_int max_two min_two max_three min_three max_four min_four
set_option linter.unusedVariables false
set_option linter.unusedSimpArgs false
def bytes_trimLeftByte.l0 : Nat → List Int → Int → Option (List Int)
  | 0, _, _ => none
  | k + 1, x0, x1 => if (x0.length : Int) > 0 then (if 0 < (x0.length : Int) then (if (rd x0 0) = x1 then (if 1 ≤ (x0.length : Int) then (bytes_trimLeftByte.l0 k (x0.drop 1) x1) else (none)) else (if (x0.length : Int) = 0 then (some ([] : List Int)) else (some x0))) else (none)) else (if (x0.length : Int) = 0 then (some ([] : List Int)) else (some x0))
def bytes_trimLeftByte.f (k : Nat) (l0 : List Int) (a1 : Int) : Option (List Int) := bytes_trimLeftByte.l0 k l0 a1
set_option maxHeartbeats 8000000 in
set_option maxRecDepth 100000 in
theorem bytes_trimLeftByte.calls (k : Nat) (P0_ : Nat → Prop) (A0 : Option Addr) (c0 : Nat) (l0 : List Int) (a1 : Int) (r : List Int) (w : World) (hs0 : Kd.V (Kd.int .u8) 5 w w.heap.size (fun k_ => P0_ k_) (.slice A0 l0.length c0) l0) (h : bytes_trimLeftByte.f k l0 a1 = some r) :
    Calls Tryz.prog 266 #[.slice A0 l0.length c0, .int .u8 a1] w fun e w' => ∃ v0_ : Value, e = .returned (v0_) ∧ Kd.V (Kd.int .u8) 5 w' w.heap.size (fun k_ => (P0_ k_ ∨ w.heap.size ≤ k_)) v0_ r ∧ Below w.heap.size w w' := by
  have HO0 := Aside0.mk (show Kd.V (Kd.int .u8) 5 w w.heap.size (fun k_ => (P0_ k_ ∨ w.heap.size ≤ k_)) (.slice A0 l0.length c0) l0 from Kd.V_mono hs0 (fun k_ hk => .inl hk))
  have HB := Aside0.mk (Below.refl w.heap.size w)
  have H : (bytes_trimLeftByte.l0 k l0 a1) = some r := h
  clear h
  have H' := Aside0.mk H
  clear H
  go_enter Tryz.func266, Tryz.ntmps266
  go_wp2
  go_loopg [0] k (fun kq v0 w' => ∃ (x0_1 : List Int), Aside0 (bytes_trimLeftByte.l0 kq x0_1 a1 = some r) ∧ Aside0 (kq ≤ k) ∧ Aside0 (Kd.V (Kd.int .u8) 5 w' w.heap.size (fun k_ => (P0_ k_ ∨ w.heap.size ≤ k_)) v0 x0_1) ∧ Aside0 (Below w.heap.size w w'))
  case atStart => exact ⟨(l0), H', ⟨Nat.le_refl _⟩, ⟨Kd.V_u HO0.out⟩, ⟨bU HB.out⟩⟩
  case round =>
    clear H'
    try clear c2
    try clear p2
    obtain ⟨x0_1, HA, HK1, HO_0, HB⟩ := hrel
    cases gk with
    | zero => exact absurd HA.out (by simp [bytes_trimLeftByte.l0])
    | succ k1 =>
      have H := HA.out
      clear HA
      simp only [bytes_trimLeftByte.l0] at H
      by_cases c3 : (x0_1.length : Int) > 0
      rotate_left
      · rw [if_neg c3] at H
        have c3b0 : decide (0 < (x0_1.length : Int)) = false := decide_eq_false c3
        have c3b1 : decide (0 < x0_1.length) = false := decide_eq_false (by omega)
        clear c3
        by_cases c12 : (x0_1.length : Int) = 0
        rotate_left
        · rw [if_neg c12] at H
          have c12b0 : ((x0_1.length : Int) == 0) = false := beq_eq_false_iff_ne.mpr c12
          have c12b1 : ((x0_1.length : Int) != 0) = true := bne_iff_ne.mpr c12
          have c12b2 : ¬ (x0_1 = []) := fun h_ => c12 (by rw [h_]; rfl)
          obtain rfl := Option.some.inj H
          obtain ⟨Ao14, co14, eo14⟩ := Kd.V_slice HO_0.out
          subst eo14
          go_wp2
          go_ret
          exact ⟨_, by first | rfl | (simp [errW_none, errW_some] <;> rfl), by (with_reducible repeat (first | apply Kd.V_alloc | apply Kd.V_drewN | apply Kd.V_drew)); exact HO_0.out, bU HB.out⟩
        rw [if_pos c12] at H
        have c12b0 : ((x0_1.length : Int) == 0) = true := beq_iff_eq.mpr c12
        have c12b1 : ((x0_1.length : Int) != 0) = false := bne_eq_false_iff_eq.mpr c12
        clear c12
        obtain rfl := Option.some.inj H
        obtain ⟨Ao13, co13, eo13⟩ := Kd.V_slice HO_0.out
        subst eo13
        go_wp2
        go_ret
        exact ⟨_, by first | rfl | (simp [errW_none, errW_some] <;> rfl), (Kd.V_nil _ _ _ _ _), bU HB.out⟩
      rw [if_pos c3] at H
      have c3b0 : decide (0 < (x0_1.length : Int)) = true := decide_eq_true c3
      have c3b1 : decide (0 < x0_1.length) = true := decide_eq_true (by omega)
      clear c3
      by_cases c4 : 0 < (x0_1.length : Int)
      rotate_left
      · rw [if_neg c4] at H
        exact absurd H (by simp)
      rw [if_pos c4] at H
      have c4b0 : decide (0 < (x0_1.length : Int)) = true := decide_eq_true c4
      have c4b1 : decide (0 < x0_1.length) = true := decide_eq_true (by omega)
      clear c4
      by_cases c5 : (rd x0_1 0) = a1
      rotate_left
      · rw [if_neg c5] at H
        have c5b0 : ((rd x0_1 0) == a1) = false := beq_eq_false_iff_ne.mpr c5
        have c5b1 : ((rd x0_1 0) != a1) = true := bne_iff_ne.mpr c5
        by_cases c9 : (x0_1.length : Int) = 0
        rotate_left
        · rw [if_neg c9] at H
          have c9b0 : ((x0_1.length : Int) == 0) = false := beq_eq_false_iff_ne.mpr c9
          have c9b1 : ((x0_1.length : Int) != 0) = true := bne_iff_ne.mpr c9
          have c9b2 : ¬ (x0_1 = []) := fun h_ => c9 (by rw [h_]; rfl)
          obtain rfl := Option.some.inj H
          obtain ⟨Ao11, co11, eo11⟩ := Kd.V_slice HO_0.out
          subst eo11
          have p347 : 0 ≤ (0 : Int) := (by omega)
          have q347 : 0 < (x0_1.length : Int) := of_decide_eq_true (by first | (with_reducible assumption) | assumption)
          obtain ⟨ad347, e347, hx347_0⟩ := Kd.at_int (Kd.V_reads' HO_0.out).2.2 0 p347 q347
          cases e347
          have qi347 : (0 < x0_1.length) = True := eq_true (by omega)
          (try rw [show ((0 : Int)).toNat = 0 from rfl] at hx347_0)
          (try rw [Addr.add_zero'] at hx347_0)
          replace p347 := eq_true p347
          replace q347 := eq_true q347
          go_wp2
          go_ret
          exact ⟨_, by first | rfl | (simp [errW_none, errW_some] <;> rfl), by (with_reducible repeat (first | apply Kd.V_alloc | apply Kd.V_drewN | apply Kd.V_drew)); exact HO_0.out, bU HB.out⟩
        rw [if_pos c9] at H
        have c9b0 : ((x0_1.length : Int) == 0) = true := beq_iff_eq.mpr c9
        have c9b1 : ((x0_1.length : Int) != 0) = false := bne_eq_false_iff_eq.mpr c9
        clear c9
        obtain rfl := Option.some.inj H
        obtain ⟨Ao10, co10, eo10⟩ := Kd.V_slice HO_0.out
        subst eo10
        have p347 : 0 ≤ (0 : Int) := (by omega)
        have q347 : 0 < (x0_1.length : Int) := of_decide_eq_true (by first | (with_reducible assumption) | assumption)
        obtain ⟨ad347, e347, hx347_0⟩ := Kd.at_int (Kd.V_reads' HO_0.out).2.2 0 p347 q347
        cases e347
        have qi347 : (0 < x0_1.length) = True := eq_true (by omega)
        (try rw [show ((0 : Int)).toNat = 0 from rfl] at hx347_0)
        (try rw [Addr.add_zero'] at hx347_0)
        replace p347 := eq_true p347
        replace q347 := eq_true q347
        go_wp2
        go_ret
        exact ⟨_, by first | rfl | (simp [errW_none, errW_some] <;> rfl), (Kd.V_nil _ _ _ _ _), bU HB.out⟩
      rw [if_pos c5] at H
      have c5b0 : ((rd x0_1 0) == a1) = true := beq_iff_eq.mpr c5
      have c5b1 : ((rd x0_1 0) != a1) = false := bne_eq_false_iff_eq.mpr c5
      clear c5
      by_cases c6 : 1 ≤ (x0_1.length : Int)
      rotate_left
      · rw [if_neg c6] at H
        exact absurd H (by simp)
      rw [if_pos c6] at H
      have c6b0 := eq_true c6
      have c6b1 : decide (1 ≤ (x0_1.length : Int)) = true := decide_eq_true c6
      clear c6
      obtain ⟨y348, hy348⟩ : ∃ y_ : List Int, y_ = (x0_1.drop 1) := ⟨_, rfl⟩
      replace H : (bytes_trimLeftByte.l0 k1 y348 a1) = some r := by first | (rw [hy348]; with_reducible exact H) | (have H2_ := (Option.bind_some _ _).symm.trans H; rw [hy348]; with_reducible exact H2_) | (have H2_ := (Option.bind_some _ _).symm.trans H; with_reducible exact H2_) | with_reducible exact H | (rw [hy348]; exact H) | exact H
      have Ny348 := Aside0.mk hy348
      clear hy348
      have H' := Aside0.mk H
      clear H
      obtain ⟨Ao7, co7, eo7⟩ := Kd.V_slice HO_0.out
      subst eo7
      have p347 : 0 ≤ (0 : Int) := (by omega)
      have q347 : 0 < (x0_1.length : Int) := of_decide_eq_true (by first | (with_reducible assumption) | assumption)
      obtain ⟨ad347, e347, hx347_0⟩ := Kd.at_int (Kd.V_reads' HO_0.out).2.2 0 p347 q347
      cases e347
      have qi347 : (0 < x0_1.length) = True := eq_true (by omega)
      (try rw [show ((0 : Int)).toNat = 0 from rfl] at hx347_0)
      (try rw [Addr.add_zero'] at hx347_0)
      replace p347 := eq_true p347
      replace q347 := eq_true q347
      have q8 : (1 : Int) ≤ ((x0_1.length : Int) : Int) := of_decide_eq_true (by first | (with_reducible assumption) | assumption)
      obtain ⟨i08, hi08, _, hsz8, _⟩ := info_parts info5
      have hroom8 : x0_1.length ≤ co7 := (Kd.V_reads' HO_0.out).2.1
      have hC8 : Kd.F (Kd.int .u8) _ _ (some ad347) x0_1.length x0_1 := (Kd.V_at (base := w.heap.size) HO_0.out).2.2
      have hcut8 := cut_from (P := Tryz.prog) 22 5 .i64 Tryz.underlying22 hi08 1 hsz8 (some ad347) x0_1.length co7 1 (by omega) q8
      have hr8 := Kd.F_cut (m := (1 : Int).toNat) (c := co7) hC8 (by omega) hroom8
      obtain ⟨A8, hA8⟩ : ∃ A1, A1 = (if co7 = (1 : Int).toNat then (some ad347) else ((some ad347) : Option Addr).map (·.add ((1 : Int).toNat * 1))) := ⟨_, rfl⟩
      obtain ⟨c8, hc8⟩ : ∃ c1, c1 = co7 - (1 : Int).toNat := ⟨_, rfl⟩
      have hy8 : y348.length = x0_1.length - (1 : Int).toNat := (by rw [Ny348.out, List.length_drop] <;> omega)
      rw [show (x0_1).drop (1 : Int).toNat = y348 from Ny348.out.symm] at hr8
      replace hr8 : Kd.F (Kd.int .u8) _ _ A8 y348.length y348 := (by rw [hA8]; exact hr8)
      rw [← hy8, ← hA8, ← hc8] at hcut8
      have HO352 := Aside0.mk (show Kd.V (Kd.int .u8) 5 _ w.heap.size _ (.slice A8 y348.length c8) y348 from Kd.V_mk (by rw [hy8, hc8]; exact Nat.sub_le_sub_right hroom8 _) hr8)
      have HC352 := Aside0.mk (show y348.length ≤ c8 from by rw [hy8, hc8]; exact Nat.sub_le_sub_right hroom8 _)
      clear hr8 hC8 hroom8 hi08 hsz8 hc8
      have KY8 := Aside0.mk hy8
      have KA8 := Aside0.mk hA8
      clear hy8 hA8
      replace q8 := eq_true q8
      go_wp2
      go_roundg k1
      case measure => have := HK1.out; omega
      case rel => exact ⟨(y348), H', ⟨by have := HK1.out; omega⟩, ⟨Kd.V_u HO352.out⟩, ⟨bU HB.out⟩⟩
end Go.Proofs.YtkioddjjfifadaaGreatDoor.P
set_option linter.unusedVariables false
set_option linter.unusedSimpArgs false
namespace Go.Proofs.YtkioddjjfifadaaGreatDoor.P
open Go.RowKit Go.Proofs.YtkioddjjfifadaaGreatDoorW.PrintWords Go.Proofs.YtkioddjjfifadaaGreatDoorW.PrintLast Go.Proofs.YtkioddjjfifadaaGreatDoorW.PrintMore
theorem put_len {x : Int} {n : Nat} (h : 0 ≤ x ∧ x ≤ 16777216) (c : ¬ ((n : Int) > wrap64 (16777216 - x))) : 0 ≤ wrap64 (x + (n : Int)) ∧ wrap64 (x + (n : Int)) ≤ 16777216 := by
  unfold wrap64 at *; omega
theorem put_cap {x : Int} (h : 0 ≤ x ∧ x ≤ 16777216) : wrap64 (x + 10) = ((x + 10).toNat : Int) := by unfold wrap64; omega
theorem put_cap2 {x : Int} (h : 0 ≤ x ∧ x ≤ 16777216) : (x + 10).toNat ≤ 140737488355328 := by omega
theorem trimLeftByte_nil {k : Nat} {a : Int} {r : List Int} (h : bytes_trimLeftByte.f k [] a = some r) : r = [] := by
  cases k with
  | zero => simp [bytes_trimLeftByte.f, bytes_trimLeftByte.l0] at h
  | succ k => simpa [bytes_trimLeftByte.f, bytes_trimLeftByte.l0] using h.symm
set_option maxRecDepth 100000 in
theorem bytes_TrimLeft0.calls (k : Nat) (P0_ : Nat → Prop) (A0 : Option Addr) (c0 : Nat) (l0 : List Int) (r : List Int) (w : World) (hs0 : Kd.V (Kd.int .u8) 5 w w.heap.size (fun k_ => P0_ k_) (.slice A0 l0.length c0) l0) (h : bytes_trimLeftByte.f k l0 0 = some r) :
    Calls Tryz.prog 218 #[.slice A0 l0.length c0, .string ⟨#[0]⟩] w fun e w' => ∃ v0_ : Value, e = .returned (v0_) ∧ Kd.V (Kd.int .u8) 5 w' w.heap.size (fun k_ => (P0_ k_ ∨ w.heap.size ≤ k_)) v0_ r ∧ Below w.heap.size w w' := by
  have HO := Aside0.mk hs0
  have H := Aside0.mk h
  have HB := Aside0.mk (Below.refl w.heap.size w)
  clear hs0
  by_cases hl : l0 = []
  rotate_left
  · have h0 : 0 < l0.length := List.length_pos_iff.2 hl
    have c1 : ((l0.length : Int) == 0) = false := beq_eq_false_iff_ne.mpr (by omega)
    clear h h0 hl
    go_enter Tryz.func218, Tryz.ntmps218
    go_wp2_with (go_at_call 266; refine (bytes_trimLeftByte.calls k P0_ A0 c0 l0 0 r _ ?side1 H.out).mono ?_; (case side1 => exact HO.out); rintro e w5 ⟨v, rfl, hv, hb⟩; have HV := Aside0.mk hv; have HB2 := Aside0.mk hb; clear hv hb)
    go_ret
    exact ⟨_, rfl, HV.out, HB2.out⟩
  subst hl
  have hr := trimLeftByte_nil h
  clear h
  subst hr
  simp only [List.length_nil] at *
  go_enter Tryz.func218, Tryz.ntmps218
  go_wp2_with fail
  go_ret
  exact ⟨_, rfl, Kd.V_nil _ _ _ _ _, HB.out⟩
end Go.Proofs.YtkioddjjfifadaaGreatDoor.P
namespace Go.Proofs.YtkioddjjfifadaaGreatDoor.P
open Go.RowKit Go.Proofs.YtkioddjjfifadaaGreatDoorW.PrintWords Go.Proofs.YtkioddjjfifadaaGreatDoorW.PrintLast Go.Proofs.YtkioddjjfifadaaGreatDoorW.PrintMore
attribute [local go_sem] max2_int min2_int max_two min_two max_three min_three max_four min_four
set_option linter.unusedVariables false
set_option linter.unusedSimpArgs false
def der_seven.l0 : Nat → Int → List Int → Option (List Int)
  | 0, _, _ => none
  | k + 1, x0, x3 => if x0 > 0 then ((some (([Go.bits .or .u8 ((x0) % 256) 128] : List Int) : List Int)).bind fun y541 => (if y541.length + x3.length < 140737488355328 then (der_seven.l0 k (x0 / 128) (y541 ++ x3)) else (none))) else (some x3)
def der_seven.f (k : Nat) (a0 : Int) : Option (List Int) := der_seven.l0 k (a0 / 128) (([(Go.bits .and .u64 a0 127) % 256] : List Int))
set_option maxHeartbeats 8000000 in
set_option maxRecDepth 100000 in
theorem der_seven.calls (k : Nat) (a0 : Int) (r : List Int) (w : World) (h : der_seven.f k a0 = some r) :
    Calls Tryz.prog 219 #[.int .u64 a0] w fun e w' => ∃ v0_ : Value, e = .returned (v0_) ∧ Kd.R (Kd.int .u8) 5 w' w.heap.size (fun _ => True) v0_ r ∧ Below w.heap.size w w' := by
  have HB := Aside0.mk (Below.refl w.heap.size w)
  have H : (der_seven.l0 k (a0 / 128) (([(Go.bits .and .u64 a0 127) % 256] : List Int))) = some r := h
  clear h
  obtain ⟨y538, hy538⟩ : ∃ y_ : List Int, y_ = (([(Go.bits .and .u64 a0 127) % 256] : List Int)) := ⟨_, rfl⟩
  replace H : (der_seven.l0 k (a0 / 128) y538) = some r := by first | (rw [hy538]; with_reducible exact H) | (have H2_ := (Option.bind_some _ _).symm.trans H; rw [hy538]; with_reducible exact H2_) | (have H2_ := (Option.bind_some _ _).symm.trans H; with_reducible exact H2_) | with_reducible exact H | (rw [hy538]; exact H) | exact H
  have Ny538 := Aside0.mk hy538
  clear hy538
  have H' := Aside0.mk H
  clear H
  go_enter Tryz.func219, Tryz.ntmps219
  go_wp2_with (first | ((with_reducible refine gate_dst (N := 7) rfl ?_); refine Kd.R_lit (Kd.int .u8) _ 5 ?hg (N := 7) ?hd (xs := ([(Go.bits .and .u64 a0 127) % 256] : List Int)) (inner := [.int .u8 ((Go.bits .and .u64 a0 127) % 256)]) (ok := fun _ => True) (okp := fun _ => True) ?hr ?hp (fun _ hk => hk) trivial (Below.refl _ _) (Nat.le_refl _) (by simp) ?_; (case hd => rfl); (case hg => rfl); (case hr => first | (go_simp; done) | (go_simp; rfl)); (case hp => exact (Reps.one (show Kd.M (Kd.int .u8) _ _ _ ((Go.bits .and .u64 a0 127) % 256) [.int .u8 ((Go.bits .and .u64 a0 127) % 256)] from rfl) (Reps.none _ _))); intro v539 w2 ho3 hb hg_ hnew_; clear hg_ hnew_; (first | rw [← Ny538.out] at ho3 | (simp only [Int.reduceToNat] at ho3; rw [← Ny538.out] at ho3)); have n0_ := Aside0.mk (Kd.R_lower ho3 (below_size (bU HB.out))); have n1_ := Aside0.mk (below_step (bU HB.out) hb); clear HB; have HO540 := n0_; have HB := n1_; clear n0_ n1_; clear hb ho3))
  go_loopg [0, 3] k (fun kq v0 v3 w' => ∃ (x0_1 : Int) (x3_1 : List Int), v0 = .int .u64 x0_1 ∧ Aside0 (der_seven.l0 kq x0_1 x3_1 = some r) ∧ Aside0 (kq ≤ k) ∧ Aside0 (Kd.R (Kd.int .u8) 5 w' w.heap.size (fun _ => True) v3 x3_1) ∧ Aside0 (Below w.heap.size w w'))
  case atStart => exact ⟨(a0 / 128), (y538), (by first | rfl | (simp; done) | (simp [*]; done)), H', ⟨Nat.le_refl _⟩, ⟨Kd.R_u HO540.out⟩, ⟨bU HB.out⟩⟩
  case round =>
    clear H'
    try clear c2
    try clear p2
    obtain ⟨x0_1, x3_1, rfl, HA, HK1, HO_3, HB⟩ := hrel
    cases gk with
    | zero => exact absurd HA.out (by simp [der_seven.l0])
    | succ k1 =>
      have H := HA.out
      clear HA
      simp only [der_seven.l0] at H
      by_cases c4 : x0_1 > 0
      rotate_left
      · rw [if_neg c4] at H
        have c4b0 : decide (0 < x0_1) = false := decide_eq_false c4
        clear c4
        obtain rfl := Option.some.inj H
        go_wp2
        go_ret
        exact ⟨_, by first | rfl | (simp [errW_none, errW_some] <;> rfl), by (with_reducible repeat (first | apply Kd.R_alloc | apply Kd.R_drewN | apply Kd.R_drew)); exact HO_3.out, bU HB.out⟩
      rw [if_pos c4] at H
      have c4b0 : decide (0 < x0_1) = true := decide_eq_true c4
      clear c4
      obtain ⟨y541, hy541⟩ : ∃ y_ : List Int, y_ = (([Go.bits .or .u8 ((x0_1) % 256) 128] : List Int)) := ⟨_, rfl⟩
      replace H : (if y541.length + x3_1.length < 140737488355328 then (der_seven.l0 k1 (x0_1 / 128) (y541 ++ x3_1)) else (none)) = some r := by first | (rw [hy541]; with_reducible exact H) | (have H2_ := (Option.bind_some _ _).symm.trans H; rw [hy541]; with_reducible exact H2_) | (have H2_ := (Option.bind_some _ _).symm.trans H; with_reducible exact H2_) | with_reducible exact H | (rw [hy541]; exact H) | exact H
      have Ny541 := Aside0.mk hy541
      clear hy541
      by_cases c5 : y541.length + x3_1.length < 140737488355328
      rotate_left
      · rw [if_neg c5] at H
        exact absurd H (by simp)
      rw [if_pos c5] at H
      have LMc5 := Aside0.mk c5
      clear c5
      obtain ⟨y544, hy544⟩ : ∃ y_ : List Int, y_ = (y541 ++ x3_1) := ⟨_, rfl⟩
      replace H : (der_seven.l0 k1 (x0_1 / 128) y544) = some r := by first | (rw [hy544]; with_reducible exact H) | (have H2_ := (Option.bind_some _ _).symm.trans H; rw [hy544]; with_reducible exact H2_) | (have H2_ := (Option.bind_some _ _).symm.trans H; with_reducible exact H2_) | with_reducible exact H | (rw [hy544]; exact H) | exact H
      have Ny544 := Aside0.mk hy544
      clear hy544
      have H' := Aside0.mk H
      clear H
      go_wp2_with (first | ((with_reducible refine gate_dst (N := 17) rfl ?_); refine Kd.R_lit (Kd.int .u8) _ 5 ?hg (N := 17) ?hd (xs := ([Go.bits .or .u8 ((x0_1) % 256) 128] : List Int)) (inner := [.int .u8 (Go.bits .or .u8 ((x0_1) % 256) 128)]) (ok := fun _ => True) (okp := fun _ => True) ?hr ?hp (fun _ hk => hk) trivial (Below.refl _ _) (Nat.le_refl _) (by simp) ?_; (case hd => rfl); (case hg => rfl); (case hr => first | (go_simp; done) | (go_simp; rfl)); (case hp => exact (Reps.one (show Kd.M (Kd.int .u8) _ _ _ (Go.bits .or .u8 ((x0_1) % 256) 128) [.int .u8 (Go.bits .or .u8 ((x0_1) % 256) 128)] from rfl) (Reps.none _ _))); intro v542 w6 ho7 hb hg_ hnew_; clear hg_ hnew_; (first | rw [← Ny541.out] at ho7 | (simp only [Int.reduceToNat] at ho7; rw [← Ny541.out] at ho7)); have n0_ := Aside0.mk (Kd.R_elder' (Kd.R_u HO_3.out) (Kd.R_base ho7) hb); have n1_ := Aside0.mk (Kd.R_lower (Kd.R_new' ho7 (Kd.R_lt (Kd.R_u HO_3.out))) (below_size (bU HB.out))); have n2_ := Aside0.mk (below_step (bU HB.out) hb); clear HO_3; clear HB; have HO_3 := n0_; have HO543 := n1_; have HB := n2_; clear n0_ n1_ n2_; clear hb ho7; obtain ⟨Ao9, co9, eo9⟩ := Kd.R_slice HO_3.out; subst eo9) | ((with_reducible refine gate_builtin (b := .append) (xs := #[.tmp 17, .tmp 18]) rfl ?_); at_builtin; refine Kd.R_append_rows (Kd.int .u8) (w0 := w) w.heap.size rfl (.tmp 17) (.tmp 18) 22 5 (.int .u8 0) 1 rfl Tryz.underlying22 info5 rfl (by decide) (by omega) v542 y541 x3_1 _ _ _ (fun k_ => some k_ ≠ (.slice Ao9 x3_1.length co9 : Value).ownBlock) (fun _ => False) rfl rfl ?aO ?aR (fun _ _ h => h) (fun _ h => h.elim) ?aF ?aB ?aS ?aL ?_; (case aR => exact Kd.C_u (Kd.R_reads' HO_3.out).2.2); (case aB => exact (bU HB.out)); (case aF => exact (fun k_ hk => Kd.fresh' (Kd.R_lt (Kd.R_u HO_3.out)) k_ hk)); (case aO => exact (Kd.R_u (Kd.R_mono HO543.out (fun _ hk => hk.2)))); (case aS => exact (below_size (bU HB.out))); (case aL => have := LMc5.out; omega); intro v545 w8 ho hb hg hat; rw [← Ny544.out] at ho; have n0_ := Aside0.mk (Kd.R_after (ok := (fun _ => True)) (Kd.R_u HO_3.out) hg hat); have n1_ := Aside0.mk (hb); have n2_ := Aside0.mk (ho); clear HO_3; clear HB; clear HO543; have HO_3 := n0_; have HB := n1_; have HO546 := n2_; clear n0_ n1_ n2_; clear ho hb hg hat))
      go_roundg k1
      case measure => have := HK1.out; omega
      case rel => exact ⟨(x0_1 / 128), (y544), (by first | rfl | (simp; done) | (simp [*]; done)), H', ⟨by have := HK1.out; omega⟩, ⟨Kd.R_u (Kd.R_mono HO546.out (fun _ hk => trivial))⟩, ⟨bU HB.out⟩⟩
end Go.Proofs.YtkioddjjfifadaaGreatDoor.P
