/- What the proof of NameBack needs of: Pxf153, Pxf159, Pxf93, Hm1, Pxf39, Lx0, Lx1, Lk0, Lx2, Lx3, Pxf37, Hc8, Hc9, Ht7, Ht8, Hn7, Hy0, Pxf90, Hy1, Ht9, Hw9, G9, LNameBack, Opn, Wit, Opw, Lh0, Lh1, Lq0. -/
import Derived.Lib.ItoaLen
import Derived.BigRegion
import Derived.Lib.SlBytesConst
import Derived.Carry
import Derived.Lay
import Derived.Deep.Slices
import Derived.Test.YtkioddjjfifadaaGreatDoorRows
import Derived.LaidHandle
import Derived.LaidOnce
import Derived.KernelRfl
import Derived.Lib.LaidU8
import Derived.Stop.LaidErr
import Derived.Test.YtkioddjjfifadaaGreatDoorNk2
import Derived.Test.YtkioddjjfifadaaGreatDoorNk4
import Derived.Test.YtkioddjjfifadaaGreatDoorNk5
import Derived.Test.YtkioddjjfifadaaGreatDoorNk6
import Derived.Test.YtkioddjjfifadaaGreatDoorNk8
import Derived.Test.YtkioddjjfifadaaGreatDoorNk9
set_option linter.unusedVariables false
set_option linter.unusedSimpArgs false
namespace Go.Proofs.YtkioddjjfifadaaGreatDoor.P
open Go.RowKit Go.Proofs.YtkioddjjfifadaaGreatDoorW.PrintWords Go.Proofs.YtkioddjjfifadaaGreatDoorW.PrintLast Go.Proofs.YtkioddjjfifadaaGreatDoorW.PrintMore
attribute [local go_sem] max2_int min2_int max_two min_two max_three min_three max_four min_four   -- for this text's walks alone
set_option linter.unusedVariables false
set_option linter.unusedSimpArgs false
mutual
def text_Text.j0 : Nat → Int → List Int → Bool → Option (ByteArray × Int)
  | 0, _, _, _ => none
  | k + 1, x0, x1, x22 => if x22 = true then (text_Text.l0 k x0 x1 x1 (x1.length : Int) 0) else (some ((⟨#[]⟩ : ByteArray), 61))
def text_Text.l0 : Nat → Int → List Int → List Int → Int → Int → Option (ByteArray × Int)
  | 0, _, _, _, _, _ => none
  | k + 1, x0, x1, x27, x28, x29 => if x29 < x28 then (if 0 ≤ x29 then (if x29 < (x27.length : Int) then ((text_fits.f x0 (rd x27 x29)).bind fun t610 => (if t610 = true then (text_Text.l0 k x0 x1 x27 x28 (wrap64 (x29 + 1))) else (some ((⟨#[]⟩ : ByteArray), 60)))) else (none)) else (none)) else (some (strOfNums x1, 0))
end
def text_Text.f (k : Nat) (a0 : Int) (l1 : List Int) : Option (ByteArray × Int) := if a0 = 30 then ((text_wide.f l1).bind fun bt606 => (some (bt606.1, bt606.2))) else (if a0 = 12 then ((utf8_Valid.f l1).bind fun t608 => (if t608 = true then (some (strOfNums l1, 0)) else (some ((⟨#[]⟩ : ByteArray), 60)))) else (if a0 = 18 then (text_Text.j0 k a0 l1 (a0 == 18)) else (if a0 = 19 then (text_Text.j0 k a0 l1 (a0 == 19)) else (if a0 = 22 then (text_Text.j0 k a0 l1 (a0 == 22)) else (text_Text.j0 k a0 l1 (a0 == 26))))))
theorem text_Text.mono_l : ∀ k, (∀ y0 y1 y2, LeO (text_Text.j0 k y0 y1 y2) (text_Text.j0 (k + 1) y0 y1 y2)) ∧ (∀ y0 y1 y2 y3 y4, LeO (text_Text.l0 k y0 y1 y2 y3 y4) (text_Text.l0 (k + 1) y0 y1 y2 y3 y4))
  | 0 => ⟨fun _ _ _ r h => by simp [text_Text.j0] at h, fun _ _ _ _ _ r h => by simp [text_Text.l0] at h⟩
  | k + 1 => by
    obtain ⟨ih0, ih1⟩ := text_Text.mono_l k
    refine ⟨?_, ?_⟩
    · intro y0 y1 y2
      unfold text_Text.j0
      repeat' first
      | (with_reducible exact ih0 _ _ _)
      | (with_reducible exact ih1 _ _ _ _ _)
      | (with_reducible exact LeO.refl _)
      | (with_reducible exact LeO.none _)
      | (with_reducible refine LeO.ite ?_ ?_)
      | (with_reducible refine LeO.bind ?_ (fun _ => ?_))
      | exact ih0 _ _ _
      | exact ih1 _ _ _ _ _
      | exact LeO.none _
      | refine LeO.ite ?_ ?_
      | refine LeO.bind ?_ (fun _ => ?_)
    · intro y0 y1 y2 y3 y4
      unfold text_Text.l0
      repeat' first
      | (with_reducible exact ih0 _ _ _)
      | (with_reducible exact ih1 _ _ _ _ _)
      | (with_reducible exact LeO.refl _)
      | (with_reducible exact LeO.none _)
      | (with_reducible refine LeO.ite ?_ ?_)
      | (with_reducible refine LeO.bind ?_ (fun _ => ?_))
      | exact ih0 _ _ _
      | exact ih1 _ _ _ _ _
      | exact LeO.none _
      | refine LeO.ite ?_ ?_
      | refine LeO.bind ?_ (fun _ => ?_)
theorem text_Text.mono : ∀ a0 a1 k, LeO (text_Text.f k a0 a1) (text_Text.f (k + 1) a0 a1) := by
  intro a0 a1 k
  obtain ⟨ih0, ih1⟩ := text_Text.mono_l k
  unfold text_Text.f
  repeat' first
      | (with_reducible exact ih0 _ _ _)
      | (with_reducible exact ih1 _ _ _ _ _)
      | (with_reducible exact LeO.refl _)
      | (with_reducible exact LeO.none _)
      | (with_reducible refine LeO.ite ?_ ?_)
      | (with_reducible refine LeO.bind ?_ (fun _ => ?_))
      | exact ih0 _ _ _
      | exact ih1 _ _ _ _ _
      | exact LeO.none _
      | refine LeO.ite ?_ ?_
      | refine LeO.bind ?_ (fun _ => ?_)
set_option maxHeartbeats 8000000 in
set_option maxRecDepth 100000 in
theorem text_Text.calls (k : Nat) (a0 : Int) (A1 : Option Addr) (c1 : Nat) (l1 : List Int) (r1 : ByteArray) (r2 : Int) (w : World) (hr1 : Kd.C (Kd.int .u8) w A1 l1.length l1) (hc1 : l1.length ≤ c1) (h : text_Text.f k a0 l1 = some (r1, r2)) (hH : Tb w) :
    Calls Tryz.prog 153 #[.int .i64 a0, .slice A1 l1.length c1] w fun e w' => e = .returned (.tuple #[.string r1, .int .i64 r2]) ∧ Below w.heap.size w w' := by
  have HR1 := Aside0.mk hr1
  have HC1 := Aside0.mk hc1
  clear hr1 hc1
  have HB := Aside0.mk (Below.refl w.heap.size w)
  have HHd := Aside0.mk hH
  clear hH
  have H : (if a0 = 30 then ((text_wide.f l1).bind fun bt606 => (some (bt606.1, bt606.2))) else (if a0 = 12 then ((utf8_Valid.f l1).bind fun t608 => (if t608 = true then (some (strOfNums l1, 0)) else (some ((⟨#[]⟩ : ByteArray), 60)))) else (if a0 = 18 then (text_Text.j0 k a0 l1 (a0 == 18)) else (if a0 = 19 then (text_Text.j0 k a0 l1 (a0 == 19)) else (if a0 = 22 then (text_Text.j0 k a0 l1 (a0 == 22)) else (text_Text.j0 k a0 l1 (a0 == 26))))))) = some (r1, r2) := h
  clear h
  by_cases c3 : a0 = 30
  · rw [if_pos c3] at H
    have c3b0 : (a0 == 30) = true := beq_iff_eq.mpr c3
    have c3b1 : (a0 != 30) = false := bne_eq_false_iff_eq.mpr c3
    clear c3
    replace H := Option.bind_eq_some_iff.mp H
    obtain ⟨⟨t606, t607⟩, A40, H⟩ := H
    replace H : (some (t606, t607)) = some (r1, r2) := H
    have A4 := Aside0.mk A40
    clear A40
    simp only [Option.some.injEq, Prod.mk.injEq] at H
    obtain ⟨rfl, rfl⟩ := H
    go_enter Tryz.func153, Tryz.ntmps153
    go_wp2_with (first | ((with_reducible refine gate_callee (f := 203) rfl ?_); refine goesL_ (some 12) rfl rfl Tryz.func203 (by kernel_rfl) rfl #[.slice A1 l1.length c1] rfl (by (try simp only [List.map_toArray, List.map_cons, List.map_nil]); first | done | rfl | (simp only [List.length_drop, List.length_take]; rfl)) ?_; (with_reducible refine (text_wide.calls _ _ l1 t606 t607 _ ?side1 ?side2 A4.out).mono ?_); (case side1 => exact Kd.C_u HR1.out); (case side2 => exact HC1.out); rintro e w5 ⟨rfl, hb⟩; refine ⟨_, rfl, ?_⟩; have n0_ := Aside0.mk (below_step (bU HB.out) hb); replace HB := n0_; clear n0_; (try clear hb); (try clear hb2); (try clear hk); (try clear hi)))
    go_ret2
    exact ⟨by first | rfl | (simp [errW_none, errW_some] <;> rfl) | (simp [*, errW_none, errW_some] <;> rfl), bU HB.out⟩
  rw [if_neg c3] at H
  have c3b0 : (a0 == 30) = false := beq_eq_false_iff_ne.mpr c3
  have c3b1 : (a0 != 30) = true := bne_iff_ne.mpr c3
  by_cases c6 : a0 = 12
  · rw [if_pos c6] at H
    have c6b0 : (a0 == 12) = true := beq_iff_eq.mpr c6
    have c6b1 : (a0 != 12) = false := bne_eq_false_iff_eq.mpr c6
    clear c6
    replace H := Option.bind_eq_some_iff.mp H
    obtain ⟨t608, A70, H⟩ := H
    replace H : (if t608 = true then (some (strOfNums l1, 0)) else (some ((⟨#[]⟩ : ByteArray), 60))) = some (r1, r2) := H
    have A7 := Aside0.mk A70
    clear A70
    by_cases c8 : t608 = true
    · subst c8
      have H1 : (some (strOfNums l1, 0)) = some (r1, r2) := by rw [if_pos rfl] at H; exact H
      clear H
      have H := H1
      clear H1
      simp only [Option.some.injEq, Prod.mk.injEq] at H
      obtain ⟨rfl, rfl⟩ := H
      go_enter Tryz.func153, Tryz.ntmps153
      go_wp2_with (first | ((with_reducible refine gate_callee (f := 204) rfl ?_); refine goesL_ (some 18) rfl rfl Tryz.func204 (by kernel_rfl) rfl #[.slice A1 l1.length c1] rfl (by (try simp only [List.map_toArray, List.map_cons, List.map_nil]); first | done | rfl | (simp only [List.length_drop, List.length_take]; rfl)) ?_; (with_reducible refine (utf8_Valid.calls _ _ l1 true _ ?side1 ?side2 A7.out (Tb.below HHd.out (bU HB.out))).mono ?_); (case side1 => exact Kd.C_u HR1.out); (case side2 => exact HC1.out); rintro e w9 ⟨rfl, hb⟩; refine ⟨_, rfl, ?_⟩; have n0_ := Aside0.mk (below_step (bU HB.out) hb); replace HB := n0_; clear n0_; (try clear hb); (try clear hb2); (try clear hk); (try clear hi); have hcv10 := Kd.C_string (P := Tryz.prog) (A := A1) (c := c1) Tryz.underlying22 Tryz.underlying5 Tryz.underlying9 (Kd.C_below HR1.out HB.out)))
      go_ret2
      exact ⟨by first | rfl | (simp [errW_none, errW_some] <;> rfl) | (simp [*, errW_none, errW_some] <;> rfl), bU HB.out⟩
    replace c8 := Bool.eq_false_iff.mpr c8
    subst c8
    have H1 : (some ((⟨#[]⟩ : ByteArray), 60)) = some (r1, r2) := by rw [if_neg (show ¬ (false = true) by decide)] at H; exact H
    clear H
    have H := H1
    clear H1
    simp only [Option.some.injEq, Prod.mk.injEq] at H
    obtain ⟨rfl, rfl⟩ := H
    go_enter Tryz.func153, Tryz.ntmps153
    go_wp2_with (first | ((with_reducible refine gate_callee (f := 204) rfl ?_); refine goesL_ (some 18) rfl rfl Tryz.func204 (by kernel_rfl) rfl #[.slice A1 l1.length c1] rfl (by (try simp only [List.map_toArray, List.map_cons, List.map_nil]); first | done | rfl | (simp only [List.length_drop, List.length_take]; rfl)) ?_; (with_reducible refine (utf8_Valid.calls _ _ l1 false _ ?side1 ?side2 A7.out (Tb.below HHd.out (bU HB.out))).mono ?_); (case side1 => exact Kd.C_u HR1.out); (case side2 => exact HC1.out); rintro e w11 ⟨rfl, hb⟩; refine ⟨_, rfl, ?_⟩; have n0_ := Aside0.mk (below_step (bU HB.out) hb); replace HB := n0_; clear n0_; (try clear hb); (try clear hb2); (try clear hk); (try clear hi)))
    go_ret2
    exact ⟨by first | rfl | (simp [errW_none, errW_some] <;> rfl) | (simp [*, errW_none, errW_some] <;> rfl), bU HB.out⟩
  rw [if_neg c6] at H
  have c6b0 : (a0 == 12) = false := beq_eq_false_iff_ne.mpr c6
  have c6b1 : (a0 != 12) = true := bne_iff_ne.mpr c6
  have HC12 := Aside0.mk H
  clear H
  go_enter Tryz.func153, Tryz.ntmps153
  go_upto_if 22 with (fail)
  go_cut [22] (fun v22 wc => ∃ (kq : Nat) (x22_11 : Bool), v22 = .bool x22_11 ∧ Aside0 (text_Text.j0 kq a0 l1 x22_11 = some (r1, r2)) ∧ Aside0 (kq ≤ k) ∧ Aside0 (Below w.heap.size w wc))
  case first =>
    have H := HC12.out
    clear HC12
    by_cases c13 : a0 = 18
    · rw [if_pos c13] at H
      have c13b0 : (a0 == 18) = true := beq_iff_eq.mpr c13
      have c13b1 : (a0 != 18) = false := bne_eq_false_iff_eq.mpr c13
      clear c13
      (first | rw [c13b0] | (simp only [i64_w, i32_w]; rw [c13b0]) | skip)
      have H' := Aside0.mk H
      clear H
      go_wp2
      go_meet
      case rel => exact ⟨_, ((a0 == 18)), (by first | rfl | (simp; done) | (simp [*]; done)), H', ⟨by first | omega | exact Nat.le_refl _⟩, ⟨bU HB.out⟩⟩
    rw [if_neg c13] at H
    have c13b0 : (a0 == 18) = false := beq_eq_false_iff_ne.mpr c13
    have c13b1 : (a0 != 18) = true := bne_iff_ne.mpr c13
    (first | rw [c13b0] | (simp only [i64_w, i32_w]; rw [c13b0]) | skip)
    by_cases c14 : a0 = 19
    · rw [if_pos c14] at H
      have c14b0 : (a0 == 19) = true := beq_iff_eq.mpr c14
      have c14b1 : (a0 != 19) = false := bne_eq_false_iff_eq.mpr c14
      clear c14
      have H' := Aside0.mk H
      clear H
      go_wp2
      go_meet
      case rel => exact ⟨_, ((a0 == 19)), (by first | rfl | (simp; done) | (simp [*]; done)), H', ⟨by first | omega | exact Nat.le_refl _⟩, ⟨bU HB.out⟩⟩
    rw [if_neg c14] at H
    have c14b0 : (a0 == 19) = false := beq_eq_false_iff_ne.mpr c14
    have c14b1 : (a0 != 19) = true := bne_iff_ne.mpr c14
    by_cases c15 : a0 = 22
    rotate_left
    · rw [if_neg c15] at H
      have c15b0 : (a0 == 22) = false := beq_eq_false_iff_ne.mpr c15
      have c15b1 : (a0 != 22) = true := bne_iff_ne.mpr c15
      have H' := Aside0.mk H
      clear H
      go_wp2
      go_meet
      case rel => exact ⟨_, ((a0 == 26)), (by first | rfl | (simp; done) | (simp [*]; done)), H', ⟨by first | omega | exact Nat.le_refl _⟩, ⟨bU HB.out⟩⟩
    rw [if_pos c15] at H
    have c15b0 : (a0 == 22) = true := beq_iff_eq.mpr c15
    have c15b1 : (a0 != 22) = false := bne_eq_false_iff_eq.mpr c15
    clear c15
    have H' := Aside0.mk H
    clear H
    go_wp2
    go_meet
    case rel => exact ⟨_, ((a0 == 22)), (by first | rfl | (simp; done) | (simp [*]; done)), H', ⟨by first | omega | exact Nat.le_refl _⟩, ⟨bU HB.out⟩⟩
  clear HC12
  try clear c1
  try clear hcv1
  try clear c2
  try clear p2
  try clear c3
  try clear c3b0
  try clear c3b1
  try clear c6
  try clear c6b0
  try clear c6b1
  try clear c8
  try clear hcv10
  try clear c13
  try clear c13b0
  try clear c13b1
  try clear c14
  try clear c14b0
  try clear c14b1
  try clear c15
  try clear c15b0
  try clear c15b1
  obtain ⟨kq, x22_11, rfl, HA, HJ11, HB⟩ := hcut
  cases kq with
  | zero => exact absurd HA.out (by simp [text_Text.j0])
  | succ kj11 =>
    have H := HA.out
    clear HA
    simp only [text_Text.j0] at H
    by_cases c16 : x22_11 = true
    rotate_left
    · replace c16 := Bool.eq_false_iff.mpr c16
      subst c16
      have H1 : (some ((⟨#[]⟩ : ByteArray), 61)) = some (r1, r2) := by rw [if_neg (show ¬ (false = true) by decide)] at H; exact H
      clear H
      have H := H1
      clear H1
      simp only [Option.some.injEq, Prod.mk.injEq] at H
      obtain ⟨rfl, rfl⟩ := H
      go_wp2
      go_ret2
      exact ⟨by first | rfl | (simp [errW_none, errW_some] <;> rfl) | (simp [*, errW_none, errW_some] <;> rfl), bU HB.out⟩
    subst c16
    have H1 : (text_Text.l0 kj11 a0 l1 l1 (l1.length : Int) 0) = some (r1, r2) := by rw [if_pos rfl] at H; exact H
    clear H
    have H := H1
    clear H1
    have H' := Aside0.mk H
    clear H
    go_wp2
    go_loopg [29] kj11 (fun kq v29 w' => ∃ (x29_2 : Int), v29 = .int .i64 x29_2 ∧ Aside0 (text_Text.l0 kq a0 l1 l1 (l1.length : Int) x29_2 = some (r1, r2)) ∧ Aside0 (kq ≤ kj11) ∧ Aside0 (Below w.heap.size w w'))
    case atStart => exact ⟨(0), (by first | rfl | (simp; done) | (simp [*]; done)), H', ⟨Nat.le_refl _⟩, ⟨bU HB.out⟩⟩
    case round =>
      clear H'
      try clear c1
      try clear hcv1
      try clear c2
      try clear p2
      try clear c3
      try clear c3b0
      try clear c3b1
      try clear c6
      try clear c6b0
      try clear c6b1
      try clear c8
      try clear hcv10
      try clear c13
      try clear c13b0
      try clear c13b1
      try clear c14
      try clear c14b0
      try clear c14b1
      try clear c15
      try clear c15b0
      try clear c15b1
      try clear c16
      try clear p2
      obtain ⟨x29_2, rfl, HA, HK2, HB⟩ := hrel
      cases gk with
      | zero => exact absurd HA.out (by simp [text_Text.l0])
      | succ k2 =>
        have H := HA.out
        clear HA
        simp only [text_Text.l0] at H
        by_cases c17 : x29_2 < (l1.length : Int)
        rotate_left
        · rw [if_neg c17] at H
          have c17b0 : decide (x29_2 < (l1.length : Int)) = false := decide_eq_false c17
          clear c17
          simp only [Option.some.injEq, Prod.mk.injEq] at H
          obtain ⟨rfl, rfl⟩ := H
          have hcv24 := Kd.C_string (P := Tryz.prog) (A := A1) (c := c1) Tryz.underlying22 Tryz.underlying5 Tryz.underlying9 (Kd.C_below HR1.out HB.out)
          go_wp2
          go_ret2
          exact ⟨by first | rfl | (simp [errW_none, errW_some] <;> rfl) | (simp [*, errW_none, errW_some] <;> rfl), bU HB.out⟩
        rw [if_pos c17] at H
        have c17b0 : decide (x29_2 < (l1.length : Int)) = true := decide_eq_true c17
        clear c17
        by_cases c18 : 0 ≤ x29_2
        rotate_left
        · rw [if_neg c18] at H
          exact absurd H (by simp)
        rw [if_pos c18] at H
        have c18b0 : decide (0 ≤ x29_2) = true := decide_eq_true c18
        clear c18
        by_cases c19 : x29_2 < (l1.length : Int)
        rotate_left
        · rw [if_neg c19] at H
          exact absurd H (by simp)
        rw [if_pos c19] at H
        have c19b0 : decide (x29_2 < (l1.length : Int)) = true := decide_eq_true c19
        clear c19
        replace H := Option.bind_eq_some_iff.mp H
        obtain ⟨t610, A200, H⟩ := H
        replace H : (if t610 = true then (text_Text.l0 k2 a0 l1 l1 (l1.length : Int) (wrap64 (x29_2 + 1))) else (some ((⟨#[]⟩ : ByteArray), 60))) = some (r1, r2) := H
        have A20 := Aside0.mk A200
        clear A200
        by_cases c21 : t610 = true
        rotate_left
        · replace c21 := Bool.eq_false_iff.mpr c21
          subst c21
          have H1 : (some ((⟨#[]⟩ : ByteArray), 60)) = some (r1, r2) := by rw [if_neg (show ¬ (false = true) by decide)] at H; exact H
          clear H
          have H := H1
          clear H1
          simp only [Option.some.injEq, Prod.mk.injEq] at H
          obtain ⟨rfl, rfl⟩ := H
          have p609 : 0 ≤ (x29_2 : Int) := of_decide_eq_true (by first | (with_reducible assumption) | assumption)
          have q609 : x29_2 < (l1.length : Int) := of_decide_eq_true (by first | (with_reducible assumption) | assumption)
          obtain ⟨ad609, e609, hx609_0⟩ := Kd.at_int HR1.out x29_2 p609 q609
          cases e609
          replace hx609_0 := (HB.out.cell (World.block_lt_of_cell? w _ hx609_0)).trans hx609_0
          replace p609 := eq_true p609
          replace q609 := eq_true q609
          go_wp2_with (first | ((with_reducible refine gate_callee (f := 205) rfl ?_); refine goesL_ (some 35) rfl rfl Tryz.func205 (by kernel_rfl) rfl #[.int .i64 a0, .int .u8 (rd l1 x29_2)] rfl (by (try simp only [List.map_toArray, List.map_cons, List.map_nil]); first | done | rfl | (simp only [List.length_drop, List.length_take]; rfl)) ?_; (with_reducible refine (text_fits.calls a0 (rd l1 x29_2) false _ A20.out).mono ?_); rintro e w23 ⟨rfl, hb⟩; refine ⟨_, rfl, ?_⟩; have n0_ := Aside0.mk (below_step (bU HB.out) hb); replace HB := n0_; clear n0_; (try clear hb); (try clear hb2); (try clear hk); (try clear hi)))
          go_ret2
          exact ⟨by first | rfl | (simp [errW_none, errW_some] <;> rfl) | (simp [*, errW_none, errW_some] <;> rfl), bU HB.out⟩
        subst c21
        have H1 : (text_Text.l0 k2 a0 l1 l1 (l1.length : Int) (wrap64 (x29_2 + 1))) = some (r1, r2) := by rw [if_pos rfl] at H; exact H
        clear H
        have H := H1
        clear H1
        have H' := Aside0.mk H
        clear H
        have p609 : 0 ≤ (x29_2 : Int) := of_decide_eq_true (by first | (with_reducible assumption) | assumption)
        have q609 : x29_2 < (l1.length : Int) := of_decide_eq_true (by first | (with_reducible assumption) | assumption)
        obtain ⟨ad609, e609, hx609_0⟩ := Kd.at_int HR1.out x29_2 p609 q609
        cases e609
        replace hx609_0 := (HB.out.cell (World.block_lt_of_cell? w _ hx609_0)).trans hx609_0
        replace p609 := eq_true p609
        replace q609 := eq_true q609
        go_wp2_with (first | ((with_reducible refine gate_callee (f := 205) rfl ?_); refine goesL_ (some 35) rfl rfl Tryz.func205 (by kernel_rfl) rfl #[.int .i64 a0, .int .u8 (rd l1 x29_2)] rfl (by (try simp only [List.map_toArray, List.map_cons, List.map_nil]); first | done | rfl | (simp only [List.length_drop, List.length_take]; rfl)) ?_; (with_reducible refine (text_fits.calls a0 (rd l1 x29_2) true _ A20.out).mono ?_); rintro e w22 ⟨rfl, hb⟩; refine ⟨_, rfl, ?_⟩; have n0_ := Aside0.mk (below_step (bU HB.out) hb); replace HB := n0_; clear n0_; (try clear hb); (try clear hb2); (try clear hk); (try clear hi)))
        go_roundg k2
        case measure => have := HJ11.out; have := HK2.out; omega
        case rel => exact ⟨(wrap64 (x29_2 + 1)), (by first | rfl | (simp; done) | (simp [*]; done)), H', ⟨by have := HJ11.out; have := HK2.out; omega⟩, ⟨bU HB.out⟩⟩
end Go.Proofs.YtkioddjjfifadaaGreatDoor.P
namespace Go.Proofs.YtkioddjjfifadaaGreatDoor.P
open Go.RowKit Go.Proofs.YtkioddjjfifadaaGreatDoorW.PrintWords Go.Proofs.YtkioddjjfifadaaGreatDoorW.PrintLast Go.Proofs.YtkioddjjfifadaaGreatDoorW.PrintMore
attribute [local go_sem] max2_int min2_int max_two min_two max_three min_three max_four min_four   -- for this text's walks alone
set_option linter.unusedVariables false
set_option linter.unusedSimpArgs false
def text_Key.f (k : Nat) (a0 : Int) (l1 : List Int) : Option (ByteArray) := (text_Text.f k a0 l1).bind fun bt666 => (if bt666.2 = 0 then ((text_Fold.f bt666.1).bind fun t668 => (if 1 + t668.size ≤ 9223372036854775807 then (some ((⟨#[61]⟩ : ByteArray) ++ t668)) else (none))) else ((strconv_Itoa.f a0).bind fun t669 => (if 1 + t669.size ≤ 9223372036854775807 then (if ((⟨#[35]⟩ : ByteArray) ++ t669).size + 1 ≤ 9223372036854775807 then (if (((⟨#[35]⟩ : ByteArray) ++ t669) ++ (⟨#[58]⟩ : ByteArray)).size + (strOfNums l1).size ≤ 9223372036854775807 then (some ((((⟨#[35]⟩ : ByteArray) ++ t669) ++ (⟨#[58]⟩ : ByteArray)) ++ (strOfNums l1))) else (none)) else (none)) else (none))))
theorem text_Key.mono : ∀ a0 a1 k, LeO (text_Key.f k a0 a1) (text_Key.f (k + 1) a0 a1) := by
  intro a0 a1 k
  unfold text_Key.f
  repeat' first
      | (with_reducible exact text_Text.mono _ _ _)
      | (with_reducible exact LeO.refl _)
      | (with_reducible exact LeO.none _)
      | (with_reducible refine LeO.ite ?_ ?_)
      | (with_reducible refine LeO.bind ?_ (fun _ => ?_))
      | exact text_Text.mono _ _ _
      | exact LeO.none _
      | refine LeO.ite ?_ ?_
      | refine LeO.bind ?_ (fun _ => ?_)
def text_Key.T3 : Bool × List (List Nat × List Nat) := (true, [([], []), ([0], [0]), ([1], [1]), ([2], [2]), ([], []), ([4], [4]), ([3, 5], [3, 5]), ([6, 1, 0, 1, 2, 3, 4, 5, 6], [6])])
def text_Key.B3 : List Nat := [0, 1, 3, 7, 0, 16, 63, 127]
theorem text_Key.tab3 : rtab .any (opsOf Tryz.f159 3) = text_Key.T3 := by kernel_rfl
theorem text_Key.bits3 : waitsOk text_Key.T3.2 text_Key.B3 = true := by kernel_rfl
set_option maxHeartbeats 8000000 in
set_option maxRecDepth 100000 in
theorem text_Key.calls (k : Nat) (a0 : Int) (A1 : Option Addr) (c1 : Nat) (l1 : List Int) (r : ByteArray) (w : World) (hr1 : Kd.C (Kd.int .u8) w A1 l1.length l1) (hc1 : l1.length ≤ c1) (h : text_Key.f k a0 l1 = some r) (hH : Tb w) :
    Calls Tryz.prog 159 #[.int .i64 a0, .slice A1 l1.length c1] w fun e w' => e = .returned (.string r) ∧ Below w.heap.size w w' := by
  have HR1 := Aside0.mk hr1
  have HC1 := Aside0.mk hc1
  clear hr1 hc1
  have HB := Aside0.mk (Below.refl w.heap.size w)
  have HHd := Aside0.mk hH
  clear hH
  have H : ((text_Text.f k a0 l1).bind fun bt666 => (if bt666.2 = 0 then ((text_Fold.f bt666.1).bind fun t668 => (if 1 + t668.size ≤ 9223372036854775807 then (some ((⟨#[61]⟩ : ByteArray) ++ t668)) else (none))) else ((strconv_Itoa.f a0).bind fun t669 => (if 1 + t669.size ≤ 9223372036854775807 then (if ((⟨#[35]⟩ : ByteArray) ++ t669).size + 1 ≤ 9223372036854775807 then (if (((⟨#[35]⟩ : ByteArray) ++ t669) ++ (⟨#[58]⟩ : ByteArray)).size + (strOfNums l1).size ≤ 9223372036854775807 then (some ((((⟨#[35]⟩ : ByteArray) ++ t669) ++ (⟨#[58]⟩ : ByteArray)) ++ (strOfNums l1))) else (none)) else (none)) else (none))))) = some r := h
  clear h
  replace H := Option.bind_eq_some_iff.mp H
  obtain ⟨⟨t666, t667⟩, A30, H⟩ := H
  replace H : (if t667 = 0 then ((text_Fold.f t666).bind fun t668 => (if 1 + t668.size ≤ 9223372036854775807 then (some ((⟨#[61]⟩ : ByteArray) ++ t668)) else (none))) else ((strconv_Itoa.f a0).bind fun t669 => (if 1 + t669.size ≤ 9223372036854775807 then (if ((⟨#[35]⟩ : ByteArray) ++ t669).size + 1 ≤ 9223372036854775807 then (if (((⟨#[35]⟩ : ByteArray) ++ t669) ++ (⟨#[58]⟩ : ByteArray)).size + (strOfNums l1).size ≤ 9223372036854775807 then (some ((((⟨#[35]⟩ : ByteArray) ++ t669) ++ (⟨#[58]⟩ : ByteArray)) ++ (strOfNums l1))) else (none)) else (none)) else (none)))) = some r := H
  have A3 := Aside0.mk A30
  clear A30
  by_cases c4 : t667 = 0
  · rw [if_pos c4] at H
    have c4b0 : (t667 == 0) = true := beq_iff_eq.mpr c4
    have c4b1 : (t667 != 0) = false := bne_eq_false_iff_eq.mpr c4
    clear c4
    replace H := Option.bind_eq_some_iff.mp H
    obtain ⟨t668, A50, H⟩ := H
    replace H : (if 1 + t668.size ≤ 9223372036854775807 then (some ((⟨#[61]⟩ : ByteArray) ++ t668)) else (none)) = some r := H
    have A5 := Aside0.mk A50
    clear A50
    by_cases c6 : 1 + t668.size ≤ 9223372036854775807
    rotate_left
    · rw [if_neg c6] at H
      exact absurd H (by simp)
    rw [if_pos c6] at H
    have c6b0 := eq_true c6
    have c6b1 : decide (1 + t668.size ≤ 9223372036854775807) = true := decide_eq_true c6
    try have c6b2 : (9223372036854775807 < 1 + t668.size) = False := eq_false (Nat.not_lt.2 c6)
    obtain rfl := Option.some.inj H
    go_enter Tryz.func159, Tryz.ntmps159
    go_wp2_with (first | ((with_reducible refine gate_callee (f := 153) rfl ?_); refine goesL_ (some 10) rfl rfl Tryz.func153 (by kernel_rfl) rfl #[.int .i64 a0, .slice A1 l1.length c1] rfl (by (try simp only [List.map_toArray, List.map_cons, List.map_nil]); first | done | rfl | (simp only [List.length_drop, List.length_take]; rfl)) ?_; (with_reducible refine (text_Text.calls k a0 _ _ l1 t666 t667 _ ?side1 ?side2 A3.out (Tb.below HHd.out (bU HB.out))).mono ?_); (case side1 => exact Kd.C_u HR1.out); (case side2 => exact HC1.out); rintro e w7 ⟨rfl, hb⟩; refine ⟨_, rfl, ?_⟩; have n0_ := Aside0.mk (below_step (bU HB.out) hb); replace HB := n0_; clear n0_; (try clear hb); (try clear hb2); (try clear hk); (try clear hi)) | ((with_reducible refine gate_callee (f := 211) rfl ?_); refine goesL_ (some 23) rfl rfl Tryz.func211 (by kernel_rfl) rfl #[.string t666] rfl (by (try simp only [List.map_toArray, List.map_cons, List.map_nil]); first | done | rfl | (simp only [List.length_drop, List.length_take]; rfl)) ?_; (with_reducible refine (text_Fold.calls t666 t668 _ A5.out (Tb.below HHd.out (bU HB.out))).mono ?_); rintro e w8 ⟨rfl, hb⟩; refine ⟨_, rfl, ?_⟩; have n0_ := Aside0.mk (below_step (bU HB.out) hb); replace HB := n0_; clear n0_; (try clear hb); (try clear hb2); (try clear hk); (try clear hi)))
    go_ret
    exact ⟨by first | rfl | (simp [errW_none, errW_some] <;> rfl) | (simp [*, errW_none, errW_some] <;> rfl), bU HB.out⟩
  rw [if_neg c4] at H
  have c4b0 : (t667 == 0) = false := beq_eq_false_iff_ne.mpr c4
  have c4b1 : (t667 != 0) = true := bne_iff_ne.mpr c4
  replace H := Option.bind_eq_some_iff.mp H
  obtain ⟨t669, A90, H⟩ := H
  replace H : (if 1 + t669.size ≤ 9223372036854775807 then (if ((⟨#[35]⟩ : ByteArray) ++ t669).size + 1 ≤ 9223372036854775807 then (if (((⟨#[35]⟩ : ByteArray) ++ t669) ++ (⟨#[58]⟩ : ByteArray)).size + (strOfNums l1).size ≤ 9223372036854775807 then (some ((((⟨#[35]⟩ : ByteArray) ++ t669) ++ (⟨#[58]⟩ : ByteArray)) ++ (strOfNums l1))) else (none)) else (none)) else (none)) = some r := H
  have A9 := Aside0.mk A90
  clear A90
  by_cases c10 : 1 + t669.size ≤ 9223372036854775807
  rotate_left
  · rw [if_neg c10] at H
    exact absurd H (by simp)
  rw [if_pos c10] at H
  have c10b0 := eq_true c10
  have c10b1 : decide (1 + t669.size ≤ 9223372036854775807) = true := decide_eq_true c10
  try have c10b2 : (9223372036854775807 < 1 + t669.size) = False := eq_false (Nat.not_lt.2 c10)
  by_cases c11 : ((⟨#[35]⟩ : ByteArray) ++ t669).size + 1 ≤ 9223372036854775807
  rotate_left
  · rw [if_neg c11] at H
    exact absurd H (by simp)
  rw [if_pos c11] at H
  have c11b0 := eq_true c11
  have c11b1 : decide (((⟨#[35]⟩ : ByteArray) ++ t669).size + 1 ≤ 9223372036854775807) = true := decide_eq_true c11
  try have c11b2 : (9223372036854775807 < ((⟨#[35]⟩ : ByteArray) ++ t669).size + 1) = False := eq_false (Nat.not_lt.2 c11)
  by_cases c12 : (((⟨#[35]⟩ : ByteArray) ++ t669) ++ (⟨#[58]⟩ : ByteArray)).size + (strOfNums l1).size ≤ 9223372036854775807
  rotate_left
  · rw [if_neg c12] at H
    exact absurd H (by simp)
  rw [if_pos c12] at H
  have c12b0 := eq_true c12
  have c12b1 : decide ((((⟨#[35]⟩ : ByteArray) ++ t669) ++ (⟨#[58]⟩ : ByteArray)).size + (strOfNums l1).size ≤ 9223372036854775807) = true := decide_eq_true c12
  try have c12b2 : (9223372036854775807 < (((⟨#[35]⟩ : ByteArray) ++ t669) ++ (⟨#[58]⟩ : ByteArray)).size + (strOfNums l1).size) = False := eq_false (Nat.not_lt.2 c12)
  have z1 : ((⟨#[35]⟩ : ByteArray) ++ t669).size = 1 + t669.size := by rw [ByteArray.size_append]; rfl
  have z2 : (⟨#[58]⟩ : ByteArray).size = 1 := rfl
  have y1 : (9223372036854775807 < 1 + t669.size + 1) = False := eq_false (by rw [z1] at c11; omega)
  have y2 : (9223372036854775807 < 1 + t669.size + 1 + (strOfNums l1).size) = False := eq_false (by rw [ByteArray.size_append, z1, z2] at c12; omega)
  clear z1 z2
  obtain rfl := Option.some.inj H
  go_enter Tryz.func159, Tryz.ntmps159
  try go_wp2_with (first | ((with_reducible refine gate_callee (f := 153) rfl ?_); refine goesL_ (some 10) rfl rfl Tryz.func153 (by kernel_rfl) rfl #[.int .i64 a0, .slice A1 l1.length c1] rfl (by (try simp only [List.map_toArray, List.map_cons, List.map_nil]); first | done | rfl | (simp only [List.length_drop, List.length_take]; rfl)) ?_; (with_reducible refine (text_Text.calls k a0 _ _ l1 t666 t667 _ ?side1 ?side2 A3.out (Tb.below HHd.out (bU HB.out))).mono ?_); (case side1 => exact Kd.C_u HR1.out); (case side2 => exact HC1.out); rintro e w13 ⟨rfl, hb⟩; refine ⟨_, rfl, ?_⟩; have n0_ := Aside0.mk (below_step (bU HB.out) hb); replace HB := n0_; clear n0_; (try clear hb); (try clear hb2); (try clear hk); (try clear hi)))
  have n0_ := Aside0.mk (below_drew1 HB.out)
  clear HB
  have HB := n0_
  clear n0_
  refine start_ (n := 8) (S := fun w' => (Kd.int .u8).C w' A1 l1.length l1) (ds := []) #[false, false, false, false, false, false, false, false] (by kernel_rfl) rfl rfl (Kd.C_below HR1.out HB.out) (fun hHeld => ?_); refine with_tabW text_Key.tab3 text_Key.bits3 (fun HT_ HW_ => ?_)
  generalize w13.drew = w14 at HB hHeld ⊢
  refine pure_ (i := 0) (N := some 15) (v := ?_) (a' := ?_) #[true, false, false, false, false, false, false, false] rfl rfl (any_of HT_.out (by kernel_rfl)) (fun _ _ _ h => h) (Or.inl ⟨by rfl, ?_⟩) ?_ ?_; rotate_left; (intro w'; go_simp; with_reducible rfl); rotate_left; (simp only [Act.put, List.setIfInBounds_toArray, List.set_cons_zero, List.set_cons_succ, i64_w, i32_w]; rfl)
  refine pure_ (i := 4) (N := some 19) (v := ?_) (a' := ?_) #[true, false, false, false, true, false, false, false] rfl rfl (any_of HT_.out (by kernel_rfl)) (fun _ _ _ h => h) (Or.inl ⟨by rfl, ?_⟩) ?_ ?_; rotate_left; (intro w'; go_simp; with_reducible rfl); rotate_left; (simp only [Act.put, List.setIfInBounds_toArray, List.set_cons_zero, List.set_cons_succ, i64_w, i32_w]; rfl)
  refine take_ (i := 5) (N := some 20) (v := .string (strOfNums l1)) (a' := ?_) #[true, false, false, false, true, true, false, false] rfl rfl (take_ofW HT_.out HW_.out (by kernel_rfl)) (fun _ _ _ h => h) (Or.inl ⟨by rfl, ?_⟩) hHeld ?_ ?_
  · intro w' hw'
    have hcv := Kd.C_string (P := Tryz.prog) (A := A1) (c := c1) Tryz.underlying22 Tryz.underlying5 Tryz.underlying9 hw'
    go_simp
  rotate_left
  · simp only [Act.put, List.setIfInBounds_toArray, List.set_cons_zero, List.set_cons_succ, i64_w, i32_w]
    rfl
  refine one_ (i := 1) (N := some 16) #[true, true, false, false, true, true, false, false] rfl rfl (one_of HT_.out (by kernel_rfl)) (by decide) (fun K hK => ?_)
  refine goes_ Tryz.func160 (by kernel_rfl) rfl #[.int .i64 a0] (by rfl) rfl rfl (by (try simp only [List.map_toArray, List.map_cons, List.map_nil]); first | done | rfl | (simp only [List.length_drop, List.length_take]; rfl)) ?_
  with_reducible refine (strconv_Itoa.calls a0 t669 _ A9.out (Tb.below HHd.out (bU HB.out))).mono ?_
  rintro e w15 ⟨rfl, hb⟩
  refine ⟨_, rfl, ?_⟩
  have n0_ := Aside0.mk (below_step (bU HB.out) hb)
  clear HB
  have HB := n0_
  clear n0_
  (try clear hb)
  (try clear hb2)
  (try clear hk)
  (try clear hi)
  have hcv16 := Kd.C_string (P := Tryz.prog) (A := A1) (c := c1) Tryz.underlying22 Tryz.underlying5 Tryz.underlying9 (Kd.C_below HR1.out HB.out)
  refine hK.out _ _ (Kd.C_below HR1.out HB.out) (fun hHeld => ?_)
  clear hK K
  refine norm_ (a' := ?_) ?_ ?_; rotate_left; (show Act.put _ (some 16) _ = _; simp only [Act.put, List.setIfInBounds_toArray, List.set_cons_zero, List.set_cons_succ, i64_w, i32_w]; rfl)
  refine pure_ (i := 2) (N := some 17) (v := ?_) (a' := ?_) #[true, true, true, false, true, true, false, false] rfl rfl (any_of HT_.out (by kernel_rfl)) (fun _ _ _ h => h) (Or.inl ⟨by rfl, ?_⟩) ?_ ?_; rotate_left; (intro w'; go_simp; with_reducible rfl); rotate_left; (simp only [Act.put, List.setIfInBounds_toArray, List.set_cons_zero, List.set_cons_succ, i64_w, i32_w]; rfl)
  refine pure_ (i := 3) (N := some 18) (v := ?_) (a' := ?_) #[true, true, true, true, true, true, false, false] rfl rfl (any_of HT_.out (by kernel_rfl)) (fun _ _ _ h => h) (Or.inl ⟨by rfl, ?_⟩) ?_ ?_; rotate_left; (intro w'; go_simp; with_reducible rfl); rotate_left; (simp only [Act.put, List.setIfInBounds_toArray, List.set_cons_zero, List.set_cons_succ, i64_w, i32_w]; rfl)
  refine pure_ (i := 6) (N := some 21) (v := ?_) (a' := ?_) #[true, true, true, true, true, true, true, false] rfl rfl (any_of HT_.out (by kernel_rfl)) (fun _ _ _ h => h) (Or.inl ⟨by rfl, ?_⟩) ?_ ?_; rotate_left; (intro w'; go_simp; with_reducible rfl); rotate_left; (simp only [Act.put, List.setIfInBounds_toArray, List.set_cons_zero, List.set_cons_succ, i64_w, i32_w]; rfl)
  refine pure_ (i := 7) (N := some 4) (v := ?_) (a' := ?_) #[true, true, true, true, true, true, true, true] rfl rfl (any_of HT_.out (by kernel_rfl)) (fun _ _ _ h => h) (Or.inl ⟨by rfl, ?_⟩) ?_ ?_; rotate_left; (intro w'; go_simp; with_reducible rfl); rotate_left; (simp only [Act.put, List.setIfInBounds_toArray, List.set_cons_zero, List.set_cons_succ, i64_w, i32_w]; rfl)
  refine done_ (done_of HT_.out (by kernel_rfl)) ?_
  try go_wp2
  go_ret
  exact ⟨by first | rfl | (simp [errW_none, errW_some] <;> rfl) | (simp [*, errW_none, errW_some] <;> rfl), bU HB.out⟩
end Go.Proofs.YtkioddjjfifadaaGreatDoor.P
namespace Go.Proofs.YtkioddjjfifadaaGreatDoor.P
open Go.RowKit Go.Proofs.YtkioddjjfifadaaGreatDoorW.PrintWords Go.Proofs.YtkioddjjfifadaaGreatDoorW.PrintLast Go.Proofs.YtkioddjjfifadaaGreatDoorW.PrintMore
attribute [local go_sem] max2_int min2_int max_two min_two max_three min_three max_four min_four   -- for this text's walks alone
set_option linter.unusedVariables false
set_option linter.unusedSimpArgs false
def name_mark.l0 : Nat → List ByteArray → List (S64) → Int → Int → Option (ByteArray)
  | 0, _, _, _, _ => none
  | k + 1, x3, x7, x8, x9 => if x9 < x8 then (if 0 ≤ x9 then (if x9 < (x7.length : Int) then ((text_Key.f k ((rd_T64 x7 x9).f1) ((rd_T64 x7 x9).f2)).bind fun t788 => (if ((rd_T64 x7 x9).f0).size + 1 ≤ 9223372036854775807 then ((strconv_Itoa.f (t788.size : Int)).bind fun t789 => (if (((rd_T64 x7 x9).f0) ++ (⟨#[61]⟩ : ByteArray)).size + t789.size ≤ 9223372036854775807 then (if ((((rd_T64 x7 x9).f0) ++ (⟨#[61]⟩ : ByteArray)) ++ t789).size + 1 ≤ 9223372036854775807 then (if (((((rd_T64 x7 x9).f0) ++ (⟨#[61]⟩ : ByteArray)) ++ t789) ++ (⟨#[58]⟩ : ByteArray)).size + t788.size ≤ 9223372036854775807 then (if ((((((rd_T64 x7 x9).f0) ++ (⟨#[61]⟩ : ByteArray)) ++ t789) ++ (⟨#[58]⟩ : ByteArray)) ++ t788).size + 1 ≤ 9223372036854775807 then (if x3.length < 8796093022208 then (name_mark.l0 k (x3 ++ [((((((rd_T64 x7 x9).f0) ++ (⟨#[61]⟩ : ByteArray)) ++ t789) ++ (⟨#[58]⟩ : ByteArray)) ++ t788) ++ (⟨#[59]⟩ : ByteArray)]) x7 x8 (wrap64 (x9 + 1))) else (none)) else (none)) else (none)) else (none)) else (none))) else (none))) else (none)) else (none)) else ((slices_Sort.f x3).bind fun y3 => ((strings_Join.f y3 (⟨#[]⟩ : ByteArray)).bind fun t793 => (if t793.size + 1 ≤ 9223372036854775807 then (some (t793 ++ (⟨#[47]⟩ : ByteArray))) else (none))))
def name_mark.f (k : Nat) (l0 : List (S64)) : Option (ByteArray) := name_mark.l0 k ([] : List ByteArray) l0 (l0.length : Int) 0
def name_mark.T6 : Bool × List (List Nat × List Nat) := (true, [([], []), ([], []), ([1], [1]), ([2], [2]), ([], []), ([4], [4]), ([5], [5]), ([3, 6], [3, 6]), ([7], [7]), ([], []), ([8, 9], [8, 9]), ([10], [10]), ([11], [11]), ([0, 12, 6], [0, 12]), ([13, 13, 0, 1, 2, 3, 4, 5, 6, 7, 8, 9, 10, 11, 12, 13], [0, 13])])
def name_mark.B6 : List Nat := [0, 0, 2, 6, 0, 16, 48, 126, 254, 0, 1022, 2046, 4094, 8191, 16383]
theorem name_mark.tab6 : rtab .any (opsOf Tryz.f93 6) = name_mark.T6 := by kernel_rfl
theorem name_mark.bits6 : waitsOk name_mark.T6.2 name_mark.B6 = true := by kernel_rfl
set_option maxHeartbeats 8000000 in
set_option maxRecDepth 100000 in
theorem name_mark.calls (k : Nat) (A0 : Option Addr) (c0 : Nat) (l0 : List (S64)) (r : ByteArray) (w : World) (hr0 : Kd.C k64 w A0 l0.length l0) (hc0 : l0.length ≤ c0) (h : name_mark.f k l0 = some r) (hH : Tb w) :
    Calls Tryz.prog 93 #[.slice A0 l0.length c0] w fun e w' => e = .returned (.string r) ∧ Below w.heap.size w w' := by
  have hu64 := Tryz.underlying64
  have HR0 := Aside0.mk hr0
  have HC0 := Aside0.mk hc0
  clear hr0 hc0
  have HB := Aside0.mk (Below.refl w.heap.size w)
  have HHd := Aside0.mk hH
  clear hH
  have H : (name_mark.l0 k ([] : List ByteArray) l0 (l0.length : Int) 0) = some r := h
  clear h
  have H' := Aside0.mk H
  clear H
  go_enter Tryz.func93, Tryz.ntmps93
  go_wp2
  go_loopg [3, 9] k (fun kq v3 v9 w' => ∃ (x3_1 : List ByteArray) (x9_1 : Int), v9 = .int .i64 x9_1 ∧ Aside0 (name_mark.l0 kq x3_1 l0 (l0.length : Int) x9_1 = some r) ∧ Aside0 (kq ≤ k) ∧ Aside0 (Kd.R Kd.string 9 w' w.heap.size (fun _ => True) v3 x3_1) ∧ Aside0 (Below w.heap.size w w'))
  case atStart => exact ⟨(([] : List ByteArray)), (0), (by first | rfl | (simp; done) | (simp [*]; done)), H', ⟨Nat.le_refl _⟩, ⟨by first | exact Kd.R_nil _ _ _ _ _ | exact Kd.N_nil _ _ _ _ _ | exact Kd.V_nil _ _ _ _ _ | exact Kd.Q_nil _ _ _ _ _ | exact Kd.S_nil _ _ _ _ _⟩, ⟨bU HB.out⟩⟩
  case round =>
    clear H'
    obtain ⟨x3_1, x9_1, rfl, HA, HK1, HO_3, HB⟩ := hrel
    cases gk with
    | zero => exact absurd HA.out (by simp [name_mark.l0])
    | succ k1 =>
      have H := HA.out
      clear HA
      simp only [name_mark.l0] at H
      by_cases c2 : x9_1 < (l0.length : Int)
      rotate_left
      · rw [if_neg c2] at H
        have c2b0 : decide (x9_1 < (l0.length : Int)) = false := decide_eq_false c2
        clear c2
        replace H := Option.bind_eq_some_iff.mp H
        obtain ⟨y3, A190, H⟩ := H
        replace H : ((strings_Join.f y3 (⟨#[]⟩ : ByteArray)).bind fun t793 => (if t793.size + 1 ≤ 9223372036854775807 then (some (t793 ++ (⟨#[47]⟩ : ByteArray))) else (none))) = some r := H
        have A19 := Aside0.mk A190
        have hylen : x3_1.length = y3.length := by
          have h1 := A190
          unfold slices_Sort.f at h1
          split at h1
          rotate_left
          · cases h1
          rw [← Option.some.inj h1, sortB_len]
        have YL := Aside0.mk hylen
        clear hylen
        clear A190
        replace H := Option.bind_eq_some_iff.mp H
        obtain ⟨t793, A200, H⟩ := H
        replace H : (if t793.size + 1 ≤ 9223372036854775807 then (some (t793 ++ (⟨#[47]⟩ : ByteArray))) else (none)) = some r := H
        have A20 := Aside0.mk A200
        clear A200
        by_cases c21 : t793.size + 1 ≤ 9223372036854775807
        rotate_left
        · rw [if_neg c21] at H
          exact absurd H (by simp)
        rw [if_pos c21] at H
        have c21b0 := eq_true c21
        have c21b1 : decide (t793.size + 1 ≤ 9223372036854775807) = true := decide_eq_true c21
        try have c21b2 : (9223372036854775807 < t793.size + 1) = False := eq_false (Nat.not_lt.2 c21)
        obtain rfl := Option.some.inj H
        obtain ⟨Ao22, co22, eo22⟩ := Kd.R_slice HO_3.out
        subst eo22
        go_wp2_with (first | ((with_reducible refine gate_callee (f := 161) rfl ?_); refine goesL_ (some 34) rfl rfl Tryz.func161 (by kernel_rfl) rfl #[.slice Ao22 x3_1.length co22] rfl (by (try simp only [List.map_toArray, List.map_cons, List.map_nil]); first | done | rfl | (simp only [List.length_drop, List.length_take]; rfl)) ?_; (with_reducible refine (sort_own w _ x3_1 y3 _ ?side1 ?side2 A19.out).mono ?_); (case side1 => exact (Kd.R_u HO_3.out)); (case side2 => exact (bU HB.out)); rintro e w23 ⟨rfl, hsr, hb⟩; refine ⟨_, rfl, ?_⟩; have n0_ := Aside0.mk hsr; have n1_ := Aside0.mk hb; clear hsr; clear HO_3; clear HB; have HO_3 := n0_; have HB := n1_; clear n0_ n1_; (try clear hb); (try clear hb2); (try clear hk); (try clear hi)) | ((with_reducible refine gate_callee (f := 88) rfl ?_); refine goesL_ (some 36) rfl rfl Tryz.func88 (by kernel_rfl) rfl #[.slice Ao22 x3_1.length co22, .string (⟨#[]⟩ : ByteArray)] rfl (by (try simp only [List.map_toArray, List.map_cons, List.map_nil]); first | done | rfl | (simp only [List.length_drop, List.length_take]; rfl)) ?_; (rw [YL.out]); (with_reducible refine (strings_Join.calls _ _ y3 (⟨#[]⟩ : ByteArray) t793 _ ?side1 ?side2 A20.out).mono ?_); (case side1 => exact Kd.C_u (Kd.R_reads' HO_3.out).2.2); (case side2 => exact (Kd.R_reads' HO_3.out).2.1); rintro e w24 ⟨rfl, hb⟩; refine ⟨_, rfl, ?_⟩; have n0_ := Aside0.mk (Kd.R_below (Kd.R_u HO_3.out) hb); have n1_ := Aside0.mk (below_step (bU HB.out) hb); clear HO_3; clear HB; have HO_3 := n0_; have HB := n1_; clear n0_ n1_; (try clear hb); (try clear hb2); (try clear hk); (try clear hi)))
        have hrd := Kd.R_reads' HO_3.out
        have hj := strings_Join.calls Ao22 co22 y3 (⟨#[]⟩ : ByteArray) t793 _ hrd.2.2 (YL.out ▸ hrd.2.1) A20.out
        rw [← YL.out] at hj
        refine hj.mono ?_
        rintro e w24 ⟨rfl, hb⟩
        have HB2 := Aside0.mk (below_step HB.out hb)
        clear hb hj hrd
        go_wp2_with fail
        go_ret
        exact ⟨rfl, HB2.out⟩
      rw [if_pos c2] at H
      have c2b0 : decide (x9_1 < (l0.length : Int)) = true := decide_eq_true c2
      clear c2
      by_cases c3 : 0 ≤ x9_1
      rotate_left
      · rw [if_neg c3] at H
        exact absurd H (by simp)
      rw [if_pos c3] at H
      have c3b0 : decide (0 ≤ x9_1) = true := decide_eq_true c3
      clear c3
      by_cases c4 : x9_1 < (l0.length : Int)
      rotate_left
      · rw [if_neg c4] at H
        exact absurd H (by simp)
      rw [if_pos c4] at H
      have c4b0 : decide (x9_1 < (l0.length : Int)) = true := decide_eq_true c4
      clear c4
      replace H := Option.bind_eq_some_iff.mp H
      obtain ⟨t788, A50, H⟩ := H
      replace H : (if ((rd_T64 l0 x9_1).f0).size + 1 ≤ 9223372036854775807 then ((strconv_Itoa.f (t788.size : Int)).bind fun t789 => (if (((rd_T64 l0 x9_1).f0) ++ (⟨#[61]⟩ : ByteArray)).size + t789.size ≤ 9223372036854775807 then (if ((((rd_T64 l0 x9_1).f0) ++ (⟨#[61]⟩ : ByteArray)) ++ t789).size + 1 ≤ 9223372036854775807 then (if (((((rd_T64 l0 x9_1).f0) ++ (⟨#[61]⟩ : ByteArray)) ++ t789) ++ (⟨#[58]⟩ : ByteArray)).size + t788.size ≤ 9223372036854775807 then (if ((((((rd_T64 l0 x9_1).f0) ++ (⟨#[61]⟩ : ByteArray)) ++ t789) ++ (⟨#[58]⟩ : ByteArray)) ++ t788).size + 1 ≤ 9223372036854775807 then (if x3_1.length < 8796093022208 then (name_mark.l0 k1 (x3_1 ++ [((((((rd_T64 l0 x9_1).f0) ++ (⟨#[61]⟩ : ByteArray)) ++ t789) ++ (⟨#[58]⟩ : ByteArray)) ++ t788) ++ (⟨#[59]⟩ : ByteArray)]) l0 (l0.length : Int) (wrap64 (x9_1 + 1))) else (none)) else (none)) else (none)) else (none)) else (none))) else (none)) = some r := H
      have A5 := Aside0.mk A50
      clear A50
      by_cases c6 : ((rd_T64 l0 x9_1).f0).size + 1 ≤ 9223372036854775807
      rotate_left
      · rw [if_neg c6] at H
        exact absurd H (by simp)
      rw [if_pos c6] at H
      have c6b0 := eq_true c6
      have c6b1 : decide (((rd_T64 l0 x9_1).f0).size + 1 ≤ 9223372036854775807) = true := decide_eq_true c6
      try have c6b2 : (9223372036854775807 < ((rd_T64 l0 x9_1).f0).size + 1) = False := eq_false (Nat.not_lt.2 c6)
      replace H := Option.bind_eq_some_iff.mp H
      obtain ⟨t789, A70, H⟩ := H
      replace H : (if (((rd_T64 l0 x9_1).f0) ++ (⟨#[61]⟩ : ByteArray)).size + t789.size ≤ 9223372036854775807 then (if ((((rd_T64 l0 x9_1).f0) ++ (⟨#[61]⟩ : ByteArray)) ++ t789).size + 1 ≤ 9223372036854775807 then (if (((((rd_T64 l0 x9_1).f0) ++ (⟨#[61]⟩ : ByteArray)) ++ t789) ++ (⟨#[58]⟩ : ByteArray)).size + t788.size ≤ 9223372036854775807 then (if ((((((rd_T64 l0 x9_1).f0) ++ (⟨#[61]⟩ : ByteArray)) ++ t789) ++ (⟨#[58]⟩ : ByteArray)) ++ t788).size + 1 ≤ 9223372036854775807 then (if x3_1.length < 8796093022208 then (name_mark.l0 k1 (x3_1 ++ [((((((rd_T64 l0 x9_1).f0) ++ (⟨#[61]⟩ : ByteArray)) ++ t789) ++ (⟨#[58]⟩ : ByteArray)) ++ t788) ++ (⟨#[59]⟩ : ByteArray)]) l0 (l0.length : Int) (wrap64 (x9_1 + 1))) else (none)) else (none)) else (none)) else (none)) else (none)) = some r := H
      have A7 := Aside0.mk A70
      clear A70
      by_cases c8 : (((rd_T64 l0 x9_1).f0) ++ (⟨#[61]⟩ : ByteArray)).size + t789.size ≤ 9223372036854775807
      rotate_left
      · rw [if_neg c8] at H
        exact absurd H (by simp)
      rw [if_pos c8] at H
      have c8b0 := eq_true c8
      have c8b1 : decide ((((rd_T64 l0 x9_1).f0) ++ (⟨#[61]⟩ : ByteArray)).size + t789.size ≤ 9223372036854775807) = true := decide_eq_true c8
      try have c8b2 : (9223372036854775807 < (((rd_T64 l0 x9_1).f0) ++ (⟨#[61]⟩ : ByteArray)).size + t789.size) = False := eq_false (Nat.not_lt.2 c8)
      by_cases c9 : ((((rd_T64 l0 x9_1).f0) ++ (⟨#[61]⟩ : ByteArray)) ++ t789).size + 1 ≤ 9223372036854775807
      rotate_left
      · rw [if_neg c9] at H
        exact absurd H (by simp)
      rw [if_pos c9] at H
      have c9b0 := eq_true c9
      have c9b1 : decide (((((rd_T64 l0 x9_1).f0) ++ (⟨#[61]⟩ : ByteArray)) ++ t789).size + 1 ≤ 9223372036854775807) = true := decide_eq_true c9
      try have c9b2 : (9223372036854775807 < ((((rd_T64 l0 x9_1).f0) ++ (⟨#[61]⟩ : ByteArray)) ++ t789).size + 1) = False := eq_false (Nat.not_lt.2 c9)
      by_cases c10 : (((((rd_T64 l0 x9_1).f0) ++ (⟨#[61]⟩ : ByteArray)) ++ t789) ++ (⟨#[58]⟩ : ByteArray)).size + t788.size ≤ 9223372036854775807
      rotate_left
      · rw [if_neg c10] at H
        exact absurd H (by simp)
      rw [if_pos c10] at H
      have c10b0 := eq_true c10
      have c10b1 : decide ((((((rd_T64 l0 x9_1).f0) ++ (⟨#[61]⟩ : ByteArray)) ++ t789) ++ (⟨#[58]⟩ : ByteArray)).size + t788.size ≤ 9223372036854775807) = true := decide_eq_true c10
      try have c10b2 : (9223372036854775807 < (((((rd_T64 l0 x9_1).f0) ++ (⟨#[61]⟩ : ByteArray)) ++ t789) ++ (⟨#[58]⟩ : ByteArray)).size + t788.size) = False := eq_false (Nat.not_lt.2 c10)
      by_cases c11 : ((((((rd_T64 l0 x9_1).f0) ++ (⟨#[61]⟩ : ByteArray)) ++ t789) ++ (⟨#[58]⟩ : ByteArray)) ++ t788).size + 1 ≤ 9223372036854775807
      rotate_left
      · rw [if_neg c11] at H
        exact absurd H (by simp)
      rw [if_pos c11] at H
      have c11b0 := eq_true c11
      have c11b1 : decide (((((((rd_T64 l0 x9_1).f0) ++ (⟨#[61]⟩ : ByteArray)) ++ t789) ++ (⟨#[58]⟩ : ByteArray)) ++ t788).size + 1 ≤ 9223372036854775807) = true := decide_eq_true c11
      try have c11b2 : (9223372036854775807 < ((((((rd_T64 l0 x9_1).f0) ++ (⟨#[61]⟩ : ByteArray)) ++ t789) ++ (⟨#[58]⟩ : ByteArray)) ++ t788).size + 1) = False := eq_false (Nat.not_lt.2 c11)
      by_cases c12 : x3_1.length < 8796093022208
      rotate_left
      · rw [if_neg c12] at H
        exact absurd H (by simp)
      rw [if_pos c12] at H
      have LMc12 := Aside0.mk c12
      clear c12
      obtain ⟨y790, hy790⟩ : ∃ y_ : List ByteArray, y_ = (x3_1 ++ [((((((rd_T64 l0 x9_1).f0) ++ (⟨#[61]⟩ : ByteArray)) ++ t789) ++ (⟨#[58]⟩ : ByteArray)) ++ t788) ++ (⟨#[59]⟩ : ByteArray)]) := ⟨_, rfl⟩
      replace H : (name_mark.l0 k1 y790 l0 (l0.length : Int) (wrap64 (x9_1 + 1))) = some r := by first | (rw [hy790]; with_reducible exact H) | (have H2_ := (Option.bind_some _ _).symm.trans H; rw [hy790]; with_reducible exact H2_) | (have H2_ := (Option.bind_some _ _).symm.trans H; with_reducible exact H2_) | with_reducible exact H | (rw [hy790]; exact H) | exact H
      have Ny790 := Aside0.mk hy790
      clear hy790
      have H' := Aside0.mk H
      clear H
      have p786 : 0 ≤ (x9_1 : Int) := of_decide_eq_true (by first | (with_reducible assumption) | assumption)
      have q786 : x9_1 < (l0.length : Int) := of_decide_eq_true (by first | (with_reducible assumption) | assumption)
      obtain ⟨ad786, A786_2, c786_2, e786, hx786_0, hx786_1, hx786_2, hl786_2, hi786_2⟩ := at_T64 HR0.out x9_1 p786 q786
      cases e786
      replace hx786_0 := (HB.out.cell (World.block_lt_of_cell? w _ hx786_0)).trans hx786_0
      replace hx786_1 := (HB.out.cell (World.block_lt_of_cell? w _ hx786_1)).trans hx786_1
      replace hx786_2 := (HB.out.cell (World.block_lt_of_cell? w _ hx786_2)).trans hx786_2
      have HR786_2 := Aside0.mk hi786_2
      have HC786_2 := Aside0.mk hl786_2
      clear hi786_2 hl786_2
      have ZZ61 : (⟨#[61]⟩ : ByteArray).size = 1 := rfl
      have ZZ58 : (⟨#[58]⟩ : ByteArray).size = 1 := rfl
      have ZZ59 : (⟨#[59]⟩ : ByteArray).size = 1 := rfl
      have YY1 : (9223372036854775807 < ((rd_T64 l0 x9_1).f0).size + 1 + t789.size) = False := eq_false (by have h_ := c8; simp only [ByteArray.size_append, ZZ61, ZZ58, ZZ59] at h_; omega)
      have YY2 : (9223372036854775807 < ((rd_T64 l0 x9_1).f0).size + 1 + t789.size + 1) = False := eq_false (by have h_ := c9; simp only [ByteArray.size_append, ZZ61, ZZ58, ZZ59] at h_; omega)
      have YY3 : (9223372036854775807 < ((rd_T64 l0 x9_1).f0).size + 1 + t789.size + 1 + t788.size) = False := eq_false (by have h_ := c10; simp only [ByteArray.size_append, ZZ61, ZZ58, ZZ59] at h_; omega)
      have YY4 : (9223372036854775807 < ((rd_T64 l0 x9_1).f0).size + 1 + t789.size + 1 + t788.size + 1) = False := eq_false (by have h_ := c11; simp only [ByteArray.size_append, ZZ61, ZZ58, ZZ59] at h_; omega)
      replace p786 := eq_true p786
      replace q786 := eq_true q786
      try go_wp2_with (first | ((with_reducible refine gate_dst (N := 5) rfl ?_); refine box_event ?hg (N := 5) ?hd (cs := #[.string (⟨#[]⟩ : ByteArray), .int .i64 0, .slice none 0 0]) (t := 64) ?hr ?_; (case hd => rfl); (case hg => rfl); (case hr => first | (go_simp; done) | (go_simp; rfl)); intro gb787 hg w13 hbox hb; have n0_ := Aside0.mk (Kd.R_below (Kd.R_u HO_3.out) hb); have n1_ := Aside0.mk (below_step (bU HB.out) hb); have n2_ := Aside0.mk (hbox); have n3_ := Aside0.mk ((by rw [hg]; exact (below_size (bU HB.out)) : w.heap.size ≤ gb787)); have n4_ := Aside0.mk ((by rw [hg]; exact (below_size (bU HB.out)) : w.heap.size ≤ gb787)); clear HO_3; clear HB; have HO_3 := n0_; have HB := n1_; have BK787 := n2_; have GW787 := n3_; have GE787 := n4_; clear n0_ n1_ n2_ n3_ n4_; clear hb hbox hg; have hcz14_0 : w13.cell? ⟨gb787, 0, none⟩ = some (.string (⟨#[]⟩ : ByteArray)) := (blk_cell BK787.out 0).trans rfl; have hcz14_1 : w13.cell? ⟨gb787, 1, none⟩ = some (.int .i64 0) := (blk_cell BK787.out 1).trans rfl; have hcz14_2 : w13.cell? ⟨gb787, 2, none⟩ = some (.slice none 0 0) := (blk_cell BK787.out 2).trans rfl; have hfz14_0 := blk_frozen BK787.out 0; have hfz14_1 := blk_frozen BK787.out 1; have hfz14_2 := blk_frozen BK787.out 2) | ((with_reducible refine gate_callee (f := 159) rfl ?_); refine goesL_ (some 17) rfl rfl Tryz.func159 (by kernel_rfl) rfl #[.int .i64 ((rd_T64 l0 x9_1).f1), .slice A786_2 ((rd_T64 l0 x9_1).f2).length c786_2] rfl (by (try simp only [List.map_toArray, List.map_cons, List.map_nil]); first | done | rfl | (simp only [List.length_drop, List.length_take]; rfl)) ?_; (with_reducible refine (text_Key.calls k1 ((rd_T64 l0 x9_1).f1) _ _ ((rd_T64 l0 x9_1).f2) t788 _ ?side1 ?side2 A5.out (Tb.below HHd.out (by repeat (first | (with_reducible first | exact HB.out | apply below_alloc | apply pw_below_drewN | apply below_drew1 | refine below_set ?_ GE787.out) | exact HB.out)))).mono ?_); (case side1 => exact Kd.C_below HR786_2.out (by repeat (first | (with_reducible first | exact HB.out | apply below_alloc | apply pw_below_drewN | apply below_drew1 | refine below_set ?_ GE787.out) | exact HB.out))); (case side2 => exact HC786_2.out); rintro e w15 ⟨rfl, hb⟩; refine ⟨_, rfl, ?_⟩; have n0_ := Aside0.mk (Kd.R_below (Kd.R_u ((Kd.R_mono (Kd.R_far (p := ⟨gb787, 2, none⟩) (Kd.R_far (p := ⟨gb787, 1, none⟩) (Kd.R_far (p := ⟨gb787, 0, none⟩) (Kd.R_types HO_3.out BK787.out (by decide)) (fun _ hk => hk.2) (.string ((rd_T64 l0 x9_1).f0))) (fun _ hk => hk.2) (.int .i64 ((rd_T64 l0 x9_1).f1))) (fun _ hk => hk.2) (.slice A786_2 ((rd_T64 l0 x9_1).f2).length c786_2)) (fun _ h_ => h_.1)))) hb); have n1_ := Aside0.mk (blk_below (g := gb787) (o := .cells #[.string ((rd_T64 l0 x9_1).f0), .int .i64 ((rd_T64 l0 x9_1).f1), .slice A786_2 ((rd_T64 l0 x9_1).f2).length c786_2] 64 (0, 0)) (by (with_reducible repeat (first | refine blk_drewN ?_ _ | refine blk_drew ?_ | refine blk_alloc ?_ _)); refine blk_put (cs := #[.string ((rd_T64 l0 x9_1).f0), .int .i64 ((rd_T64 l0 x9_1).f1), .slice none 0 0]) ?_ 2 _ rfl; (with_reducible repeat (first | refine blk_drewN ?_ _ | refine blk_drew ?_ | refine blk_alloc ?_ _)); refine blk_put (cs := #[.string ((rd_T64 l0 x9_1).f0), .int .i64 0, .slice none 0 0]) ?_ 1 _ rfl; (with_reducible repeat (first | refine blk_drewN ?_ _ | refine blk_drew ?_ | refine blk_alloc ?_ _)); refine blk_put (cs := #[.string (⟨#[]⟩ : ByteArray), .int .i64 0, .slice none 0 0]) ?_ 0 _ rfl; (with_reducible repeat (first | refine blk_drewN ?_ _ | refine blk_drew ?_ | refine blk_alloc ?_ _)); exact BK787.out) hb); have n2_ := Aside0.mk (below_step (by repeat (first | (with_reducible first | exact HB.out | apply below_alloc | apply pw_below_drewN | apply below_drew1 | refine below_set ?_ GE787.out) | exact HB.out)) hb); clear HO_3; clear BK787; clear HB; have HO_3 := n0_; have BK787 := n1_; have HB := n2_; clear n0_ n1_ n2_; (try clear hb); (try clear hb2); (try clear hk); (try clear hi)))
      have n0_ := Aside0.mk (Kd.R_drew HO_3.out)
      have n1_ := Aside0.mk (blk_drew BK787.out)
      have n2_ := Aside0.mk (below_drew1 HB.out)
      clear HO_3
      clear BK787
      clear HB
      have HO_3 := n0_
      have BK787 := n1_
      have HB := n2_
      clear n0_ n1_ n2_
      refine start_ (n := 15) (S := fun w' => w'.cell? ⟨gb787, 0, none⟩ = some (.string ((rd_T64 l0 x9_1).f0)) ∧ w'.cell? ⟨gb787, 1, none⟩ = some (.int .i64 ((rd_T64 l0 x9_1).f1)) ∧ w'.cell? ⟨gb787, 2, none⟩ = some (.slice A786_2 ((rd_T64 l0 x9_1).f2).length c786_2)) (ds := []) #[false, false, false, false, false, false, false, false, false, false, false, false, false, false, false] (by kernel_rfl) rfl rfl ⟨(blk_cell BK787.out 0).trans rfl, (blk_cell BK787.out 1).trans rfl, (blk_cell BK787.out 2).trans rfl⟩ (fun hHeld => ?_); refine with_tabW name_mark.tab6 name_mark.bits6 (fun HT_ HW_ => ?_)
      generalize w15.drew = w16 at HO_3 BK787 HB hHeld ⊢
      refine pure_ (i := 0) (N := some 18) (v := ?_) (a' := ?_) #[true, false, false, false, false, false, false, false, false, false, false, false, false, false, false] rfl rfl (any_of HT_.out (by kernel_rfl)) (fun _ _ _ h => h) (Or.inl ⟨by rfl, ?_⟩) ?_ ?_; rotate_left; (intro w'; go_simp; with_reducible rfl); rotate_left; (simp only [Act.put, List.setIfInBounds_toArray, List.set_cons_zero, List.set_cons_succ, i64_w, i32_w]; rfl)
      refine pure_ (i := 1) (N := some 19) (v := ?_) (a' := ?_) #[true, true, false, false, false, false, false, false, false, false, false, false, false, false, false] rfl rfl (any_of HT_.out (by kernel_rfl)) (fun _ _ _ h => h) (Or.inl ⟨by rfl, ?_⟩) ?_ ?_; rotate_left; (intro w'; go_simp; with_reducible rfl); rotate_left; (simp only [Act.put, List.setIfInBounds_toArray, List.set_cons_zero, List.set_cons_succ, i64_w, i32_w]; rfl)
      refine pure_ (i := 4) (N := some 22) (v := ?_) (a' := ?_) #[true, true, false, false, true, false, false, false, false, false, false, false, false, false, false] rfl rfl (any_of HT_.out (by kernel_rfl)) (fun _ _ _ h => h) (Or.inl ⟨by rfl, ?_⟩) ?_ ?_; rotate_left; (intro w'; go_simp; with_reducible rfl); rotate_left; (simp only [Act.put, List.setIfInBounds_toArray, List.set_cons_zero, List.set_cons_succ, i64_w, i32_w]; rfl)
      refine pure_ (i := 5) (N := some 23) (v := ?_) (a' := ?_) #[true, true, false, false, true, true, false, false, false, false, false, false, false, false, false] rfl rfl (any_of HT_.out (by kernel_rfl)) (fun _ _ _ h => h) (Or.inl ⟨by rfl, ?_⟩) ?_ ?_; rotate_left; (intro w'; go_simp; with_reducible rfl); rotate_left; (simp only [Act.put, List.setIfInBounds_toArray, List.set_cons_zero, List.set_cons_succ, i64_w, i32_w]; rfl)
      refine pure_ (i := 9) (N := some 27) (v := ?_) (a' := ?_) #[true, true, false, false, true, true, false, false, false, true, false, false, false, false, false] rfl rfl (any_of HT_.out (by kernel_rfl)) (fun _ _ _ h => h) (Or.inl ⟨by rfl, ?_⟩) ?_ ?_; rotate_left; (intro w'; go_simp; with_reducible rfl); rotate_left; (simp only [Act.put, List.setIfInBounds_toArray, List.set_cons_zero, List.set_cons_succ, i64_w, i32_w]; rfl)
      refine take_ (i := 2) (N := some 20) (v := ?_) (a' := ?_) #[true, true, true, false, true, true, false, false, false, true, false, false, false, false, false] rfl rfl (take_ofW HT_.out HW_.out (by kernel_rfl)) (fun _ _ _ h => h) (Or.inl ⟨by rfl, ?_⟩) hHeld ?_ ?_; rotate_left; (rintro w' ⟨s0, s1, s2⟩; go_simp; with_reducible rfl); rotate_left; (simp only [Act.put, List.setIfInBounds_toArray, List.set_cons_zero, List.set_cons_succ, i64_w, i32_w]; rfl)
      refine pure_ (i := 3) (N := some 21) (v := ?_) (a' := ?_) #[true, true, true, true, true, true, false, false, false, true, false, false, false, false, false] rfl rfl (any_of HT_.out (by kernel_rfl)) (fun _ _ _ h => h) (Or.inl ⟨by rfl, ?_⟩) ?_ ?_; rotate_left; (intro w'; go_simp; with_reducible rfl); rotate_left; (simp only [Act.put, List.setIfInBounds_toArray, List.set_cons_zero, List.set_cons_succ, i64_w, i32_w]; rfl)
      refine one_ (i := 6) (N := some 24) #[true, true, true, true, true, true, true, false, false, true, false, false, false, false, false] rfl rfl (one_of HT_.out (by kernel_rfl)) (by decide) (fun K hK => ?_)
      refine goes_ Tryz.func160 (by kernel_rfl) rfl #[.int .i64 (t788.size : Int)] (by rfl) rfl rfl (by (try simp only [List.map_toArray, List.map_cons, List.map_nil]); first | done | rfl | (simp only [List.length_drop, List.length_take]; rfl)) ?_
      with_reducible refine (strconv_Itoa.calls (t788.size : Int) t789 _ A7.out (Tb.below HHd.out (by repeat (first | (with_reducible first | exact HB.out | apply below_alloc | apply pw_below_drewN | apply below_drew1 | refine below_set ?_ GE787.out) | exact HB.out)))).mono ?_
      rintro e w17 ⟨rfl, hb⟩
      refine ⟨_, rfl, ?_⟩
      have n0_ := Aside0.mk (Kd.R_below (Kd.R_u HO_3.out) hb)
      have n1_ := Aside0.mk (blk_below (g := gb787) (o := .cells #[.string ((rd_T64 l0 x9_1).f0), .int .i64 ((rd_T64 l0 x9_1).f1), .slice A786_2 ((rd_T64 l0 x9_1).f2).length c786_2] 64 (0, 0)) (by (with_reducible repeat (first | refine blk_drewN ?_ _ | refine blk_drew ?_ | refine blk_alloc ?_ _)); exact BK787.out) hb)
      have n2_ := Aside0.mk (below_step (by repeat (first | (with_reducible first | exact HB.out | apply below_alloc | apply pw_below_drewN | apply below_drew1 | refine below_set ?_ GE787.out) | exact HB.out)) hb)
      clear HO_3
      clear BK787
      clear HB
      have HO_3 := n0_
      have BK787 := n1_
      have HB := n2_
      clear n0_ n1_ n2_
      (try clear hb)
      (try clear hb2)
      (try clear hk)
      (try clear hi)
      refine hK.out _ _ ⟨(blk_cell BK787.out 0).trans rfl, (blk_cell BK787.out 1).trans rfl, (blk_cell BK787.out 2).trans rfl⟩ (fun hHeld => ?_)
      clear hK K
      refine norm_ (a' := ?_) ?_ ?_; rotate_left; (show Act.put _ (some 24) _ = _; simp only [Act.put, List.setIfInBounds_toArray, List.set_cons_zero, List.set_cons_succ, i64_w, i32_w]; rfl)
      refine pure_ (i := 7) (N := some 25) (v := ?_) (a' := ?_) #[true, true, true, true, true, true, true, true, false, true, false, false, false, false, false] rfl rfl (any_of HT_.out (by kernel_rfl)) (fun _ _ _ h => h) (Or.inl ⟨by rfl, ?_⟩) ?_ ?_; rotate_left; (intro w'; go_simp; with_reducible rfl); rotate_left; (simp only [Act.put, List.setIfInBounds_toArray, List.set_cons_zero, List.set_cons_succ, i64_w, i32_w]; rfl)
      refine pure_ (i := 8) (N := some 26) (v := ?_) (a' := ?_) #[true, true, true, true, true, true, true, true, true, true, false, false, false, false, false] rfl rfl (any_of HT_.out (by kernel_rfl)) (fun _ _ _ h => h) (Or.inl ⟨by rfl, ?_⟩) ?_ ?_; rotate_left; (intro w'; go_simp; with_reducible rfl); rotate_left; (simp only [Act.put, List.setIfInBounds_toArray, List.set_cons_zero, List.set_cons_succ, i64_w, i32_w]; rfl)
      refine pure_ (i := 10) (N := some 28) (v := ?_) (a' := ?_) #[true, true, true, true, true, true, true, true, true, true, true, false, false, false, false] rfl rfl (any_of HT_.out (by kernel_rfl)) (fun _ _ _ h => h) (Or.inl ⟨by rfl, ?_⟩) ?_ ?_; rotate_left; (intro w'; go_simp; with_reducible rfl); rotate_left; (simp only [Act.put, List.setIfInBounds_toArray, List.set_cons_zero, List.set_cons_succ, i64_w, i32_w]; rfl)
      refine pure_ (i := 11) (N := some 29) (v := ?_) (a' := ?_) #[true, true, true, true, true, true, true, true, true, true, true, true, false, false, false] rfl rfl (any_of HT_.out (by kernel_rfl)) (fun _ _ _ h => h) (Or.inl ⟨by rfl, ?_⟩) ?_ ?_; rotate_left; (intro w'; go_simp; with_reducible rfl); rotate_left; (simp only [Act.put, List.setIfInBounds_toArray, List.set_cons_zero, List.set_cons_succ, i64_w, i32_w]; rfl)
      refine one_ (i := 12) (N := some 30) #[true, true, true, true, true, true, true, true, true, true, true, true, true, false, false] rfl rfl (one_of HT_.out (by kernel_rfl)) (by decide) (fun K hK => ?_)
      refine value_ (w1 := ?_) (v := ?_) (by rfl) rfl ?_ ?_
      rotate_left 2
      · go_simp
        constructor
        rotate_left
        · rfl
        rfl
      refine hK.out _ _ ⟨(blk_cell (blk_alloc BK787.out _) 0).trans rfl, (blk_cell (blk_alloc BK787.out _) 1).trans rfl, (blk_cell (blk_alloc BK787.out _) 2).trans rfl⟩ (fun hHeld => ?_)
      clear hK K
      refine norm_ (a' := ?_) ?_ ?_; rotate_left; (show Act.put _ (some 30) _ = _; simp only [Act.put, List.setIfInBounds_toArray, List.set_cons_zero, List.set_cons_succ, i64_w, i32_w]; rfl)
      refine one_ (i := 13) (N := some 31) #[true, true, true, true, true, true, true, true, true, true, true, true, true, true, false] rfl rfl (one_of HT_.out (by kernel_rfl)) (by decide) (fun K hK => ?_)
      refine Kd.R_append_step Kd.string (w0 := w) w.heap.size (by rfl) (.tmp 18) (.tmp 30) 102 9 (.string ⟨#[]⟩) 16 rfl Tryz.underlying102 info9 rfl (by decide) (by omega) u3 x3_1 (((((((rd_T64 l0 x9_1).f0) ++ (⟨#[61]⟩ : ByteArray)) ++ t789) ++ (⟨#[58]⟩ : ByteArray)) ++ t788) ++ (⟨#[59]⟩ : ByteArray)) [.string (((((((rd_T64 l0 x9_1).f0) ++ (⟨#[61]⟩ : ByteArray)) ++ t789) ++ (⟨#[58]⟩ : ByteArray)) ++ t788) ++ (⟨#[59]⟩ : ByteArray))] (fun _ => True) (fun _ => False) rfl rfl ?aP (fun _ hk => hk.elim) ?aF ?aO ?aB ?aS ?aL ?_
      (case aP => exact rfl)
      (case aB => exact (by repeat (first | (with_reducible first | exact HB.out | apply below_alloc | apply pw_below_drewN | apply below_drew1 | refine below_set ?_ GE787.out) | exact HB.out)))
      (case aF => exact (fun _ _ => trivial))
      (case aO => exact (Kd.R_u HO_3.out))
      (case aS => exact (below_size (by repeat (first | (with_reducible first | exact HB.out | apply below_alloc | apply pw_below_drewN | apply below_drew1 | refine below_set ?_ GE787.out) | exact HB.out))))
      (case aL => have := LMc12.out; omega)
      intro v791 w18 ho hb hg hat
      rw [← Ny790.out] at ho
      have n0_ := Aside0.mk (blk_grown (g := gb787) (o := .cells #[.string ((rd_T64 l0 x9_1).f0), .int .i64 ((rd_T64 l0 x9_1).f1), .slice A786_2 ((rd_T64 l0 x9_1).f2).length c786_2] 64 (0, 0)) (by (with_reducible repeat (first | refine blk_drewN ?_ _ | refine blk_drew ?_ | refine blk_alloc ?_ _)); exact BK787.out) hg (Kd.R_ne HO_3.out BK787.out (by decide)))
      have n1_ := Aside0.mk (hb)
      have n2_ := Aside0.mk (ho)
      clear BK787
      clear HB
      clear HO_3
      have BK787 := n0_
      have HB := n1_
      have HO792 := n2_
      clear n0_ n1_ n2_
      clear ho hb hg hat
      refine hK.out _ _ ⟨(blk_cell BK787.out 0).trans rfl, (blk_cell BK787.out 1).trans rfl, (blk_cell BK787.out 2).trans rfl⟩ (fun hHeld => ?_)
      clear hK K
      refine norm_ (a' := ?_) ?_ ?_; rotate_left; (show Act.put _ (some 31) _ = _; simp only [Act.put, List.setIfInBounds_toArray, List.set_cons_zero, List.set_cons_succ, i64_w, i32_w]; rfl)
      refine pure_ (i := 14) (N := some 3) (v := ?_) (a' := ?_) #[true, true, true, true, true, true, true, true, true, true, true, true, true, true, true] rfl rfl (any_of HT_.out (by kernel_rfl)) (fun _ _ _ h => h) (Or.inl ⟨by rfl, ?_⟩) ?_ ?_; rotate_left; (intro w'; go_simp; with_reducible rfl); rotate_left; (simp only [Act.put, List.setIfInBounds_toArray, List.set_cons_zero, List.set_cons_succ, i64_w, i32_w]; rfl)
      refine done_ (done_of HT_.out (by kernel_rfl)) ?_
      try go_wp2
      go_roundg k1
      case measure => have := HK1.out; omega
      case rel => exact ⟨(y790), (wrap64 (x9_1 + 1)), (by first | rfl | (simp; done) | (simp [*]; done)), H', ⟨by have := HK1.out; omega⟩, ⟨Kd.R_u HO792.out⟩, ⟨by repeat (first | (with_reducible first | exact HB.out | apply below_alloc | apply pw_below_drewN | apply below_drew1 | refine below_set ?_ GE787.out) | exact HB.out)⟩⟩
end Go.Proofs.YtkioddjjfifadaaGreatDoor.P
namespace Go.Proofs.YtkioddjjfifadaaGreatDoor.P
open Go.RowKit Go.Proofs.YtkioddjjfifadaaGreatDoorW.PrintWords Go.Proofs.YtkioddjjfifadaaGreatDoorW.PrintLast Go.Proofs.YtkioddjjfifadaaGreatDoorW.PrintMore
theorem write_string (B b : Nat) (bs : List Value) (s : ByteArray) (w : World) (h : Lib.IsBuilder 157 5 B b bs w) (hlen : bs.length + s.size ≤ 140737488355328) (hBw : B ≤ w.heap.size) :
    Calls Tryz.prog 92 #[.pointer (some ⟨b, 0, none⟩), .string s] w fun e w' => e = .returned (.tuple #[.int .i64 s.size, .nilIface]) ∧ (Lib.BuilderAt 157 5 B b (.pointer (some ⟨b, 0, none⟩)) (bs ++ Lib.strCells s) w' ∧ Below B w w') :=
  Go.Proofs.Any.Builder_WriteString (ρ := Tryz.lays156_ren) { Tryz.lays156 with } Tryz.Builder_Extra_156 B b bs s w h hlen hBw
theorem isBuilder_below {B b : Nat} {bs : List Value} {w w1 : World} (h : Lib.IsBuilder 157 5 B b bs w) (hb : Below w.heap.size w w1) : Lib.IsBuilder 157 5 B b bs w1 := by
  have key : ∀ p, Lib.BuilderAt 157 5 B b p bs w → Lib.BuilderAt 157 5 B b p bs w1 := by
    rintro p ⟨hB, v, hk, ho, hne⟩
    exact ⟨hB, v, (hb.block b (blk_lt hk)).trans hk, own_move ho (fun k hk => hb.block k (own_lt ho k hk)), hne⟩
  rcases h with h | h
  rotate_left
  · exact Or.inr (key _ h)
  exact Or.inl (key _ h)
def keyL (k : Nat) : List (List S64) → Option (List UInt8)
  | [] => some []
  | s :: r => (name_mark.f k s).bind fun m => (keyL k r).bind fun t => some (m.data.toList ++ t)
def name_Key.f (k : Nat) (n : List (List S64)) : Option ByteArray := (keyL k n).bind fun r => if r.length ≤ 140737488355328 ∧ n.length ≤ 1000000 then some ⟨r.toArray⟩ else none
set_option maxHeartbeats 4000000 in
theorem name_Key.calls (k : Nat) (A0 : Option Addr) (c0 : Nat) (l0 : List (List S64)) (r : ByteArray) (w : World) (hr0 : Kd.C (Kd.slice 64 k64) w A0 l0.length l0) (hc0 : l0.length ≤ c0) (h : name_Key.f k l0 = some r) (hH : Tb w) :
    Calls Tryz.prog 48 #[.slice A0 l0.length c0] w fun e w' => e = .returned (.string r) ∧ Below w.heap.size w w' := by
  unfold name_Key.f at h
  obtain ⟨R, hkey, h⟩ := Option.bind_eq_some_iff.mp h
  split at h
  case isFalse => cases h
  case isTrue hl =>
  obtain rfl := Option.some.inj h
  have HR0 := Aside0.mk hr0
  have HC0 := Aside0.mk hc0
  have HT := Aside0.mk hH
  have HL := Aside0.mk hl
  have HKEY := Aside0.mk hkey
  have HI := Aside0.mk (Lib.fresh_isBuilder 157 5 w)
  have HB := Aside0.mk (below_alloc (Below.refl w.heap.size w) (.cells #[.pointer none, .slice none 0 0] 157))
  clear hr0 hc0 hH hl hkey h
  go_enter Tryz.func48, Tryz.ntmps48
  go_wp2_with fail
  go_loopg [8] (l0.length + 1) (fun kq v8 w' => ∃ (j : Nat) (acc q : List UInt8), v8 = .int .i64 (j : Int) ∧ Aside0 (j ≤ l0.length ∧ l0.length < kq + j) ∧ Aside0 (keyL k (l0.drop j) = some q) ∧ Aside0 (acc ++ q = R) ∧
    Aside0 (Lib.IsBuilder 157 5 w.heap.size w.heap.size (Lib.byteCells acc) w') ∧ Aside0 (Below w.heap.size w w'))
  case atStart => exact ⟨0, [], R, rfl, ⟨⟨Nat.zero_le _, by omega⟩⟩, ⟨HKEY.out⟩, ⟨rfl⟩, HI, HB⟩
  case round =>
    clear HI HB HKEY
    obtain ⟨j, acc, q, rfl, HJ, HQ, HE, HI, HB⟩ := hrel
    cases gk with
    | zero => exact absurd HJ.out (by omega)
    | succ g1 =>
      by_cases hj : j < l0.length
      rotate_left
      · have c1 : decide ((j : Int) < (l0.length : Int)) = false := decide_eq_false (by omega)
        have he : l0.drop j = [] := List.drop_eq_nil_of_le (by omega)
        have hq := HQ.out
        rw [he, keyL] at hq
        have hq2 : [] = q := Option.some.inj hq
        have hacc : acc = R := by rw [← HE.out, ← hq2, List.append_nil]
        clear hq hq2 he
        go_wp2_with fail
        refine (Tryz.Builder_String_any w.heap.size w.heap.size acc _ HI.out HB.out.size).mono ?_
        rintro e w2 ⟨rfl, hb2⟩
        have HB2 := Aside0.mk (HB.out.trans hb2)
        clear hb2
        go_wp2_with fail
        go_ret
        exact ⟨by first | rfl | (rw [hacc]; rfl), HB2.out⟩
      have c1 : decide ((j : Int) < (l0.length : Int)) = true := decide_eq_true (by omega)
      have p1 : ((0 : Int) ≤ (j : Int)) = True := eq_true (by omega)
      have q1 : ((j : Int) < (l0.length : Int)) = True := eq_true (by omega)
      obtain ⟨ad, A1, c1', rfl, hx, hl1, hC1⟩ := at_L5 HR0.out (j : Int) (by omega) (by omega)
      replace hx := (HB.out.cell (World.block_lt_of_cell? w _ hx)).trans hx
      rw [Int.toNat_natCast] at hx
      have hd : l0.drop j = rd_L5 l0 (j : Int) :: l0.drop (j + 1) := by
        rw [List.drop_eq_getElem_cons hj]
        show _ = l0.getD (j : Int).toNat [] :: _
        rw [Int.toNat_natCast, List.getD_eq_getElem?_getD, List.getElem?_eq_getElem hj]
        rfl
      have hq := HQ.out
      rw [hd, keyL] at hq
      obtain ⟨m, hm, hq⟩ := Option.bind_eq_some_iff.mp hq
      obtain ⟨t, ht, hq⟩ := Option.bind_eq_some_iff.mp hq
      have hq' : m.data.toList ++ t = q := Option.some.inj hq
      have HM := Aside0.mk hm
      have HTL := Aside0.mk ht
      have hw3 : wrap64 ((j : Int) + 1) = ((j + 1 : Nat) : Int) := by unfold wrap64; have := HL.out; omega
      have HLEN : Aside0 (acc.length + m.size ≤ 140737488355328) := ⟨by
        have h1 := congrArg List.length HE.out
        rw [← hq'] at h1
        simp only [List.length_append, Array.length_toList] at h1
        have h2 : m.data.size = m.size := rfl
        have := HL.out.1
        omega⟩
      have HE2 : Aside0 ((acc ++ m.data.toList) ++ t = R) := ⟨by rw [List.append_assoc, hq']; exact HE.out⟩
      have HC1 := Aside0.mk hC1
      have HL1 := Aside0.mk hl1
      clear hd hq hm ht hq' HQ HE hC1 hl1
      generalize rd_L5 l0 (j : Int) = s at *
      go_wp2_with fail
      refine (name_mark.calls k A1 c1' s m _ (Kd.C_below HC1.out HB.out) HL1.out HM.out (HT.out.below HB.out)).mono ?_
      rintro e w1 ⟨rfl, hb1⟩
      have HI1 := Aside0.mk (isBuilder_below HI.out hb1)
      have HB1 := Aside0.mk (below_step HB.out hb1)
      clear hb1 HI HB hx
      go_wp2_with fail
      refine (write_string w.heap.size w.heap.size _ m _ HI1.out (by rw [Lib.byteCells_length]; exact HLEN.out) HB1.out.size).mono ?_
      rintro e w2 ⟨rfl, hI2, hb2⟩
      have HB2 := Aside0.mk (HB1.out.trans hb2)
      have HI2 : Aside0 (Lib.IsBuilder 157 5 w.heap.size w.heap.size (Lib.byteCells (acc ++ m.data.toList)) w2) := ⟨by
        rw [Lib.byteCells_append]
        exact Or.inr hI2⟩
      clear hI2 hb2 HI1 HB1
      go_wp2_with fail
      go_roundg g1
      case measure => exact Nat.lt_succ_self _
      case rel => exact ⟨j + 1, acc ++ m.data.toList, t, congrArg (Value.int .i64) hw3, ⟨by have := HJ.out; omega⟩, HTL, HE2, HI2, HB2⟩
def name_Same.f (k : Nat) (a b : List (List S64)) : Option Bool := (name_Key.f k a).bind fun x => (name_Key.f k b).bind fun y => some (x.toList == y.toList)
theorem name_Same.calls (k : Nat) (A0 : Option Addr) (c0 : Nat) (l0 : List (List S64)) (A1 : Option Addr) (c1 : Nat) (l1 : List (List S64)) (r : Bool) (w : World) (hr0 : Kd.C (Kd.slice 64 k64) w A0 l0.length l0) (hc0 : l0.length ≤ c0) (hr1 : Kd.C (Kd.slice 64 k64) w A1 l1.length l1) (hc1 : l1.length ≤ c1) (h : name_Same.f k l0 l1 = some r) (hH : Tb w) :
    Calls Tryz.prog 45 #[.slice A0 l0.length c0, .slice A1 l1.length c1] w fun e w' => e = .returned (.bool r) ∧ Below w.heap.size w w' := by
  unfold name_Same.f at h
  obtain ⟨x, hx, h⟩ := Option.bind_eq_some_iff.mp h
  obtain ⟨y, hy, h⟩ := Option.bind_eq_some_iff.mp h
  obtain rfl := Option.some.inj h
  have HR1 := Aside0.mk hr1
  have HC1 := Aside0.mk hc1
  have HX := Aside0.mk hx
  have HY := Aside0.mk hy
  have HT := Aside0.mk hH
  have HR0 := Aside0.mk hr0
  have HC0 := Aside0.mk hc0
  clear hr0 hc0 hr1 hc1 hx hy hH h
  go_enter Tryz.func45, Tryz.ntmps45
  go_wp2_with fail
  refine (name_Key.calls k A0 c0 l0 x _ HR0.out HC0.out HX.out HT.out).mono ?_
  rintro e w1 ⟨rfl, h1⟩
  have HB1 := Aside0.mk h1
  clear h1
  go_wp2_with fail
  refine (name_Key.calls k A1 c1 l1 y _ (Kd.C_below HR1.out HB1.out) HC1.out HY.out (HT.out.below HB1.out)).mono ?_
  rintro e w2 ⟨rfl, h2⟩
  have HB2 := Aside0.mk (below_step HB1.out h2)
  clear h2
  go_wp2_with fail
  go_ret
  exact ⟨by first | rfl | (simp; done) | trace_state, HB2.out⟩
end Go.Proofs.YtkioddjjfifadaaGreatDoor.P
namespace Go.Proofs.YtkioddjjfifadaaGreatDoor.P
open Go.RowKit Go.Proofs.YtkioddjjfifadaaGreatDoorW.PrintWords Go.Proofs.YtkioddjjfifadaaGreatDoorW.PrintLast Go.Proofs.YtkioddjjfifadaaGreatDoorW.PrintMore
attribute [local go_sem] max2_int min2_int max_two min_two max_three min_three max_four min_four   -- for this text's walks alone
set_option linter.unusedVariables false
set_option linter.unusedSimpArgs false
mutual
def chirographref07_Huge.l0 : Nat → List (List (S64)) → Int → Int → Int → Option (Bool)
  | 0, _, _, _, _ => none
  | k + 1, x0, x1, x5, x6 => if x6 < (x0.length : Int) then (if 0 ≤ x6 then (if ((rd_L5 x0 x6).length : Int) > 200 then (some true) else (chirographref07_Huge.l1 k x0 x1 x5 x6 0)) else (none)) else (some false)
def chirographref07_Huge.l1 : Nat → List (List (S64)) → Int → Int → Int → Int → Option (Bool)
  | 0, _, _, _, _, _ => none
  | k + 1, x0, x1, x5, x6, x7 => if 0 ≤ x6 then (if x6 < (x0.length : Int) then (if x7 < ((rd_L5 x0 x6).length : Int) then (if 0 ≤ x7 then (if (((rd_T64 (rd_L5 x0 x6) x7).f2).length : Int) > (wrap64 (x1 - x5)) then (some true) else (if (((rd_T64 (rd_L5 x0 x6) x7).f0).size : Int) > (wrap64 (x1 - (wrap64 (x5 + (((rd_T64 (rd_L5 x0 x6) x7).f2).length : Int))))) then (some true) else (chirographref07_Huge.l1 k x0 x1 (wrap64 ((wrap64 (x5 + (((rd_T64 (rd_L5 x0 x6) x7).f2).length : Int))) + (((rd_T64 (rd_L5 x0 x6) x7).f0).size : Int))) x6 (wrap64 (x7 + 1))))) else (none)) else (chirographref07_Huge.l0 k x0 x1 x5 (wrap64 (x6 + 1)))) else (none)) else (none)
end
def chirographref07_Huge.f (k : Nat) (l0 : List (List (S64))) (a1 : Int) : Option (Bool) := if (l0.length : Int) > 200 then (some true) else (chirographref07_Huge.l0 k l0 a1 0 0)
set_option maxHeartbeats 8000000 in
set_option maxRecDepth 100000 in
theorem chirographref07_Huge.calls (k : Nat) (A0 : Option Addr) (c0 : Nat) (l0 : List (List (S64))) (a1 : Int) (r : Bool) (w : World) (hr0 : Kd.C (Kd.slice 64 k64) w A0 l0.length l0) (hc0 : l0.length ≤ c0) (h : chirographref07_Huge.f k l0 a1 = some r) :
    Calls Tryz.prog 39 #[.slice A0 l0.length c0, .int .i64 a1] w fun e w' => e = .returned (.bool r) ∧ Drawn0 w w' := by
  have HR0 := Aside0.mk hr0
  have HC0 := Aside0.mk hc0
  clear hr0 hc0
  have H : (if (l0.length : Int) > 200 then (some true) else (chirographref07_Huge.l0 k l0 a1 0 0)) = some r := h
  clear h
  by_cases c3 : (l0.length : Int) > 200
  · rw [if_pos c3] at H
    have c3b0 : decide (200 < (l0.length : Int)) = true := decide_eq_true c3
    have c3b1 : decide (200 < l0.length) = true := decide_eq_true (by omega)
    clear c3
    obtain rfl := Option.some.inj H
    go_enter Tryz.func39, Tryz.ntmps39
    go_wp2
    go_ret
    exact ⟨by first | rfl | (simp; done) | (simp [*]; done), by repeat (first | exact Drawn0.refl _ | apply Drawn0.step)⟩
  rw [if_neg c3] at H
  have c3b0 : decide (200 < (l0.length : Int)) = false := decide_eq_false c3
  have c3b1 : decide (200 < l0.length) = false := decide_eq_false (by omega)
  clear c3
  have H' := Aside0.mk H
  clear H
  go_enter Tryz.func39, Tryz.ntmps39
  go_wp2
  go_loopg [5, 6] k (fun kq v5 v6 w' => ∃ (x5_1 : Int) (x6_1 : Int), v5 = .int .i64 x5_1 ∧ v6 = .int .i64 x6_1 ∧ Aside0 (chirographref07_Huge.l0 kq l0 a1 x5_1 x6_1 = some r) ∧ Aside0 (kq ≤ k) ∧ Drawn0 w w')
  case atStart => exact ⟨(0), (0), (by first | rfl | (simp; done) | (simp [*]; done)), (by first | rfl | (simp; done) | (simp [*]; done)), H', ⟨Nat.le_refl _⟩, by repeat (first | exact Drawn0.refl _ | apply Drawn0.step)⟩
  case round =>
    clear H'
    try clear p2
    try clear c3
    try clear c3b0
    try clear c3b1
    obtain ⟨x5_1, x6_1, rfl, rfl, HA, HK1, ⟨m1, rfl⟩⟩ := hrel
    cases gk with
    | zero => exact absurd HA.out (by simp [chirographref07_Huge.l0])
    | succ k1 =>
      have H := HA.out
      clear HA
      simp only [chirographref07_Huge.l0] at H
      by_cases c4 : x6_1 < (l0.length : Int)
      rotate_left
      · rw [if_neg c4] at H
        have c4b0 : decide (x6_1 < (l0.length : Int)) = false := decide_eq_false c4
        clear c4
        obtain rfl := Option.some.inj H
        go_wp2
        go_ret
        exact ⟨by first | rfl | (simp; done) | (simp [*]; done), by repeat (first | exact Drawn0.refl _ | apply Drawn0.step)⟩
      rw [if_pos c4] at H
      have c4b0 : decide (x6_1 < (l0.length : Int)) = true := decide_eq_true c4
      clear c4
      by_cases c5 : 0 ≤ x6_1
      rotate_left
      · rw [if_neg c5] at H
        exact absurd H (by simp)
      rw [if_pos c5] at H
      have c5b0 : decide (0 ≤ x6_1) = true := decide_eq_true c5
      clear c5
      by_cases c6 : ((rd_L5 l0 x6_1).length : Int) > 200
      · rw [if_pos c6] at H
        have c6b0 : decide (200 < ((rd_L5 l0 x6_1).length : Int)) = true := decide_eq_true c6
        have c6b1 : decide (200 < (rd_L5 l0 x6_1).length) = true := decide_eq_true (by omega)
        clear c6
        obtain rfl := Option.some.inj H
        have p961 : 0 ≤ (x6_1 : Int) := of_decide_eq_true (by first | (with_reducible assumption) | assumption)
        have q961 : x6_1 < (l0.length : Int) := of_decide_eq_true (by first | (with_reducible assumption) | assumption)
        obtain ⟨ad961, A961_0, c961_0, e961, hx961_0, hl961_0, hi961_0⟩ := at_L5 HR0.out x6_1 p961 q961
        cases e961
        have HR961_0 := Aside0.mk hi961_0
        have HC961_0 := Aside0.mk hl961_0
        clear hi961_0 hl961_0
        replace p961 := eq_true p961
        replace q961 := eq_true q961
        go_wp2
        go_ret
        exact ⟨by first | rfl | (simp; done) | (simp [*]; done), by repeat (first | exact Drawn0.refl _ | apply Drawn0.step)⟩
      rw [if_neg c6] at H
      have c6b0 : decide (200 < ((rd_L5 l0 x6_1).length : Int)) = false := decide_eq_false c6
      have c6b1 : decide (200 < (rd_L5 l0 x6_1).length) = false := decide_eq_false (by omega)
      clear c6
      have H' := Aside0.mk H
      clear H
      have p961 : 0 ≤ (x6_1 : Int) := of_decide_eq_true (by first | (with_reducible assumption) | assumption)
      have q961 : x6_1 < (l0.length : Int) := of_decide_eq_true (by first | (with_reducible assumption) | assumption)
      obtain ⟨ad961, A961_0, c961_0, e961, hx961_0, hl961_0, hi961_0⟩ := at_L5 HR0.out x6_1 p961 q961
      cases e961
      have HR961_0 := Aside0.mk hi961_0
      have HC961_0 := Aside0.mk hl961_0
      clear hi961_0 hl961_0
      replace p961 := eq_true p961
      replace q961 := eq_true q961
      go_wp2
      go_loopg [5, 7] k1 (fun kq v5 v7 w' => ∃ (x5_2 : Int) (x7_2 : Int), v5 = .int .i64 x5_2 ∧ v7 = .int .i64 x7_2 ∧ Aside0 (chirographref07_Huge.l1 kq l0 a1 x5_2 x6_1 x7_2 = some r) ∧ Aside0 (kq ≤ k1) ∧ Drawn0 w w')
      case atStart => exact ⟨(x5_1), (0), (by first | rfl | (simp; done) | (simp [*]; done)), (by first | rfl | (simp; done) | (simp [*]; done)), H', ⟨Nat.le_refl _⟩, by repeat (first | exact Drawn0.refl _ | apply Drawn0.step)⟩
      case round =>
        clear H'
        try clear p2
        try clear c3
        try clear c3b0
        try clear c3b1
        try clear c4
        try clear c4b0
        try clear c5
        try clear c5b0
        try clear c6
        try clear c6b0
        try clear c6b1
        try clear hx961_0
        try clear p2
        try clear p961
        try clear q961
        obtain ⟨x5_2, x7_2, rfl, rfl, HA, HK2, ⟨m2, rfl⟩⟩ := hrel
        cases gk with
        | zero => exact absurd HA.out (by simp [chirographref07_Huge.l1])
        | succ k2 =>
          have H := HA.out
          clear HA
          simp only [chirographref07_Huge.l1] at H
          by_cases c7 : 0 ≤ x6_1
          rotate_left
          · rw [if_neg c7] at H
            exact absurd H (by simp)
          rw [if_pos c7] at H
          have c7b0 : decide (0 ≤ x6_1) = true := decide_eq_true c7
          clear c7
          by_cases c8 : x6_1 < (l0.length : Int)
          rotate_left
          · rw [if_neg c8] at H
            exact absurd H (by simp)
          rw [if_pos c8] at H
          have c8b0 : decide (x6_1 < (l0.length : Int)) = true := decide_eq_true c8
          clear c8
          by_cases c9 : x7_2 < ((rd_L5 l0 x6_1).length : Int)
          rotate_left
          · rw [if_neg c9] at H
            have c9b0 : decide (x7_2 < ((rd_L5 l0 x6_1).length : Int)) = false := decide_eq_false c9
            clear c9
            have H' := Aside0.mk H
            clear H
            have p962 : 0 ≤ (x6_1 : Int) := of_decide_eq_true (by first | (with_reducible assumption) | assumption)
            have q962 : x6_1 < (l0.length : Int) := of_decide_eq_true (by first | (with_reducible assumption) | assumption)
            obtain ⟨ad962, A962_0, c962_0, e962, hx962_0, hl962_0, hi962_0⟩ := at_L5 HR0.out x6_1 p962 q962
            obtain rfl : ad961 = ad962 := (by injection e962)
            have HR962_0 := Aside0.mk hi962_0
            have HC962_0 := Aside0.mk hl962_0
            clear hi962_0 hl962_0
            replace p962 := eq_true p962
            replace q962 := eq_true q962
            go_wp2
            go_roundg k2
            case measure => have := HK1.out; have := HK2.out; omega
            case rel => exact ⟨(x5_2), (wrap64 (x6_1 + 1)), (by first | rfl | (simp; done) | (simp [*]; done)), (by first | rfl | (simp; done) | (simp [*]; done)), H', ⟨by have := HK1.out; have := HK2.out; omega⟩, by repeat (first | exact Drawn0.refl _ | apply Drawn0.step)⟩
          rw [if_pos c9] at H
          have c9b0 : decide (x7_2 < ((rd_L5 l0 x6_1).length : Int)) = true := decide_eq_true c9
          clear c9
          by_cases c10 : 0 ≤ x7_2
          rotate_left
          · rw [if_neg c10] at H
            exact absurd H (by simp)
          rw [if_pos c10] at H
          have c10b0 : decide (0 ≤ x7_2) = true := decide_eq_true c10
          clear c10
          by_cases c11 : (((rd_T64 (rd_L5 l0 x6_1) x7_2).f2).length : Int) > (wrap64 (a1 - x5_2))
          · rw [if_pos c11] at H
            have c11b0 : decide ((wrap64 (a1 - x5_2)) < (((rd_T64 (rd_L5 l0 x6_1) x7_2).f2).length : Int)) = true := decide_eq_true c11
            clear c11
            obtain rfl := Option.some.inj H
            have p962 : 0 ≤ (x6_1 : Int) := of_decide_eq_true (by first | (with_reducible assumption) | assumption)
            have q962 : x6_1 < (l0.length : Int) := of_decide_eq_true (by first | (with_reducible assumption) | assumption)
            obtain ⟨ad962, A962_0, c962_0, e962, hx962_0, hl962_0, hi962_0⟩ := at_L5 HR0.out x6_1 p962 q962
            obtain rfl : ad961 = ad962 := (by injection e962)
            have HR962_0 := Aside0.mk hi962_0
            have HC962_0 := Aside0.mk hl962_0
            clear hi962_0 hl962_0
            replace p962 := eq_true p962
            replace q962 := eq_true q962
            have p963 : 0 ≤ (x6_1 : Int) := of_decide_eq_true (by first | (with_reducible assumption) | assumption)
            have q963 : x6_1 < (l0.length : Int) := of_decide_eq_true (by first | (with_reducible assumption) | assumption)
            obtain ⟨ad963, A963_0, c963_0, e963, hx963_0, hl963_0, hi963_0⟩ := at_L5 HR0.out x6_1 p963 q963
            obtain rfl : ad961 = ad963 := (by injection e963)
            have HR963_0 := Aside0.mk hi963_0
            have HC963_0 := Aside0.mk hl963_0
            clear hi963_0 hl963_0
            replace p963 := eq_true p963
            replace q963 := eq_true q963
            have ea_ := Option.some.inj (hx962_0.symm.trans hx963_0)
            injection ea_ with ea_ en_ ec_
            subst ea_
            subst ec_
            clear en_
            have p964 : 0 ≤ (x7_2 : Int) := of_decide_eq_true (by first | (with_reducible assumption) | assumption)
            have q964 : x7_2 < ((rd_L5 l0 x6_1).length : Int) := of_decide_eq_true (by first | (with_reducible assumption) | assumption)
            obtain ⟨ad964, A964_2, c964_2, e964, hx964_0, hx964_1, hx964_2, hl964_2, hi964_2⟩ := at_T64 HR963_0.out x7_2 p964 q964
            cases e964
            have HR964_2 := Aside0.mk hi964_2
            have HC964_2 := Aside0.mk hl964_2
            clear hi964_2 hl964_2
            replace p964 := eq_true p964
            replace q964 := eq_true q964
            go_wp2
            go_ret
            exact ⟨by first | rfl | (simp; done) | (simp [*]; done), by repeat (first | exact Drawn0.refl _ | apply Drawn0.step)⟩
          rw [if_neg c11] at H
          have c11b0 : decide ((wrap64 (a1 - x5_2)) < (((rd_T64 (rd_L5 l0 x6_1) x7_2).f2).length : Int)) = false := decide_eq_false c11
          clear c11
          by_cases c12 : (((rd_T64 (rd_L5 l0 x6_1) x7_2).f0).size : Int) > (wrap64 (a1 - (wrap64 (x5_2 + (((rd_T64 (rd_L5 l0 x6_1) x7_2).f2).length : Int)))))
          · rw [if_pos c12] at H
            have c12b0 : decide ((wrap64 (a1 - (wrap64 (x5_2 + (((rd_T64 (rd_L5 l0 x6_1) x7_2).f2).length : Int))))) < (((rd_T64 (rd_L5 l0 x6_1) x7_2).f0).size : Int)) = true := decide_eq_true c12
            clear c12
            obtain rfl := Option.some.inj H
            have p962 : 0 ≤ (x6_1 : Int) := of_decide_eq_true (by first | (with_reducible assumption) | assumption)
            have q962 : x6_1 < (l0.length : Int) := of_decide_eq_true (by first | (with_reducible assumption) | assumption)
            obtain ⟨ad962, A962_0, c962_0, e962, hx962_0, hl962_0, hi962_0⟩ := at_L5 HR0.out x6_1 p962 q962
            obtain rfl : ad961 = ad962 := (by injection e962)
            have HR962_0 := Aside0.mk hi962_0
            have HC962_0 := Aside0.mk hl962_0
            clear hi962_0 hl962_0
            replace p962 := eq_true p962
            replace q962 := eq_true q962
            have p963 : 0 ≤ (x6_1 : Int) := of_decide_eq_true (by first | (with_reducible assumption) | assumption)
            have q963 : x6_1 < (l0.length : Int) := of_decide_eq_true (by first | (with_reducible assumption) | assumption)
            obtain ⟨ad963, A963_0, c963_0, e963, hx963_0, hl963_0, hi963_0⟩ := at_L5 HR0.out x6_1 p963 q963
            obtain rfl : ad961 = ad963 := (by injection e963)
            have HR963_0 := Aside0.mk hi963_0
            have HC963_0 := Aside0.mk hl963_0
            clear hi963_0 hl963_0
            replace p963 := eq_true p963
            replace q963 := eq_true q963
            have ea_ := Option.some.inj (hx962_0.symm.trans hx963_0)
            injection ea_ with ea_ en_ ec_
            subst ea_
            subst ec_
            clear en_
            have p964 : 0 ≤ (x7_2 : Int) := of_decide_eq_true (by first | (with_reducible assumption) | assumption)
            have q964 : x7_2 < ((rd_L5 l0 x6_1).length : Int) := of_decide_eq_true (by first | (with_reducible assumption) | assumption)
            obtain ⟨ad964, A964_2, c964_2, e964, hx964_0, hx964_1, hx964_2, hl964_2, hi964_2⟩ := at_T64 HR963_0.out x7_2 p964 q964
            cases e964
            have HR964_2 := Aside0.mk hi964_2
            have HC964_2 := Aside0.mk hl964_2
            clear hi964_2 hl964_2
            replace p964 := eq_true p964
            replace q964 := eq_true q964
            have p965 : 0 ≤ (x6_1 : Int) := of_decide_eq_true (by first | (with_reducible assumption) | assumption)
            have q965 : x6_1 < (l0.length : Int) := of_decide_eq_true (by first | (with_reducible assumption) | assumption)
            obtain ⟨ad965, A965_0, c965_0, e965, hx965_0, hl965_0, hi965_0⟩ := at_L5 HR0.out x6_1 p965 q965
            obtain rfl : ad961 = ad965 := (by injection e965)
            have HR965_0 := Aside0.mk hi965_0
            have HC965_0 := Aside0.mk hl965_0
            clear hi965_0 hl965_0
            replace p965 := eq_true p965
            replace q965 := eq_true q965
            have ea_ := Option.some.inj (hx962_0.symm.trans hx965_0)
            injection ea_ with ea_ en_ ec_
            subst ea_
            subst ec_
            clear en_
            have p966 : 0 ≤ (x7_2 : Int) := of_decide_eq_true (by first | (with_reducible assumption) | assumption)
            have q966 : x7_2 < ((rd_L5 l0 x6_1).length : Int) := of_decide_eq_true (by first | (with_reducible assumption) | assumption)
            obtain ⟨ad966, A966_2, c966_2, e966, hx966_0, hx966_1, hx966_2, hl966_2, hi966_2⟩ := at_T64 HR965_0.out x7_2 p966 q966
            cases e966
            have HR966_2 := Aside0.mk hi966_2
            have HC966_2 := Aside0.mk hl966_2
            clear hi966_2 hl966_2
            replace p966 := eq_true p966
            replace q966 := eq_true q966
            have p967 : 0 ≤ (x6_1 : Int) := of_decide_eq_true (by first | (with_reducible assumption) | assumption)
            have q967 : x6_1 < (l0.length : Int) := of_decide_eq_true (by first | (with_reducible assumption) | assumption)
            obtain ⟨ad967, A967_0, c967_0, e967, hx967_0, hl967_0, hi967_0⟩ := at_L5 HR0.out x6_1 p967 q967
            obtain rfl : ad961 = ad967 := (by injection e967)
            have HR967_0 := Aside0.mk hi967_0
            have HC967_0 := Aside0.mk hl967_0
            clear hi967_0 hl967_0
            replace p967 := eq_true p967
            replace q967 := eq_true q967
            have ea_ := Option.some.inj (hx962_0.symm.trans hx967_0)
            injection ea_ with ea_ en_ ec_
            subst ea_
            subst ec_
            clear en_
            have p968 : 0 ≤ (x7_2 : Int) := of_decide_eq_true (by first | (with_reducible assumption) | assumption)
            have q968 : x7_2 < ((rd_L5 l0 x6_1).length : Int) := of_decide_eq_true (by first | (with_reducible assumption) | assumption)
            obtain ⟨ad968, A968_2, c968_2, e968, hx968_0, hx968_1, hx968_2, hl968_2, hi968_2⟩ := at_T64 HR967_0.out x7_2 p968 q968
            cases e968
            have HR968_2 := Aside0.mk hi968_2
            have HC968_2 := Aside0.mk hl968_2
            clear hi968_2 hl968_2
            replace p968 := eq_true p968
            replace q968 := eq_true q968
            go_wp2
            go_ret
            exact ⟨by first | rfl | (simp; done) | (simp [*]; done), by repeat (first | exact Drawn0.refl _ | apply Drawn0.step)⟩
          rw [if_neg c12] at H
          have c12b0 : decide ((wrap64 (a1 - (wrap64 (x5_2 + (((rd_T64 (rd_L5 l0 x6_1) x7_2).f2).length : Int))))) < (((rd_T64 (rd_L5 l0 x6_1) x7_2).f0).size : Int)) = false := decide_eq_false c12
          clear c12
          have H' := Aside0.mk H
          clear H
          have p962 : 0 ≤ (x6_1 : Int) := of_decide_eq_true (by first | (with_reducible assumption) | assumption)
          have q962 : x6_1 < (l0.length : Int) := of_decide_eq_true (by first | (with_reducible assumption) | assumption)
          obtain ⟨ad962, A962_0, c962_0, e962, hx962_0, hl962_0, hi962_0⟩ := at_L5 HR0.out x6_1 p962 q962
          obtain rfl : ad961 = ad962 := (by injection e962)
          have HR962_0 := Aside0.mk hi962_0
          have HC962_0 := Aside0.mk hl962_0
          clear hi962_0 hl962_0
          replace p962 := eq_true p962
          replace q962 := eq_true q962
          have p963 : 0 ≤ (x6_1 : Int) := of_decide_eq_true (by first | (with_reducible assumption) | assumption)
          have q963 : x6_1 < (l0.length : Int) := of_decide_eq_true (by first | (with_reducible assumption) | assumption)
          obtain ⟨ad963, A963_0, c963_0, e963, hx963_0, hl963_0, hi963_0⟩ := at_L5 HR0.out x6_1 p963 q963
          obtain rfl : ad961 = ad963 := (by injection e963)
          have HR963_0 := Aside0.mk hi963_0
          have HC963_0 := Aside0.mk hl963_0
          clear hi963_0 hl963_0
          replace p963 := eq_true p963
          replace q963 := eq_true q963
          have ea_ := Option.some.inj (hx962_0.symm.trans hx963_0)
          injection ea_ with ea_ en_ ec_
          subst ea_
          subst ec_
          clear en_
          have p964 : 0 ≤ (x7_2 : Int) := of_decide_eq_true (by first | (with_reducible assumption) | assumption)
          have q964 : x7_2 < ((rd_L5 l0 x6_1).length : Int) := of_decide_eq_true (by first | (with_reducible assumption) | assumption)
          obtain ⟨ad964, A964_2, c964_2, e964, hx964_0, hx964_1, hx964_2, hl964_2, hi964_2⟩ := at_T64 HR963_0.out x7_2 p964 q964
          cases e964
          have HR964_2 := Aside0.mk hi964_2
          have HC964_2 := Aside0.mk hl964_2
          clear hi964_2 hl964_2
          replace p964 := eq_true p964
          replace q964 := eq_true q964
          have p965 : 0 ≤ (x6_1 : Int) := of_decide_eq_true (by first | (with_reducible assumption) | assumption)
          have q965 : x6_1 < (l0.length : Int) := of_decide_eq_true (by first | (with_reducible assumption) | assumption)
          obtain ⟨ad965, A965_0, c965_0, e965, hx965_0, hl965_0, hi965_0⟩ := at_L5 HR0.out x6_1 p965 q965
          obtain rfl : ad961 = ad965 := (by injection e965)
          have HR965_0 := Aside0.mk hi965_0
          have HC965_0 := Aside0.mk hl965_0
          clear hi965_0 hl965_0
          replace p965 := eq_true p965
          replace q965 := eq_true q965
          have ea_ := Option.some.inj (hx962_0.symm.trans hx965_0)
          injection ea_ with ea_ en_ ec_
          subst ea_
          subst ec_
          clear en_
          have p966 : 0 ≤ (x7_2 : Int) := of_decide_eq_true (by first | (with_reducible assumption) | assumption)
          have q966 : x7_2 < ((rd_L5 l0 x6_1).length : Int) := of_decide_eq_true (by first | (with_reducible assumption) | assumption)
          obtain ⟨ad966, A966_2, c966_2, e966, hx966_0, hx966_1, hx966_2, hl966_2, hi966_2⟩ := at_T64 HR965_0.out x7_2 p966 q966
          cases e966
          have HR966_2 := Aside0.mk hi966_2
          have HC966_2 := Aside0.mk hl966_2
          clear hi966_2 hl966_2
          replace p966 := eq_true p966
          replace q966 := eq_true q966
          have p967 : 0 ≤ (x6_1 : Int) := of_decide_eq_true (by first | (with_reducible assumption) | assumption)
          have q967 : x6_1 < (l0.length : Int) := of_decide_eq_true (by first | (with_reducible assumption) | assumption)
          obtain ⟨ad967, A967_0, c967_0, e967, hx967_0, hl967_0, hi967_0⟩ := at_L5 HR0.out x6_1 p967 q967
          obtain rfl : ad961 = ad967 := (by injection e967)
          have HR967_0 := Aside0.mk hi967_0
          have HC967_0 := Aside0.mk hl967_0
          clear hi967_0 hl967_0
          replace p967 := eq_true p967
          replace q967 := eq_true q967
          have ea_ := Option.some.inj (hx962_0.symm.trans hx967_0)
          injection ea_ with ea_ en_ ec_
          subst ea_
          subst ec_
          clear en_
          have p968 : 0 ≤ (x7_2 : Int) := of_decide_eq_true (by first | (with_reducible assumption) | assumption)
          have q968 : x7_2 < ((rd_L5 l0 x6_1).length : Int) := of_decide_eq_true (by first | (with_reducible assumption) | assumption)
          obtain ⟨ad968, A968_2, c968_2, e968, hx968_0, hx968_1, hx968_2, hl968_2, hi968_2⟩ := at_T64 HR967_0.out x7_2 p968 q968
          cases e968
          have HR968_2 := Aside0.mk hi968_2
          have HC968_2 := Aside0.mk hl968_2
          clear hi968_2 hl968_2
          replace p968 := eq_true p968
          replace q968 := eq_true q968
          have p969 : 0 ≤ (x6_1 : Int) := of_decide_eq_true (by first | (with_reducible assumption) | assumption)
          have q969 : x6_1 < (l0.length : Int) := of_decide_eq_true (by first | (with_reducible assumption) | assumption)
          obtain ⟨ad969, A969_0, c969_0, e969, hx969_0, hl969_0, hi969_0⟩ := at_L5 HR0.out x6_1 p969 q969
          obtain rfl : ad961 = ad969 := (by injection e969)
          have HR969_0 := Aside0.mk hi969_0
          have HC969_0 := Aside0.mk hl969_0
          clear hi969_0 hl969_0
          replace p969 := eq_true p969
          replace q969 := eq_true q969
          have ea_ := Option.some.inj (hx962_0.symm.trans hx969_0)
          injection ea_ with ea_ en_ ec_
          subst ea_
          subst ec_
          clear en_
          have p970 : 0 ≤ (x7_2 : Int) := of_decide_eq_true (by first | (with_reducible assumption) | assumption)
          have q970 : x7_2 < ((rd_L5 l0 x6_1).length : Int) := of_decide_eq_true (by first | (with_reducible assumption) | assumption)
          obtain ⟨ad970, A970_2, c970_2, e970, hx970_0, hx970_1, hx970_2, hl970_2, hi970_2⟩ := at_T64 HR969_0.out x7_2 p970 q970
          cases e970
          have HR970_2 := Aside0.mk hi970_2
          have HC970_2 := Aside0.mk hl970_2
          clear hi970_2 hl970_2
          replace p970 := eq_true p970
          replace q970 := eq_true q970
          go_wp2
          go_roundg k2
          case measure => have := HK1.out; have := HK2.out; omega
          case rel => exact ⟨(wrap64 ((wrap64 (x5_2 + (((rd_T64 (rd_L5 l0 x6_1) x7_2).f2).length : Int))) + (((rd_T64 (rd_L5 l0 x6_1) x7_2).f0).size : Int))), (wrap64 (x7_2 + 1)), (by first | rfl | (simp; done) | (simp [*]; done)), (by first | rfl | (simp; done) | (simp [*]; done)), H', ⟨by have := HK1.out; have := HK2.out; omega⟩, by repeat (first | exact Drawn0.refl _ | apply Drawn0.step)⟩
end Go.Proofs.YtkioddjjfifadaaGreatDoor.P
namespace Go.Proofs.YtkioddjjfifadaaGreatDoor.P
open Go.RowKit Go.Proofs.YtkioddjjfifadaaGreatDoorW.PrintWords Go.Proofs.YtkioddjjfifadaaGreatDoorW.PrintLast Go.Proofs.YtkioddjjfifadaaGreatDoorW.PrintMore
theorem strOfNums_size (l : List Int) : (strOfNums l).size = l.length := by
  unfold strOfNums
  simp [ByteArray.size]
theorem wrap_up' {n : Nat} {i : Int} (hn : n ≤ 4611686018427387904) (h0 : 0 ≤ i) (h1 : i < n) : wrap64 (i + 1) = i + 1 := by unfold wrap64; omega
theorem fits_total (a b : Int) : ∃ r, text_fits.f a b = some r := by
  unfold text_fits.f strings_IndexByte.f
  simp only [Option.bind_some]
  repeat' split
  all_goals exact ⟨_, rfl⟩
theorem wideL_len : ∀ (l r : List Int), wideL l = some r → r.length ≤ 2 * l.length
  | [], r, h => by
    obtain rfl := Option.some.inj h
    simp
  | [_], r, h => by
    obtain rfl := Option.some.inj h
    simp
  | a :: b :: l, r, h => by
    rw [wideL] at h
    split at h
    · cases h
    · obtain ⟨t, ht, rfl⟩ := Option.map_eq_some_iff.1 h
      have := wideL_len l t ht
      have := encodeRuneZ_len (a * 256 + b)
      simp only [List.length_append, List.length_cons]
      omega
theorem foldOut_len (bl : Bool) (out : List Int) : (foldOut bl out).length ≤ out.length + 1 := by
  unfold foldOut
  split
  rotate_left
  · omega
  simp
theorem foldGo_len (s : ByteArray) : ∀ (f pos : Nat) (bl : Bool) (out : List Int), pos ≤ s.size → out.length ≤ 5 * pos → (foldGo s f pos bl out).length ≤ 5 * s.size
  | 0, pos, bl, out, hp, ho => by
    rw [foldGo]
    omega
  | f + 1, pos, bl, out, hp, ho => by
    rw [foldGo]
    split
    · rename_i h
      obtain ⟨n1, n2, n4⟩ := decode_width s pos h
      have hf := foldOut_len bl out
      split
      · exact foldGo_len s f _ _ _ n2 (by omega)
      · split
        · refine foldGo_len s f _ _ _ n2 ?_
          rw [List.length_append, bytesOf_length, ext_size s pos _ n2]
          omega
        · refine foldGo_len s f _ _ _ n2 ?_
          rw [List.length_append]
          have := encodeRuneZ_len (low ((Utf8.decode s pos).1 : Int))
          omega
    · omega
theorem fold_total (s : ByteArray) (h : s.size ≤ 1099511627776) : ∃ r, text_Fold.f s = some r ∧ r.size ≤ 5 * s.size := by
  unfold text_Fold.f
  rw [if_pos h]
  refine ⟨_, rfl, ?_⟩
  rw [strOfNums_size]
  exact foldGo_len s _ 0 _ _ (Nat.zero_le _) (Nat.zero_le _)
theorem text_loop (a : Int) (l : List Int) (hl : l.length ≤ 1000000) : ∀ (k : Nat) (i : Int), 0 ≤ i → (l.length : Int) - i < k → 0 < k → ∃ r, text_Text.l0 k a l l (l.length : Int) i = some r ∧ r.1.size ≤ l.length
  | 0, i, _, _, h3 => by omega
  | k + 1, i, h0, h2, _ => by
    rw [text_Text.l0]
    by_cases hi : i < (l.length : Int)
    · rw [if_pos hi, if_pos h0, if_pos hi]
      obtain ⟨r, hr⟩ := fits_total a (rd l i)
      rw [hr, Option.bind_some]
      split
      · rw [wrap_up' (n := l.length) (by omega) h0 hi]
        exact text_loop a l hl k (i + 1) (by omega) (by omega) (by omega)
      · exact ⟨_, rfl, Nat.zero_le _⟩
    · rw [if_neg hi]
      exact ⟨_, rfl, by rw [strOfNums_size]; exact Nat.le_refl _⟩
theorem text_total (k : Nat) (a : Int) (l : List Int) (hb : l.all isByte = true) (hl : l.length ≤ 1000000) (hk : l.length + 1 < k) : ∃ r, text_Text.f k a l = some r ∧ r.1.size ≤ 2 * l.length := by
  unfold text_Text.f
  split
  · unfold text_wide.f
    rw [if_pos ⟨hb, by omega⟩]
    split
    · exact ⟨_, rfl, Nat.zero_le _⟩
    cases hw : wideL l with
    | none => exact ⟨_, rfl, Nat.zero_le _⟩
    | some x => exact ⟨_, rfl, by show (strOfNums x).size ≤ _; rw [strOfNums_size]; exact wideL_len l x hw⟩
  split
  · unfold utf8_Valid.f
    rw [if_pos ⟨hb, by omega⟩, Option.bind_some]
    split
    rotate_left
    · exact ⟨_, rfl, Nat.zero_le _⟩
    exact ⟨_, rfl, by show (strOfNums l).size ≤ _; rw [strOfNums_size]; omega⟩
  obtain ⟨k1, rfl⟩ : ∃ k1, k = k1 + 1 := ⟨k - 1, by omega⟩
  have hj : ∀ b, ∃ r, text_Text.j0 (k1 + 1) a l b = some r ∧ r.1.size ≤ 2 * l.length := fun b => by
    rw [text_Text.j0]
    split
    · obtain ⟨r, h1, h2⟩ := text_loop a l hl k1 0 (by omega) (by omega) (by omega)
      exact ⟨r, h1, by omega⟩
    · exact ⟨_, rfl, Nat.zero_le _⟩
  repeat' split
  all_goals exact hj _
theorem itoa_total (n : Int) (h0 : -9223372036854775808 ≤ n) (h1 : n ≤ 9223372036854775807) : ∃ r, strconv_Itoa.f n = some r ∧ r.size ≤ 21 := by
  unfold strconv_Itoa.f
  rw [if_pos ⟨h0, h1⟩]
  refine ⟨_, rfl, ?_⟩
  have := Lib.itoa_length_le n h0 h1
  simpa [ByteArray.size] using this
end Go.Proofs.YtkioddjjfifadaaGreatDoor.P
namespace Go.Proofs.YtkioddjjfifadaaGreatDoor.P
open Go.RowKit Go.Proofs.YtkioddjjfifadaaGreatDoorW.PrintWords Go.Proofs.YtkioddjjfifadaaGreatDoorW.PrintLast Go.Proofs.YtkioddjjfifadaaGreatDoorW.PrintMore
theorem join_len (B : Nat) : ∀ (xs : List (List UInt8)), (∀ x ∈ xs, x.length ≤ B) → (Lib.join xs []).length ≤ xs.length * B
  | [], _ => by simp [Lib.join]
  | [x], h => by
    have := h x List.mem_cons_self
    simp [Lib.join, List.intercalate]
    omega
  | x :: y :: r, h => by
    have h1 := join_len B (y :: r) (fun z hz => h z (List.mem_cons_of_mem _ hz))
    have h2 := h x List.mem_cons_self
    have e : Lib.join (x :: y :: r) [] = x ++ Lib.join (y :: r) [] := by simp [Lib.join, List.intercalate]
    rw [e, List.length_append, List.length_cons, Nat.add_mul]
    omega
theorem sortB_mem {xs : List ByteArray} {b : ByteArray} (h : b ∈ sortB xs) : ∃ a ∈ xs, b.size = a.size := by
  unfold sortB at h
  obtain ⟨l, hl, rfl⟩ := List.mem_map.1 h
  obtain ⟨a, ha, rfl⟩ := List.mem_map.1 (List.mem_mergeSort.1 hl)
  exact ⟨a, ha, by show (a.data.toList.toArray).size = a.data.size; rw [List.size_toArray, Array.length_toList]⟩
theorem getD_mem {α : Type} (l : List α) (d : α) (i : Int) (h0 : 0 ≤ i) (h1 : i < (l.length : Int)) : l.getD i.toNat d ∈ l := by
  rw [List.getD_eq_getElem?_getD, List.getElem?_eq_getElem (by omega)]
  exact List.getElem_mem _
end Go.Proofs.YtkioddjjfifadaaGreatDoor.P
namespace Go.Proofs.YtkioddjjfifadaaGreatDoor.P
open Go.RowKit Go.Proofs.YtkioddjjfifadaaGreatDoorW.PrintWords
def Good8 (p : S64) : Prop := p.f0.size ≤ 20000 ∧ p.f2.length ≤ 20000 ∧ p.f2.all isByte = true ∧ -9223372036854775808 ≤ p.f1 ∧ p.f1 ≤ 9223372036854775807
theorem key_total8 (k : Nat) (a : Int) (l : List Int) (h0 : -9223372036854775808 ≤ a) (h1 : a ≤ 9223372036854775807) (hb : l.all isByte = true) (hl : l.length ≤ 20000) (hk : l.length + 1 < k) : ∃ r, text_Key.f k a l = some r ∧ r.size ≤ 300000 := by
  unfold text_Key.f
  obtain ⟨r, hr, hs⟩ := text_total k a l hb (by omega) hk
  rw [hr, Option.bind_some]
  split
  · obtain ⟨q, hq, hqs⟩ := fold_total r.1 (by omega)
    rw [hq, Option.bind_some, if_pos (by omega)]
    refine ⟨_, rfl, ?_⟩
    rw [ByteArray.size_append]
    have : (⟨#[61]⟩ : ByteArray).size = 1 := rfl
    omega
  obtain ⟨q, hq, hqs⟩ := itoa_total a h0 h1
  have z1 : (⟨#[35]⟩ : ByteArray).size = 1 := rfl
  have z2 : (⟨#[58]⟩ : ByteArray).size = 1 := rfl
  have z3 := strOfNums_size l
  rw [hq, Option.bind_some, if_pos (by omega), if_pos (by rw [ByteArray.size_append]; omega), if_pos (by rw [ByteArray.size_append, ByteArray.size_append]; omega)]
  refine ⟨_, rfl, ?_⟩
  rw [ByteArray.size_append, ByteArray.size_append, ByteArray.size_append]
  omega
theorem upK {α : Type} {F : Nat → Option α} (hm : ∀ k, LeO (F k) (F (k + 1))) {K k' : Nat} (h : K ≤ k') {r : α} (e : F K = some r) : F k' = some r := by
  induction h with
  | refl => exact e
  | step _ ih => exact hm _ _ ih
def keyB (p : S64) : ByteArray := (text_Key.f 20010 p.f1 p.f2).getD ⟨#[]⟩
theorem keyB_at (p : S64) (h : Good8 p) (k : Nat) (hk : 20010 ≤ k) : text_Key.f k p.f1 p.f2 = some (keyB p) ∧ (keyB p).size ≤ 300000 := by
  obtain ⟨_, h2, h3, h4, h5⟩ := h
  obtain ⟨r, hr, hs⟩ := key_total8 20010 p.f1 p.f2 h4 h5 h3 h2 (by omega)
  have e : keyB p = r := by unfold keyB; rw [hr]; rfl
  rw [e]
  exact ⟨upK (F := fun k => text_Key.f k p.f1 p.f2) (fun k => text_Key.mono _ _ k) hk hr, hs⟩
def itemB (p : S64) : ByteArray := ((((p.f0 ++ (⟨#[61]⟩ : ByteArray)) ++ ⟨(Lib.itoa ((keyB p).size : Int)).toArray⟩) ++ (⟨#[58]⟩ : ByteArray)) ++ keyB p) ++ (⟨#[59]⟩ : ByteArray)
theorem itoa_len' (n : Int) (h0 : -9223372036854775808 ≤ n) (h1 : n ≤ 9223372036854775807) : strconv_Itoa.f n = some ⟨(Lib.itoa n).toArray⟩ ∧ (⟨(Lib.itoa n).toArray⟩ : ByteArray).size ≤ 21 := by
  obtain ⟨r, h2, h3⟩ := itoa_total n h0 h1
  have h4 := h2
  unfold strconv_Itoa.f at h4
  rw [if_pos ⟨h0, h1⟩] at h4
  rw [Option.some.inj h4]
  exact ⟨h2, h3⟩
theorem itemB_size (p : S64) (h : Good8 p) : (itemB p).size ≤ 400000 := by
  obtain ⟨_, h2⟩ := keyB_at p h 20010 (Nat.le_refl _)
  obtain ⟨_, h3⟩ := itoa_len' ((keyB p).size : Int) (by omega) (by omega)
  have z1 : (⟨#[61]⟩ : ByteArray).size = 1 := rfl
  have z2 : (⟨#[58]⟩ : ByteArray).size = 1 := rfl
  have z3 : (⟨#[59]⟩ : ByteArray).size = 1 := rfl
  have h1 := h.1
  unfold itemB
  simp only [ByteArray.size_append]
  omega
def finB (xs : List ByteArray) : ByteArray := ⟨(Lib.join ((sortB xs).map (·.data.toList)) []).toArray⟩ ++ (⟨#[47]⟩ : ByteArray)
theorem drop_64k (l : List S64) (i : Int) (h0 : 0 ≤ i) (h1 : i < (l.length : Int)) : l.drop i.toNat = rd_T64 l i :: l.drop (i + 1).toNat := by
  have e : (i + 1).toNat = i.toNat + 1 := by omega
  rw [e, List.drop_eq_getElem_cons (by omega)]
  congr 1
  unfold rd_T64
  rw [List.getD_eq_getElem?_getD, List.getElem?_eq_getElem (by omega), Option.getD_some]
theorem finB_at (xs : List ByteArray) (hl : xs.length ≤ 200) (h : ∀ b ∈ xs, b.size ≤ 400000) : ((slices_Sort.f xs).bind fun y3 => ((strings_Join.f y3 (⟨#[]⟩ : ByteArray)).bind fun t793 => (if t793.size + 1 ≤ 9223372036854775807 then (some (t793 ++ (⟨#[47]⟩ : ByteArray))) else (none)))) = some (finB xs) ∧ (finB xs).size ≤ 80000001 := by
  unfold slices_Sort.f strings_Join.f
  rw [if_pos (by omega), Option.bind_some]
  have hj := join_len 400000 ((sortB xs).map (·.data.toList)) (fun z hz => by
    obtain ⟨b, hb, rfl⟩ := List.mem_map.1 hz
    obtain ⟨a, ha, he⟩ := sortB_mem hb
    have := h a ha
    show b.data.toList.length ≤ _
    rw [Array.length_toList]
    show b.size ≤ _
    omega)
  rw [List.length_map, sortB_len] at hj
  have hj2 : xs.length * 400000 ≤ 80000000 := by omega
  have hs0 : (⟨#[]⟩ : ByteArray).data.toList = [] := rfl
  rw [hs0, if_pos ⟨by rw [sortB_len]; omega, by omega⟩, Option.bind_some]
  have hsz : (⟨(Lib.join ((sortB xs).map (·.data.toList)) []).toArray⟩ : ByteArray).size = (Lib.join ((sortB xs).map (·.data.toList)) []).length := by simp [ByteArray.size]
  have z4 : (⟨#[47]⟩ : ByteArray).size = 1 := rfl
  rw [if_pos (by rw [hsz]; omega)]
  refine ⟨rfl, ?_⟩
  unfold finB
  rw [ByteArray.size_append, hsz, z4]
  omega
theorem mark_loop8 (l : List S64) (hl : l.length ≤ 200) (hg : ∀ p ∈ l, Good8 p) : ∀ (m k : Nat) (acc : List ByteArray) (i : Int), 0 ≤ i → (l.length : Int) - i = m → m + 20011 ≤ k → acc.length + m ≤ 200 → (∀ b ∈ acc, b.size ≤ 400000) →
    name_mark.l0 k acc l (l.length : Int) i = some (finB (acc ++ (l.drop i.toNat).map itemB)) ∧ (finB (acc ++ (l.drop i.toNat).map itemB)).size ≤ 80000001
  | 0, k, acc, i, h0, hm, hk, ha, hb => by
    obtain ⟨k1, rfl⟩ : ∃ k1, k = k1 + 1 := ⟨k - 1, by omega⟩
    rw [name_mark.l0, if_neg (by omega), List.drop_eq_nil_of_le (by omega), List.map_nil, List.append_nil]
    exact finB_at acc (by omega) hb
  | m + 1, k, acc, i, h0, hm, hk, ha, hb => by
    obtain ⟨k1, rfl⟩ : ∃ k1, k = k1 + 1 := ⟨k - 1, by omega⟩
    have hd := drop_64k l i h0 (by omega)
    have hm' : rd_T64 l i ∈ l := List.mem_of_mem_drop (hd ▸ List.mem_cons_self)
    have hgd := hg _ hm'
    rw [hd, List.map_cons]
    obtain ⟨p, hp⟩ : ∃ p, rd_T64 l i = p := ⟨_, rfl⟩
    rw [hp] at hgd ⊢
    obtain ⟨hx, hxs⟩ := keyB_at p hgd k1 (by omega)
    obtain ⟨hy, hys⟩ := itoa_len' ((keyB p).size : Int) (by omega) (by omega)
    have hit := itemB_size p hgd
    have z1 : (⟨#[61]⟩ : ByteArray).size = 1 := rfl
    have z2 : (⟨#[58]⟩ : ByteArray).size = 1 := rfl
    have z3 : (⟨#[59]⟩ : ByteArray).size = 1 := rfl
    have g1 := hgd.1
    have ih := mark_loop8 l hl hg m k1 (acc ++ [itemB p]) (i + 1) (by omega) (by omega) (by omega) (by rw [List.length_append]; simp only [List.length_cons, List.length_nil]; omega) (fun b hb' => by
      rcases List.mem_append.1 hb' with hb' | hb'
      · exact hb b hb'
      · rw [List.mem_singleton.1 hb']
        exact hit)
    rw [List.append_assoc] at ih
    refine ⟨?_, ih.2⟩
    rw [name_mark.l0, if_pos (by omega), if_pos h0, if_pos (by omega), hp, hx, Option.bind_some, if_pos (by omega), hy, Option.bind_some, if_pos (by simp only [ByteArray.size_append]; omega), if_pos (by simp only [ByteArray.size_append]; omega), if_pos (by simp only [ByteArray.size_append]; omega), if_pos (by simp only [ByteArray.size_append]; omega), if_pos (by omega), wrap_up' (n := l.length) (by omega) h0 (by omega)]
    exact ih.1
def markB (s : List S64) : ByteArray := finB (s.map itemB)
theorem mark_at (k : Nat) (s : List S64) (hl : s.length ≤ 200) (hg : ∀ p ∈ s, Good8 p) (hk : 20300 ≤ k) : name_mark.f k s = some (markB s) ∧ (markB s).size ≤ 80000001 := by
  unfold name_mark.f
  have := mark_loop8 s hl hg s.length k [] 0 (Int.le_refl _) (by omega) (by omega) (by simpa using hl) (fun b hb => by cases hb)
  rw [show (0 : Int).toNat = 0 from rfl, List.drop_zero, List.nil_append] at this
  exact this
theorem sortB_perm {xs ys : List ByteArray} (h : xs.Perm ys) : sortB xs = sortB ys := by
  unfold sortB
  congr 1
  have tr : ∀ a b c : List UInt8, decide (a ≤ b) = true → decide (b ≤ c) = true → decide (a ≤ c) = true := fun a b c h1 h2 => by simp only [decide_eq_true_eq] at *; exact List.le_trans h1 h2
  have tot : ∀ a b : List UInt8, (decide (a ≤ b) || decide (b ≤ a)) = true := fun a b => by simp only [Bool.or_eq_true, decide_eq_true_eq]; exact List.le_total a b
  refine List.Perm.eq_of_pairwise (le := fun a b => decide (a ≤ b) = true) (fun a b _ _ h1 h2 => ?_) (List.pairwise_mergeSort tr tot _) (List.pairwise_mergeSort tr tot _) ?_
  rotate_left
  · exact ((List.mergeSort_perm _ _).trans (h.map _)).trans (List.mergeSort_perm _ _).symm
  simp only [decide_eq_true_eq] at h1 h2
  exact List.le_antisymm h1 h2
theorem markB_perm {s t : List S64} (h : s.Perm t) : markB s = markB t := by
  unfold markB finB
  rw [sortB_perm (h.map itemB)]
def keyBytes (n : List (List S64)) : List UInt8 := (n.map fun s => (markB s).data.toList).flatten
theorem keyL_at (k : Nat) (hk : 20300 ≤ k) : ∀ (n : List (List S64)), (∀ s ∈ n, s.length ≤ 200 ∧ ∀ p ∈ s, Good8 p) → keyL k n = some (keyBytes n) ∧ (keyBytes n).length ≤ n.length * 80000001
  | [], _ => ⟨rfl, by simp [keyBytes]⟩
  | s :: n, h => by
    obtain ⟨h1, h2⟩ := h s List.mem_cons_self
    obtain ⟨hm, hms⟩ := mark_at k s h1 h2 hk
    obtain ⟨ht, hts⟩ := keyL_at k hk n (fun z hz => h z (List.mem_cons_of_mem _ hz))
    have e : keyBytes (s :: n) = (markB s).data.toList ++ keyBytes n := by unfold keyBytes; rw [List.map_cons, List.flatten_cons]
    rw [keyL, hm, Option.bind_some, ht, Option.bind_some, e]
    refine ⟨rfl, ?_⟩
    have : (markB s).data.toList.length = (markB s).size := by rw [Array.length_toList]; rfl
    rw [List.length_append, List.length_cons, Nat.add_mul]
    omega
/-- name.Key of whatever is not huge. -/
theorem key_at (k : Nat) (hk : 20300 ≤ k) (n : List (List S64)) (hn : n.length ≤ 200) (h : ∀ s ∈ n, s.length ≤ 200 ∧ ∀ p ∈ s, Good8 p) : name_Key.f k n = some ⟨(keyBytes n).toArray⟩ := by
  obtain ⟨h1, h2⟩ := keyL_at k hk n h
  unfold name_Key.f
  rw [h1, Option.bind_some, if_pos ⟨by omega, by omega⟩]
theorem same_at (k : Nat) (hk : 20300 ≤ k) (n m : List (List S64)) (hn : n.length ≤ 200) (hm : m.length ≤ 200) (h : ∀ s ∈ n, s.length ≤ 200 ∧ ∀ p ∈ s, Good8 p) (g : ∀ s ∈ m, s.length ≤ 200 ∧ ∀ p ∈ s, Good8 p) (e : keyBytes n = keyBytes m) : name_Same.f k n m = some true := by
  unfold name_Same.f
  rw [key_at k hk n hn h, Option.bind_some, key_at k hk m hm g, Option.bind_some, e]
  simp
end Go.Proofs.YtkioddjjfifadaaGreatDoor.P
namespace Go.Proofs.YtkioddjjfifadaaGreatDoor.P
open Go.RowKit Go.Proofs.YtkioddjjfifadaaGreatDoorW.PrintWords Go.Proofs.YtkioddjjfifadaaGreatDoorW.PrintLast Go.Proofs.YtkioddjjfifadaaGreatDoorW.PrintMore
theorem drop_at' {α : Type} (l : List α) (d : α) (i : Int) (h0 : 0 ≤ i) (h1 : i < (l.length : Int)) : l.drop i.toNat = l.getD i.toNat d :: l.drop (i + 1).toNat := by
  have hi : i.toNat < l.length := by omega
  rw [show (i + 1).toNat = i.toNat + 1 by omega, List.drop_eq_getElem_cons hi]
  simp [List.getD, List.getElem?_eq_getElem hi]
/-- What an argument's part is. -/
def PartOk (p : S64) : Prop := p.f0.size ≤ 4611686018427387904 ∧ p.f2.length ≤ 4611686018427387904 ∧ p.f2.all isByte = true ∧ -9223372036854775808 ≤ p.f1 ∧ p.f1 ≤ 9223372036854775807
end Go.Proofs.YtkioddjjfifadaaGreatDoor.P
namespace Go.Proofs.YtkioddjjfifadaaGreatDoor.P
open Go.RowKit Go.Proofs.YtkioddjjfifadaaGreatDoorW.PrintWords Go.Proofs.YtkioddjjfifadaaGreatDoorW.PrintLast Go.Proofs.YtkioddjjfifadaaGreatDoorW.PrintMore
def Small8 (p : S64) : Prop := p.f0.size ≤ 8192 ∧ p.f2.length ≤ 8192
theorem huge8_loop (n : List (List S64)) (hn : n.length ≤ 200) (hb : ∀ s ∈ n, ∀ p ∈ s, p.f0.size ≤ 4611686018427387904 ∧ p.f2.length ≤ 4611686018427387904) : ∀ (k : Nat),
    (∀ (s i : Int), 0 ≤ i → 0 ≤ s → s ≤ 8192 → ((n.length : Int) - i) * 203 + 1 < k → 0 < k → ∃ b, chirographref07_Huge.l0 k n 8192 s i = some b ∧ (b = false → ∀ t ∈ n.drop i.toNat, t.length ≤ 200 ∧ ∀ p ∈ t, Small8 p)) ∧
    (∀ (s i j : Int), 0 ≤ i → i < (n.length : Int) → 0 ≤ j → 0 ≤ s → s ≤ 8192 → (rd_L5 n i).length ≤ 200 → ((n.length : Int) - i - 1) * 203 + (((rd_L5 n i).length : Int) - j) + 2 < k → j ≤ ((rd_L5 n i).length : Int) → 0 < k →
      ∃ b, chirographref07_Huge.l1 k n 8192 s i j = some b ∧ (b = false → (∀ p ∈ (rd_L5 n i).drop j.toNat, Small8 p) ∧ ∀ t ∈ n.drop (i + 1).toNat, t.length ≤ 200 ∧ ∀ p ∈ t, Small8 p))
  | 0 => ⟨fun s i _ _ _ _ h => absurd h (Nat.lt_irrefl 0), fun s i j _ _ _ _ _ _ _ _ h => absurd h (Nat.lt_irrefl 0)⟩
  | k + 1 => by
    obtain ⟨ih0, ih1⟩ := huge8_loop n hn hb k
    refine ⟨fun s i h0 hs0 hs1 hk _ => ?_, fun s i j h0 hi hj hs0 hs1 hlen hk hjl _ => ?_⟩
    · rw [chirographref07_Huge.l0]
      by_cases hi : i < (n.length : Int)
      · rw [if_pos hi, if_pos h0]
        by_cases hl : ((rd_L5 n i).length : Int) > 200
        · rw [if_pos hl]
          exact ⟨true, rfl, fun h => by cases h⟩
        · rw [if_neg hl]
          obtain ⟨b, h1, h2⟩ := ih1 s i 0 h0 hi (by omega) hs0 hs1 (by omega) (by omega) (by omega) (by omega)
          refine ⟨b, h1, fun hbf => ?_⟩
          obtain ⟨h3, h4⟩ := h2 hbf
          rw [drop_at' n [] i h0 hi]
          intro t ht
          rcases List.mem_cons.1 ht with rfl | ht
          · exact ⟨by have : (rd_L5 n i).length ≤ 200 := by omega
                      exact this, by rw [show (0 : Int).toNat = 0 from rfl, List.drop_zero] at h3; exact h3⟩
          · exact h4 t ht
      · rw [if_neg hi]
        refine ⟨false, rfl, fun _ => ?_⟩
        rw [List.drop_eq_nil_of_le (by omega)]
        intro t ht
        cases ht
    · rw [chirographref07_Huge.l1, if_pos h0, if_pos hi]
      by_cases hj1 : j < ((rd_L5 n i).length : Int)
      · rw [if_pos hj1, if_pos hj]
        have hm1 : rd_L5 n i ∈ n := getD_mem n [] i h0 hi
        have hm2 : rd_T64 (rd_L5 n i) j ∈ rd_L5 n i := getD_mem (rd_L5 n i) z64 j hj hj1
        obtain ⟨b1, b2⟩ := hb _ hm1 _ hm2
        have hd := drop_at' (rd_L5 n i) z64 j hj hj1
        have hrd : (rd_L5 n i).getD j.toNat z64 = rd_T64 (rd_L5 n i) j := rfl
        rw [hrd] at hd
        generalize rd_T64 (rd_L5 n i) j = p at *
        have w1 : wrap64 (8192 - s) = 8192 - s := by unfold wrap64; omega
        rw [w1]
        by_cases ha : (p.f2.length : Int) > 8192 - s
        · rw [if_pos ha]
          exact ⟨true, rfl, fun h => by cases h⟩
        · rw [if_neg ha]
          have w2 : wrap64 (s + (p.f2.length : Int)) = s + (p.f2.length : Int) := by unfold wrap64; omega
          rw [w2]
          have w3 : wrap64 (8192 - (s + (p.f2.length : Int))) = 8192 - (s + (p.f2.length : Int)) := by unfold wrap64; omega
          rw [w3]
          by_cases hc : (p.f0.size : Int) > 8192 - (s + (p.f2.length : Int))
          · rw [if_pos hc]
            exact ⟨true, rfl, fun h => by cases h⟩
          · rw [if_neg hc]
            have w4 : wrap64 (s + (p.f2.length : Int) + (p.f0.size : Int)) = s + (p.f2.length : Int) + (p.f0.size : Int) := by unfold wrap64; omega
            have w5 : wrap64 (j + 1) = j + 1 := by unfold wrap64; omega
            rw [w4, w5]
            obtain ⟨b, h1, h2⟩ := ih1 (s + (p.f2.length : Int) + (p.f0.size : Int)) i (j + 1) h0 hi (by omega) (by omega) (by omega) hlen (by omega) (by omega) (by omega)
            refine ⟨b, h1, fun hbf => ?_⟩
            obtain ⟨h3, h4⟩ := h2 hbf
            refine ⟨?_, h4⟩
            rw [hd]
            intro q hq
            rcases List.mem_cons.1 hq with rfl | hq
            · exact ⟨by omega, by omega⟩
            · exact h3 q hq
      · rw [if_neg hj1]
        have w5 : wrap64 (i + 1) = i + 1 := by unfold wrap64; omega
        rw [w5]
        obtain ⟨b, h1, h2⟩ := ih0 s (i + 1) (by omega) hs0 hs1 (by omega) (by omega)
        refine ⟨b, h1, fun hbf => ⟨?_, h2 hbf⟩⟩
        rw [List.drop_eq_nil_of_le (by omega)]
        intro q hq
        cases hq
theorem huge8_total (k : Nat) (hk : 50000 < k) (n : List (List S64)) (hb : ∀ s ∈ n, ∀ p ∈ s, p.f0.size ≤ 4611686018427387904 ∧ p.f2.length ≤ 4611686018427387904) : ∃ b, chirographref07_Huge.f k n 8192 = some b ∧ (b = false → n.length ≤ 200 ∧ ∀ s ∈ n, s.length ≤ 200 ∧ ∀ p ∈ s, Small8 p) := by
  unfold chirographref07_Huge.f
  by_cases h : (n.length : Int) > 200
  · rw [if_pos h]
    exact ⟨true, rfl, fun h => by cases h⟩
  rw [if_neg h]
  obtain ⟨b, h1, h2⟩ := (huge8_loop n (by omega) hb k).1 0 0 (by omega) (by omega) (by omega) (by omega) (by omega)
  exact ⟨b, h1, fun hbf => ⟨by omega, by simpa using h2 hbf⟩⟩
end Go.Proofs.YtkioddjjfifadaaGreatDoor.P
namespace Go.Proofs.YtkioddjjfifadaaGreatDoor.P
open Go.RowKit Go.Proofs.YtkioddjjfifadaaGreatDoorW.PrintWords Go.Proofs.YtkioddjjfifadaaGreatDoorW.PrintLast Go.Proofs.YtkioddjjfifadaaGreatDoorW.PrintMore
attribute [local go_sem] max2_int min2_int max_two min_two max_three min_three max_four min_four   -- for this text's walks alone
set_option linter.unusedVariables false
set_option linter.unusedSimpArgs false
def chirographlaw07_num.f (a0 : Int) : Option (Int) := some a0
set_option maxHeartbeats 8000000 in
set_option maxRecDepth 100000 in
theorem chirographlaw07_num.calls (a0 : Int) (r : Int) (w : World) (h : chirographlaw07_num.f a0 = some r) :
    Calls Tryz.prog 37 #[.int .i64 a0] w fun e w' => e = .returned (.int .i64 r) ∧ Drawn0 w w' := by
  have H : (some a0) = some r := h
  clear h
  obtain rfl := Option.some.inj H
  go_enter Tryz.func37, Tryz.ntmps37
  go_wp2
  go_ret
  exact ⟨by first | rfl | (simp; done) | (simp [*]; done), by repeat (first | exact Drawn0.refl _ | apply Drawn0.step)⟩
end Go.Proofs.YtkioddjjfifadaaGreatDoor.P
namespace Go.Proofs.YtkioddjjfifadaaGreatDoor.P
open Go.RowKit Go.Proofs.YtkioddjjfifadaaGreatDoorW.PrintWords Go.Proofs.YtkioddjjfifadaaGreatDoorW.PrintLast Go.Proofs.YtkioddjjfifadaaGreatDoorW.PrintMore
theorem C_row1 {α : Type} (d : Kd α) {w : World} {g : Nat} {x : α} {cs more : List Value} {t : TypeId} {fr : Nat × Nat} (hK : d.K w x cs) (hg : w.heap[g]? = some (.cells (cs ++ more).toArray t fr)) : d.C w (some ⟨g, 0, none⟩) 1 [x] := by
  refine ⟨rfl, by decide, fun _ => ⟨_, rfl, fun j y hj => ?_⟩⟩
  cases j with
  | zero =>
    obtain rfl : x = y := by simpa using hj
    refine ⟨cs, d.K_len hK, hK, fun i u hu => ?_⟩
    rw [Nat.zero_mul, Nat.zero_add, add_plain, cell_of_row w g i _ t fr hg]
    have hi := (List.getElem?_eq_some_iff.1 hu).1
    rw [List.getElem?_toArray, List.getElem?_append_left hi, hu]
  | succ j => simp at hj
theorem new_alloc (A : World) (o : Obj) : (A.alloc o).heap[A.heap.size]? = some o := by
  show (A.heap.push o)[A.heap.size]? = _
  simp
end Go.Proofs.YtkioddjjfifadaaGreatDoor.P
set_option linter.unusedVariables false
set_option linter.unusedSimpArgs false
namespace Go.Proofs.YtkioddjjfifadaaGreatDoor.P
open Go.RowKit Go.Proofs.YtkioddjjfifadaaGreatDoorW.PrintWords Go.Proofs.YtkioddjjfifadaaGreatDoorW.PrintLast Go.Proofs.YtkioddjjfifadaaGreatDoorW.PrintMore
theorem old0 {w : World} {a : Addr} {v : Value} (h : w.cell? a = some v) (m : Nat) : (w.drewN m).cell? a = some v := h
theorem old1 {w : World} {a : Addr} {v : Value} (h : w.cell? a = some v) (m : Nat) (o : Obj) : ((w.drewN m).alloc o).cell? a = some v :=
  (World.cell?_alloc_some (w.drewN m) a o (by rw [old0 h m]; rfl)).trans (old0 h m)
theorem old2 {w : World} {a : Addr} {v : Value} (h : w.cell? a = some v) (m : Nat) (o o' : Obj) : (((w.drewN m).alloc o).alloc o').cell? a = some v :=
  (World.cell?_alloc_some ((w.drewN m).alloc o) a o' (by rw [old1 h m o]; rfl)).trans (old1 h m o)
theorem two_cell (w : World) (m i : Nat) (Z : Array Value) (t : TypeId) (o : Obj) : (((w.drewN m).alloc (.cells Z t)).alloc o).cell? ⟨w.heap.size, i, none⟩ = Z[i]? := World.cell?_alloc2_first (w := w.drewN m) Z t o i
theorem two_frozen (w : World) (m i : Nat) (Z : Array Value) (t : TypeId) (o : Obj) : (((w.drewN m).alloc (.cells Z t)).alloc o).frozen? ⟨w.heap.size, i, none⟩ = false := World.frozen?_alloc2_first (w := w.drewN m) Z t o i
theorem two_set (w : World) (m i : Nat) (Z : Array Value) (t : TypeId) (o : Obj) (v : Value) : (((w.drewN m).alloc (.cells Z t)).alloc o).setCell ⟨w.heap.size, i, none⟩ v = ((w.drewN m).alloc (.cells (Z.setIfInBounds i v) t)).alloc o :=
  (World.setCell_alloc_past (w := (w.drewN m).alloc (.cells Z t)) o w.heap.size i v (by show w.heap.size < (w.heap.push _).size; simp)).trans (congrArg (fun z => World.alloc z o) (World.setCell_alloc_at (w := w.drewN m) Z t w.heap.size i v rfl))
theorem old1z {w : World} {a : Addr} {v : Value} (h : w.cell? a = some v) (o : Obj) : (w.alloc o).cell? a = some v := (World.cell?_alloc_some w a o (by rw [h]; rfl)).trans h
theorem old2z {w : World} {a : Addr} {v : Value} (h : w.cell? a = some v) (o o' : Obj) : ((w.alloc o).alloc o').cell? a = some v := (World.cell?_alloc_some (w.alloc o) a o' (by rw [old1z h o]; rfl)).trans (old1z h o)
theorem two_cellz (w : World) (i : Nat) (Z : Array Value) (t : TypeId) (o : Obj) : ((w.alloc (.cells Z t)).alloc o).cell? ⟨w.heap.size, i, none⟩ = Z[i]? := World.cell?_alloc2_first (w := w) Z t o i
theorem two_frozenz (w : World) (i : Nat) (Z : Array Value) (t : TypeId) (o : Obj) : ((w.alloc (.cells Z t)).alloc o).frozen? ⟨w.heap.size, i, none⟩ = false := World.frozen?_alloc2_first (w := w) Z t o i
theorem two_setz (w : World) (i : Nat) (Z : Array Value) (t : TypeId) (o : Obj) (v : Value) : ((w.alloc (.cells Z t)).alloc o).setCell ⟨w.heap.size, i, none⟩ v = (w.alloc (.cells (Z.setIfInBounds i v) t)).alloc o :=
  (World.setCell_alloc_past (w := w.alloc (.cells Z t)) o w.heap.size i v (by show w.heap.size < (w.heap.push _).size; simp)).trans (congrArg (fun z => World.alloc z o) (World.setCell_alloc_at (w := w) Z t w.heap.size i v rfl))
set_option maxHeartbeats 8000000 in
set_option maxRecDepth 100000 in
theorem equal_same (w : World) (A B : Option Addr) (c d : Nat) (n : List (List S64)) (hA : Kd.C (Kd.slice 64 k64) w A n.length n) (hB : Kd.C (Kd.slice 64 k64) w B n.length n) (hn : n.length ≤ 200) (hs : ∀ s ∈ n, s.length ≤ 200 ∧ ∀ p ∈ s, p.f2.length ≤ 8192)
    (hsb : ∀ s ∈ n, ∀ p ∈ s, chirographref01_SameBytes.f 10000 p.f2 p.f2 = some true) :
    Calls Tryz.prog 32 #[.slice A n.length c, .slice B n.length d] w fun e w' => e = .returned (.bool true) ∧ Below w.heap.size w w' := by
  have hu64 := Tryz.underlying64
  have HA := Aside0.mk hA
  have HD := Aside0.mk hB
  have HN := Aside0.mk hn
  have HS := Aside0.mk hs
  have HSB := Aside0.mk hsb
  have HB0 := Aside0.mk (Below.refl w.heap.size w)
  clear hA hB hn hs hsb
  go_enter Tryz.func32, Tryz.ntmps32
  go_wp2_with fail
  go_loopg [5] (n.length + 1) (fun kq v5 w' => ∃ (i : Nat), v5 = .int .i64 (i : Int) ∧ Aside0 (i ≤ n.length ∧ n.length < kq + i) ∧ Aside0 (Below w.heap.size w w'))
  case atStart => exact ⟨0, rfl, ⟨⟨Nat.zero_le _, by omega⟩⟩, HB0⟩
  case round =>
    clear HB0
    obtain ⟨i, rfl, HI, HB⟩ := hrel
    cases gk with
    | zero => exact absurd HI.out (by omega)
    | succ g1 =>
      by_cases hi : i < n.length
      rotate_left
      · have c1 : decide ((i : Int) < (n.length : Int)) = false := decide_eq_false (by omega)
        go_wp2_with fail
        go_ret
        exact ⟨by first | rfl | trace_state, HB.out⟩
      have c1 : decide ((i : Int) < (n.length : Int)) = true := decide_eq_true (by omega)
      have p1 : ((0 : Int) ≤ (i : Int)) = True := eq_true (by omega)
      have q1 : ((i : Int) < (n.length : Int)) = True := eq_true (by omega)
      obtain ⟨ad, A1, a1, rfl, hx, la, hC⟩ := at_L5 HA.out (i : Int) (by omega) (by omega)
      obtain ⟨bd, B1, b1, rfl, hy, lb, hD⟩ := at_L5 HD.out (i : Int) (by omega) (by omega)
      have hmem : rd_L5 n (i : Int) ∈ n := by
        unfold rd_L5
        rw [Int.toNat_natCast, List.getD_eq_getElem?_getD, List.getElem?_eq_getElem hi]
        exact List.getElem_mem _
      have HX0 := Aside0.mk hx
      have HY0 := Aside0.mk hy
      replace hx := (HB.out.cell (World.block_lt_of_cell? w _ hx)).trans hx
      replace hy := (HB.out.cell (World.block_lt_of_cell? w _ hy)).trans hy
      rw [Int.toNat_natCast] at hx hy
      have HSI := Aside0.mk (HS.out _ hmem)
      have HSBI := Aside0.mk (HSB.out _ hmem)
      have HC := Aside0.mk hC
      have HE := Aside0.mk hD
      clear hmem hC hD la lb
      generalize rd_L5 n (i : Int) = s at *
      have hw : wrap64 ((i : Int) + 1) = ((i + 1 : Nat) : Int) := by unfold wrap64; have := HN.out; omega
      go_wp2_with fail
      go_quiet (fail)
      go_wp2_with fail
      go_loopg [6] (s.length + 1) (fun kq v6 w' => ∃ (j : Nat), v6 = .int .i64 (j : Int) ∧ Aside0 (j ≤ s.length ∧ s.length < kq + j) ∧ Aside0 (Below w.heap.size w w'))
      case atStart => exact ⟨0, rfl, ⟨⟨Nat.zero_le _, by omega⟩⟩, ⟨pw_below_drewN HB.out _⟩⟩
      case round =>
        obtain ⟨j, rfl, HJ, HB2⟩ := hrel
        clear HB hx hy
        have hx := (HB2.out.cell (World.block_lt_of_cell? w _ HX0.out)).trans HX0.out
        have hy := (HB2.out.cell (World.block_lt_of_cell? w _ HY0.out)).trans HY0.out
        rw [Int.toNat_natCast] at hx hy
        cases gk with
        | zero => exact absurd HJ.out (by omega)
        | succ g2 =>
          by_cases hj : j < s.length
          rotate_left
          · have c2 : decide ((j : Int) < (s.length : Int)) = false := decide_eq_false (by omega)
            go_wp2_with fail
            go_roundg g1
            case measure => exact Nat.lt_succ_self _
            case rel => exact ⟨i + 1, congrArg (Value.int .i64) hw, ⟨by have := HI.out; omega⟩, HB2⟩
          have c2 : decide ((j : Int) < (s.length : Int)) = true := decide_eq_true (by omega)
          have p2 : ((0 : Int) ≤ (j : Int)) = True := eq_true (by omega)
          have q2 : ((j : Int) < (s.length : Int)) = True := eq_true (by omega)
          obtain ⟨ad2, X, x, rfl, h0, h1, h2, lx, hX⟩ := at_T64 HC.out (j : Int) (by omega) (by omega)
          obtain ⟨bd2, Y, y, rfl, k0, k1, k2, ly, hY⟩ := at_T64 HE.out (j : Int) (by omega) (by omega)
          have hmem : rd_T64 s (j : Int) ∈ s := by
            unfold rd_T64
            rw [Int.toNat_natCast, List.getD_eq_getElem?_getD, List.getElem?_eq_getElem hj]
            exact List.getElem_mem _
          have HP := Aside0.mk (HSBI.out _ hmem)
          have lt1 := World.block_lt_of_cell? w _ h0
          have lt2 := World.block_lt_of_cell? w _ k0
          replace h0 := (HB2.out.cell (World.block_lt_of_cell? w _ h0)).trans h0
          replace h1 := (HB2.out.cell (World.block_lt_of_cell? w _ h1)).trans h1
          replace h2 := (HB2.out.cell (World.block_lt_of_cell? w _ h2)).trans h2
          replace k0 := (HB2.out.cell (World.block_lt_of_cell? w _ k0)).trans k0
          replace k1 := (HB2.out.cell (World.block_lt_of_cell? w _ k1)).trans k1
          replace k2 := (HB2.out.cell (World.block_lt_of_cell? w _ k2)).trans k2
          rw [Int.toNat_natCast] at h0 h1 h2 k0 k1 k2
          have HX := Aside0.mk (Kd.C_below hX HB2.out)
          have HY := Aside0.mk (Kd.C_below hY HB2.out)
          have LX := Aside0.mk lx
          have LY := Aside0.mk ly
          clear hmem hX hY lx ly
          generalize rd_T64 s (j : Int) = p at *
          have hw2 : wrap64 ((j : Int) + 1) = ((j + 1 : Nat) : Int) := by unfold wrap64; have := HSI.out.1; omega
          go_wp2_with fail
          have q0_ := old1 hx
          have r0_ := old2 hx
          have s0_ := old1z hx
          have t0_ := old2z hx
          have q1_ := old1 hy
          have r1_ := old2 hy
          have s1_ := old1z hy
          have t1_ := old2z hy
          have q2_ := old1 h0
          have r2_ := old2 h0
          have s2_ := old1z h0
          have t2_ := old2z h0
          have q3_ := old1 h1
          have r3_ := old2 h1
          have s3_ := old1z h1
          have t3_ := old2z h1
          have q4_ := old1 h2
          have r4_ := old2 h2
          have s4_ := old1z h2
          have t4_ := old2z h2
          have q5_ := old1 k0
          have r5_ := old2 k0
          have s5_ := old1z k0
          have t5_ := old2z k0
          have q6_ := old1 k1
          have r6_ := old2 k1
          have s6_ := old1z k1
          have t6_ := old2z k1
          have q7_ := old1 k2
          have r7_ := old2 k2
          have s7_ := old1z k2
          have t7_ := old2z k2
          have sc := two_cell wr
          have sf := two_frozen wr
          have sw := two_set wr
          have sc0 := two_cellz wr
          have sf0 := two_frozenz wr
          have sw0 := two_setz wr
          go_big_region
          all_goals clear hx hy h0 h1 h2 k0 k1 k2 q0_ r0_ s0_ t0_ q1_ r1_ s1_ t1_ q2_ r2_ s2_ t2_ q3_ r3_ s3_ t3_ q4_ r4_ s4_ t4_ q5_ r5_ s5_ t5_ q6_ r6_ s6_ t6_ q7_ r7_ s7_ t7_ sc sf sw sc0 sf0 sw0
          all_goals
            go_wp2_with fail
            refine (chirographref01_SameBytes.calls 10000 _ _ p.f2 _ _ p.f2 true _ (by exact Kd.C_u HX.out) LX.out (by exact Kd.C_u HY.out) LY.out HP.out).mono ?_
            rintro e w1 ⟨rfl, ⟨nd, rfl⟩⟩
            go_wp2_with fail
            go_roundg g2
            case measure => exact Nat.lt_succ_self _
            case rel => exact ⟨j + 1, congrArg (Value.int .i64) hw2, ⟨by have := HJ.out; omega⟩, ⟨by repeat (first | exact HB2.out | apply pw_below_drewN | apply below_drew1 | apply below_alloc)⟩⟩
end Go.Proofs.YtkioddjjfifadaaGreatDoor.P
set_option linter.unusedVariables false
set_option linter.unusedSimpArgs false
namespace Go.Proofs.YtkioddjjfifadaaGreatDoor.P
open Go.RowKit Go.Proofs.YtkioddjjfifadaaGreatDoorW.PrintWords Go.Proofs.YtkioddjjfifadaaGreatDoorW.PrintLast Go.Proofs.YtkioddjjfifadaaGreatDoorW.PrintMore
set_option maxHeartbeats 4000000 in
set_option maxRecDepth 100000 in
theorem fits_68 (w : World) : Calls Tryz.prog 205 #[.int .i64 19, .int .u8 68] w fun e w' => e = .returned (.bool true) ∧ w' = w := by
  go_enter Tryz.func205, Tryz.ntmps205
  go_wp2_with fail
  go_ret
  exact ⟨rfl, rfl⟩
set_option maxHeartbeats 4000000 in
set_option maxRecDepth 100000 in
theorem fits_69 (w : World) : Calls Tryz.prog 205 #[.int .i64 19, .int .u8 69] w fun e w' => e = .returned (.bool true) ∧ w' = w := by
  go_enter Tryz.func205, Tryz.ntmps205
  go_wp2_with fail
  go_ret
  exact ⟨rfl, rfl⟩
/-- The cells of the example's data. -/
theorem de_open {w : World} {X : Option Addr} (h : Kd.C (Kd.int .u8) w X 2 [68, 69]) : ∃ g o, X = some ⟨g, o, none⟩ ∧ w.cell? ⟨g, o, none⟩ = some (.int .u8 68) ∧ w.cell? ⟨g, o + 1, none⟩ = some (.int .u8 69) := by
  obtain ⟨ad, cs, rfl, hl, hK, hc⟩ := Kd.C_get h 0 0 (Int.le_refl _) (by decide)
  obtain ⟨ad', cs', e, hl', hK', hc'⟩ := Kd.C_get h 0 1 (by decide) (by decide)
  obtain rfl := Option.some.inj e
  have e0 : cs = [.int .u8 68] := hK
  have e1 : cs' = [.int .u8 69] := hK'
  subst e0
  subst e1
  have h0 := hc 0 _ rfl
  have h1 := hc' 0 _ rfl
  rw [show (0 : Int).toNat * (Kd.int .u8).sz + 0 = 0 from rfl, Addr.add_zero'] at h0
  have hs := World.cell?_spot h0
  cases ad with
  | mk b o s =>
    simp only at hs
    subst hs
    exact ⟨b, o, rfl, h0, h1⟩
set_option maxHeartbeats 4000000 in
set_option maxRecDepth 100000 in
theorem text_at (w : World) (X : Option Addr) (x : Nat) (hx : 2 ≤ x) (hX : Kd.C (Kd.int .u8) w X 2 [68, 69]) :
    Calls Tryz.prog 153 #[.int .i64 19, .slice X 2 x] w fun e w' => e = .returned (.tuple #[.string ⟨#[68, 69]⟩, .int .i64 0]) ∧ Below w.heap.size w w' := by
  have HX := Aside0.mk hX
  have HB := Aside0.mk (Below.refl w.heap.size w)
  obtain ⟨g, o, rfl, h0, h1⟩ := de_open hX
  clear hX
  have hcs := Kd.C_string (P := Tryz.prog) (c := x) Tryz.underlying22 Tryz.underlying5 Tryz.underlying9 HX.out
  go_enter Tryz.func153, Tryz.ntmps153
  go_wp2_with fail
  refine wp_loop_rounds 3 ?_
  rw [rounds_succ]
  go_wp2_with fail
  refine (fits_68 _).mono ?_
  rintro e w1 ⟨rfl, rfl⟩
  go_wp2_with fail
  rw [rounds_succ]
  go_wp2_with fail
  refine (fits_69 _).mono ?_
  rintro e w1 ⟨rfl, rfl⟩
  go_wp2_with fail
  rw [rounds_succ]
  go_wp2_with fail
  go_ret2
  exact ⟨by first | rfl | trace_state, HB.out⟩
end Go.Proofs.YtkioddjjfifadaaGreatDoor.P
set_option linter.unusedVariables false
set_option linter.unusedSimpArgs false
namespace Go.Proofs.YtkioddjjfifadaaGreatDoor.P
open Go.RowKit Go.Proofs.YtkioddjjfifadaaGreatDoorW.PrintWords Go.Proofs.YtkioddjjfifadaaGreatDoorW.PrintLast Go.Proofs.YtkioddjjfifadaaGreatDoorW.PrintMore
set_option maxHeartbeats 4000000 in
set_option maxRecDepth 100000 in
theorem value_at (w : World) (a : ByteArray) (X : Option Addr) (x : Nat) (hx : 2 ≤ x) (hX : Kd.C (Kd.int .u8) w X 2 [68, 69]) :
    Calls Tryz.prog 87 #[.agg #[.string a, .int .i64 19, .slice X 2 x]] w fun e w' => e = .returned (.string ⟨#[68, 69]⟩) ∧ Below w.heap.size w w' := by
  have HX := Aside0.mk hX
  have hi0 : strings_IndexByte.f ⟨#[34, 43, 44, 59, 60, 62, 61, 92]⟩ 68 = some (-1) := by kernel_rfl
  have hi1 : strings_IndexByte.f ⟨#[34, 43, 44, 59, 60, 62, 61, 92]⟩ 69 = some (-1) := by kernel_rfl
  have HI0 := Aside0.mk hi0
  have HI1 := Aside0.mk hi1
  clear hX hi0 hi1
  have hu64 := Tryz.underlying64
  go_enter Tryz.func87, Tryz.ntmps87
  go_wp2_with fail
  have HB0 := Aside0.mk (below_alloc (Below.refl w.heap.size w) (.cells #[.string a, .int .i64 19, .slice X 2 x] 64))
  refine (text_at _ X x hx (Kd.C_below HX.out HB0.out)).mono ?_
  rintro e w1 ⟨rfl, hb⟩
  have HB := Aside0.mk (below_step HB0.out hb)
  clear hb HB0 HX
  go_wp2_with fail
  refine wp_loop_rounds 3 ?_
  rw [rounds_succ]
  go_wp2_with fail
  refine (strings_IndexByte.calls _ 68 (-1) _ HI0.out).mono ?_
  rintro e w2 ⟨rfl, hb⟩
  have HB2 := Aside0.mk (below_step HB.out hb)
  clear hb HB HI0
  go_wp2_with ((with_reducible refine gate_builtin (b := .append) (xs := #[.tmp 50, .tmp 52]) rfl ?_); at_builtin; refine Kd.R_append (Kd.int .u8) (w0 := w) w.heap.size rfl (.tmp 50) (.tmp 52) 22 5 (.int .u8 0) 1 rfl Tryz.underlying22 info5 rfl (by decide) (by omega) (.slice none 0 0) [] 68 [.int .u8 68] (fun _ => True) (fun _ => False) rfl rfl ?aP (fun _ hk => hk.elim) ?aF ?aO ?aB ?aS ?aL ?_; (case aP => exact rfl); (case aF => exact (fun _ _ => trivial)); (case aO => exact Kd.R_nil _ _ _ _ _); (case aB => exact HB2.out); (case aS => exact (below_size HB2.out)); (case aL => decide); intro v5 w3 ho hb hgr hat; have HO := Aside0.mk ho; have HB := Aside0.mk hb; clear ho hb hgr hat HB2)
  rw [rounds_succ]
  go_wp2_with fail
  refine (strings_IndexByte.calls _ 69 (-1) _ HI1.out).mono ?_
  rintro e w4 ⟨rfl, hb⟩
  have HB2 := Aside0.mk (below_step HB.out hb)
  have HO2 := Aside0.mk (Kd.R_below HO.out hb)
  clear hb HB HI1 HO
  go_wp2_with ((with_reducible refine gate_builtin (b := .append) (xs := #[.tmp 50, .tmp 52]) rfl ?_); at_builtin; refine Kd.R_append (Kd.int .u8) (w0 := w) w.heap.size rfl (.tmp 50) (.tmp 52) 22 5 (.int .u8 0) 1 rfl Tryz.underlying22 info5 rfl (by decide) (by omega) v5 ([] ++ [68]) 69 [.int .u8 69] (fun _ => True) (fun _ => False) rfl rfl ?aP (fun _ hk => hk.elim) ?aF ?aO ?aB ?aS ?aL ?_; (case aP => exact rfl); (case aF => exact (fun _ _ => trivial)); (case aO => exact HO2.out); (case aB => exact HB2.out); (case aS => exact (below_size HB2.out)); (case aL => decide); intro v6 w5 ho hb hgr hat; have HO := Aside0.mk ho; have HB := Aside0.mk hb; clear ho hb hgr hat HB2)
  rw [rounds_succ]
  obtain ⟨A, c, hv4⟩ := Kd.R_slice HO.out
  subst hv4
  have hcs := Kd.C_string (P := Tryz.prog) (c := c) Tryz.underlying22 Tryz.underlying5 Tryz.underlying9 (show Kd.C (Kd.int .u8) w5 A 2 [68, 69] from (Kd.R_reads' HO.out).2.2)
  go_wp2_with fail
  go_ret
  exact ⟨by first | rfl | trace_state, HB.out⟩
end Go.Proofs.YtkioddjjfifadaaGreatDoor.P
namespace Go.Proofs.YtkioddjjfifadaaGreatDoor.P
open Go.RowKit Go.Proofs.YtkioddjjfifadaaGreatDoorW.PrintWords Go.Proofs.YtkioddjjfifadaaGreatDoorW.PrintLast Go.Proofs.YtkioddjjfifadaaGreatDoorW.PrintMore
def p07 : S64 := ⟨⟨#[50, 46, 53, 46, 52, 46, 54]⟩, 19, [68, 69]⟩
def n07 : List (List S64) := [[p07]]
/-- The cells of the example's name. -/
theorem n07_open {w : World} {A : Option Addr} (h : Kd.C (Kd.slice 64 k64) w A 1 n07) : ∃ ad bd B b X x, A = some ad ∧ B = some bd ∧ w.cell? ad = some (.slice B 1 b) ∧ w.cell? bd = some (.string p07.f0) ∧ w.cell? ⟨bd.block, bd.off + 1, none⟩ = some (.int .i64 19) ∧ w.cell? ⟨bd.block, bd.off + 2, none⟩ = some (.slice X 2 x) ∧ 1 ≤ b ∧ Kd.C k64 w B 1 [p07] ∧ 2 ≤ x ∧ Kd.C (Kd.int .u8) w X 2 [68, 69] := by
  obtain ⟨ad, B, b, rfl, h0, lb, hB⟩ := at_L5 h 0 (Int.le_refl _) (by decide)
  rw [show (0 : Int).toNat = 0 from rfl, Addr.add_zero'] at h0
  obtain ⟨bd, X, x, e, g0, g1, g2, lx, hX⟩ := at_T64 hB 0 (Int.le_refl _) (by decide)
  rw [show (0 : Int).toNat * 3 = 0 from rfl, Addr.add_zero'] at g0 g1 g2
  exact ⟨ad, bd, B, b, X, x, rfl, e, h0, g0, g1, g2, lb, hB, lx, hX⟩
def e77 : S77 := ⟨0, 16, true, [6, 3, 85, 4, 6, 19, 2, 68, 69], [48, 9, 6, 3, 85, 4, 6, 19, 2, 68, 69]⟩
def b07 : List Int := 48 :: 13 :: 49 :: 11 :: e77.f4
end Go.Proofs.YtkioddjjfifadaaGreatDoor.P
namespace Go.Proofs
open Go.Shelf Go.RowKit
def Tryz.laysRev_ren : Go.Shelf.Ren := ⟨fun | 17 => 89 | n => n, fun | 24 => 102 | n => n, fun | n => n⟩
theorem Tryz.laysRev : Go.Proofs.Lays2.n17 Tryz.prog Tryz.laysRev_ren := {
  mixed := by kernel_rfl
  f17 := Tryz.func89.trans (congrArg some (by kernel_rfl))
  t0 := Tryz.underlying0
  a0 := Tryz.isAgg0
  z0 := Tryz.sizeOf0
  v0 := Tryz.zeroValue0
  t3 := Tryz.underlying3
  a3 := Tryz.isAgg3
  z3 := Tryz.sizeOf3
  v3 := Tryz.zeroValue3
  t4 := Tryz.underlying4
  a4 := Tryz.isAgg4
  z4 := Tryz.sizeOf4
  v4 := Tryz.zeroValue4
  t9 := Tryz.underlying9
  a9 := Tryz.isAgg9
  z9 := Tryz.sizeOf9
  v9 := Tryz.zeroValue9
  t24 := Tryz.underlying102
  a24 := Tryz.isAgg102
  z24 := Tryz.sizeOf102
  v24 := Tryz.zeroValue102
 }
theorem Tryz.slices_Reverse_string (blk off cap : Nat) (zs : List (List UInt8)) (w : World) (hH : Go.Sort.Holds encStr w blk off zs.toArray) (hsz : zs.length ≤ 9223372036854775807) :
    Calls Tryz.prog 89 #[.slice (some ⟨blk, off, none⟩) zs.length cap] w fun e w' => e = .returned (.tuple #[]) ∧ ∃ n, w' = Go.Sort.putRow encStr (Go.Sort.ahead w n) blk off zs.reverse.toArray := Any.slices_Reverse_string Tryz.laysRev blk off cap zs w hH hsz
theorem Tryz.slices_Reverse_string_empty (a : Option Addr) (cap : Nat) (w : World) :
    Calls Tryz.prog 89 #[.slice a 0 cap] w fun e w' => e = .returned (.tuple #[]) ∧ w' = w := Any.slices_Reverse_string_empty Tryz.laysRev a cap w
end Go.Proofs
namespace Go.Proofs.YtkioddjjfifadaaGreatDoor.P
open Go.RowKit Go.Proofs.YtkioddjjfifadaaGreatDoorW.PrintWords Go.Proofs.YtkioddjjfifadaaGreatDoorW.PrintLast Go.Proofs.YtkioddjjfifadaaGreatDoorW.PrintMore
def slices_Reverse.f (xs : List ByteArray) : Option (List ByteArray) := if xs.length < 4611686018427387904 then some xs.reverse else none
theorem rev_own (w0 : World) (v : Value) (xs r : List ByteArray) (w : World) (hR : Kd.string.R 9 w w0.heap.size (fun _ => True) v xs) (h0 : Below w0.heap.size w0 w) (h : slices_Reverse.f xs = some r) :
    Calls Tryz.prog 89 #[v] w fun e w' => e = .returned (.tuple #[]) ∧ Kd.string.R 9 w' w0.heap.size (fun _ => True) v r ∧ Below w0.heap.size w0 w' := by
  unfold slices_Reverse.f at h
  split at h
  case isFalse => cases h
  case isTrue hl =>
  obtain rfl := Option.some.inj h
  have ho := Kd.own_of_R hR
  rcases ho.2 with ⟨rfl, hn⟩ | ⟨g, cap, cur, rfl, hg, hh, hnc, hcm, hsz, htk⟩
  · have hx : xs = [] := List.eq_nil_of_length_eq_zero hn
    subst hx
    refine (Tryz.slices_Reverse_string_empty none 0 w).mono ?_
    rintro e w' ⟨rfl, rfl⟩
    exact ⟨rfl, hR, h0⟩
  have hcur : ∀ j, j < xs.length → cur[j]? = some (Value.string (xs[j]!)) := fun j hj => by
    have h1 : (cur.toList.take (xs.length * 1))[j]? = (encs Value.string xs)[j]? := by rw [htk]
    rw [List.getElem?_take_of_lt (by omega)] at h1
    rw [← Array.getElem?_toList, h1]
    simp [encs, List.getElem?_eq_getElem hj, getElem!_pos xs j hj]
  have hlt : g < w.heap.size := blk_lt hh
  have hH : Go.Sort.Holds Go.Proofs.encStr w g 0 (xs.map fun b => b.data.toList).toArray := fun j hj => by
    have hj' : j < xs.length := by simpa using hj
    refine ⟨?_, blk_frozen hh _⟩
    rw [Nat.zero_add]
    refine (blk_cell hh j).trans ?_
    rw [hcur j hj']
    simp [hj']
  refine (show Calls Tryz.prog 89 #[.slice (some ⟨g, 0, none⟩) xs.length cap] w _ from ?_)
  have hc := Tryz.slices_Reverse_string g 0 cap (xs.map fun b => b.data.toList) w hH (by rw [List.length_map]; omega)
  rw [List.length_map] at hc
  refine hc.mono ?_
  rintro e w' ⟨rfl, n, rfl⟩
  generalize hss : ((xs.map fun b => b.data.toList).reverse : List (List UInt8)) = ss
  have hsl : ss.length = xs.length := by rw [← hss]; simp
  have hsb : xs.reverse = ss.map fun l => (⟨l.toArray⟩ : ByteArray) := by rw [← hss]; simp [← List.map_reverse, List.map_map, Function.comp_def]
  rw [hsb]
  have hgr : w.grownBy (Go.Sort.putRow Go.Proofs.encStr (Go.Sort.ahead w n) g 0 ss.toArray) (some g) := by
    refine ⟨rfl, rfl, rfl, ?_, fun k hk hne => ?_⟩
    rotate_left
    · show (w.heap.modify g _)[k]? = _
      rw [Array.getElem?_modify, if_neg (fun e => hne (by rw [e]))]
    rw [Go.Sort.size_putRow]
    exact Nat.le_refl _
  refine ⟨rfl, Kd.R_of_own ⟨by simp [encs], Or.inr ⟨g, cap, Go.Sort.putCells Go.Proofs.encStr 0 ss.toArray cur, by rw [List.length_map, hsl], hg, ?_, by rw [List.length_map, hsl]; exact hnc, hcm, by simp [Go.Sort.putCells]; simpa using hsz, ?_⟩⟩ (fun _ _ => trivial), pw_below_grown h0 _ h0.size hgr (fun k hk => by injection hk with hk; omega)⟩
  · show (w.heap.modify g _)[g]? = _
    rw [Array.getElem?_modify, if_pos rfl, hh]
    rfl
  rw [List.length_map, Nat.mul_one]
  apply List.ext_getElem?
  intro j
  by_cases hj : j < ss.length
  rotate_left
  · rw [List.getElem?_eq_none (by rw [List.length_take]; omega), List.getElem?_eq_none (by simp [encs]; omega)]
  rw [List.getElem?_take_of_lt hj, Array.getElem?_toList]
  have hcl : j < cur.size := by omega
  simp [Go.Sort.putCells, hcl, hj, encs]
end Go.Proofs.YtkioddjjfifadaaGreatDoor.P
namespace Go.Proofs.YtkioddjjfifadaaGreatDoor.P
open Go.RowKit Go.Proofs.YtkioddjjfifadaaGreatDoorW.PrintWords Go.Proofs.YtkioddjjfifadaaGreatDoorW.PrintLast Go.Proofs.YtkioddjjfifadaaGreatDoorW.PrintMore
attribute [local go_sem] max2_int min2_int max_two min_two max_three min_three max_four min_four   -- for this text's walks alone
set_option linter.unusedVariables false
set_option linter.unusedSimpArgs false
def chirographref07_letters.f (a0 : ByteArray) : Option (ByteArray) := if a0.toList = ([50, 46, 53, 46, 52, 46, 51] : List UInt8) then (some (⟨#[67, 78]⟩ : ByteArray)) else (if a0.toList = ([50, 46, 53, 46, 52, 46, 54] : List UInt8) then (some (⟨#[67]⟩ : ByteArray)) else (if a0.toList = ([50, 46, 53, 46, 52, 46, 55] : List UInt8) then (some (⟨#[76]⟩ : ByteArray)) else (if a0.toList = ([50, 46, 53, 46, 52, 46, 56] : List UInt8) then (some (⟨#[83, 84]⟩ : ByteArray)) else (if a0.toList = ([50, 46, 53, 46, 52, 46, 49, 48] : List UInt8) then (some (⟨#[79]⟩ : ByteArray)) else (if a0.toList = ([50, 46, 53, 46, 52, 46, 49, 49] : List UInt8) then (some (⟨#[79, 85]⟩ : ByteArray)) else (if a0.toList = ([49, 46, 50, 46, 56, 52, 48, 46, 49, 49, 51, 53, 52, 57, 46, 49, 46, 57, 46, 49] : List UInt8) then (some (⟨#[69]⟩ : ByteArray)) else (some a0)))))))
end Go.Proofs.YtkioddjjfifadaaGreatDoor.P
namespace Go.Proofs.YtkioddjjfifadaaGreatDoor.P
open Go.RowKit Go.Proofs.YtkioddjjfifadaaGreatDoorW.PrintWords Go.Proofs.YtkioddjjfifadaaGreatDoorW.PrintLast Go.Proofs.YtkioddjjfifadaaGreatDoorW.PrintMore
def letE (k v : ByteArray) (n : Nat) : MapEntry := { key := .string k, val := .agg #[.string v], born := n }
def letEs : Array MapEntry := #[letE ⟨#[50, 46, 53, 46, 52, 46, 51]⟩ ⟨#[67, 78]⟩ 0, letE ⟨#[50, 46, 53, 46, 52, 46, 54]⟩ ⟨#[67]⟩ 1, letE ⟨#[50, 46, 53, 46, 52, 46, 55]⟩ ⟨#[76]⟩ 2, letE ⟨#[50, 46, 53, 46, 52, 46, 56]⟩ ⟨#[83, 84]⟩ 3, letE ⟨#[50, 46, 53, 46, 52, 46, 49, 48]⟩ ⟨#[79]⟩ 4, letE ⟨#[50, 46, 53, 46, 52, 46, 49, 49]⟩ ⟨#[79, 85]⟩ 5, letE ⟨#[49, 46, 50, 46, 56, 52, 48, 46, 49, 49, 51, 53, 52, 57, 46, 49, 46, 57, 46, 49]⟩ ⟨#[69]⟩ 6]
def LetMap (w : World) (m : Nat) : Prop := w.heap[m]? = some (.map letEs 7)
theorem mk_run (w : World) : (Instr.makeMap 146 none).run Tryz.prog w = .ok (.map (some w.heap.size)) (w.alloc (.map #[] 0)) := rfl
theorem chk_run (b : Bool) (k : ByteArray) (w : World) : (Instr.checkKey b 10000 9 (.string k)).run Tryz.prog w = .ok () w := by
  rw [show (10000 : Nat) = 9999 + 1 from rfl]
  unfold Instr.checkKey
  simp [run_underlying Tryz.underlying9, Result.andThen]
theorem find_run {es : List MapEntry} (k : ByteArray) (r : Option (Nat × Value)) (hf : Instr.findNow .string (.string k) es 0 = some r) (w : World) : (Instr.findKey 9 (.string k) es).run Tryz.prog w = .ok r w := by
  unfold Instr.findKey
  simp [run_underlying Tryz.underlying9, hf, Result.andThen]
theorem ins_run {w : World} {m c : Nat} {es : Array MapEntry} (k : ByteArray) (v : Value) (hb : w.heap[m]? = some (.map es c)) (hf : Instr.findNow .string (.string k) es.toList 0 = some none) :
    (Instr.mapUpdate 146 (.map (some m)) (.string k) v).run Tryz.prog w = .ok () { w with heap := w.heap.setIfInBounds m (.map (es.push ⟨.string k, v, c⟩) (c + 1)) } := by
  unfold Instr.mapUpdate
  simp [run_underlying Tryz.underlying146, Go.MapKept.run_getObj_map hb, chk_run, find_run k none hf, Go.MapKept.run_setObj_map _ hb, Result.andThen]
theorem ins_ex {w : World} {m c : Nat} {es : Array MapEntry} (k : ByteArray) (v : Value) (hb : w.heap[m]? = some (.map es c)) (hf : Instr.findNow .string (.string k) es.toList 0 = some none) :
    ∃ w' : World, (Instr.mapUpdate 146 (.map (some m)) (.string k) v).run Tryz.prog w = .ok () w' ∧ w'.heap[m]? = some (.map (es.push ⟨.string k, v, c⟩) (c + 1)) ∧ (∀ B w0, B ≤ m → Below B w0 w → Below B w0 w') := by
  refine ⟨_, ins_run k v hb hf, ?_, ?_⟩
  · have hm : m < w.heap.size := by
      rcases Nat.lt_or_ge m w.heap.size with h | h
      rotate_left
      · rw [Array.getElem?_eq_none h] at hb; cases hb
      exact h
    show (w.heap.setIfInBounds m _)[m]? = _
    rw [Array.getElem?_setIfInBounds, if_pos rfl, if_pos hm]
  intro B w0 hB h
  refine ⟨h.os, h.tape, h.output, ?_, ?_⟩
  · show _ ≤ (w.heap.setIfInBounds m _).size
    rw [Array.size_setIfInBounds]
    exact h.size
  intro j hj
  show (w.heap.setIfInBounds m _)[j]? = _
  rw [Array.getElem?_setIfInBounds, if_neg (by omega)]
  exact h.block j hj
def letR : Option (Nat × Value) → Value
  | some (_, v) => v
  | none => .agg #[.string ⟨#[]⟩]
theorem look_run {w : World} {m : Nat} (k : ByteArray) (hb : LetMap w m) (r : Option (Nat × Value)) (hf : Instr.findNow .string (.string k) letEs.toList 0 = some r) :
    (Instr.lookup 146 (.map (some m)) (.string k) true).run Tryz.prog w = .ok (.tuple #[letR r, .bool r.isSome]) w := by
  have hz := Tryz.zeroValue149 w
  have he := Tryz.underlying146
  unfold Instr.lookup
  cases r with
  | none => simp [run_underlying Tryz.underlying146, Go.MapKept.run_getObj_map hb, chk_run, find_run k none hf, hz, Result.andThen, letR]
  | some q => simp [run_underlying Tryz.underlying146, Go.MapKept.run_getObj_map hb, chk_run, find_run k (some q) hf, Result.andThen, letR]
set_option maxHeartbeats 8000000 in
set_option maxRecDepth 100000 in
theorem letters_calls (w : World) : Calls Tryz.prog 86 #[] w fun e w' => ∃ m, e = .returned (.map (some m)) ∧ LetMap w' m ∧ m < w'.heap.size ∧ Below w.heap.size w w' := by
  have e0 := mk_run w
  have h0 : (w.alloc (.map #[] 0)).heap[w.heap.size]? = some (.map #[] 0) := by
    show (w.heap.push _)[w.heap.size]? = _
    rw [Array.getElem?_push_size]
  have b0 : Below w.heap.size w (w.alloc (.map #[] 0)) := below_alloc (Below.refl _ _) _
  generalize w.alloc (.map #[] 0) = W0 at e0 h0 b0
  obtain ⟨W1, e1, h1, x_⟩ := ins_ex ⟨#[50, 46, 53, 46, 52, 46, 51]⟩ (.agg #[.string ⟨#[67, 78]⟩]) h0 (by kernel_rfl)
  have b1 := x_ _ _ (Nat.le_refl _) b0
  clear x_
  obtain ⟨W2, e2, h2, x_⟩ := ins_ex ⟨#[50, 46, 53, 46, 52, 46, 54]⟩ (.agg #[.string ⟨#[67]⟩]) h1 (by kernel_rfl)
  have b2 := x_ _ _ (Nat.le_refl _) b1
  clear x_
  obtain ⟨W3, e3, h3, x_⟩ := ins_ex ⟨#[50, 46, 53, 46, 52, 46, 55]⟩ (.agg #[.string ⟨#[76]⟩]) h2 (by kernel_rfl)
  have b3 := x_ _ _ (Nat.le_refl _) b2
  clear x_
  obtain ⟨W4, e4, h4, x_⟩ := ins_ex ⟨#[50, 46, 53, 46, 52, 46, 56]⟩ (.agg #[.string ⟨#[83, 84]⟩]) h3 (by kernel_rfl)
  have b4 := x_ _ _ (Nat.le_refl _) b3
  clear x_
  obtain ⟨W5, e5, h5, x_⟩ := ins_ex ⟨#[50, 46, 53, 46, 52, 46, 49, 48]⟩ (.agg #[.string ⟨#[79]⟩]) h4 (by kernel_rfl)
  have b5 := x_ _ _ (Nat.le_refl _) b4
  clear x_
  obtain ⟨W6, e6, h6, x_⟩ := ins_ex ⟨#[50, 46, 53, 46, 52, 46, 49, 49]⟩ (.agg #[.string ⟨#[79, 85]⟩]) h5 (by kernel_rfl)
  have b6 := x_ _ _ (Nat.le_refl _) b5
  clear x_
  obtain ⟨W7, e7, h7, x_⟩ := ins_ex ⟨#[49, 46, 50, 46, 56, 52, 48, 46, 49, 49, 51, 53, 52, 57, 46, 49, 46, 57, 46, 49]⟩ (.agg #[.string ⟨#[69]⟩]) h6 (by kernel_rfl)
  have b7 := x_ _ _ (Nat.le_refl _) b6
  clear x_
  have hs : w.heap.size < W7.heap.size := by
    rcases Nat.lt_or_ge w.heap.size W7.heap.size with h | h
    rotate_left
    · rw [Array.getElem?_eq_none h] at h7; cases h7
    exact h
  have H := Aside0.mk h7
  have B := Aside0.mk b7
  clear h0 h1 h2 h3 h4 h5 h6 h7 b0 b1 b2 b3 b4 b5 b6 b7
  go_enter Tryz.func86, Tryz.ntmps86
  go_wp2
  go_ret
  exact ⟨_, rfl, H.out, hs, B.out⟩
end Go.Proofs.YtkioddjjfifadaaGreatDoor.P
set_option linter.unusedVariables false
set_option linter.unusedSimpArgs false
namespace Go.Proofs.YtkioddjjfifadaaGreatDoor.P
open Go.RowKit Go.Proofs.YtkioddjjfifadaaGreatDoorW.PrintWords Go.Proofs.YtkioddjjfifadaaGreatDoorW.PrintLast Go.Proofs.YtkioddjjfifadaaGreatDoorW.PrintMore
set_option maxHeartbeats 4000000 in
set_option maxRecDepth 100000 in
theorem show_at (w : World) (A : Option Addr) (c : Nat) (hA : Kd.C (Kd.slice 64 k64) w A 1 n07) :
    Calls Tryz.prog 43 #[.slice A 1 c] w fun e w' => e = .returned (.string ⟨#[67, 61, 68, 69]⟩) ∧ Below w.heap.size w w' := by
  have hu64 := Tryz.underlying64
  obtain ⟨ad, bd, B1, b, X, x, rfl, rfl, h0, g0, g1, g2, lb, hB1, lx, hX⟩ := n07_open hA
  have HX := Aside0.mk hX
  have hj0 : strings_Join.f [⟨#[67, 61, 68, 69]⟩] ⟨#[43]⟩ = some ⟨#[67, 61, 68, 69]⟩ := by kernel_rfl
  have hj1 : strings_Join.f [⟨#[67, 61, 68, 69]⟩] ⟨#[44]⟩ = some ⟨#[67, 61, 68, 69]⟩ := by kernel_rfl
  have hrv : slices_Reverse.f [(⟨#[67, 61, 68, 69]⟩ : ByteArray)] = some [⟨#[67, 61, 68, 69]⟩] := by kernel_rfl
  have HJ0 := Aside0.mk hj0
  have HJ1 := Aside0.mk hj1
  have HRV := Aside0.mk hrv
  clear hA hB1 hX hj0 hj1 hrv lb
  go_enter Tryz.func43, Tryz.ntmps43
  go_wp2_with fail
  refine (letters_calls _).mono ?_
  rintro e w1 ⟨m, rfl, hm, hlt, hb⟩
  have HB := Aside0.mk hb
  replace h0 := (hb.cell (World.block_lt_of_cell? w _ h0)).trans h0
  replace g0 := (hb.cell (World.block_lt_of_cell? w _ g0)).trans g0
  replace g1 := (hb.cell (World.block_lt_of_cell? w _ g1)).trans g1
  replace g2 := (hb.cell (World.block_lt_of_cell? w _ g2)).trans g2
  have HX1 := Aside0.mk (Kd.C_below HX.out hb)
  have HM := Aside0.mk hm
  have hlk : ∀ W : World, LetMap W m → (Instr.lookup 146 (.map (some m)) (.string p07.f0) true).run Tryz.prog W = .ok (.tuple #[.agg #[.string ⟨#[67]⟩], .bool true]) W := fun W h => look_run p07.f0 h (some (1, .agg #[.string ⟨#[67]⟩])) (by kernel_rfl)
  have hlk1 := hlk _ (show LetMap (w1.alloc (.cells #[.string p07.f0, .int .i64 19, .slice X 2 x] 64)) m from (below_alloc (Below.refl w1.heap.size w1) _).block m hlt |>.trans hm)
  clear hb HX hm hlk
  go_wp2_with fail
  refine wp_loop_rounds 2 ?_
  rw [rounds_succ]
  go_wp2_with fail
  refine wp_loop_rounds 2 ?_
  rw [rounds_succ]
  go_wp2_with fail
  have hb2 := below_alloc (below_alloc (Below.refl w1.heap.size w1) (.cells #[.string p07.f0, .int .i64 19, .slice X 2 x] 64)) (.cells #[.string ⟨#[67]⟩] 149)
  refine (value_at _ p07.f0 X x lx (Kd.C_below HX1.out hb2)).mono ?_
  rintro e w2 ⟨rfl, hb⟩
  have HB2 := Aside0.mk (below_step (below_step HB.out hb2) hb)
  clear hb hb2 HB HX1 hlk1 h0 g0 g1 g2 HM
  go_wp2_with ((with_reducible refine gate_builtin (b := .append) (xs := #[.tmp 37, .tmp 43]) rfl ?_); at_builtin; refine Kd.R_append Kd.string (w0 := w) w.heap.size rfl (.tmp 37) (.tmp 43) 102 9 (.string ⟨#[]⟩) 16 rfl Tryz.underlying102 info9 rfl (by decide) (by omega) (.slice none 0 0) [] (⟨#[67, 61, 68, 69]⟩ : ByteArray) [.string ⟨#[67, 61, 68, 69]⟩] (fun _ => True) (fun _ => False) rfl rfl ?aP (fun _ hk => hk.elim) ?aF ?aO ?aB ?aS ?aL ?_; (case aP => exact rfl); (case aF => exact (fun _ _ => trivial)); (case aO => exact Kd.R_nil _ _ _ _ _); (case aB => exact HB2.out); (case aS => exact (below_size HB2.out)); (case aL => decide); intro v5 w3 ho hb hgr hat; have HO := Aside0.mk ho; have HB := Aside0.mk hb; clear ho hb hgr hat HB2)
  rw [rounds_succ]
  obtain ⟨D, d, hv5⟩ := Kd.R_slice HO.out
  subst hv5
  have HC := Aside0.mk (Kd.R_reads' HO.out)
  clear HO
  go_wp2_with fail
  refine (strings_Join.calls D d [⟨#[67, 61, 68, 69]⟩] ⟨#[43]⟩ ⟨#[67, 61, 68, 69]⟩ _ HC.out.2.2 HC.out.2.1 HJ0.out).mono ?_
  rintro e w4 ⟨rfl, hb⟩
  have HB2 := Aside0.mk (below_step HB.out hb)
  clear hb HB HC HJ0
  go_wp2_with ((with_reducible refine gate_builtin (b := .append) (xs := #[.tmp 46, .tmp 49]) rfl ?_); at_builtin; refine Kd.R_append Kd.string (w0 := w) w.heap.size rfl (.tmp 46) (.tmp 49) 102 9 (.string ⟨#[]⟩) 16 rfl Tryz.underlying102 info9 rfl (by decide) (by omega) (.slice none 0 0) [] (⟨#[67, 61, 68, 69]⟩ : ByteArray) [.string ⟨#[67, 61, 68, 69]⟩] (fun _ => True) (fun _ => False) rfl rfl ?aP (fun _ hk => hk.elim) ?aF ?aO ?aB ?aS ?aL ?_; (case aP => exact rfl); (case aF => exact (fun _ _ => trivial)); (case aO => exact Kd.R_nil _ _ _ _ _); (case aB => exact HB2.out); (case aS => exact (below_size HB2.out)); (case aL => decide); intro v6 w5 ho hb hgr hat; have HO := Aside0.mk ho; have HB := Aside0.mk hb; clear ho hb hgr hat HB2)
  rw [rounds_succ]
  go_wp2_with fail
  refine (rev_own w _ [⟨#[67, 61, 68, 69]⟩] [⟨#[67, 61, 68, 69]⟩] _ HO.out HB.out HRV.out).mono ?_
  rintro e w6 ⟨rfl, ho, hb⟩
  have HB6 := Aside0.mk hb
  obtain ⟨E, f, hv6⟩ := Kd.R_slice ho
  subst hv6
  have HC := Aside0.mk (Kd.R_reads' ho)
  clear ho hb HO HB HRV
  go_wp2_with fail
  refine (strings_Join.calls E f [⟨#[67, 61, 68, 69]⟩] ⟨#[44]⟩ ⟨#[67, 61, 68, 69]⟩ _ HC.out.2.2 HC.out.2.1 HJ1.out).mono ?_
  rintro e w7 ⟨rfl, hb⟩
  have HB7 := Aside0.mk (below_step HB6.out hb)
  clear hb HB6 HC HJ1
  go_wp2_with fail
  go_ret
  exact ⟨by first | rfl | trace_state, HB7.out⟩
end Go.Proofs.YtkioddjjfifadaaGreatDoor.P
set_option linter.unusedVariables false
set_option linter.unusedSimpArgs false
namespace Go.Proofs.YtkioddjjfifadaaGreatDoor.P
open Go.RowKit Go.Proofs.YtkioddjjfifadaaGreatDoorW.PrintWords Go.Proofs.YtkioddjjfifadaaGreatDoorW.PrintLast Go.Proofs.YtkioddjjfifadaaGreatDoorW.PrintMore
set_option maxHeartbeats 4000000 in
set_option maxRecDepth 100000 in
theorem within_at (w : World) (A : Option Addr) (hA : Kd.C (Kd.slice 64 k64) w A 1 n07) (hT : Tb w) :
    Calls Tryz.prog 49 #[.slice A 1 1, .slice none 0 0] w fun e w' => e = .returned (.bool true) ∧ Below w.heap.size w w' := by
  have hsa : name_Same.f 200 [] [] = some true := by kernel_rfl
  obtain ⟨ad, B, b, rfl, hx, lb, hB⟩ := at_L5 hA 0 (Int.le_refl _) (by decide)
  have HS := Aside0.mk hsa
  have HT := Aside0.mk hT
  clear hA hsa hT lb hB hx
  go_enter Tryz.func49, Tryz.ntmps49
  go_wp2_with fail
  refine (name_Same.calls 200 (some ad) 1 [] none 0 [] true _ ⟨rfl, by decide, fun h => absurd h (by decide)⟩ (Nat.zero_le _) (Kd.C_nil _ _) (Nat.le_refl 0) HS.out HT.out).mono ?_
  rintro e w1 ⟨rfl, hb⟩
  have HB := Aside0.mk hb
  clear hb
  go_wp2_with fail
  go_ret
  exact ⟨rfl, HB.out⟩
end Go.Proofs.YtkioddjjfifadaaGreatDoor.P
set_option linter.unusedVariables false
set_option linter.unusedSimpArgs false
namespace Go.Proofs.YtkioddjjfifadaaGreatDoor.P
open Go.RowKit Go.Proofs.YtkioddjjfifadaaGreatDoorW.PrintWords Go.Proofs.YtkioddjjfifadaaGreatDoorW.PrintLast Go.Proofs.YtkioddjjfifadaaGreatDoorW.PrintMore
theorem C_de (w : World) : Kd.C (Kd.int .u8) (w.alloc (.cells #[.int .u8 68, .int .u8 69] 5 (2, 3))) (some ⟨w.heap.size, 0, none⟩) 2 [68, 69] := by
  refine Kd.C_of_reads (d := 0) ⟨rfl, by decide, fun _ => ⟨_, rfl, fun j hj => ?_⟩⟩
  rw [add_plain, cell_of_row _ _ _ _ _ _ (new_alloc _ _)]
  match j, hj with
  | 0, _ => rfl
  | 1, _ => rfl
theorem equal_07 (w : World) (A B : Option Addr) (c d : Nat) (hA : Kd.C (Kd.slice 64 k64) w A 1 n07) (hB : Kd.C (Kd.slice 64 k64) w B 1 n07) (h : chirographref01_SameBytes.f 10000 [68, 69] [68, 69] = some true) :
    Calls Tryz.prog 32 #[.slice A 1 c, .slice B 1 d] w fun e w' => e = .returned (.bool true) ∧ Below w.heap.size w w' :=
  equal_same w A B c d n07 hA hB (by decide) (fun s hs => by obtain rfl := List.mem_singleton.1 hs; exact ⟨by decide, fun p hp => by obtain rfl := List.mem_singleton.1 hp; decide⟩) (fun s hs p hp => by obtain rfl := List.mem_singleton.1 hs; obtain rfl := List.mem_singleton.1 hp; exact h)
set_option maxHeartbeats 8000000 in
set_option maxRecDepth 100000 in
theorem live_ret (w : World) (hT : Tb w) (hD : Hd w) (hpar : ∀ (w1 : World) (V : Option Addr) (v : Nat), Kd.C (Kd.int .u8) w1 V 15 b07 → 15 ≤ v → Tb w1 → Hd w1 → Calls Tryz.prog 35 #[.slice V 15 v] w1 fun e w' => ∃ X x, e = .returned (.tuple #[.slice X 1 x, .int .i64 0]) ∧ 1 ≤ x ∧ Kd.C (Kd.slice 64 k64) w' X 1 n07 ∧ Below w1.heap.size w1 w') :
    Calls Tryz.prog 33 #[] w fun e w' => e = .returned (.bool true) ∧ Below w.heap.size w w' := by
  have hu64 := Tryz.underlying64
  have hky : name_Key.f 200 n07 = some ⟨#[50, 46, 53, 46, 52, 46, 54, 61, 51, 58, 61, 100, 101, 59, 47]⟩ := by kernel_rfl
  have hbu : name_Build.f 200 n07 = some (b07, 0) := by kernel_rfl
  have hsbb : chirographref01_SameBytes.f 10000 [68, 69] [68, 69] = some true := by kernel_rfl
  have hsa : name_Same.f 200 n07 n07 = some true := by kernel_rfl
  have hnu : chirographlaw07_num.f 0 = some 0 := by kernel_rfl
  have HT := Aside0.mk hT
  have HD := Aside0.mk hD
  have A2 := Aside0.mk hky
  have A3 := Aside0.mk hbu
  have A7 := Aside0.mk hsbb
  have HPAR := Aside0.mk hpar
  have A4 := Aside0.mk hsa
  have A6 := Aside0.mk hnu
  clear hT hD hky hbu hsa hnu hsbb hpar
  have kc := fun (w : World) (C : Array Value) (n c : Nat) => Lib.run_convert_bytes_const (P := Tryz.prog) w 22 5 C n c Tryz.underlying22 Tryz.underlying5
  go_enter Tryz.func33, Tryz.ntmps33
  go_wp2_with fail
  have hs : Kd.C k64 ((w.alloc (.cells #[.int .u8 68, .int .u8 69] 5 (2, 3))).alloc (.cells #[.string ⟨#[50, 46, 53, 46, 52, 46, 54]⟩, .int .i64 19, .slice (some ⟨w.heap.size, 0, none⟩) 2 2] 64)) (some ⟨w.heap.size + 1, 0, none⟩) 1 [p07] :=
    C_row1 k64 (cs := [.string p07.f0, .int .i64 19, .slice (some ⟨w.heap.size, 0, none⟩) 2 2]) (more := []) (k64_mk _ p07 (Nat.le_refl 2) (Kd.C_alloc (C_de w) _)) ((congrArg _ (show w.heap.size + 1 = (w.alloc (.cells #[.int .u8 68, .int .u8 69] 5 (2, 3))).heap.size by show _ = (w.heap.push _).size; simp)).trans (new_alloc _ _))
  have hn : Kd.C (Kd.slice 64 k64) (((w.alloc (.cells #[.int .u8 68, .int .u8 69] 5 (2, 3))).alloc (.cells #[.string ⟨#[50, 46, 53, 46, 52, 46, 54]⟩, .int .i64 19, .slice (some ⟨w.heap.size, 0, none⟩) 2 2] 64)).alloc (.cells #[.slice (some ⟨w.heap.size + 1, 0, none⟩) 1 1] 62)) (some ⟨w.heap.size + 1 + 1, 0, none⟩) 1 n07 :=
    C_row1 (Kd.slice 64 k64) (cs := [.slice (some ⟨w.heap.size + 1, 0, none⟩) 1 1]) (more := []) ⟨_, 1, rfl, Nat.le_refl 1, Kd.C_alloc hs _⟩ ((congrArg _ (show w.heap.size + 1 + 1 = ((w.alloc (.cells #[.int .u8 68, .int .u8 69] 5 (2, 3))).alloc (.cells #[.string ⟨#[50, 46, 53, 46, 52, 46, 54]⟩, .int .i64 19, .slice (some ⟨w.heap.size, 0, none⟩) 2 2] 64)).heap.size by show _ = ((w.heap.push _).push _).size; simp)).trans (new_alloc _ _))
  have HB := Aside0.mk (below_alloc (below_alloc (below_alloc (Below.refl w.heap.size w) (.cells #[.int .u8 68, .int .u8 69] 5 (2, 3))) (.cells #[.string ⟨#[50, 46, 53, 46, 52, 46, 54]⟩, .int .i64 19, .slice (some ⟨w.heap.size, 0, none⟩) 2 2] 64)) (.cells #[.slice (some ⟨w.heap.size + 1, 0, none⟩) 1 1] 62))
  refine (name_Build.calls 200 _ 1 n07 b07 0 _ hn (Nat.le_refl 1) A3.out (Hd.below HD.out HB.out)).mono ?_
  rintro e w1 ⟨v0, rfl, ho, hb⟩
  obtain ⟨V, v, hv0⟩ := Kd.R_slice ho
  have hv0' : v0 = .slice V 15 v := hv0
  clear hv0
  subst hv0'
  have hv : 15 ≤ v := (Kd.R_reads' ho).2.1
  have HC : Aside0 (Kd.C (Kd.int .u8) w1 V 15 b07) := ⟨(Kd.R_reads' ho).2.2⟩
  have HN := Aside0.mk (Kd.C_below hn hb)
  have HB1 := Aside0.mk (below_step HB.out hb)
  clear hs hn ho hb HB kc
  go_wp2_with fail
  refine (HPAR.out _ V v HC.out hv (Tb.below HT.out HB1.out) (Hd.below HD.out HB1.out)).mono ?_
  rintro e w2 ⟨X, x, rfl, hx, hX, hb⟩
  have HX := Aside0.mk hX
  have HC2 := Aside0.mk (Kd.C_below HC.out hb)
  have HN2 := Aside0.mk (Kd.C_below HN.out hb)
  have HB2 := Aside0.mk (below_step HB1.out hb)
  clear hX hb HC HN HB1 HD HPAR
  have hlit : (strOfNums b07).toList = [48, 13, 49, 11, 48, 9, 6, 3, 85, 4, 6, 19, 2, 68, 69] := by kernel_rfl
  have hcs := fun n => Kd.C_string (P := Tryz.prog) (c := v) Tryz.underlying22 Tryz.underlying5 Tryz.underlying9 (Kd.C_drewN HC2.out n)
  go_wp2_with fail
  refine (chirographlaw07_num.calls 0 0 _ A6.out).mono ?_
  rintro e w3 ⟨rfl, ⟨n1, rfl⟩⟩
  go_wp2_with fail
  refine (chirographlaw07_num.calls 0 0 _ A6.out).mono ?_
  rintro e w3 ⟨rfl, ⟨n2, rfl⟩⟩
  go_wp2_with fail
  refine (equal_07 _ X _ x 1 (Kd.C_drewN HX.out _) (Kd.C_drewN HN2.out _) A7.out).mono ?_
  rintro e w3 ⟨rfl, hb⟩
  have HX3 := Aside0.mk (Kd.C_below (Kd.C_drewN HX.out _) hb)
  have HN3 := Aside0.mk (Kd.C_below (Kd.C_drewN HN2.out _) hb)
  have HB3 := Aside0.mk (below_step (pw_below_drewN HB2.out _) hb)
  clear hb hcs HX HN2 HB2 HC2
  go_wp2_with fail
  refine (name_Key.calls 200 _ 1 n07 _ _ HN3.out (Nat.le_refl 1) A2.out (Tb.below HT.out HB3.out)).mono ?_
  rintro e w4 ⟨rfl, hb⟩
  have HX4 := Aside0.mk (Kd.C_below HX3.out hb)
  have HN4 := Aside0.mk (Kd.C_below HN3.out hb)
  have HB4 := Aside0.mk (below_step HB3.out hb)
  clear hb HX3 HN3 HB3
  go_wp2_with fail
  refine (show_at _ _ 1 HN4.out).mono ?_
  rintro e w5 ⟨rfl, hb⟩
  have HX5 := Aside0.mk (Kd.C_below HX4.out hb)
  have HN5 := Aside0.mk (Kd.C_below HN4.out hb)
  have HB5 := Aside0.mk (below_step HB4.out hb)
  clear hb HX4 HN4 HB4
  go_wp2_with fail
  refine (name_Same.calls 200 _ 1 n07 X x n07 true _ HN5.out (Nat.le_refl 1) HX5.out hx A4.out (Tb.below HT.out HB5.out)).mono ?_
  rintro e w6 ⟨rfl, hb⟩
  have HN6 := Aside0.mk (Kd.C_below HN5.out hb)
  have HB6 := Aside0.mk (below_step HB5.out hb)
  clear hb HX5 HN5 HB5
  go_wp2_with fail
  refine (within_at _ _ HN6.out (Tb.below HT.out HB6.out)).mono ?_
  rintro e w7 ⟨rfl, hb⟩
  have HB7 := Aside0.mk (below_step HB6.out hb)
  clear hb HN6 HB6
  go_wp2_with fail
  go_ret
  exact ⟨rfl, HB7.out⟩
end Go.Proofs.YtkioddjjfifadaaGreatDoor.P
set_option linter.unusedVariables false
set_option linter.unusedSimpArgs false
namespace Go.Proofs.YtkioddjjfifadaaGreatDoor.P
open Go.RowKit Go.Proofs.YtkioddjjfifadaaGreatDoorW.PrintWords Go.Proofs.YtkioddjjfifadaaGreatDoorW.PrintLast Go.Proofs.YtkioddjjfifadaaGreatDoorW.PrintMore
theorem hs_loop (n : List (List S64)) (hn : n.length ≤ 200) (hb : ∀ s ∈ n, s.length ≤ 200 ∧ ∀ p ∈ s, p.f0.size ≤ 4611686018427387904 ∧ p.f2.length ≤ 4611686018427387904) : ∀ (k : Nat),
    (∀ (s i : Int), 0 ≤ i → 0 ≤ s → s ≤ 8192 → chirographref07_Huge.l0 k n 8192 s i = some false → s + (wN (n.drop i.toNat) : Int) ≤ 8192) ∧
    (∀ (s i j : Int), 0 ≤ i → i < (n.length : Int) → 0 ≤ j → 0 ≤ s → s ≤ 8192 → chirographref07_Huge.l1 k n 8192 s i j = some false → s + (wS ((rd_L5 n i).drop j.toNat) : Int) + (wN (n.drop (i + 1).toNat) : Int) ≤ 8192)
  | 0 => ⟨fun s i _ _ _ h => by simp [chirographref07_Huge.l0] at h, fun s i j _ _ _ _ _ h => by simp [chirographref07_Huge.l1] at h⟩
  | k + 1 => by
    obtain ⟨ih0, ih1⟩ := hs_loop n hn hb k
    refine ⟨fun s i h0 s0 s1 h => ?_, fun s i j h0 hi hj s0 s1 h => ?_⟩
    · rw [chirographref07_Huge.l0] at h
      by_cases c : i < (n.length : Int)
      · rw [if_pos c, if_pos h0] at h
        by_cases c1 : ((rd_L5 n i).length : Int) > 200
        · rw [if_pos c1] at h
          cases h
        · rw [if_neg c1] at h
          have := ih1 s i 0 h0 c (Int.le_refl _) s0 s1 h
          rw [show (0 : Int).toNat = 0 from rfl, List.drop_zero] at this
          rw [drop_L5 n i h0 c]
          have e : wN (rd_L5 n i :: n.drop (i + 1).toNat) = wS (rd_L5 n i) + wN (n.drop (i + 1).toNat) := by unfold wN; rw [List.map_cons, List.sum_cons]
          omega
      · rw [List.drop_eq_nil_of_le (by omega)]
        have e : wN [] = 0 := rfl
        omega
    · rw [chirographref07_Huge.l1, if_pos h0, if_pos hi] at h
      obtain ⟨l1, l2⟩ := hb _ (mem_L5 n i h0 hi)
      by_cases c : j < ((rd_L5 n i).length : Int)
      · obtain ⟨b0, b1⟩ := l2 _ (mem_64 (rd_L5 n i) j hj c)
        rw [if_pos c, if_pos hj, wb (n := 8192 - s) (by omega) (by omega)] at h
        by_cases c1 : (((rd_T64 (rd_L5 n i) j).f2).length : Int) > 8192 - s
        · rw [if_pos c1] at h
          cases h
        · rw [if_neg c1, wb (n := s + (((rd_T64 (rd_L5 n i) j).f2).length : Int)) (by omega) (by omega), wb (n := 8192 - (s + (((rd_T64 (rd_L5 n i) j).f2).length : Int))) (by omega) (by omega)] at h
          by_cases c2 : (((rd_T64 (rd_L5 n i) j).f0).size : Int) > 8192 - (s + (((rd_T64 (rd_L5 n i) j).f2).length : Int))
          · rw [if_pos c2] at h
            cases h
          · rw [if_neg c2, wb (n := s + (((rd_T64 (rd_L5 n i) j).f2).length : Int) + (((rd_T64 (rd_L5 n i) j).f0).size : Int)) (by omega) (by omega), wb (n := j + 1) (by omega) (by omega)] at h
            have := ih1 _ i (j + 1) h0 hi (by omega) (by omega) (by omega) h
            rw [drop_64 (rd_L5 n i) j hj c]
            have e : wS (rd_T64 (rd_L5 n i) j :: (rd_L5 n i).drop (j + 1).toNat) = wP (rd_T64 (rd_L5 n i) j) + wS ((rd_L5 n i).drop (j + 1).toNat) := by unfold wS; rw [List.map_cons, List.sum_cons]
            have e2 : wP (rd_T64 (rd_L5 n i) j) = (rd_T64 (rd_L5 n i) j).f0.size + (rd_T64 (rd_L5 n i) j).f2.length := rfl
            omega
      · rw [if_neg c, wb (n := i + 1) (by omega) (by omega)] at h
        have := ih0 s (i + 1) (by omega) s0 s1 h
        rw [List.drop_eq_nil_of_le (by omega)]
        have e : wS [] = 0 := rfl
        omega
theorem keyBytes_srt (n : List (List S64)) : keyBytes (n.map srt) = keyBytes n := by
  unfold keyBytes
  rw [List.map_map]
  congr 1
  exact List.map_congr_left fun s _ => by
    simp only [Function.comp]
    rw [markB_perm (srt_perm s)]
theorem parse_gen (w1 : World) (V : Option Addr) (v : Nat) (hC : Kd.C (Kd.int .u8) w1 V 15 b07) (hv : 15 ≤ v) (hT : Tb w1) (hD : Hd w1) : Calls Tryz.prog 35 #[.slice V 15 v] w1 fun e w' => ∃ X x, e = .returned (.tuple #[.slice X 1 x, .int .i64 0]) ∧ 1 ≤ x ∧ Kd.C (Kd.slice 64 k64) w' X 1 n07 ∧ Below w1.heap.size w1 w' := by
  have hp : name_Parse.f 200 b07 = some (n07, 0) := by kernel_rfl
  refine (name_Parse.calls 200 V v b07 n07 0 w1 hC hv hp hT hD).mono ?_
  rintro e w2 ⟨v0, rfl, ho, hb⟩
  obtain ⟨X, x, rfl⟩ := Kd.R_slice ho
  exact ⟨X, x, rfl, (Kd.R_reads' ho).2.1, (Kd.R_reads' ho).2.2, hb⟩
set_option maxHeartbeats 8000000 in
set_option maxRecDepth 100000 in
theorem NameBack_ret (A0 : Option Addr) (c0 : Nat) (l0 : List (List S64)) (w : World) (hr0 : Kd.C (Kd.slice 64 k64) w A0 l0.length l0) (hc0 : l0.length ≤ c0) (h : ∀ s ∈ l0, ∀ p ∈ s, PartOk p) (hT : Tb w) (hD : Hd w) :
    Calls Tryz.prog 9 #[.slice A0 l0.length c0] w fun e w' => e = .returned (.bool true) ∧ Below w.heap.size w w' := by
  obtain ⟨K, hK⟩ : ∃ K, K = 20000000 := ⟨_, rfl⟩
  obtain ⟨b, h1, h2⟩ := huge8_total K (by omega) l0 (fun s hs p hp => ⟨(h s hs p hp).1, (h s hs p hp).2.1⟩)
  have HR0 := Aside0.mk hr0
  have HC0 := Aside0.mk hc0
  have HT := Aside0.mk hT
  have HD := Aside0.mk hD
  have H1 := Aside0.mk h1
  have HB0 := Aside0.mk (Below.refl w.heap.size w)
  clear hr0 hc0 hT hD
  cases b with
  | true =>
    clear h1 h2 h hK
    go_enter Tryz.func9, Tryz.ntmps9
    go_wp2_with fail
    refine (chirographref07_Huge.calls K A0 c0 l0 8192 true _ HR0.out HC0.out H1.out).mono ?_
    rintro e w' ⟨rfl, ⟨nd, rfl⟩⟩
    go_wp2_with fail
    refine (live_ret _ (Tb.below HT.out (pw_below_drewN HB0.out _)) (Hd.below HD.out (pw_below_drewN HB0.out _)) parse_gen).mono ?_
    rintro e w1 ⟨rfl, hb⟩
    have HB := Aside0.mk (below_step (pw_below_drewN HB0.out _) hb)
    clear hb
    go_wp2_with fail
    go_ret
    exact ⟨rfl, HB.out⟩
  | false =>
    obtain ⟨h3, h4⟩ := h2 rfl
    have hby : ∀ s ∈ l0, ∀ p ∈ s, BytesOk p.f2 := fun s hs p hp y hy => by
      have := List.all_eq_true.1 (h s hs p hp).2.2.1 y hy
      simp only [isByte, Bool.and_eq_true, decide_eq_true_eq] at this
      exact this
    have hg : ∀ s ∈ l0, ∀ p ∈ s, NmP p := fun s hs p hp => ⟨((h4 s hs).2 p hp).1, hby s hs p hp⟩
    have hbl := buildS_len l0
    have hbu := build_eq K (by omega) l0 h3 hg
    by_cases c : (buildS l0).2 = 0
    rotate_left
    · have hnil : (buildS l0).1 = [] := by
        unfold buildS at c ⊢
        repeat' split
        all_goals first
          | rfl
          | skip
        rename_i c2 c3 c4
        rw [if_neg c2, if_neg c3, if_pos c4] at c
        rcases putS_err true 16 (setsS l0 []).1 with e | e
        rotate_left
        · rw [e]
        exact absurd e c
      obtain ⟨bb, be, hB⟩ : ∃ bb be, buildS l0 = (bb, be) := ⟨_, _, rfl⟩
      rw [hB] at hbu hnil c
      have hb0 : bb = [] := hnil
      have hce : be ≠ 0 := c
      subst hb0
      have N1 : (be == 0) = false := beq_eq_false_iff_ne.mpr hce
      have N2 : (be != 0) = true := bne_iff_ne.mpr hce
      have HBU := Aside0.mk hbu
      clear h1 h2 h hK h3 h4 hby hg hbl hbu hB c hnil hce
      go_enter Tryz.func9, Tryz.ntmps9
      go_wp2_with fail
      refine (chirographref07_Huge.calls K A0 c0 l0 8192 false _ HR0.out HC0.out H1.out).mono ?_
      rintro e w' ⟨rfl, ⟨nd, rfl⟩⟩
      have HB1 := Aside0.mk (pw_below_drewN HB0.out nd)
      clear HB0
      go_wp2_with fail
      refine (name_Build.calls K A0 c0 l0 [] be _ (Kd.C_below HR0.out HB1.out) HC0.out HBU.out (Hd.below HD.out HB1.out)).mono ?_
      rintro e w2 ⟨v, rfl, ho, hb⟩
      obtain ⟨C, c, hv⟩ := Kd.R_slice ho
      have hv' : v = .slice C 0 c := hv
      clear hv
      subst hv'
      have HB2 := Aside0.mk (below_step HB1.out hb)
      clear ho hb HB1
      go_wp2_with fail
      refine (chirographlaw07_num.calls be be _ rfl).mono ?_
      rintro e w3 ⟨rfl, ⟨n1, rfl⟩⟩
      have HB3 := Aside0.mk (pw_below_drewN HB2.out n1)
      clear HB2
      go_wp2_with fail
      refine (live_ret _ (Tb.below HT.out HB3.out) (Hd.below HD.out HB3.out) parse_gen).mono ?_
      rintro e w9 ⟨rfl, hb⟩
      have HB9 := Aside0.mk (below_step HB3.out hb)
      clear hb HB3
      go_wp2_with fail
      go_ret
      exact ⟨rfl, HB9.out⟩
    obtain ⟨g1, g2, g3, g4⟩ := buildS_el l0 hby c
    have hw : wN l0 ≤ 8192 := by
      have h5 := h1
      unfold chirographref07_Huge.f at h5
      rw [if_neg (by omega)] at h5
      have := (hs_loop l0 h3 (fun s hs => ⟨(h4 s hs).1, fun p hp => ⟨(h s hs p hp).1, (h s hs p hp).2.1⟩⟩) K).1 0 0 (Int.le_refl _) (Int.le_refl _) (by decide) h5
      rw [show (0 : Int).toNat = 0 from rfl, List.drop_zero] at this
      omega
    have hm : ∀ s ∈ l0.map srt, s.length ≤ 64 ∧ s.length ≠ 0 ∧ ∀ p ∈ s, (layS p).2 = 0 := fun s hs => by
      obtain ⟨t, ht, rfl⟩ := List.mem_map.1 hs
      obtain ⟨q0, q1, q2, _⟩ := g2 t ht
      rw [srt_len]
      exact ⟨q0, q1, fun p hp => q2 p ((srt_perm t).mem_iff.1 hp)⟩
    have hpar := read_back (l0.map srt) (by rw [List.length_map]; exact g1) hm (by rw [wN_srt]; exact hw) K (by omega)
    have hgm : ∀ s ∈ l0.map srt, ∀ p ∈ s, NmP p := fun s hs p hp => by
      obtain ⟨t, ht, rfl⟩ := List.mem_map.1 hs
      exact hg t ht p ((srt_perm t).mem_iff.1 hp)
    have hgood : ∀ s ∈ l0, s.length ≤ 200 ∧ ∀ p ∈ s, Good8 p := fun s hs => ⟨(h4 s hs).1, fun p hp => ⟨by have := ((h4 s hs).2 p hp).1; omega, by have := ((h4 s hs).2 p hp).2; omega, (h s hs p hp).2.2.1, (h s hs p hp).2.2.2.1, (h s hs p hp).2.2.2.2⟩⟩
    have hsame := same_at K (by omega) (l0.map srt) l0 (by rw [List.length_map]; exact h3) h3 (fun s hs => by
      obtain ⟨t, ht, rfl⟩ := List.mem_map.1 hs
      obtain ⟨q0, q1⟩ := hgood t ht
      rw [srt_len]
      exact ⟨q0, fun p hp => q1 p ((srt_perm t).mem_iff.1 hp)⟩) hgood (keyBytes_srt l0)
    have hbu2 := build_eq K (by omega) (l0.map srt) (by rw [List.length_map]; exact h3) hgm
    have hsb := sameb_self K (buildS l0).1 (by omega) (by omega)
    rw [← g3] at hpar
    rw [g4] at hbu2
    obtain ⟨bb, be, hB⟩ : ∃ bb be, buildS l0 = (bb, be) := ⟨_, _, rfl⟩
    rw [hB] at hbu hbu2 hsb hpar c
    have hc0 : be = 0 := c
    subst hc0
    obtain ⟨m, hmm⟩ : ∃ m, l0.map srt = m := ⟨_, rfl⟩
    have hml : m.length = l0.length := by rw [← hmm, List.length_map]
    rw [hmm] at hpar hsame hbu2
    have HBU := Aside0.mk hbu
    have HBU2 := Aside0.mk hbu2
    have HPA := Aside0.mk hpar
    have HSA := Aside0.mk hsame
    have HSB := Aside0.mk hsb
    have HML := Aside0.mk hml
    clear h1 h2 h hK h3 h4 hby hg hbl hbu hbu2 hpar hsame hsb hml g1 g2 g3 g4 hw hm hgm hgood hB hmm c
    go_enter Tryz.func9, Tryz.ntmps9
    go_wp2_with fail
    refine (chirographref07_Huge.calls K A0 c0 l0 8192 false _ HR0.out HC0.out H1.out).mono ?_
    rintro e w' ⟨rfl, ⟨nd, rfl⟩⟩
    have HB1 := Aside0.mk (pw_below_drewN HB0.out nd)
    clear HB0
    go_wp2_with fail
    refine (name_Build.calls K A0 c0 l0 bb 0 _ (Kd.C_below HR0.out HB1.out) HC0.out HBU.out (Hd.below HD.out HB1.out)).mono ?_
    rintro e w2 ⟨v, rfl, ho, hb⟩
    obtain ⟨C, c, rfl⟩ := Kd.R_slice ho
    have HV := Aside0.mk (Kd.R_reads' ho)
    have HB2 := Aside0.mk (below_step HB1.out hb)
    clear ho hb HB1
    go_wp2_with fail
    refine (chirographlaw07_num.calls 0 0 _ rfl).mono ?_
    rintro e w3 ⟨rfl, ⟨n1, rfl⟩⟩
    have HB3 := Aside0.mk (pw_below_drewN HB2.out n1)
    have HV3 := Aside0.mk (Kd.C_drewN HV.out.2.2 n1)
    have LV := Aside0.mk HV.out.2.1
    clear HB2 HV
    go_wp2_with fail
    refine (name_Parse.calls K C c bb m 0 _ HV3.out LV.out HPA.out (Tb.below HT.out HB3.out) (Hd.below HD.out HB3.out)).mono ?_
    rintro e w4 ⟨v, rfl, ho, hb⟩
    obtain ⟨D, d, rfl⟩ := Kd.R_slice ho
    have HM := Aside0.mk (Kd.R_reads' ho)
    have HV4 := Aside0.mk (Kd.C_below HV3.out hb)
    have HB4 := Aside0.mk (below_step HB3.out hb)
    clear ho hb HB3 HV3
    go_wp2_with fail
    refine (name_Build.calls K D d m bb 0 _ HM.out.2.2 HM.out.2.1 HBU2.out (Hd.below HD.out HB4.out)).mono ?_
    rintro e w5 ⟨v, rfl, ho, hb⟩
    obtain ⟨E, f, rfl⟩ := Kd.R_slice ho
    have HW := Aside0.mk (Kd.R_reads' ho)
    have HV5 := Aside0.mk (Kd.C_below HV4.out hb)
    have HM5 := Aside0.mk (Kd.C_below HM.out.2.2 hb)
    have LM := Aside0.mk HM.out.2.1
    have HB5 := Aside0.mk (below_step HB4.out hb)
    clear ho hb HB4 HV4 HM
    rw [HML.out]
    have hml2 : ((l0.length : Int) == (l0.length : Int)) = true := beq_self_eq_true _
    go_wp2_with fail
    refine (chirographlaw07_num.calls 0 0 _ rfl).mono ?_
    rintro e w6 ⟨rfl, ⟨n2, rfl⟩⟩
    go_wp2_with fail
    refine (chirographlaw07_num.calls 0 0 _ rfl).mono ?_
    rintro e w6 ⟨rfl, ⟨n3, rfl⟩⟩
    have HB6 := Aside0.mk (pw_below_drewN HB5.out (n2 + n3))
    have HM6 := Aside0.mk (Kd.C_drewN HM5.out (n2 + n3))
    have HV6 := Aside0.mk (Kd.C_drewN HV5.out (n2 + n3))
    have HW6 := Aside0.mk (Kd.C_drewN HW.out.2.2 (n2 + n3))
    have LW := Aside0.mk HW.out.2.1
    clear HB5 HM5 HV5 HW
    go_wp2_with fail
    have hs := name_Same.calls K D d m A0 c0 l0 true _ HM6.out LM.out (Kd.C_below HR0.out HB6.out) HC0.out HSA.out (Tb.below HT.out HB6.out)
    rw [HML.out] at hs
    refine hs.mono ?_
    rintro e w7 ⟨rfl, hb⟩
    have HB7 := Aside0.mk (below_step HB6.out hb)
    have HV7 := Aside0.mk (Kd.C_below HV6.out hb)
    have HW7 := Aside0.mk (Kd.C_below HW6.out hb)
    clear hs hb HB6 HV6 HW6 HM6
    go_wp2_with fail
    refine (chirographref01_SameBytes.calls K E f bb C c bb true _ HW7.out LW.out HV7.out LV.out HSB.out).mono ?_
    rintro e w8 ⟨rfl, ⟨n4, rfl⟩⟩
    have HB8 := Aside0.mk (pw_below_drewN HB7.out n4)
    clear HB7 HV7 HW7
    go_wp2_with fail
    refine (live_ret _ (Tb.below HT.out HB8.out) (Hd.below HD.out HB8.out) parse_gen).mono ?_
    rintro e w9 ⟨rfl, hb⟩
    have HB9 := Aside0.mk (below_step HB8.out hb)
    clear hb HB8
    go_wp2_with fail
    go_ret
    exact ⟨rfl, HB9.out⟩
end Go.Proofs.YtkioddjjfifadaaGreatDoor.P
namespace Go.Proofs.YtkioddjjfifadaaGreatDoor.P
open Go.Deep Go.RowKit Go.ChangeShapes Go.WideShapes Go.WideElems Go.Proofs.YtkioddjjfifadaaGreatDoorW.PrintWords
def Opens {α : Type} (P : Program) (d : Kd α) (t : TypeId) (Q : α → Prop) : Prop :=
  ∀ (H : Type) (enc : TypeId × Value → H) (w : World) (base : Nat) (spare : Nat → Bool) (held : Bool) (fuel : Nat) (cs : List Value) (x : DataW H × List MemPlace),
    DataW.trod enc P w base spare held fuel t cs = some x → ∃ v, d.K w v cs ∧ Q v
variable {P : Program}
theorem opens_int {t : TypeId} {k : IntKind} (ht : P.underlying t = some (.int k)) : Opens P (Kd.int k) t (fun n => (Lit.int k n).wf = true) := by
  intro H enc w base spare held fuel cs x h
  obtain ⟨n, rfl, _, hw⟩ := DataW.trod_int ht h
  exact ⟨n, rfl, hw⟩
theorem addr_add_add (a : Addr) (m n : Nat) : (a.add m).add n = a.add (m + n) := by
  unfold Addr.add
  by_cases hm : m = 0
  · simp [hm]
  by_cases hn : n = 0
  rotate_left
  · simp [hm, hn, Nat.add_assoc]
  simp [hn]
section
variable {H : Type} {enc : TypeId × Value → H} {w : World} {base : Nat} {spare : Nat → Bool} {held : Bool}
theorem trodAll_stays (hl : laidOutB P = true) {W W' : World} (hb : Below W.heap.size W W') : ∀ {ts : List TypeId} {vs : List Value} {ds : List (DataW H)} {ps : List MemPlace}, (ts.all fun t => P.readableRec t && decide (t < P.types.size)) = true →
    DataW.TrodAll enc P W 0 (fun _ => true) true ts vs ds ps → (∀ x ∈ ps, x.block < W.heap.size) → DataW.TrodAll enc P W' 0 (fun b => decide (b < W.heap.size)) true ts vs ds ps
  | [], _, _, _, _, h, _ => by
    obtain ⟨rfl, rfl, rfl⟩ := trodAll_nil h
    rfl
  | t :: ts, _, _, _, ht, h, hlt => by
    obtain ⟨v, vs1, d, ds1, a, b, rfl, rfl, rfl, h1, h2⟩ := trodAll_cons h
    rw [List.all_cons, Bool.and_eq_true, Bool.and_eq_true] at ht
    exact ⟨a, b, Below.trod hl ht.1.1 (of_decide_eq_true ht.1.2) h1 hb (fun x hx => hlt x (List.mem_append_left _ hx)), trodAll_stays hl hb ht.2 h2 (fun x hx => hlt x (List.mem_append_right _ hx)), rfl⟩
end
end Go.Proofs.YtkioddjjfifadaaGreatDoor.P
namespace Go.Proofs.YtkioddjjfifadaaGreatDoor
def laidL : List (String × DataW Unit) := [("math/bits.deBruijn32tab", Rows.laid_math_bits_deBruijn32tab), ("math/bits.deBruijn64tab", Rows.laid_math_bits_deBruijn64tab), ("internal/strconv.uint64pow10", Rows.laid_internal_strconv_uint64pow10), ("unicode/utf8.acceptRanges", Rows.laid_unicode_utf8_acceptRanges), ("errors.errorType", Rows.laid_errors_errorType), ("unicode/utf8.first", Rows.laid_unicode_utf8_first)]
def laidD : List (String × DataW Unit) := [("math/bits.deBruijn32tab", Rows.laid_math_bits_deBruijn32tab), ("math/bits.deBruijn64tab", Rows.laid_math_bits_deBruijn64tab), ("internal/strconv.uint64pow10", Rows.laid_internal_strconv_uint64pow10), ("unicode/utf8.acceptRanges", Rows.laid_unicode_utf8_acceptRanges), ("unicode/utf8.first", Rows.laid_unicode_utf8_first)]
noncomputable def laidW0 (os : Os) : World :=
  let w0 := World.holding Tryz.prog os ⟨#[], #[], []⟩
  { w0 with heap := w0.heap.modify 0 fun
      | .cells _ t frozen => .cells #[.iface 336 (.agg #[.pointer (some ⟨7, 132, none⟩)])] t frozen
      | o => o }
noncomputable def laidWorld (os : Os) : World := (laidW0 os).layVars Tryz.prog laidD
theorem own : ownKnob Tryz.prog.godebug = none := by kernel_rfl
theorem laidL_parts : (laidL.filter fun x => x.2.handleName?.isNone) = laidD := rfl
theorem laidD_all : (laidD.filter fun x => (laidD.map (·.1)).contains x.1) = laidD := by
  exact List.filter_eq_self.2 fun x hx => List.contains_iff_mem.2 (List.mem_map.2 ⟨x, hx, rfl⟩)
theorem laidD_none : (laidD.filter fun x => !(laidD.map (·.1)).contains x.1) = [] :=
  List.filter_eq_nil_iff.2 fun x hx => by rw [List.contains_iff_mem.2 (List.mem_map.2 ⟨x, hx, rfl⟩)]; simp
set_option maxRecDepth 100000 in
theorem laidWorld_met (os : Os) (args : Array Value) : laidMetH Tryz.prog laidL ((laidWorld os).forCall (fun _ _ => 0) ⟨#[], args, []⟩).memory := by
  have hd : laidMet Tryz.prog laidD ((laidWorld os).forCall (fun _ _ => 0) ⟨#[], args, []⟩).memory := by
    refine laidMet_layVars (w0 := laidW0 os) (laidD.map (·.1)) [] ?_ ?_ ?_ ?_
    · rw [laidD_all]; rfl
    · rw [laidD_all]; kernel_rfl
    rotate_left
    · rw [laidD_none]; exact LaidIn.none
    rw [laidD_all]; kernel_rfl
  exact laidMetH_of_parts (laidL_parts ▸ hd) (by kernel_rfl)
theorem laidWorld_os (os : Os) : (laidWorld os).os = os := (World.layVars_os _ _ _).trans rfl
end Go.Proofs.YtkioddjjfifadaaGreatDoor
namespace Go.Proofs.YtkioddjjfifadaaGreatDoor.P
open Go.Deep Go.RowKit Go.ChangeShapes Go.WideShapes Go.WideElems Go.Proofs.YtkioddjjfifadaaGreatDoorW.PrintWords
def OpensW {α : Type} (P : Program) (d : Kd α) (t : TypeId) (Q : α → Prop) : Prop :=
  ∀ (H : Type) (enc : TypeId × Value → H) (w : World) (base : Nat) (spare : Nat → Bool) (held : Bool) (fuel : Nat) (cs : List Value) (x : DataW H × List MemPlace),
    DataW.trod enc P w base spare held fuel t cs = some x → (∀ n ∈ x.1.weights P t, n ≤ reachBytes) → ∃ v, d.K w v cs ∧ Q v
variable {P : Program}
theorem Opens.toW {α : Type} {d : Kd α} {t : TypeId} {Q : α → Prop} (h : Opens P d t Q) : OpensW P d t Q := fun H enc w base spare held fuel cs x hx _ => h H enc w base spare held fuel cs x hx
theorem opensW_string {t : TypeId} (ht : P.underlying t = some .string) : OpensW P Kd.string t (fun s => s.size ≤ reachBytes) := by
  intro H enc w base spare held fuel cs x h hw
  obtain ⟨n, rfl, rfl, hs⟩ := DataW.trod_string ht h
  refine ⟨n, rfl, hw _ ?_⟩
  simp [DataW.weights]
theorem weightsAll_mem {H : Type} {e : TypeId} {n : Nat} : ∀ {l : List (DataW H)} {d : DataW H}, d ∈ l → n ∈ d.weights P e → n ∈ DataW.weightsAll P e l
  | [], _, h, _ => by cases h
  | a :: l, d, h, hn => by
    unfold DataW.weightsAll
    rcases List.mem_cons.1 h with rfl | h
    · exact List.mem_append_left _ hn
    · exact List.mem_append_right _ (weightsAll_mem h hn)
theorem weightsEach_mem {H : Type} {n : Nat} : ∀ {ts : List TypeId} {ds : List (DataW H)} (i : Nat) {t : TypeId} {d : DataW H}, ts[i]? = some t → ds[i]? = some d → n ∈ d.weights P t → n ∈ DataW.weightsEach P ts ds
  | [], _, i, _, _, h, _, _ => by simp at h
  | _ :: _, [], i, _, _, _, h, _ => by simp at h
  | t :: ts, d :: ds, 0, t', d', h1, h2, hn => by
    obtain rfl : t = t' := by simpa using h1
    obtain rfl : d = d' := by simpa using h2
    unfold DataW.weightsEach
    exact List.mem_append_left _ hn
  | t :: ts, d :: ds, i + 1, t', d', h1, h2, hn => by
    unfold DataW.weightsEach
    exact List.mem_append_right _ (weightsEach_mem i (by simpa using h1) (by simpa using h2) hn)
theorem opensW_slice {α : Type} {d : Kd α} {t e : TypeId} {Q : α → Prop} (ht : P.underlying t = some (.slice e)) (hc : P.cellsOf e = d.sz) (hd : OpensW P d e Q) :
    OpensW P (Kd.slice e d) t (fun xs => xs.length * P.bytesOf e ≤ reachBytes ∧ ∀ x ∈ xs, Q x) := by
  intro H enc w base spare held fuel cs x h hw
  rcases open_slice ht h with ⟨rfl, _⟩ | ⟨a, len, cap, m, n, D, Pl, rfl, hb, hl, hm, hmm, rfl, hx⟩
  · exact ⟨[], ⟨none, 0, rfl, Nat.le_refl _, ⟨rfl, by simp, fun h => absurd h (Nat.lt_irrefl 0)⟩⟩, by simp, fun _ h => by cases h⟩
  have hlm : len ≤ m := by rw [hmm]; split <;> omega
  unfold DataW.weights at hw
  rw [ht] at hw
  simp only [List.mem_cons, List.mem_append] at hw
  have hw0 : len * P.bytesOf e ≤ reachBytes := by
    have := hw _ (Or.inl rfl)
    simp only [List.length_map, List.length_range] at this
    exact Nat.le_trans (Nat.mul_le_mul_right _ (by omega)) this
  have hwj : ∀ j, j < len → ∀ n ∈ (D j).weights P e, n ≤ reachBytes := fun j hj n hn =>
    hw n (Or.inr (Or.inl (weightsAll_mem (List.mem_map.2 ⟨j, List.mem_range.2 hj, rfl⟩) hn)))
  have key : ∀ k, k ≤ len → ∃ xs : List α, xs.length = k ∧ (∀ y ∈ xs, Q y) ∧ ∀ j p, xs[j]? = some p → ∃ c, c.length = d.sz ∧ d.K w p c ∧ ∀ i u, c[i]? = some u → w.cell? (a.add (j * d.sz + i)) = some u := by
    intro k
    induction k with
    | zero => exact fun _ => ⟨[], rfl, (fun _ h => by cases h), (fun j p h => by simp at h)⟩
    | succ k ih =>
      intro hk
      obtain ⟨xs, hxl, hxq, hxr⟩ := ih (by omega)
      obtain ⟨cs', h1, h2⟩ := hx k (by omega)
      obtain ⟨y, hy, hQ⟩ := hd H enc w base spare held n cs' _ h2 (hwj k (by omega))
      obtain ⟨_, hlen, hcell⟩ := World.cells?_some h1
      refine ⟨xs ++ [y], by simp [hxl], ?_, ?_⟩
      · intro z hz
        rcases List.mem_append.1 hz with hz | hz
        rotate_left
        · rw [List.mem_singleton.1 hz]; exact hQ
        exact hxq z hz
      intro j p hp
      by_cases hj : j < k
      · rw [List.getElem?_append_left (by omega)] at hp
        exact hxr j p hp
      have hjk : j = k := by
        have := (List.getElem?_eq_some_iff.1 hp).1
        simp [hxl] at this
        omega
      subst hjk
      rw [List.getElem?_append_right (by omega), hxl, Nat.sub_self] at hp
      obtain rfl : y = p := by simpa using hp
      refine ⟨cs', by rw [hlen, hc], hy, fun i u hi => ?_⟩
      have hi' : i < P.cellsOf e := by have := (List.getElem?_eq_some_iff.1 hi).1; omega
      have := hcell i hi'
      rw [hi, hc] at this
      rw [← this, addr_add_add]
  obtain ⟨xs, hxl, hxq, hxr⟩ := key len (Nat.le_refl _)
  have hmax : maxLen ≤ 9223372036854775807 := by decide
  refine ⟨xs, ⟨some a, cap, by rw [hxl], by omega, hxl ▸ rfl, by omega, fun _ => ⟨a, rfl, hxr⟩⟩, by rw [hxl]; exact hw0, hxq⟩
def OpensFW {α : Type} (P : Program) (d : Kd α) (fs : List Field) (o : Nat) (Q : α → Prop) : Prop :=
  ∀ (H : Type) (enc : TypeId × Value → H) (w : World) (base : Nat) (spare : Nat → Bool) (held : Bool) (fuel : Nat) (cs : List Value), cs.length = o + d.sz →
    (∀ (i : Nat) (f : Field), fs[i]? = some f → ∃ y, DataW.trod enc P w base spare held fuel f.type ((cs.drop f.offset).take (P.cellsOf f.type)) = some y ∧ ∀ n ∈ y.1.weights P f.type, n ≤ reachBytes) → ∃ v, d.K w v (cs.drop o) ∧ Q v
theorem opensFW_one {α : Type} {d : Kd α} {f : Field} {o : Nat} {Q : α → Prop} (ho : f.offset = o) (hc : P.cellsOf f.type = d.sz) (hd : OpensW P d f.type Q) : OpensFW P d [f] o Q := by
  intro H enc w base spare held fuel cs hl hf
  obtain ⟨y, hy, hw⟩ := hf 0 f rfl
  rw [ho, hc, List.take_of_length_le (by simp [hl])] at hy
  exact hd H enc w base spare held fuel _ _ hy hw
theorem opensFW_cons {α β : Type} {d1 : Kd α} {d2 : Kd β} {f : Field} {fs : List Field} {o : Nat} {Q1 : α → Prop} {Q2 : β → Prop} (ho : f.offset = o) (hc : P.cellsOf f.type = d1.sz) (hd : OpensW P d1 f.type Q1) (hr : OpensFW P d2 fs (o + d1.sz) Q2) :
    OpensFW P (Kd.pair d1 d2) (f :: fs) o (fun x => Q1 x.1 ∧ Q2 x.2) := by
  intro H enc w base spare held fuel cs hl hf
  obtain ⟨y, hy, hw⟩ := hf 0 f rfl
  rw [ho, hc] at hy
  obtain ⟨a, ha, hQ1⟩ := hd H enc w base spare held fuel _ _ hy hw
  obtain ⟨b, hb, hQ2⟩ := hr H enc w base spare held fuel cs (by rw [hl]; simp [Kd.pair]; omega) (fun i g hg => hf (i + 1) g (by simpa using hg))
  refine ⟨(a, b), ⟨_, _, ?_, ha, hb⟩, hQ1, hQ2⟩
  rw [← List.drop_drop, List.take_append_drop]
theorem opensW_struct {α : Type} {d : Kd α} {t : TypeId} {fs : Array Field} {Q : α → Prop} (ht : P.underlying t = some (.struct fs)) (hc : P.cellsOf t = d.sz) (hf : OpensFW P d fs.toList 0 Q) : OpensW P d t Q := by
  intro H enc w base spare held fuel cs x h hw
  obtain ⟨xs, n, _, rfl, hl, hlen, hg⟩ := DataW.trod_struct ht h
  unfold DataW.weights at hw
  rw [ht] at hw
  obtain ⟨v, hv, hQ⟩ := hf H enc w base spare held n cs (by rw [hl, hc, Nat.zero_add]) (fun i f hi => by
    have hi' : fs[i]? = some f := by simpa using hi
    have hlt := (Array.getElem?_eq_some_iff.1 hi').1
    refine ⟨xs[i]'(by omega), by rw [hg i f hi']; simp, fun m hm => hw m (weightsEach_mem i (t := f.type) (d := (xs[i]'(by omega)).1) ?_ ?_ hm)⟩
    · simp [hi']
    · have : i < xs.length := by omega
      simp [List.getElem?_eq_getElem this])
  exact ⟨v, by simpa using hv, hQ⟩
theorem opensW_iso {α β : Type} {d : Kd α} {t : TypeId} {Q : α → Prop} (g : β → α) (inv : α → β) (hg : ∀ a, g (inv a) = a) (h : OpensW P d t Q) : OpensW P (Kd.iso d g) t (fun x => Q (g x)) := by
  intro H enc w base spare held fuel cs x hx hw
  obtain ⟨v, hv, hQ⟩ := h H enc w base spare held fuel cs x hx hw
  exact ⟨inv v, by show d.K w (g (inv v)) cs; rw [hg]; exact hv, by show Q (g (inv v)); rw [hg]; exact hQ⟩
section
variable {H : Type} {enc : TypeId × Value → H} {w : World} {base : Nat} {spare : Nat → Bool} {held : Bool}
theorem open_slice_argW {α : Type} {d : Kd α} {t e : TypeId} {Q : List α → Prop} {r : Reach} {b0 : Nat} {v : Value} {x : DataW H} {ps : List MemPlace} (ho : OpensW P (Kd.slice e d) t Q) (ht : P.underlying t = some (.slice e)) (hval : Value.okWide P w r b0 t v)
    (hd : DataW.Trod enc P w base spare held t v x ps) (hw : ∀ n ∈ x.weights P t, n ≤ reachBytes) : ∃ A c ys, v = .slice A (ys : List α).length c ∧ ys.length ≤ c ∧ d.C w A ys.length ys ∧ Q ys := by
  obtain ⟨a, n, c, rfl⟩ := okWide_slice ht hval
  obtain ⟨fuel, hf⟩ := hd
  obtain ⟨ys, ⟨A, c', he, hl, hc⟩, hQ⟩ := ho H enc w base spare held fuel _ _ hf hw
  refine ⟨A, c', ys, ?_, hl, hc, hQ⟩
  simpa [Value.cells] using he
end
end Go.Proofs.YtkioddjjfifadaaGreatDoor.P
namespace Go.Proofs.YtkioddjjfifadaaGreatDoor.P
open Go.Proofs.YtkioddjjfifadaaGreatDoor
theorem lh_et : Tryz.prog.globalNamed "errors.errorType" = some 0 := by kernel_rfl
theorem lh_rt : (Tryz.prog.cutTypes.find? (·.1 == "internal/reflectlite.rtype")).map (·.2) = some 336 := by kernel_rfl
theorem lh_one : ((List.range 458).filter fun t => Tryz.prog.rowNamed t [101, 114, 114, 111, 114]) = [132] := by kernel_rfl
theorem lh_size : Tryz.prog.types.size = 458 := by kernel_rfl
theorem lh_parts {W : World} (h : laidMetH Tryz.prog laidL W) : laidMet Tryz.prog laidD W ∧ handlesMet Tryz.prog [("errors.errorType", Rows.laid_errors_errorType)] W := h
theorem hd_of_laid {W : World} (h : laidMetH Tryz.prog laidL W) : Hd W := by
  obtain ⟨name, u, ty, e1, e2, e3, e4, e5⟩ := (lh_parts h).2 _ (List.mem_singleton.2 rfl)
  have en : name = [101, 114, 114, 111, 114] := (Option.some.inj e1).symm
  subst en
  obtain rfl := Option.some.inj (lh_rt.symm.trans e2)
  have hm : ty ∈ (List.range 458).filter fun t => Tryz.prog.rowNamed t [101, 114, 114, 111, 114] := List.mem_filter.2 ⟨List.mem_range.2 (by rw [← lh_size]; exact e3), e4⟩
  rw [lh_one] at hm
  obtain rfl := List.mem_singleton.1 hm
  have hh : typeHandle Tryz.prog 132 = .pointer (some ⟨7, 132, none⟩) := by kernel_rfl
  rw [hh] at e5
  have := World.var?_cell lh_et e5 0
  simpa using this
end Go.Proofs.YtkioddjjfifadaaGreatDoor.P
namespace Go.Proofs.YtkioddjjfifadaaGreatDoor.P
open Go.Proofs.YtkioddjjfifadaaGreatDoor Go.Lib
theorem u8extra : U8Extra Tryz.prog Tryz.lays197_ren := {
  n3 := by kernel_rfl
  n4 := by kernel_rfl
  y3 := by kernel_rfl
  y4 := by kernel_rfl
  c5 := by kernel_rfl
  c119 := by kernel_rfl
  c138 := by kernel_rfl }
theorem first_eq : (Rows.laid_unicode_utf8_first : DataW Unit) = firstData := by kernel_rfl
theorem accept_eq : (Rows.laid_unicode_utf8_acceptRanges : DataW Unit) = acceptData := by kernel_rfl
theorem pow_eq : (Rows.laid_internal_strconv_uint64pow10 : DataW Unit) = tabData .u64 pow10Tab := by kernel_rfl
theorem tb_of_laid {W : World} (h : laidMetH Tryz.prog laidL W) : Tb W := by
  have hd := (lh_parts h).1
  have h1 : VarReads Tryz.prog W "unicode/utf8.first" firstData := by
    rw [← first_eq]
    exact laidMet.reads hd (by unfold laidD; simp)
  have h2 : VarReads Tryz.prog W "unicode/utf8.acceptRanges" acceptData := by
    rw [← accept_eq]
    exact laidMet.reads hd (by unfold laidD; simp)
  have h3 : laidMet Tryz.prog (("internal/strconv.uint64pow10", tabData .u64 pow10Tab) :: [("unicode/utf8.acceptRanges", Rows.laid_unicode_utf8_acceptRanges), ("unicode/utf8.first", Rows.laid_unicode_utf8_first)]) W := by
    rw [← pow_eq]
    exact laidMet.tail (laidMet.tail hd)
  have hu : Utf8Tabs 2 3 W := utf8Tabs_of_reads (ρ := Tryz.lays197_ren) { Tryz.lays197 with } u8extra h1 h2
  refine ⟨tabIs_of_head (g := 4) (t := 419) (e := 278) (n := 20) (by kernel_rfl) (by kernel_rfl) (by kernel_rfl) (by kernel_rfl) (by kernel_rfl) (by kernel_rfl) h3, hu, ?_⟩
  obtain ⟨g, t, cs, fuel, p, hg, _, hv, _⟩ := laidMet.reads (n := "math/bits.deBruijn64tab") (d := Rows.laid_math_bits_deBruijn64tab) hd (by unfold laidD; simp)
  unfold World.var? at hv
  rw [show Tryz.prog.globalNamed "math/bits.deBruijn64tab" = some 6 by kernel_rfl, Option.bind_some] at hv
  rcases Nat.lt_or_ge 6 W.heap.size with h6 | h6
  · exact h6
  rw [Array.getElem?_eq_none h6] at hv
  cases hv
end Go.Proofs.YtkioddjjfifadaaGreatDoor.P
namespace Go.Proofs.YtkioddjjfifadaaGreatDoor.P
open Go.Deep Go.RowKit Go.ChangeShapes Go.WideShapes Go.WideElems Go.Proofs.YtkioddjjfifadaaGreatDoorW.PrintWords
abbrev QB (x : List Int) : Prop := x.length * Tryz.prog.bytesOf 5 ≤ reachBytes ∧ ∀ y ∈ x, (Lit.int .u8 y).wf = true
abbrev Q64W (x : S64) : Prop := x.f0.size ≤ reachBytes ∧ (Lit.int .i64 x.f1).wf = true ∧ QB x.f2
abbrev QNm (n : List (List S64)) : Prop := n.length * Tryz.prog.bytesOf 62 ≤ reachBytes ∧ ∀ s ∈ n, s.length * Tryz.prog.bytesOf 64 ≤ reachBytes ∧ ∀ p ∈ s, Q64W p
theorem o_bytesW {t : TypeId} (ht : Tryz.prog.underlying t = some (.slice 5)) : OpensW Tryz.prog (Kd.slice 5 (Kd.int .u8)) t QB := opensW_slice ht (by kernel_rfl) (opens_int (by kernel_rfl)).toW
theorem o_64W : OpensW Tryz.prog k64 64 Q64W :=
  opensW_iso (fun x : S64 => (x.f0, x.f1, x.f2)) (fun p => ⟨p.1, p.2.1, p.2.2⟩) (fun _ => rfl) (opensW_struct Tryz.underlying64 (by kernel_rfl)
    (opensFW_cons rfl (by kernel_rfl) (opensW_string (by kernel_rfl)) (opensFW_cons rfl (by kernel_rfl) (opens_int (by kernel_rfl)).toW (opensFW_one rfl (by kernel_rfl) (o_bytesW (by kernel_rfl))))))
theorem o_nameW {t : TypeId} (ht : Tryz.prog.underlying t = some (.slice 62)) : OpensW Tryz.prog (Kd.slice 62 (Kd.slice 64 k64)) t QNm := opensW_slice ht (by kernel_rfl) (opensW_slice (by kernel_rfl) (by kernel_rfl) o_64W)
theorem bytes5' : Tryz.prog.bytesOf 5 = 1 := by kernel_rfl
theorem wf_u8 {x : Int} (h : (Lit.int .u8 x).wf = true) : 0 ≤ x ∧ x ≤ 255 := by simpa [Lit.wf, IntKind.min, IntKind.max, IntKind.signed, IntKind.bits] using h
theorem wf_i64 {x : Int} (h : (Lit.int .i64 x).wf = true) : -9223372036854775808 ≤ x ∧ x ≤ 9223372036854775807 := by simpa [Lit.wf, IntKind.min, IntKind.max, IntKind.signed, IntKind.bits] using h
theorem part_ok {x : S64} (h : Q64W x) : PartOk x := by
  obtain ⟨h0, h1, h2, h3⟩ := h
  rw [bytes5', Nat.mul_one] at h2
  have hr : reachBytes = 140737488351232 := by decide
  rw [hr] at h0 h2
  refine ⟨by omega, by omega, List.all_eq_true.2 fun y hy => ?_, wf_i64 h1⟩
  have := wf_u8 (h3 y hy)
  simp only [isByte, Bool.and_eq_true, decide_eq_true_eq]
  exact this
end Go.Proofs.YtkioddjjfifadaaGreatDoor.P
