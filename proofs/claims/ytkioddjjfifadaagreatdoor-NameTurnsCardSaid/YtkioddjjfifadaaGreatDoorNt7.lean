/- What the proof of NameTurns needs of: Pxf215, G0, Pxf162, Pxf95, Pxf28, Pxf134, Pxf74, Pxf20, Pxf21, Pxf75, Pxf59, Pxf53. -/
import Derived.Lib.SliceRun
import Derived.Test.YtkioddjjfifadaaGreatDoorNt2
import Derived.Test.YtkioddjjfifadaaGreatDoorNt6
namespace Go.Proofs.YtkioddjjfifadaaGreatDoor.P
open Go.RowKit Go.Proofs.YtkioddjjfifadaaGreatDoorW.PrintWords Go.Proofs.YtkioddjjfifadaaGreatDoorW.PrintLast Go.Proofs.YtkioddjjfifadaaGreatDoorW.PrintMore
attribute [local go_sem] max2_int min2_int max_two min_two max_three min_three max_four min_four
set_option linter.unusedVariables false
set_option linter.unusedSimpArgs false
mutual
def der_length.j0 : Nat → List Int → Int → Int → Int → Bool → Option (Int × Int × Int × Int)
  | 0, _, _, _, _, _ => none
  | k + 1, x0, x1, x5, x8, x32 => if x32 = true then (some (0, 0, 31, x1)) else (if x8 > (wrap64 ((x0.length : Int) - x5)) then (some (0, 0, 2, (x0.length : Int))) else (if 0 ≤ x5 then (if x5 ≤ (wrap64 (x5 + x8)) then (if (wrap64 (x5 + x8)) ≤ (x0.length : Int) then ((some ((x0.take ((wrap64 (x5 + x8)) : Int).toNat).drop (x5 : Int).toNat : List Int)).bind fun y117 => (der_length.l0 k x0 x1 0 x5 x8 y117 (y117.length : Int) 0)) else (none)) else (none)) else (none)))
def der_length.l0 : Nat → List Int → Int → Int → Int → Int → List Int → Int → Int → Option (Int × Int × Int × Int)
  | 0, _, _, _, _, _, _, _, _ => none
  | k + 1, x0, x1, x4, x5, x8, x47, x48, x49 => if x49 < x48 then (if 0 ≤ x49 then (if x49 < (x47.length : Int) then (der_length.l0 k x0 x1 (mn (Go.bits .or .i64 (wrap64 (x4 * 256)) (wrap64 (rd x47 x49))) 16777217) x5 x8 x47 x48 (wrap64 (x49 + 1))) else (none)) else (none)) else (if 0 ≤ x5 then (if x5 < (x0.length : Int) then (if (rd x0 x5) = 0 then (der_length.j2 k x0 x1 x4 x5 x8 true) else (der_length.j2 k x0 x1 x4 x5 x8 (decide (x4 < 128)))) else (none)) else (none))
def der_length.j2 : Nat → List Int → Int → Int → Int → Int → Bool → Option (Int × Int × Int × Int)
  | 0, _, _, _, _, _, _ => none
  | k + 1, x0, x1, x4, x5, x8, x68 => if x68 = true then (some (0, 0, 31, x1)) else (if x4 > (wrap64 ((x0.length : Int) - (wrap64 (x5 + x8)))) then (some (0, 0, 31, x1)) else (some (x4, wrap64 (x5 + x8), 0, 0)))
end
def der_length.f (k : Nat) (l0 : List Int) (a1 : Int) : Option (Int × Int × Int × Int) := if a1 = (l0.length : Int) then (some (0, 0, 2, a1)) else (if 0 ≤ a1 then (if a1 < (l0.length : Int) then (if (wrap64 (rd l0 a1)) ≥ 128 then (if (Go.bits .and .i64 (wrap64 (rd l0 a1)) 127) = 0 then (der_length.j0 k l0 a1 (wrap64 (a1 + 1)) (Go.bits .and .i64 (wrap64 (rd l0 a1)) 127) true) else (der_length.j0 k l0 a1 (wrap64 (a1 + 1)) (Go.bits .and .i64 (wrap64 (rd l0 a1)) 127) ((Go.bits .and .i64 (wrap64 (rd l0 a1)) 127) == 127))) else (if (wrap64 (rd l0 a1)) > (wrap64 ((l0.length : Int) - (wrap64 (a1 + 1)))) then (some (0, 0, 31, a1)) else (some (wrap64 (rd l0 a1), wrap64 (a1 + 1), 0, 0)))) else (none)) else (none))
set_option maxHeartbeats 8000000 in
set_option maxRecDepth 100000 in
theorem der_length.calls (k : Nat) (A0 : Option Addr) (c0 : Nat) (l0 : List Int) (a1 : Int) (r1 : Int) (r2 : Int) (r3 : Int) (r4 : Int) (w : World) (hr0 : Kd.C (Kd.int .u8) w A0 l0.length l0) (hc0 : l0.length ≤ c0) (h : der_length.f k l0 a1 = some (r1, r2, r3, r4)) :
    Calls Tryz.prog 215 #[.slice A0 l0.length c0, .int .i64 a1] w fun e w' => e = .returned (.tuple #[.int .i64 r1, .int .i64 r2, .int .i64 r3, .int .i64 r4]) ∧ Below w.heap.size w w' := by
  have HR0 := Aside0.mk hr0
  have HC0 := Aside0.mk hc0
  clear hr0 hc0
  have HB := Aside0.mk (Below.refl w.heap.size w)
  have H : (if a1 = (l0.length : Int) then (some (0, 0, 2, a1)) else (if 0 ≤ a1 then (if a1 < (l0.length : Int) then (if (wrap64 (rd l0 a1)) ≥ 128 then (if (Go.bits .and .i64 (wrap64 (rd l0 a1)) 127) = 0 then (der_length.j0 k l0 a1 (wrap64 (a1 + 1)) (Go.bits .and .i64 (wrap64 (rd l0 a1)) 127) true) else (der_length.j0 k l0 a1 (wrap64 (a1 + 1)) (Go.bits .and .i64 (wrap64 (rd l0 a1)) 127) ((Go.bits .and .i64 (wrap64 (rd l0 a1)) 127) == 127))) else (if (wrap64 (rd l0 a1)) > (wrap64 ((l0.length : Int) - (wrap64 (a1 + 1)))) then (some (0, 0, 31, a1)) else (some (wrap64 (rd l0 a1), wrap64 (a1 + 1), 0, 0)))) else (none)) else (none))) = some (r1, r2, r3, r4) := h
  clear h
  by_cases c3 : a1 = (l0.length : Int)
  · rw [if_pos c3] at H
    have c3b0 : (a1 == (l0.length : Int)) = true := beq_iff_eq.mpr c3
    have c3b1 : (a1 != (l0.length : Int)) = false := bne_eq_false_iff_eq.mpr c3
    clear c3
    simp only [Option.some.injEq, Prod.mk.injEq] at H
    obtain ⟨rfl, rfl, rfl, rfl⟩ := H
    go_enter Tryz.func215, Tryz.ntmps215
    go_wp2
    refine bodyPost_ret (results_list (rs := [.tmp 4, .tmp 5, .tmp 6, .tmp 7]) rfl (by simp) (.tmp (.tmp (.tmp (.tmp .nil))))) rfl ?_
    exact ⟨by first | rfl | (simp [errW_none, errW_some] <;> rfl), bU HB.out⟩
  rw [if_neg c3] at H
  have c3b0 : (a1 == (l0.length : Int)) = false := beq_eq_false_iff_ne.mpr c3
  have c3b1 : (a1 != (l0.length : Int)) = true := bne_iff_ne.mpr c3
  by_cases c4 : 0 ≤ a1
  rotate_left
  · rw [if_neg c4] at H
    exact absurd H (by simp)
  rw [if_pos c4] at H
  have c4b0 : decide (0 ≤ a1) = true := decide_eq_true c4
  clear c4
  by_cases c5 : a1 < (l0.length : Int)
  rotate_left
  · rw [if_neg c5] at H
    exact absurd H (by simp)
  rw [if_pos c5] at H
  have c5b0 : decide (a1 < (l0.length : Int)) = true := decide_eq_true c5
  clear c5
  by_cases c6 : (wrap64 (rd l0 a1)) ≥ 128
  rotate_left
  · rw [if_neg c6] at H
    have c6b0 : decide (128 ≤ (wrap64 (rd l0 a1))) = false := decide_eq_false c6
    clear c6
    by_cases c25 : (wrap64 (rd l0 a1)) > (wrap64 ((l0.length : Int) - (wrap64 (a1 + 1))))
    rotate_left
    · rw [if_neg c25] at H
      have c25b0 : decide ((wrap64 ((l0.length : Int) - (wrap64 (a1 + 1)))) < (wrap64 (rd l0 a1))) = false := decide_eq_false c25
      clear c25
      simp only [Option.some.injEq, Prod.mk.injEq] at H
      obtain ⟨rfl, rfl, rfl, rfl⟩ := H
      have p116 : 0 ≤ (a1 : Int) := of_decide_eq_true (by first | (with_reducible assumption) | assumption)
      have q116 : a1 < (l0.length : Int) := of_decide_eq_true (by first | (with_reducible assumption) | assumption)
      obtain ⟨ad116, e116, hx116_0⟩ := Kd.at_int HR0.out a1 p116 q116
      cases e116
      replace p116 := eq_true p116
      replace q116 := eq_true q116
      go_enter Tryz.func215, Tryz.ntmps215
      go_wp2
      refine bodyPost_ret (results_list (rs := [.tmp 4, .tmp 5, .tmp 6, .tmp 7]) rfl (by simp) (.tmp (.tmp (.tmp (.tmp .nil))))) rfl ?_
      exact ⟨by first | rfl | (simp [errW_none, errW_some] <;> rfl), bU HB.out⟩
    rw [if_pos c25] at H
    have c25b0 : decide ((wrap64 ((l0.length : Int) - (wrap64 (a1 + 1)))) < (wrap64 (rd l0 a1))) = true := decide_eq_true c25
    clear c25
    simp only [Option.some.injEq, Prod.mk.injEq] at H
    obtain ⟨rfl, rfl, rfl, rfl⟩ := H
    have p116 : 0 ≤ (a1 : Int) := of_decide_eq_true (by first | (with_reducible assumption) | assumption)
    have q116 : a1 < (l0.length : Int) := of_decide_eq_true (by first | (with_reducible assumption) | assumption)
    obtain ⟨ad116, e116, hx116_0⟩ := Kd.at_int HR0.out a1 p116 q116
    cases e116
    replace p116 := eq_true p116
    replace q116 := eq_true q116
    go_enter Tryz.func215, Tryz.ntmps215
    go_wp2
    refine bodyPost_ret (results_list (rs := [.tmp 4, .tmp 5, .tmp 6, .tmp 7]) rfl (by simp) (.tmp (.tmp (.tmp (.tmp .nil))))) rfl ?_
    exact ⟨by first | rfl | (simp [errW_none, errW_some] <;> rfl), bU HB.out⟩
  rw [if_pos c6] at H
  have c6b0 : decide (128 ≤ (wrap64 (rd l0 a1))) = true := decide_eq_true c6
  clear c6
  have HC7 := Aside0.mk H
  clear H
  have p116 : 0 ≤ (a1 : Int) := of_decide_eq_true (by first | (with_reducible assumption) | assumption)
  have q116 : a1 < (l0.length : Int) := of_decide_eq_true (by first | (with_reducible assumption) | assumption)
  obtain ⟨ad116, e116, hx116_0⟩ := Kd.at_int HR0.out a1 p116 q116
  cases e116
  replace p116 := eq_true p116
  replace q116 := eq_true q116
  go_enter Tryz.func215, Tryz.ntmps215
  go_upto_region 6 with (fail)
  go_cut [32] (fun v32 wc => ∃ (kq : Nat) (x32_6 : Bool), v32 = .bool x32_6 ∧ Aside0 (der_length.j0 kq l0 a1 (wrap64 (a1 + 1)) (Go.bits .and .i64 (wrap64 (rd l0 a1)) 127) x32_6 = some (r1, r2, r3, r4)) ∧ Aside0 (kq ≤ k) ∧ Aside0 (Below w.heap.size w wc))
  case first =>
    have H := HC7.out
    clear HC7
    by_cases c8 : (Go.bits .and .i64 (wrap64 (rd l0 a1)) 127) = 0
    rotate_left
    · rw [if_neg c8] at H
      have c8b0 : ((Go.bits .and .i64 (wrap64 (rd l0 a1)) 127) == 0) = false := beq_eq_false_iff_ne.mpr c8
      have c8b1 : ((Go.bits .and .i64 (wrap64 (rd l0 a1)) 127) != 0) = true := bne_iff_ne.mpr c8
      (first | rw [c8b0] | (simp only [i64_w, i32_w]; rw [c8b0]) | skip)
      have H' := Aside0.mk H
      clear H
      go_wp2
      go_meet
      case rel => exact ⟨_, (((Go.bits .and .i64 (wrap64 (rd l0 a1)) 127) == 127)), (by first | rfl | (simp; done) | (simp [*]; done)), H', ⟨by first | omega | exact Nat.le_refl _⟩, ⟨bU HB.out⟩⟩
    rw [if_pos c8] at H
    have c8b0 : ((Go.bits .and .i64 (wrap64 (rd l0 a1)) 127) == 0) = true := beq_iff_eq.mpr c8
    have c8b1 : ((Go.bits .and .i64 (wrap64 (rd l0 a1)) 127) != 0) = false := bne_eq_false_iff_eq.mpr c8
    clear c8
    (first | rw [c8b0] | (simp only [i64_w, i32_w]; rw [c8b0]) | skip)
    have H' := Aside0.mk H
    clear H
    go_wp2
    go_meet
    case rel => exact ⟨_, (true), (by first | rfl | (simp; done) | (simp [*]; done)), H', ⟨by first | omega | exact Nat.le_refl _⟩, ⟨bU HB.out⟩⟩
  clear HC7
  try clear p1
  try clear q1
  try clear hx1
  try clear c2
  try clear p2
  try clear c3
  try clear c3b0
  try clear c3b1
  try clear c4
  try clear c4b0
  try clear c5
  try clear c5b0
  try clear c6
  try clear c6b0
  try clear p6
  try clear c8
  try clear c8b0
  try clear c8b1
  try clear hx116_0
  try clear p116
  try clear q116
  obtain ⟨kq, x32_6, rfl, HA, HJ6, HB⟩ := hcut
  cases kq with
  | zero => exact absurd HA.out (by simp [der_length.j0])
  | succ kj6 =>
    have H := HA.out
    clear HA
    simp only [der_length.j0] at H
    by_cases c9 : x32_6 = true
    · subst c9
      have H1 : (some (0, 0, 31, a1)) = some (r1, r2, r3, r4) := by rw [if_pos rfl] at H; exact H
      clear H
      have H := H1
      clear H1
      simp only [Option.some.injEq, Prod.mk.injEq] at H
      obtain ⟨rfl, rfl, rfl, rfl⟩ := H
      go_wp2
      refine bodyPost_ret (results_list (rs := [.tmp 4, .tmp 5, .tmp 6, .tmp 7]) rfl (by simp) (.tmp (.tmp (.tmp (.tmp .nil))))) rfl ?_
      exact ⟨by first | rfl | (simp [errW_none, errW_some] <;> rfl), bU HB.out⟩
    replace c9 := Bool.eq_false_iff.mpr c9
    subst c9
    have H1 : (if (Go.bits .and .i64 (wrap64 (rd l0 a1)) 127) > (wrap64 ((l0.length : Int) - (wrap64 (a1 + 1)))) then (some (0, 0, 2, (l0.length : Int))) else (if 0 ≤ (wrap64 (a1 + 1)) then (if (wrap64 (a1 + 1)) ≤ (wrap64 ((wrap64 (a1 + 1)) + (Go.bits .and .i64 (wrap64 (rd l0 a1)) 127))) then (if (wrap64 ((wrap64 (a1 + 1)) + (Go.bits .and .i64 (wrap64 (rd l0 a1)) 127))) ≤ (l0.length : Int) then ((some ((l0.take ((wrap64 ((wrap64 (a1 + 1)) + (Go.bits .and .i64 (wrap64 (rd l0 a1)) 127))) : Int).toNat).drop ((wrap64 (a1 + 1)) : Int).toNat : List Int)).bind fun y117 => (der_length.l0 kj6 l0 a1 0 (wrap64 (a1 + 1)) (Go.bits .and .i64 (wrap64 (rd l0 a1)) 127) y117 (y117.length : Int) 0)) else (none)) else (none)) else (none))) = some (r1, r2, r3, r4) := by rw [if_neg (show ¬ (false = true) by decide)] at H; exact H
    clear H
    have H := H1
    clear H1
    by_cases c10 : (Go.bits .and .i64 (wrap64 (rd l0 a1)) 127) > (wrap64 ((l0.length : Int) - (wrap64 (a1 + 1))))
    · rw [if_pos c10] at H
      have c10b0 : decide ((wrap64 ((l0.length : Int) - (wrap64 (a1 + 1)))) < (Go.bits .and .i64 (wrap64 (rd l0 a1)) 127)) = true := decide_eq_true c10
      clear c10
      simp only [Option.some.injEq, Prod.mk.injEq] at H
      obtain ⟨rfl, rfl, rfl, rfl⟩ := H
      go_wp2
      refine bodyPost_ret (results_list (rs := [.tmp 4, .tmp 5, .tmp 6, .tmp 7]) rfl (by simp) (.tmp (.tmp (.tmp (.tmp .nil))))) rfl ?_
      exact ⟨by first | rfl | (simp [errW_none, errW_some] <;> rfl), bU HB.out⟩
    rw [if_neg c10] at H
    have c10b0 : decide ((wrap64 ((l0.length : Int) - (wrap64 (a1 + 1)))) < (Go.bits .and .i64 (wrap64 (rd l0 a1)) 127)) = false := decide_eq_false c10
    clear c10
    by_cases c11 : 0 ≤ (wrap64 (a1 + 1))
    rotate_left
    · rw [if_neg c11] at H
      exact absurd H (by simp)
    rw [if_pos c11] at H
    have c11b0 := eq_true c11
    have c11b1 : decide (0 ≤ (wrap64 (a1 + 1))) = true := decide_eq_true c11
    by_cases c12 : (wrap64 (a1 + 1)) ≤ (wrap64 ((wrap64 (a1 + 1)) + (Go.bits .and .i64 (wrap64 (rd l0 a1)) 127)))
    rotate_left
    · rw [if_neg c12] at H
      exact absurd H (by simp)
    rw [if_pos c12] at H
    have c12b0 := eq_true c12
    have c12b1 : decide ((wrap64 (a1 + 1)) ≤ (wrap64 ((wrap64 (a1 + 1)) + (Go.bits .and .i64 (wrap64 (rd l0 a1)) 127)))) = true := decide_eq_true c12
    by_cases c13 : (wrap64 ((wrap64 (a1 + 1)) + (Go.bits .and .i64 (wrap64 (rd l0 a1)) 127))) ≤ (l0.length : Int)
    rotate_left
    · rw [if_neg c13] at H
      exact absurd H (by simp)
    rw [if_pos c13] at H
    have c13b0 := eq_true c13
    have c13b1 : decide ((wrap64 ((wrap64 (a1 + 1)) + (Go.bits .and .i64 (wrap64 (rd l0 a1)) 127))) ≤ (l0.length : Int)) = true := decide_eq_true c13
    obtain ⟨y117, hy117⟩ : ∃ y_ : List Int, y_ = ((l0.take ((wrap64 ((wrap64 (a1 + 1)) + (Go.bits .and .i64 (wrap64 (rd l0 a1)) 127))) : Int).toNat).drop ((wrap64 (a1 + 1)) : Int).toNat) := ⟨_, rfl⟩
    replace H : (der_length.l0 kj6 l0 a1 0 (wrap64 (a1 + 1)) (Go.bits .and .i64 (wrap64 (rd l0 a1)) 127) y117 (y117.length : Int) 0) = some (r1, r2, r3, r4) := by first | (rw [hy117]; with_reducible exact H) | (have H2_ := (Option.bind_some _ _).symm.trans H; rw [hy117]; with_reducible exact H2_) | (have H2_ := (Option.bind_some _ _).symm.trans H; with_reducible exact H2_) | with_reducible exact H | (rw [hy117]; exact H) | exact H
    have Ny117 := Aside0.mk hy117
    clear hy117
    have H' := Aside0.mk H
    clear H
    have q14 : ((wrap64 ((wrap64 (a1 + 1)) + (Go.bits .and .i64 (wrap64 (rd l0 a1)) 127))) : Int) ≤ ((l0.length : Int) : Int) := of_decide_eq_true (by first | (with_reducible assumption) | assumption)
    obtain ⟨i014, hi014, _, hsz14, _⟩ := info_parts info5
    have hroom14 : l0.length ≤ c0 := HC0.out
    have hC14 : Kd.C (Kd.int .u8) _ (some ad116) l0.length l0 := HR0.out
    have ql14 : ((wrap64 (a1 + 1)) : Int) ≤ ((wrap64 ((wrap64 (a1 + 1)) + (Go.bits .and .i64 (wrap64 (rd l0 a1)) 127))) : Int) := of_decide_eq_true (by first | (with_reducible assumption) | assumption)
    have q014 : (0 : Int) ≤ ((wrap64 (a1 + 1)) : Int) := of_decide_eq_true (by first | (with_reducible assumption) | assumption)
    have hcut14 := cut_mid (P := Tryz.prog) 22 5 .i64 .i64 Tryz.underlying22 hi014 1 hsz14 (some ad116) l0.length c0 (wrap64 (a1 + 1)) (wrap64 ((wrap64 (a1 + 1)) + (Go.bits .and .i64 (wrap64 (rd l0 a1)) 127))) q014 ql14 q14 hroom14
    have hr14 := Kd.C_mid (lo := ((wrap64 (a1 + 1)) : Int).toNat) (hi := ((wrap64 ((wrap64 (a1 + 1)) + (Go.bits .and .i64 (wrap64 (rd l0 a1)) 127))) : Int).toNat) (c := c0) hC14 (by omega) (by omega) hroom14
    obtain ⟨A14, hA14⟩ : ∃ A1, A1 = (if c0 = ((wrap64 (a1 + 1)) : Int).toNat then (some ad116) else ((some ad116) : Option Addr).map (·.add (((wrap64 (a1 + 1)) : Int).toNat * 1))) := ⟨_, rfl⟩
    obtain ⟨c14, hc14⟩ : ∃ c1, c1 = c0 - ((wrap64 (a1 + 1)) : Int).toNat := ⟨_, rfl⟩
    have hy14 : y117.length = ((wrap64 ((wrap64 (a1 + 1)) + (Go.bits .and .i64 (wrap64 (rd l0 a1)) 127))) : Int).toNat - ((wrap64 (a1 + 1)) : Int).toNat := (by rw [Ny117.out, List.length_drop, List.length_take] <;> omega)
    rw [show ((l0).take ((wrap64 ((wrap64 (a1 + 1)) + (Go.bits .and .i64 (wrap64 (rd l0 a1)) 127))) : Int).toNat).drop ((wrap64 (a1 + 1)) : Int).toNat = y117 from Ny117.out.symm] at hr14
    replace hr14 : Kd.C (Kd.int .u8) _ A14 y117.length y117 := (by rw [hA14]; exact hr14)
    rw [← hy14, ← hA14, ← hc14] at hcut14
    have HR120 := Aside0.mk hr14
    have HC120 := Aside0.mk (show y117.length ≤ c14 from by rw [hy14, hc14]; exact Nat.sub_le_sub_right (Nat.le_trans (by omega) hroom14) _)
    clear hr14 hC14 hroom14 hi014 hsz14 hc14
    have KY14 := Aside0.mk hy14
    have KA14 := Aside0.mk hA14
    clear hy14 hA14
    replace q14 := eq_true q14
    go_wp2
    go_loopg [4, 49] kj6 (fun kq v4 v49 w' => ∃ (x4_2 : Int) (x49_2 : Int), v4 = .int .i64 x4_2 ∧ v49 = .int .i64 x49_2 ∧ Aside0 (der_length.l0 kq l0 a1 x4_2 (wrap64 (a1 + 1)) (Go.bits .and .i64 (wrap64 (rd l0 a1)) 127) y117 (y117.length : Int) x49_2 = some (r1, r2, r3, r4)) ∧ Aside0 (kq ≤ kj6) ∧ Aside0 (Below w.heap.size w w'))
    case atStart => exact ⟨(0), (0), (by first | rfl | (simp; done) | (simp [*]; done)), (by first | rfl | (simp; done) | (simp [*]; done)), H', ⟨Nat.le_refl _⟩, ⟨bU HB.out⟩⟩
    case round =>
      clear H'
      try clear c1
      try clear p1
      try clear q1
      try clear hx1
      try clear c2
      try clear p2
      try clear c3
      try clear c3b0
      try clear c3b1
      try clear c4
      try clear c4b0
      try clear c5
      try clear c5b0
      try clear c6
      try clear c6b0
      try clear p6
      try clear c8
      try clear c8b0
      try clear c8b1
      try clear c9
      try clear c10
      try clear c10b0
      try clear c11
      try clear c11b0
      try clear c11b1
      try clear p11
      try clear q11
      try clear hx11
      try clear c12
      try clear c12b0
      try clear c12b1
      try clear c13
      try clear c13b0
      try clear c13b1
      try clear c14
      try clear q14
      try clear hx116_0
      try clear p1
      try clear p116
      try clear p2
      try clear p6
      try clear q014
      try clear q1
      try clear q116
      try clear q14
      obtain ⟨x4_2, x49_2, rfl, rfl, HA, HK2, HB⟩ := hrel
      cases gk with
      | zero => exact absurd HA.out (by simp [der_length.l0])
      | succ k2 =>
        have H := HA.out
        clear HA
        simp only [der_length.l0] at H
        by_cases c15 : x49_2 < (y117.length : Int)
        · rw [if_pos c15] at H
          have c15b0 : decide (x49_2 < (y117.length : Int)) = true := decide_eq_true c15
          clear c15
          by_cases c16 : 0 ≤ x49_2
          rotate_left
          · rw [if_neg c16] at H
            exact absurd H (by simp)
          rw [if_pos c16] at H
          have c16b0 : decide (0 ≤ x49_2) = true := decide_eq_true c16
          clear c16
          by_cases c17 : x49_2 < (y117.length : Int)
          rotate_left
          · rw [if_neg c17] at H
            exact absurd H (by simp)
          rw [if_pos c17] at H
          have c17b0 : decide (x49_2 < (y117.length : Int)) = true := decide_eq_true c17
          clear c17
          obtain ⟨ji18, hji18⟩ : ∃ j_ : Int, (mn (Go.bits .or .i64 (wrap64 (x4_2 * 256)) (wrap64 (rd y117 x49_2))) 16777217) = j_ := ⟨_, rfl⟩
          replace H : (der_length.l0 k2 l0 a1 ji18 (wrap64 (a1 + 1)) (Go.bits .and .i64 (wrap64 (rd l0 a1)) 127) y117 (y117.length : Int) (wrap64 (x49_2 + 1))) = some (r1, r2, r3, r4) := by first | (rw [hji18] at H; exact H) | (simp only [hji18] at H ⊢; exact H)
          have hji18_ : (if 16777217 < (Go.bits .or .i64 (wrap64 (x4_2 * 256)) (wrap64 (rd y117 x49_2))) then 16777217 else (Go.bits .or .i64 (wrap64 (x4_2 * 256)) (wrap64 (rd y117 x49_2)))) = ji18 := hji18
          have H' := Aside0.mk H
          clear H
          have p121 : 0 ≤ (x49_2 : Int) := of_decide_eq_true (by first | (with_reducible assumption) | assumption)
          have q121 : x49_2 < (y117.length : Int) := of_decide_eq_true (by first | (with_reducible assumption) | assumption)
          obtain ⟨ad121, e121, hx121_0⟩ := Kd.at_int HR120.out x49_2 p121 q121
          cases e121
          replace hx121_0 := (HB.out.cell (World.block_lt_of_cell? w _ hx121_0)).trans hx121_0
          replace p121 := eq_true p121
          replace q121 := eq_true q121
          go_wp2
          go_roundg k2
          case measure => have := HJ6.out; have := HK2.out; omega
          case rel => exact ⟨(ji18), (wrap64 (x49_2 + 1)), (by first | rfl | (simp; done) | (simp only [← hji18] <;> (first | rfl | simp)) | (simp [*]; done)), (by first | rfl | (simp; done) | (simp [*]; done)), H', ⟨by have := HJ6.out; have := HK2.out; omega⟩, ⟨bU HB.out⟩⟩
        rw [if_neg c15] at H
        have c15b0 : decide (x49_2 < (y117.length : Int)) = false := decide_eq_false c15
        clear c15
        have HC19 := Aside0.mk H
        clear H
        go_upto_region 16 with (fail)
        go_cut [68] (fun v68 wc => ∃ (kq : Nat) (x68_18 : Bool), v68 = .bool x68_18 ∧ Aside0 (der_length.j2 kq l0 a1 x4_2 (wrap64 (a1 + 1)) (Go.bits .and .i64 (wrap64 (rd l0 a1)) 127) x68_18 = some (r1, r2, r3, r4)) ∧ Aside0 (kq ≤ k2) ∧ Aside0 (Below w.heap.size w wc))
        case first =>
          have H := HC19.out
          clear HC19
          by_cases c20 : 0 ≤ (wrap64 (a1 + 1))
          rotate_left
          · rw [if_neg c20] at H
            exact absurd H (by simp)
          rw [if_pos c20] at H
          have c20b0 : decide (0 ≤ (wrap64 (a1 + 1))) = true := decide_eq_true c20
          clear c20
          (first | rw [c20b0] | (simp only [i64_w, i32_w]; rw [c20b0]) | skip)
          by_cases c21 : (wrap64 (a1 + 1)) < (l0.length : Int)
          rotate_left
          · rw [if_neg c21] at H
            exact absurd H (by simp)
          rw [if_pos c21] at H
          have c21b0 : decide ((wrap64 (a1 + 1)) < (l0.length : Int)) = true := decide_eq_true c21
          clear c21
          by_cases c22 : (rd l0 (wrap64 (a1 + 1))) = 0
          rotate_left
          · rw [if_neg c22] at H
            have c22b0 : ((rd l0 (wrap64 (a1 + 1))) == 0) = false := beq_eq_false_iff_ne.mpr c22
            have c22b1 : ((rd l0 (wrap64 (a1 + 1))) != 0) = true := bne_iff_ne.mpr c22
            have H' := Aside0.mk H
            clear H
            have p122 : 0 ≤ ((wrap64 (a1 + 1)) : Int) := of_decide_eq_true (by first | (with_reducible assumption) | assumption)
            have q122 : (wrap64 (a1 + 1)) < (l0.length : Int) := of_decide_eq_true (by first | (with_reducible assumption) | assumption)
            obtain ⟨ad122, e122, hx122_0⟩ := Kd.at_int HR0.out (wrap64 (a1 + 1)) p122 q122
            obtain rfl : ad116 = ad122 := (by injection e122)
            replace hx122_0 := (HB.out.cell (World.block_lt_of_cell? w _ hx122_0)).trans hx122_0
            replace p122 := eq_true p122
            replace q122 := eq_true q122
            go_wp2
            go_meet
            case rel => exact ⟨_, (decide (x4_2 < 128)), (by first | rfl | (simp; done) | (simp [*]; done)), H', ⟨by have := HJ6.out; have := HK2.out; first | omega | exact Nat.le_refl _⟩, ⟨bU HB.out⟩⟩
          rw [if_pos c22] at H
          have c22b0 : ((rd l0 (wrap64 (a1 + 1))) == 0) = true := beq_iff_eq.mpr c22
          have c22b1 : ((rd l0 (wrap64 (a1 + 1))) != 0) = false := bne_eq_false_iff_eq.mpr c22
          clear c22
          have H' := Aside0.mk H
          clear H
          have p122 : 0 ≤ ((wrap64 (a1 + 1)) : Int) := of_decide_eq_true (by first | (with_reducible assumption) | assumption)
          have q122 : (wrap64 (a1 + 1)) < (l0.length : Int) := of_decide_eq_true (by first | (with_reducible assumption) | assumption)
          obtain ⟨ad122, e122, hx122_0⟩ := Kd.at_int HR0.out (wrap64 (a1 + 1)) p122 q122
          obtain rfl : ad116 = ad122 := (by injection e122)
          replace hx122_0 := (HB.out.cell (World.block_lt_of_cell? w _ hx122_0)).trans hx122_0
          replace p122 := eq_true p122
          replace q122 := eq_true q122
          go_wp2
          go_meet
          case rel => exact ⟨_, (true), (by first | rfl | (simp; done) | (simp [*]; done)), H', ⟨by have := HJ6.out; have := HK2.out; first | omega | exact Nat.le_refl _⟩, ⟨bU HB.out⟩⟩
        clear HC19
        try clear c1
        try clear p1
        try clear q1
        try clear hx1
        try clear c2
        try clear p2
        try clear c3
        try clear c3b0
        try clear c3b1
        try clear c4
        try clear c4b0
        try clear c5
        try clear c5b0
        try clear c6
        try clear c6b0
        try clear p6
        try clear c8
        try clear c8b0
        try clear c8b1
        try clear c9
        try clear c10
        try clear c10b0
        try clear c11
        try clear c11b0
        try clear c11b1
        try clear p11
        try clear q11
        try clear hx11
        try clear c12
        try clear c12b0
        try clear c12b1
        try clear p12
        try clear q12
        try clear hx12
        try clear c13
        try clear c13b0
        try clear c13b1
        try clear c14
        try clear q14
        try clear c15
        try clear c15b0
        try clear c16
        try clear c16b0
        try clear c17
        try clear c17b0
        try clear c20
        try clear c20b0
        try clear c21
        try clear c21b0
        try clear c22
        try clear c22b0
        try clear c22b1
        try clear hx116_0
        try clear hx121_0
        try clear hx122_0
        try clear p1
        try clear p11
        try clear p116
        try clear p121
        try clear p122
        try clear p2
        try clear p6
        try clear q014
        try clear q1
        try clear q11
        try clear q116
        try clear q121
        try clear q122
        try clear q14
        obtain ⟨kq, x68_18, rfl, HA, HJ18, HB⟩ := hcut
        cases kq with
        | zero => exact absurd HA.out (by simp [der_length.j2])
        | succ kj18 =>
          have H := HA.out
          clear HA
          simp only [der_length.j2] at H
          by_cases c23 : x68_18 = true
          · subst c23
            have H1 : (some (0, 0, 31, a1)) = some (r1, r2, r3, r4) := by rw [if_pos rfl] at H; exact H
            clear H
            have H := H1
            clear H1
            simp only [Option.some.injEq, Prod.mk.injEq] at H
            obtain ⟨rfl, rfl, rfl, rfl⟩ := H
            go_wp2
            refine bodyPost_ret (results_list (rs := [.tmp 4, .tmp 5, .tmp 6, .tmp 7]) rfl (by simp) (.tmp (.tmp (.tmp (.tmp .nil))))) rfl ?_
            exact ⟨by first | rfl | (simp [errW_none, errW_some] <;> rfl), bU HB.out⟩
          replace c23 := Bool.eq_false_iff.mpr c23
          subst c23
          have H1 : (if x4_2 > (wrap64 ((l0.length : Int) - (wrap64 ((wrap64 (a1 + 1)) + (Go.bits .and .i64 (wrap64 (rd l0 a1)) 127))))) then (some (0, 0, 31, a1)) else (some (x4_2, wrap64 ((wrap64 (a1 + 1)) + (Go.bits .and .i64 (wrap64 (rd l0 a1)) 127)), 0, 0))) = some (r1, r2, r3, r4) := by rw [if_neg (show ¬ (false = true) by decide)] at H; exact H
          clear H
          have H := H1
          clear H1
          by_cases c24 : x4_2 > (wrap64 ((l0.length : Int) - (wrap64 ((wrap64 (a1 + 1)) + (Go.bits .and .i64 (wrap64 (rd l0 a1)) 127)))))
          rotate_left
          · rw [if_neg c24] at H
            have c24b0 : decide ((wrap64 ((l0.length : Int) - (wrap64 ((wrap64 (a1 + 1)) + (Go.bits .and .i64 (wrap64 (rd l0 a1)) 127))))) < x4_2) = false := decide_eq_false c24
            clear c24
            simp only [Option.some.injEq, Prod.mk.injEq] at H
            obtain ⟨rfl, rfl, rfl, rfl⟩ := H
            go_wp2
            refine bodyPost_ret (results_list (rs := [.tmp 4, .tmp 5, .tmp 6, .tmp 7]) rfl (by simp) (.tmp (.tmp (.tmp (.tmp .nil))))) rfl ?_
            exact ⟨by first | rfl | (simp [errW_none, errW_some] <;> rfl), bU HB.out⟩
          rw [if_pos c24] at H
          have c24b0 : decide ((wrap64 ((l0.length : Int) - (wrap64 ((wrap64 (a1 + 1)) + (Go.bits .and .i64 (wrap64 (rd l0 a1)) 127))))) < x4_2) = true := decide_eq_true c24
          clear c24
          simp only [Option.some.injEq, Prod.mk.injEq] at H
          obtain ⟨rfl, rfl, rfl, rfl⟩ := H
          go_wp2
          refine bodyPost_ret (results_list (rs := [.tmp 4, .tmp 5, .tmp 6, .tmp 7]) rfl (by simp) (.tmp (.tmp (.tmp (.tmp .nil))))) rfl ?_
          exact ⟨by first | rfl | (simp [errW_none, errW_some] <;> rfl), bU HB.out⟩
end Go.Proofs.YtkioddjjfifadaaGreatDoor.P
namespace Go.Proofs.YtkioddjjfifadaaGreatDoor.P
open Go.RowKit Go.Proofs.YtkioddjjfifadaaGreatDoorW.PrintWords Go.Proofs.YtkioddjjfifadaaGreatDoorW.PrintLast Go.Proofs.YtkioddjjfifadaaGreatDoorW.PrintMore
def bytes_Clone.f (l0 : List Int) : Option (List Int) := if l0.length < 140737488355328 then some l0 else none
theorem bytes_Clone.some_ {l0 r : List Int} (h : bytes_Clone.f l0 = some r) : r = l0 ∧ l0.length < 140737488355328 := by
  unfold bytes_Clone.f at h
  split at h
  rotate_left
  · cases h
  rename_i hl
  exact ⟨(Option.some.inj h).symm, hl⟩
set_option maxHeartbeats 1000000 in
theorem bytes_Clone.calls (A0 : Option Addr) (c0 : Nat) (l0 : List Int) (r : List Int) (w : World) (hr0 : Kd.C (Kd.int .u8) w A0 l0.length l0) (hc0 : l0.length ≤ c0) (h : bytes_Clone.f l0 = some r) :
    Calls Tryz.prog 76 #[.slice A0 l0.length c0] w fun e w' => ∃ v0_ : Value, e = .returned (v0_) ∧ Kd.R (Kd.int .u8) 5 w' w.heap.size (fun _ => True) v0_ r ∧ Below w.heap.size w w' := by
  obtain ⟨rfl, hl⟩ := bytes_Clone.some_ h
  have HR0 := Aside0.mk hr0
  have HC0 := Aside0.mk hc0
  have HL := Aside0.mk hl
  have heq := fun (W : World) => Lib.run_eql_slice_nil (P := Tryz.prog) W 22 5 A0 r.length c0 0 0 Tryz.underlying22
  clear hr0 hc0 h hl
  have HB := Aside0.mk (Below.refl w.heap.size w)
  cases A0 with
  | none =>
    obtain rfl : r = [] := by
      rcases Nat.eq_zero_or_pos r.length with h | h
      · exact List.length_eq_zero_iff.1 h
      obtain ⟨ad, e, _⟩ := HR0.out.2.2 h
      cases e
    clear HR0 HC0 HL
    simp only [List.length_nil] at heq ⊢
    go_enter Tryz.func76, Tryz.ntmps76
    go_wp2
    go_ret
    exact ⟨_, rfl, Kd.R_nil _ _ _ _ _, HB.out⟩
  | some ad =>
    go_enter Tryz.func76, Tryz.ntmps76
    go_wp2_with (first | ((with_reducible refine gate_dst (N := 5) rfl ?_); refine Kd.R_lit (Kd.int .u8) _ 5 ?hg (N := 5) ?hd (xs := ([] : List Int)) (inner := []) (ok := fun _ => True) (okp := fun _ => True) ?hr ?hp (fun _ hk => hk) trivial (Below.refl _ _) (Nat.le_refl _) (by simp) ?_; (case hd => rfl); (case hg => rfl); (case hr => first | (go_simp; done) | (go_simp; rfl)); (case hp => exact (Reps.none _ _)); intro v1 w1 ho1 hb1 _ _; have HO1 := Aside0.mk (Kd.R_lower ho1 (below_size HB.out)); have HB1 := Aside0.mk (below_step HB.out hb1); clear hb1 ho1 HB) | ((with_reducible refine gate_builtin (b := .append) (xs := #[.tmp 5, .tmp 6]) rfl ?_); at_builtin; refine Kd.R_append_rows (Kd.int .u8) (w0 := w) w.heap.size rfl (.tmp 5) (.tmp 6) 22 5 (.int .u8 0) 1 rfl Tryz.underlying22 info5 rfl (by decide) (by omega) v1 [] r _ _ _ (fun _ => True) (fun _ => False) rfl rfl ?aO ?aR (fun _ _ h => h) (fun _ h => h.elim) ?aF ?aB ?aS ?aL ?_; (case aR => exact Kd.C_below HR0.out HB1.out); (case aB => exact HB1.out); (case aF => exact (fun _ _ => trivial)); (case aO => exact HO1.out); (case aS => exact below_size HB1.out); (case aL => have := HL.out; simp only [List.length_nil]; omega); intro v2 w2 ho hb hg hat; rw [List.nil_append] at ho; have HO2 := Aside0.mk ho; have HB2 := Aside0.mk hb; clear ho hb hg hat))
    go_ret
    exact ⟨_, rfl, HO2.out, HB2.out⟩
end Go.Proofs.YtkioddjjfifadaaGreatDoor.P
namespace Go.Proofs.YtkioddjjfifadaaGreatDoor.P
open Go.RowKit Go.Proofs.YtkioddjjfifadaaGreatDoorW.PrintWords Go.Proofs.YtkioddjjfifadaaGreatDoorW.PrintLast Go.Proofs.YtkioddjjfifadaaGreatDoorW.PrintMore
attribute [local go_sem] max2_int min2_int max_two min_two max_three min_three max_four min_four
set_option linter.unusedVariables false
set_option linter.unusedSimpArgs false
def der_Split.l0 : Nat → List Int → List (S77) → Int → Option ((List (S77)) × Int × Int)
  | 0, _, _, _ => none
  | k + 1, x0, x2, x5 => if x5 < (x0.length : Int) then (if (x2.length : Int) = 65536 then (some (([] : List (S77)), 4, x5)) else ((der_tag.f k x0 x5).bind fun bt123 => (if bt123.2.2.1 = 0 then ((der_length.f k x0 bt123.2.1).bind fun bt127 => (if bt127.2.2.1 = 0 then (if 0 ≤ x5 then (if 0 ≤ bt127.2.1 then (if bt127.2.1 ≤ (wrap64 (bt127.2.1 + bt127.1)) then (if (wrap64 (bt127.2.1 + bt127.1)) ≤ (x0.length : Int) then ((bytes_Clone.f ((x0.take ((wrap64 (bt127.2.1 + bt127.1)) : Int).toNat).drop (bt127.2.1 : Int).toNat)).bind fun t137 => (if x5 ≤ (wrap64 (bt127.2.1 + bt127.1)) then ((bytes_Clone.f ((x0.take ((wrap64 (bt127.2.1 + bt127.1)) : Int).toNat).drop (x5 : Int).toNat)).bind fun t144 => (if x2.length < 1954687338268 then (der_Split.l0 k x0 (x2 ++ [(⟨wrap64 ((rd x0 x5) / 64), bt123.1, ((Go.bits .and .u8 (rd x0 x5) 32) != 0), t137, t144⟩ : S77)]) (wrap64 (bt127.2.1 + bt127.1))) else (none))) else (none))) else (none)) else (none)) else (none)) else (none)) else (some (([] : List (S77)), bt127.2.2.1, bt127.2.2.2)))) else (some (([] : List (S77)), bt123.2.2.1, bt123.2.2.2))))) else (some (x2, 0, (x0.length : Int)))
def der_Split.f (k : Nat) (l0 : List Int) : Option ((List (S77)) × Int × Int) := if (l0.length : Int) > 16777216 then (some (([] : List (S77)), 3, 0)) else (der_Split.l0 k l0 ([] : List (S77)) 0)
def der_Split.T13 : Bool × List (List Nat × List Nat) := (true, [([], []), ([], []), ([], []), ([1, 2], [1, 2]), ([3], [3]), ([4], [4]), ([5], [5]), ([], []), ([], []), ([], []), ([8, 9], [8, 9]), ([10], [10]), ([11], [11]), ([12], [12]), ([], []), ([], []), ([], []), ([], []), ([16, 17], [16, 17]), ([14, 15, 18], [14, 15, 18]), ([19], [19]), ([], []), ([], []), ([], []), ([], []), ([23, 24], [23, 24]), ([21, 22, 25], [21, 22, 25]), ([26, 20], [26]), ([6, 7, 13, 20, 27], [6, 7, 13, 20, 27]), ([28], [28]), ([0, 29, 27], [0, 29]), ([30, 30, 0, 1, 2, 3, 4, 5, 6, 7, 8, 9, 10, 11, 12, 13, 14, 15, 16, 17, 18, 19, 20, 21, 22, 23, 24, 25, 26, 27, 28, 29, 30], [0, 30])])
def der_Split.B13 : List Nat := [0, 0, 0, 6, 14, 30, 62, 0, 0, 0, 768, 1792, 3840, 7936, 0, 0, 0, 0, 196608, 507904, 1032192, 0, 0, 0, 0, 25165824, 65011712, 134201344, 268435454, 536870910, 1073741823, 2147483647]
theorem der_Split.tab13 : rtab .any (opsOf Tryz.f162 13) = der_Split.T13 := by kernel_rfl
theorem der_Split.bits13 : waitsOk der_Split.T13.2 der_Split.B13 = true := by kernel_rfl
set_option maxHeartbeats 8000000 in
set_option maxRecDepth 100000 in
theorem der_Split.calls (k : Nat) (A0 : Option Addr) (c0 : Nat) (l0 : List Int) (r1 : List (S77)) (r2 : Int) (r3 : Int) (w : World) (hr0 : Kd.C (Kd.int .u8) w A0 l0.length l0) (hc0 : l0.length ≤ c0) (h : der_Split.f k l0 = some (r1, r2, r3)) :
    Calls Tryz.prog 162 #[.slice A0 l0.length c0] w fun e w' => ∃ v0_ : Value, e = .returned (.tuple #[v0_, .int .i64 r2, .int .i64 r3]) ∧ Kd.S k77 77 w' w.heap.size (fun _ => True) v0_ r1 ∧ Below w.heap.size w w' := by
  have hu77 := Tryz.underlying77
  have HR0 := Aside0.mk hr0
  have HC0 := Aside0.mk hc0
  clear hr0 hc0
  have HB := Aside0.mk (Below.refl w.heap.size w)
  have H : (if (l0.length : Int) > 16777216 then (some (([] : List (S77)), 3, 0)) else (der_Split.l0 k l0 ([] : List (S77)) 0)) = some (r1, r2, r3) := h
  clear h
  by_cases c2 : (l0.length : Int) > 16777216
  · rw [if_pos c2] at H
    have c2b0 : decide (16777216 < (l0.length : Int)) = true := decide_eq_true c2
    have c2b1 : decide (16777216 < l0.length) = true := decide_eq_true (by omega)
    clear c2
    simp only [Option.some.injEq, Prod.mk.injEq] at H
    obtain ⟨rfl, rfl, rfl⟩ := H
    go_enter Tryz.func162, Tryz.ntmps162
    go_wp2
    go_ret3
    exact ⟨_, by first | rfl | (simp [errW_none, errW_some] <;> rfl), by first | exact Kd.S_nil _ _ _ _ _ | exact Kd.N_nil _ _ _ _ _ | exact Kd.V_nil _ _ _ _ _ | exact Kd.Q_nil _ _ _ _ _ | exact Kd.R_nil _ _ _ _ _, bU HB.out⟩
  rw [if_neg c2] at H
  have c2b0 : decide (16777216 < (l0.length : Int)) = false := decide_eq_false c2
  have c2b1 : decide (16777216 < l0.length) = false := decide_eq_false (by omega)
  clear c2
  have H' := Aside0.mk H
  clear H
  go_enter Tryz.func162, Tryz.ntmps162
  go_wp2
  go_loopg [2, 5] k (fun kq v2 v5 w' => ∃ (x2_1 : List (S77)) (x5_1 : Int), v5 = .int .i64 x5_1 ∧ Aside0 (der_Split.l0 kq l0 x2_1 x5_1 = some (r1, r2, r3)) ∧ Aside0 (kq ≤ k) ∧ Aside0 (Kd.S k77 77 w' w.heap.size (fun _ => True) v2 x2_1) ∧ Aside0 (Below w.heap.size w w'))
  case atStart => exact ⟨(([] : List (S77))), (0), (by first | rfl | (simp; done) | (simp [*]; done)), H', ⟨Nat.le_refl _⟩, ⟨by first | exact Kd.S_nil _ _ _ _ _ | exact Kd.N_nil _ _ _ _ _ | exact Kd.V_nil _ _ _ _ _ | exact Kd.Q_nil _ _ _ _ _ | exact Kd.R_nil _ _ _ _ _⟩, ⟨bU HB.out⟩⟩
  case round =>
    clear H'
    try clear c1
    try clear c2
    try clear c2b0
    try clear c2b1
    try clear p2
    obtain ⟨x2_1, x5_1, rfl, HA, HK1, HO_2, HB⟩ := hrel
    cases gk with
    | zero => exact absurd HA.out (by simp [der_Split.l0])
    | succ k1 =>
      have H := HA.out
      clear HA
      simp only [der_Split.l0] at H
      by_cases c3 : x5_1 < (l0.length : Int)
      rotate_left
      · rw [if_neg c3] at H
        have c3b0 : decide (x5_1 < (l0.length : Int)) = false := decide_eq_false c3
        clear c3
        simp only [Option.some.injEq, Prod.mk.injEq] at H
        obtain ⟨rfl, rfl, rfl⟩ := H
        go_wp2
        go_ret3
        exact ⟨_, by first | rfl | (simp [errW_none, errW_some] <;> rfl), by (with_reducible repeat (first | apply Kd.S_alloc | apply Kd.S_drewN | apply Kd.S_drew)); exact HO_2.out, bU HB.out⟩
      rw [if_pos c3] at H
      have c3b0 : decide (x5_1 < (l0.length : Int)) = true := decide_eq_true c3
      clear c3
      by_cases c4 : (x2_1.length : Int) = 65536
      · rw [if_pos c4] at H
        have c4b0 : ((x2_1.length : Int) == 65536) = true := beq_iff_eq.mpr c4
        have c4b1 : ((x2_1.length : Int) != 65536) = false := bne_eq_false_iff_eq.mpr c4
        clear c4
        simp only [Option.some.injEq, Prod.mk.injEq] at H
        obtain ⟨rfl, rfl, rfl⟩ := H
        obtain ⟨Ao5, co5, eo5⟩ := Kd.S_slice HO_2.out
        subst eo5
        go_wp2
        go_ret3
        exact ⟨_, by first | rfl | (simp [errW_none, errW_some] <;> rfl), by first | exact Kd.S_nil _ _ _ _ _ | exact Kd.N_nil _ _ _ _ _ | exact Kd.V_nil _ _ _ _ _ | exact Kd.Q_nil _ _ _ _ _ | exact Kd.R_nil _ _ _ _ _, bU HB.out⟩
      rw [if_neg c4] at H
      have c4b0 : ((x2_1.length : Int) == 65536) = false := beq_eq_false_iff_ne.mpr c4
      have c4b1 : ((x2_1.length : Int) != 65536) = true := bne_iff_ne.mpr c4
      replace H := Option.bind_eq_some_iff.mp H
      obtain ⟨⟨t123, t124, t125, t126⟩, A60, H⟩ := H
      try dsimp only at H
      have A6 := Aside0.mk A60
      clear A60
      by_cases c7 : t125 = 0
      rotate_left
      · rw [if_neg c7] at H
        have c7b0 : (t125 == 0) = false := beq_eq_false_iff_ne.mpr c7
        have c7b1 : (t125 != 0) = true := bne_iff_ne.mpr c7
        simp only [Option.some.injEq, Prod.mk.injEq] at H
        obtain ⟨rfl, rfl, rfl⟩ := H
        obtain ⟨Ao32, co32, eo32⟩ := Kd.S_slice HO_2.out
        subst eo32
        go_wp2_with (first | ((with_reducible refine gate_callee (f := 214) rfl ?_); refine goesL_ (some 25) rfl rfl Tryz.func214 (by kernel_rfl) rfl #[.slice A0 l0.length c0, .int .i64 x5_1] rfl (by (try simp only [List.map_toArray, List.map_cons, List.map_nil]); first | done | rfl | (simp only [List.length_drop, List.length_take]; rfl)) ?_; (with_reducible refine (der_tag.calls k1 _ _ l0 x5_1 t123 t124 t125 t126 _ ?side1 ?side2 A6.out).mono ?_); (case side1 => exact Kd.C_u (Kd.C_below HR0.out HB.out)); (case side2 => exact HC0.out); rintro e w' ⟨rfl, ⟨nd, rfl⟩⟩; refine ⟨_, rfl, ?_⟩))
        go_ret3
        exact ⟨_, by first | rfl | (simp [errW_none, errW_some] <;> rfl), by first | exact Kd.S_nil _ _ _ _ _ | exact Kd.N_nil _ _ _ _ _ | exact Kd.V_nil _ _ _ _ _ | exact Kd.Q_nil _ _ _ _ _ | exact Kd.R_nil _ _ _ _ _, bU HB.out⟩
      rw [if_pos c7] at H
      have c7b0 : (t125 == 0) = true := beq_iff_eq.mpr c7
      have c7b1 : (t125 != 0) = false := bne_eq_false_iff_eq.mpr c7
      clear c7
      replace H := Option.bind_eq_some_iff.mp H
      obtain ⟨⟨t127, t128, t129, t130⟩, A80, H⟩ := H
      try dsimp only at H
      have A8 := Aside0.mk A80
      clear A80
      by_cases c9 : t129 = 0
      rotate_left
      · rw [if_neg c9] at H
        have c9b0 : (t129 == 0) = false := beq_eq_false_iff_ne.mpr c9
        have c9b1 : (t129 != 0) = true := bne_iff_ne.mpr c9
        simp only [Option.some.injEq, Prod.mk.injEq] at H
        obtain ⟨rfl, rfl, rfl⟩ := H
        obtain ⟨Ao30, co30, eo30⟩ := Kd.S_slice HO_2.out
        subst eo30
        go_wp2_with (first | ((with_reducible refine gate_callee (f := 214) rfl ?_); refine goesL_ (some 25) rfl rfl Tryz.func214 (by kernel_rfl) rfl #[.slice A0 l0.length c0, .int .i64 x5_1] rfl (by (try simp only [List.map_toArray, List.map_cons, List.map_nil]); first | done | rfl | (simp only [List.length_drop, List.length_take]; rfl)) ?_; (with_reducible refine (der_tag.calls k1 _ _ l0 x5_1 t123 t124 t125 t126 _ ?side1 ?side2 A6.out).mono ?_); (case side1 => exact Kd.C_u (Kd.C_below HR0.out HB.out)); (case side2 => exact HC0.out); rintro e w' ⟨rfl, ⟨nd, rfl⟩⟩; refine ⟨_, rfl, ?_⟩) | ((with_reducible refine gate_callee (f := 215) rfl ?_); refine goesL_ (some 37) rfl rfl Tryz.func215 (by kernel_rfl) rfl #[.slice A0 l0.length c0, .int .i64 t124] rfl (by (try simp only [List.map_toArray, List.map_cons, List.map_nil]); first | done | rfl | (simp only [List.length_drop, List.length_take]; rfl)) ?_; (with_reducible refine (der_length.calls k1 _ _ l0 t124 t127 t128 t129 t130 _ ?side1 ?side2 A8.out).mono ?_); (case side1 => exact Kd.C_u (Kd.C_below HR0.out HB.out)); (case side2 => exact HC0.out); rintro e w31 ⟨rfl, hb⟩; refine ⟨_, rfl, ?_⟩; have n0_ := Aside0.mk (Kd.S_below (Kd.S_u HO_2.out) hb); have n1_ := Aside0.mk (below_step (bU HB.out) hb); clear HO_2; clear HB; have HO_2 := n0_; have HB := n1_; clear n0_ n1_; (try clear hb); (try clear hb2); (try clear hk); (try clear hi)))
        go_ret3
        exact ⟨_, by first | rfl | (simp [errW_none, errW_some] <;> rfl), by first | exact Kd.S_nil _ _ _ _ _ | exact Kd.N_nil _ _ _ _ _ | exact Kd.V_nil _ _ _ _ _ | exact Kd.Q_nil _ _ _ _ _ | exact Kd.R_nil _ _ _ _ _, bU HB.out⟩
      rw [if_pos c9] at H
      have c9b0 : (t129 == 0) = true := beq_iff_eq.mpr c9
      have c9b1 : (t129 != 0) = false := bne_eq_false_iff_eq.mpr c9
      clear c9
      by_cases c10 : 0 ≤ x5_1
      rotate_left
      · rw [if_neg c10] at H
        exact absurd H (by simp)
      rw [if_pos c10] at H
      have c10b0 : decide (0 ≤ x5_1) = true := decide_eq_true c10
      clear c10
      by_cases c11 : 0 ≤ t128
      rotate_left
      · rw [if_neg c11] at H
        exact absurd H (by simp)
      rw [if_pos c11] at H
      have c11b0 := eq_true c11
      have c11b1 : decide (0 ≤ t128) = true := decide_eq_true c11
      clear c11
      by_cases c12 : t128 ≤ (wrap64 (t128 + t127))
      rotate_left
      · rw [if_neg c12] at H
        exact absurd H (by simp)
      rw [if_pos c12] at H
      have c12b0 := eq_true c12
      have c12b1 : decide (t128 ≤ (wrap64 (t128 + t127))) = true := decide_eq_true c12
      by_cases c13 : (wrap64 (t128 + t127)) ≤ (l0.length : Int)
      rotate_left
      · rw [if_neg c13] at H
        exact absurd H (by simp)
      rw [if_pos c13] at H
      have c13b0 := eq_true c13
      have c13b1 : decide ((wrap64 (t128 + t127)) ≤ (l0.length : Int)) = true := decide_eq_true c13
      obtain ⟨y133, hy133⟩ : ∃ y_ : List Int, y_ = ((l0.take ((wrap64 (t128 + t127)) : Int).toNat).drop (t128 : Int).toNat) := ⟨_, rfl⟩
      replace H : ((bytes_Clone.f y133).bind fun t137 => (if x5_1 ≤ (wrap64 (t128 + t127)) then ((bytes_Clone.f ((l0.take ((wrap64 (t128 + t127)) : Int).toNat).drop (x5_1 : Int).toNat)).bind fun t144 => (if x2_1.length < 1954687338268 then (der_Split.l0 k1 l0 (x2_1 ++ [(⟨wrap64 ((rd l0 x5_1) / 64), t123, ((Go.bits .and .u8 (rd l0 x5_1) 32) != 0), t137, t144⟩ : S77)]) (wrap64 (t128 + t127))) else (none))) else (none))) = some (r1, r2, r3) := by first | (rw [hy133]; with_reducible exact H) | (have H2_ := (Option.bind_some _ _).symm.trans H; rw [hy133]; with_reducible exact H2_) | (have H2_ := (Option.bind_some _ _).symm.trans H; with_reducible exact H2_) | with_reducible exact H | (rw [hy133]; exact H) | exact H
      have Ny133 := Aside0.mk hy133
      clear hy133
      replace H := Option.bind_eq_some_iff.mp H
      obtain ⟨t137, A140, H⟩ := H
      try dsimp only at H
      have A14 := Aside0.mk A140
      clear A140
      have c15b0 := eq_true (of_decide_eq_true (by first | (with_reducible assumption) | assumption) : 0 ≤ x5_1)
      by_cases c16 : x5_1 ≤ (wrap64 (t128 + t127))
      rotate_left
      · rw [if_neg c16] at H
        exact absurd H (by simp)
      rw [if_pos c16] at H
      have c16b0 := eq_true c16
      have c16b1 : decide (x5_1 ≤ (wrap64 (t128 + t127))) = true := decide_eq_true c16
      have c17b0 := eq_true (of_decide_eq_true (by first | (with_reducible assumption) | assumption) : (wrap64 (t128 + t127)) ≤ (l0.length : Int))
      obtain ⟨y140, hy140⟩ : ∃ y_ : List Int, y_ = ((l0.take ((wrap64 (t128 + t127)) : Int).toNat).drop (x5_1 : Int).toNat) := ⟨_, rfl⟩
      replace H : ((bytes_Clone.f y140).bind fun t144 => (if x2_1.length < 1954687338268 then (der_Split.l0 k1 l0 (x2_1 ++ [(⟨wrap64 ((rd l0 x5_1) / 64), t123, ((Go.bits .and .u8 (rd l0 x5_1) 32) != 0), t137, t144⟩ : S77)]) (wrap64 (t128 + t127))) else (none))) = some (r1, r2, r3) := by first | (rw [hy140]; with_reducible exact H) | (have H2_ := (Option.bind_some _ _).symm.trans H; rw [hy140]; with_reducible exact H2_) | (have H2_ := (Option.bind_some _ _).symm.trans H; with_reducible exact H2_) | with_reducible exact H | (rw [hy140]; exact H) | exact H
      have Ny140 := Aside0.mk hy140
      clear hy140
      replace H := Option.bind_eq_some_iff.mp H
      obtain ⟨t144, A180, H⟩ := H
      try dsimp only at H
      have A18 := Aside0.mk A180
      clear A180
      by_cases c19 : x2_1.length < 1954687338268
      rotate_left
      · rw [if_neg c19] at H
        exact absurd H (by simp)
      rw [if_pos c19] at H
      have LMc19 := Aside0.mk c19
      clear c19
      obtain ⟨y147, hy147⟩ : ∃ y_ : List (S77), y_ = (x2_1 ++ [(⟨wrap64 ((rd l0 x5_1) / 64), t123, ((Go.bits .and .u8 (rd l0 x5_1) 32) != 0), t137, t144⟩ : S77)]) := ⟨_, rfl⟩
      replace H : (der_Split.l0 k1 l0 y147 (wrap64 (t128 + t127))) = some (r1, r2, r3) := by first | (rw [hy147]; with_reducible exact H) | (have H2_ := (Option.bind_some _ _).symm.trans H; rw [hy147]; with_reducible exact H2_) | (have H2_ := (Option.bind_some _ _).symm.trans H; with_reducible exact H2_) | with_reducible exact H | (rw [hy147]; exact H) | exact H
      have Ny147 := Aside0.mk hy147
      clear hy147
      have H' := Aside0.mk H
      clear H
      obtain ⟨Ao20, co20, eo20⟩ := Kd.S_slice HO_2.out
      subst eo20
      try go_wp2_with (first | ((with_reducible refine gate_callee (f := 214) rfl ?_); refine goesL_ (some 25) rfl rfl Tryz.func214 (by kernel_rfl) rfl #[.slice A0 l0.length c0, .int .i64 x5_1] rfl (by (try simp only [List.map_toArray, List.map_cons, List.map_nil]); first | done | rfl | (simp only [List.length_drop, List.length_take]; rfl)) ?_; (with_reducible refine (der_tag.calls k1 _ _ l0 x5_1 t123 t124 t125 t126 _ ?side1 ?side2 A6.out).mono ?_); (case side1 => exact Kd.C_u (Kd.C_below HR0.out HB.out)); (case side2 => exact HC0.out); rintro e w' ⟨rfl, ⟨nd, rfl⟩⟩; refine ⟨_, rfl, ?_⟩) | ((with_reducible refine gate_callee (f := 215) rfl ?_); refine goesL_ (some 37) rfl rfl Tryz.func215 (by kernel_rfl) rfl #[.slice A0 l0.length c0, .int .i64 t124] rfl (by (try simp only [List.map_toArray, List.map_cons, List.map_nil]); first | done | rfl | (simp only [List.length_drop, List.length_take]; rfl)) ?_; (with_reducible refine (der_length.calls k1 _ _ l0 t124 t127 t128 t129 t130 _ ?side1 ?side2 A8.out).mono ?_); (case side1 => exact Kd.C_u (Kd.C_below HR0.out HB.out)); (case side2 => exact HC0.out); rintro e w21 ⟨rfl, hb⟩; refine ⟨_, rfl, ?_⟩; have n0_ := Aside0.mk (Kd.S_below (Kd.S_u HO_2.out) hb); have n1_ := Aside0.mk (below_step (bU HB.out) hb); clear HO_2; clear HB; have HO_2 := n0_; have HB := n1_; clear n0_ n1_; (try clear hb); (try clear hb2); (try clear hk); (try clear hi)))
      have n0_ := Aside0.mk (Kd.S_drew HO_2.out)
      have n1_ := Aside0.mk (below_drew1 HB.out)
      clear HO_2
      clear HB
      have HO_2 := n0_
      have HB := n1_
      clear n0_ n1_
      have p131 : 0 ≤ (x5_1 : Int) := of_decide_eq_true (by first | (with_reducible assumption) | assumption)
      have q131 : x5_1 < (l0.length : Int) := of_decide_eq_true (by first | (with_reducible assumption) | assumption)
      obtain ⟨ad131, e131, hx131_0⟩ := Kd.at_int HR0.out x5_1 p131 q131
      have hw131_0 := hx131_0
      cases e131
      replace hx131_0 := (HB.out.cell (World.block_lt_of_cell? w _ hx131_0)).trans hx131_0
      replace p131 := eq_true p131
      replace q131 := eq_true q131
      have p132 : 0 ≤ (x5_1 : Int) := of_decide_eq_true (by first | (with_reducible assumption) | assumption)
      have q132 : x5_1 < (l0.length : Int) := of_decide_eq_true (by first | (with_reducible assumption) | assumption)
      obtain ⟨ad132, e132, hx132_0⟩ := Kd.at_int HR0.out x5_1 p132 q132
      have hw132_0 := hx132_0
      obtain rfl : ad131 = ad132 := (by injection e132)
      replace hx132_0 := (HB.out.cell (World.block_lt_of_cell? w _ hx132_0)).trans hx132_0
      replace p132 := eq_true p132
      replace q132 := eq_true q132
      have q23 : ((wrap64 (t128 + t127)) : Int) ≤ ((l0.length : Int) : Int) := of_decide_eq_true (by first | (with_reducible assumption) | assumption)
      obtain ⟨i023, hi023, _, hsz23, _⟩ := info_parts info5
      have hroom23 : l0.length ≤ c0 := HC0.out
      have hC23 : Kd.C (Kd.int .u8) _ (some ad131) l0.length l0 := HR0.out
      have ql23 : (t128 : Int) ≤ ((wrap64 (t128 + t127)) : Int) := of_decide_eq_true (by first | (with_reducible assumption) | assumption)
      have q023 : (0 : Int) ≤ (t128 : Int) := of_decide_eq_true (by first | (with_reducible assumption) | assumption)
      have hcut23 := cut_mid (P := Tryz.prog) 22 5 .i64 .i64 Tryz.underlying22 hi023 1 hsz23 (some ad131) l0.length c0 t128 (wrap64 (t128 + t127)) q023 ql23 q23 hroom23
      have hr23 := Kd.C_mid (lo := (t128 : Int).toNat) (hi := ((wrap64 (t128 + t127)) : Int).toNat) (c := c0) hC23 (by omega) (by omega) hroom23
      obtain ⟨A23, hA23⟩ : ∃ A1, A1 = (if c0 = (t128 : Int).toNat then (some ad131) else ((some ad131) : Option Addr).map (·.add ((t128 : Int).toNat * 1))) := ⟨_, rfl⟩
      obtain ⟨c23, hc23⟩ : ∃ c1, c1 = c0 - (t128 : Int).toNat := ⟨_, rfl⟩
      have hy23 : y133.length = ((wrap64 (t128 + t127)) : Int).toNat - (t128 : Int).toNat := (by rw [Ny133.out, List.length_drop, List.length_take] <;> omega)
      rw [show ((l0).take ((wrap64 (t128 + t127)) : Int).toNat).drop (t128 : Int).toNat = y133 from Ny133.out.symm] at hr23
      replace hr23 : Kd.C (Kd.int .u8) _ A23 y133.length y133 := (by rw [hA23]; exact hr23)
      rw [← hy23, ← hA23, ← hc23] at hcut23
      have HR136 := Aside0.mk hr23
      have HC136 := Aside0.mk (show y133.length ≤ c23 from by rw [hy23, hc23]; exact Nat.sub_le_sub_right (Nat.le_trans (by omega) hroom23) _)
      clear hr23 hC23 hroom23 hi023 hsz23 hc23
      have KY23 := Aside0.mk hy23
      have KA23 := Aside0.mk hA23
      clear hy23 hA23
      replace q23 := eq_true q23
      have q24 : ((wrap64 (t128 + t127)) : Int) ≤ ((l0.length : Int) : Int) := of_decide_eq_true (by first | (with_reducible assumption) | assumption)
      obtain ⟨i024, hi024, _, hsz24, _⟩ := info_parts info5
      have hroom24 : l0.length ≤ c0 := HC0.out
      have hC24 : Kd.C (Kd.int .u8) _ (some ad131) l0.length l0 := HR0.out
      have ql24 : (x5_1 : Int) ≤ ((wrap64 (t128 + t127)) : Int) := of_decide_eq_true (by first | (with_reducible assumption) | assumption)
      have q024 : (0 : Int) ≤ (x5_1 : Int) := of_decide_eq_true (by first | (with_reducible assumption) | assumption)
      have hcut24 := cut_mid (P := Tryz.prog) 22 5 .i64 .i64 Tryz.underlying22 hi024 1 hsz24 (some ad131) l0.length c0 x5_1 (wrap64 (t128 + t127)) q024 ql24 q24 hroom24
      have hr24 := Kd.C_mid (lo := (x5_1 : Int).toNat) (hi := ((wrap64 (t128 + t127)) : Int).toNat) (c := c0) hC24 (by omega) (by omega) hroom24
      obtain ⟨A24, hA24⟩ : ∃ A1, A1 = (if c0 = (x5_1 : Int).toNat then (some ad131) else ((some ad131) : Option Addr).map (·.add ((x5_1 : Int).toNat * 1))) := ⟨_, rfl⟩
      obtain ⟨c24, hc24⟩ : ∃ c1, c1 = c0 - (x5_1 : Int).toNat := ⟨_, rfl⟩
      have hy24 : y140.length = ((wrap64 (t128 + t127)) : Int).toNat - (x5_1 : Int).toNat := (by rw [Ny140.out, List.length_drop, List.length_take] <;> omega)
      rw [show ((l0).take ((wrap64 (t128 + t127)) : Int).toNat).drop (x5_1 : Int).toNat = y140 from Ny140.out.symm] at hr24
      replace hr24 : Kd.C (Kd.int .u8) _ A24 y140.length y140 := (by rw [hA24]; exact hr24)
      rw [← hy24, ← hA24, ← hc24] at hcut24
      have HR143 := Aside0.mk hr24
      have HC143 := Aside0.mk (show y140.length ≤ c24 from by rw [hy24, hc24]; exact Nat.sub_le_sub_right (Nat.le_trans (by omega) hroom24) _)
      clear hr24 hC24 hroom24 hi024 hsz24 hc24
      have KY24 := Aside0.mk hy24
      have KA24 := Aside0.mk hA24
      clear hy24 hA24
      replace q24 := eq_true q24
      refine start_ (n := 32) (S := fun w' => w'.cell? (ad131.add (x5_1).toNat) = some (.int .u8 (rd l0 x5_1)) ∧ w'.cell? (ad131.add (x5_1).toNat) = some (.int .u8 (rd l0 x5_1))) (ds := []) #[false, false, false, false, false, false, false, false, false, false, false, false, false, false, false, false, false, false, false, false, false, false, false, false, false, false, false, false, false, false, false, false] (by kernel_rfl) rfl rfl ⟨((HB.out.cell (World.block_lt_of_cell? w _ hw131_0)).trans hw131_0), ((HB.out.cell (World.block_lt_of_cell? w _ hw132_0)).trans hw132_0)⟩ (fun hHeld => ?_); refine with_tabW der_Split.tab13 der_Split.bits13 (fun HT_ HW_ => ?_)
      generalize w21.drew = w22 at HO_2 HB HR136 HR143 hx131_0 hx132_0 hHeld ⊢
      refine pure_ (i := 0) (N := some 46) (v := ?_) (a' := ?_) #[true, false, false, false, false, false, false, false, false, false, false, false, false, false, false, false, false, false, false, false, false, false, false, false, false, false, false, false, false, false, false, false] rfl rfl (any_of HT_.out (by kernel_rfl)) (fun _ _ _ h => h) (Or.inl ⟨by rfl, ?_⟩) ?_ ?_; rotate_left; (intro w'; go_simp; with_reducible rfl); rotate_left; (simp only [Act.put, List.setIfInBounds_toArray, List.set_cons_zero, List.set_cons_succ, i64_w, i32_w]; rfl)
      refine pure_ (i := 1) (N := some 47) (v := ?_) (a' := ?_) #[true, true, false, false, false, false, false, false, false, false, false, false, false, false, false, false, false, false, false, false, false, false, false, false, false, false, false, false, false, false, false, false] rfl rfl (any_of HT_.out (by kernel_rfl)) (fun _ _ _ h => h) (Or.inl ⟨by rfl, ?_⟩) ?_ ?_; rotate_left; (intro w'; go_simp; with_reducible rfl); rotate_left; (simp only [Act.put, List.setIfInBounds_toArray, List.set_cons_zero, List.set_cons_succ, i64_w, i32_w]; rfl)
      refine pure_ (i := 2) (N := some 48) (v := ?_) (a' := ?_) #[true, true, true, false, false, false, false, false, false, false, false, false, false, false, false, false, false, false, false, false, false, false, false, false, false, false, false, false, false, false, false, false] rfl rfl (any_of HT_.out (by kernel_rfl)) (fun _ _ _ h => h) (Or.inl ⟨by rfl, ?_⟩) ?_ ?_; rotate_left; (intro w'; go_simp; with_reducible rfl); rotate_left; (simp only [Act.put, List.setIfInBounds_toArray, List.set_cons_zero, List.set_cons_succ, i64_w, i32_w]; rfl)
      refine pure_ (i := 3) (N := some 49) (v := ?_) (a' := ?_) #[true, true, true, true, false, false, false, false, false, false, false, false, false, false, false, false, false, false, false, false, false, false, false, false, false, false, false, false, false, false, false, false] rfl rfl (any_of HT_.out (by kernel_rfl)) (fun _ _ _ h => h) (Or.inl ⟨by rfl, ?_⟩) ?_ ?_; rotate_left; (intro w'; go_simp; with_reducible rfl); rotate_left; (simp only [Act.put, List.setIfInBounds_toArray, List.set_cons_zero, List.set_cons_succ, i64_w, i32_w]; rfl)
      refine pure_ (i := 7) (N := some 53) (v := ?_) (a' := ?_) #[true, true, true, true, false, false, false, true, false, false, false, false, false, false, false, false, false, false, false, false, false, false, false, false, false, false, false, false, false, false, false, false] rfl rfl (any_of HT_.out (by kernel_rfl)) (fun _ _ _ h => h) (Or.inl ⟨by rfl, ?_⟩) ?_ ?_; rotate_left; (intro w'; go_simp; with_reducible rfl); rotate_left; (simp only [Act.put, List.setIfInBounds_toArray, List.set_cons_zero, List.set_cons_succ, i64_w, i32_w]; rfl)
      refine pure_ (i := 8) (N := some 54) (v := ?_) (a' := ?_) #[true, true, true, true, false, false, false, true, true, false, false, false, false, false, false, false, false, false, false, false, false, false, false, false, false, false, false, false, false, false, false, false] rfl rfl (any_of HT_.out (by kernel_rfl)) (fun _ _ _ h => h) (Or.inl ⟨by rfl, ?_⟩) ?_ ?_; rotate_left; (intro w'; go_simp; with_reducible rfl); rotate_left; (simp only [Act.put, List.setIfInBounds_toArray, List.set_cons_zero, List.set_cons_succ, i64_w, i32_w]; rfl)
      refine pure_ (i := 9) (N := some 55) (v := ?_) (a' := ?_) #[true, true, true, true, false, false, false, true, true, true, false, false, false, false, false, false, false, false, false, false, false, false, false, false, false, false, false, false, false, false, false, false] rfl rfl (any_of HT_.out (by kernel_rfl)) (fun _ _ _ h => h) (Or.inl ⟨by rfl, ?_⟩) ?_ ?_; rotate_left; (intro w'; go_simp; with_reducible rfl); rotate_left; (simp only [Act.put, List.setIfInBounds_toArray, List.set_cons_zero, List.set_cons_succ, i64_w, i32_w]; rfl)
      refine pure_ (i := 10) (N := some 56) (v := ?_) (a' := ?_) #[true, true, true, true, false, false, false, true, true, true, true, false, false, false, false, false, false, false, false, false, false, false, false, false, false, false, false, false, false, false, false, false] rfl rfl (any_of HT_.out (by kernel_rfl)) (fun _ _ _ h => h) (Or.inl ⟨by rfl, ?_⟩) ?_ ?_; rotate_left; (intro w'; go_simp; with_reducible rfl); rotate_left; (simp only [Act.put, List.setIfInBounds_toArray, List.set_cons_zero, List.set_cons_succ, i64_w, i32_w]; rfl)
      refine pure_ (i := 14) (N := some 60) (v := ?_) (a' := ?_) #[true, true, true, true, false, false, false, true, true, true, true, false, false, false, true, false, false, false, false, false, false, false, false, false, false, false, false, false, false, false, false, false] rfl rfl (any_of HT_.out (by kernel_rfl)) (fun _ _ _ h => h) (Or.inl ⟨by rfl, ?_⟩) ?_ ?_; rotate_left; (intro w'; go_simp; with_reducible rfl); rotate_left; (simp only [Act.put, List.setIfInBounds_toArray, List.set_cons_zero, List.set_cons_succ, i64_w, i32_w]; rfl)
      refine pure_ (i := 15) (N := some 61) (v := ?_) (a' := ?_) #[true, true, true, true, false, false, false, true, true, true, true, false, false, false, true, true, false, false, false, false, false, false, false, false, false, false, false, false, false, false, false, false] rfl rfl (any_of HT_.out (by kernel_rfl)) (fun _ _ _ h => h) (Or.inl ⟨by rfl, ?_⟩) ?_ ?_; rotate_left; (intro w'; go_simp; with_reducible rfl); rotate_left; (simp only [Act.put, List.setIfInBounds_toArray, List.set_cons_zero, List.set_cons_succ, i64_w, i32_w]; rfl)
      refine pure_ (i := 16) (N := some 62) (v := ?_) (a' := ?_) #[true, true, true, true, false, false, false, true, true, true, true, false, false, false, true, true, true, false, false, false, false, false, false, false, false, false, false, false, false, false, false, false] rfl rfl (any_of HT_.out (by kernel_rfl)) (fun _ _ _ h => h) (Or.inl ⟨by rfl, ?_⟩) ?_ ?_; rotate_left; (intro w'; go_simp; with_reducible rfl); rotate_left; (simp only [Act.put, List.setIfInBounds_toArray, List.set_cons_zero, List.set_cons_succ, i64_w, i32_w]; rfl)
      refine pure_ (i := 17) (N := some 63) (v := ?_) (a' := ?_) #[true, true, true, true, false, false, false, true, true, true, true, false, false, false, true, true, true, true, false, false, false, false, false, false, false, false, false, false, false, false, false, false] rfl rfl (any_of HT_.out (by kernel_rfl)) (fun _ _ _ h => h) (Or.inl ⟨by rfl, ?_⟩) ?_ ?_; rotate_left; (intro w'; go_simp; with_reducible rfl); rotate_left; (simp only [Act.put, List.setIfInBounds_toArray, List.set_cons_zero, List.set_cons_succ, i64_w, i32_w]; rfl)
      refine pure_ (i := 18) (N := some 64) (v := ?_) (a' := ?_) #[true, true, true, true, false, false, false, true, true, true, true, false, false, false, true, true, true, true, true, false, false, false, false, false, false, false, false, false, false, false, false, false] rfl rfl (any_of HT_.out (by kernel_rfl)) (fun _ _ _ h => h) (Or.inl ⟨by rfl, ?_⟩) ?_ ?_; rotate_left; (intro w'; go_simp; with_reducible rfl); rotate_left; (simp only [Act.put, List.setIfInBounds_toArray, List.set_cons_zero, List.set_cons_succ, i64_w, i32_w]; rfl)
      refine pure_ (i := 19) (N := some 65) (v := ?_) (a' := ?_) #[true, true, true, true, false, false, false, true, true, true, true, false, false, false, true, true, true, true, true, true, false, false, false, false, false, false, false, false, false, false, false, false] rfl rfl (any_of HT_.out (by kernel_rfl)) (fun _ _ _ h => h) (Or.inl ⟨by rfl, ?_⟩) ?_ ?_; rotate_left; (intro w'; go_simp; with_reducible rfl); rotate_left; (simp only [Act.put, List.setIfInBounds_toArray, List.set_cons_zero, List.set_cons_succ, i64_w, i32_w]; rfl)
      refine pure_ (i := 21) (N := some 67) (v := ?_) (a' := ?_) #[true, true, true, true, false, false, false, true, true, true, true, false, false, false, true, true, true, true, true, true, false, true, false, false, false, false, false, false, false, false, false, false] rfl rfl (any_of HT_.out (by kernel_rfl)) (fun _ _ _ h => h) (Or.inl ⟨by rfl, ?_⟩) ?_ ?_; rotate_left; (intro w'; go_simp; with_reducible rfl); rotate_left; (simp only [Act.put, List.setIfInBounds_toArray, List.set_cons_zero, List.set_cons_succ, i64_w, i32_w]; rfl)
      refine pure_ (i := 22) (N := some 68) (v := ?_) (a' := ?_) #[true, true, true, true, false, false, false, true, true, true, true, false, false, false, true, true, true, true, true, true, false, true, true, false, false, false, false, false, false, false, false, false] rfl rfl (any_of HT_.out (by kernel_rfl)) (fun _ _ _ h => h) (Or.inl ⟨by rfl, ?_⟩) ?_ ?_; rotate_left; (intro w'; go_simp; with_reducible rfl); rotate_left; (simp only [Act.put, List.setIfInBounds_toArray, List.set_cons_zero, List.set_cons_succ, i64_w, i32_w]; rfl)
      refine pure_ (i := 23) (N := some 69) (v := ?_) (a' := ?_) #[true, true, true, true, false, false, false, true, true, true, true, false, false, false, true, true, true, true, true, true, false, true, true, true, false, false, false, false, false, false, false, false] rfl rfl (any_of HT_.out (by kernel_rfl)) (fun _ _ _ h => h) (Or.inl ⟨by rfl, ?_⟩) ?_ ?_; rotate_left; (intro w'; go_simp; with_reducible rfl); rotate_left; (simp only [Act.put, List.setIfInBounds_toArray, List.set_cons_zero, List.set_cons_succ, i64_w, i32_w]; rfl)
      refine pure_ (i := 24) (N := some 70) (v := ?_) (a' := ?_) #[true, true, true, true, false, false, false, true, true, true, true, false, false, false, true, true, true, true, true, true, false, true, true, true, true, false, false, false, false, false, false, false] rfl rfl (any_of HT_.out (by kernel_rfl)) (fun _ _ _ h => h) (Or.inl ⟨by rfl, ?_⟩) ?_ ?_; rotate_left; (intro w'; go_simp; with_reducible rfl); rotate_left; (simp only [Act.put, List.setIfInBounds_toArray, List.set_cons_zero, List.set_cons_succ, i64_w, i32_w]; rfl)
      refine pure_ (i := 25) (N := some 71) (v := ?_) (a' := ?_) #[true, true, true, true, false, false, false, true, true, true, true, false, false, false, true, true, true, true, true, true, false, true, true, true, true, true, false, false, false, false, false, false] rfl rfl (any_of HT_.out (by kernel_rfl)) (fun _ _ _ h => h) (Or.inl ⟨by rfl, ?_⟩) ?_ ?_; rotate_left; (intro w'; go_simp; with_reducible rfl); rotate_left; (simp only [Act.put, List.setIfInBounds_toArray, List.set_cons_zero, List.set_cons_succ, i64_w, i32_w]; rfl)
      refine pure_ (i := 26) (N := some 72) (v := ?_) (a' := ?_) #[true, true, true, true, false, false, false, true, true, true, true, false, false, false, true, true, true, true, true, true, false, true, true, true, true, true, true, false, false, false, false, false] rfl rfl (any_of HT_.out (by kernel_rfl)) (fun _ _ _ h => h) (Or.inl ⟨by rfl, ?_⟩) ?_ ?_; rotate_left; (intro w'; go_simp; with_reducible rfl); rotate_left; (simp only [Act.put, List.setIfInBounds_toArray, List.set_cons_zero, List.set_cons_succ, i64_w, i32_w]; rfl)
      refine take_ (i := 4) (N := some 50) (v := ?_) (a' := ?_) #[true, true, true, true, true, false, false, true, true, true, true, false, false, false, true, true, true, true, true, true, false, true, true, true, true, true, true, false, false, false, false, false] rfl rfl (take_ofW HT_.out HW_.out (by kernel_rfl)) (fun _ _ _ h => h) (Or.inl ⟨by rfl, ?_⟩) hHeld ?_ ?_; rotate_left; (rintro w' ⟨s0, s1⟩; go_simp; with_reducible rfl); rotate_left; (simp only [Act.put, List.setIfInBounds_toArray, List.set_cons_zero, List.set_cons_succ, i64_w, i32_w]; rfl)
      refine pure_ (i := 5) (N := some 51) (v := ?_) (a' := ?_) #[true, true, true, true, true, true, false, true, true, true, true, false, false, false, true, true, true, true, true, true, false, true, true, true, true, true, true, false, false, false, false, false] rfl rfl (any_of HT_.out (by kernel_rfl)) (fun _ _ _ h => h) (Or.inl ⟨by rfl, ?_⟩) ?_ ?_; rotate_left; (intro w'; go_simp; with_reducible rfl); rotate_left; (simp only [Act.put, List.setIfInBounds_toArray, List.set_cons_zero, List.set_cons_succ, i64_w, i32_w]; rfl)
      refine pure_ (i := 6) (N := some 52) (v := ?_) (a' := ?_) #[true, true, true, true, true, true, true, true, true, true, true, false, false, false, true, true, true, true, true, true, false, true, true, true, true, true, true, false, false, false, false, false] rfl rfl (any_of HT_.out (by kernel_rfl)) (fun _ _ _ h => h) (Or.inl ⟨by rfl, ?_⟩) ?_ ?_; rotate_left; (intro w'; go_simp; with_reducible rfl); rotate_left; (simp only [Act.put, List.setIfInBounds_toArray, List.set_cons_zero, List.set_cons_succ, i64_w, i32_w]; rfl)
      refine take_ (i := 11) (N := some 57) (v := ?_) (a' := ?_) #[true, true, true, true, true, true, true, true, true, true, true, true, false, false, true, true, true, true, true, true, false, true, true, true, true, true, true, false, false, false, false, false] rfl rfl (take_ofW HT_.out HW_.out (by kernel_rfl)) (fun _ _ _ h => h) (Or.inl ⟨by rfl, ?_⟩) hHeld ?_ ?_; rotate_left; (rintro w' ⟨s0, s1⟩; go_simp; with_reducible rfl); rotate_left; (simp only [Act.put, List.setIfInBounds_toArray, List.set_cons_zero, List.set_cons_succ, i64_w, i32_w]; rfl)
      refine pure_ (i := 12) (N := some 58) (v := ?_) (a' := ?_) #[true, true, true, true, true, true, true, true, true, true, true, true, true, false, true, true, true, true, true, true, false, true, true, true, true, true, true, false, false, false, false, false] rfl rfl (any_of HT_.out (by kernel_rfl)) (fun _ _ _ h => h) (Or.inl ⟨by rfl, ?_⟩) ?_ ?_; rotate_left; (intro w'; go_simp; with_reducible rfl); rotate_left; (simp only [Act.put, List.setIfInBounds_toArray, List.set_cons_zero, List.set_cons_succ, i64_w, i32_w]; rfl)
      refine pure_ (i := 13) (N := some 59) (v := ?_) (a' := ?_) #[true, true, true, true, true, true, true, true, true, true, true, true, true, true, true, true, true, true, true, true, false, true, true, true, true, true, true, false, false, false, false, false] rfl rfl (any_of HT_.out (by kernel_rfl)) (fun _ _ _ h => h) (Or.inl ⟨by rfl, ?_⟩) ?_ ?_; rotate_left; (intro w'; go_simp; with_reducible rfl); rotate_left; (simp only [Act.put, List.setIfInBounds_toArray, List.set_cons_zero, List.set_cons_succ, i64_w, i32_w]; rfl)
      refine one_ (i := 20) (N := some 66) #[true, true, true, true, true, true, true, true, true, true, true, true, true, true, true, true, true, true, true, true, true, true, true, true, true, true, true, false, false, false, false, false] rfl rfl (one_of HT_.out (by kernel_rfl)) (by decide) (fun K hK => ?_)
      refine goes_ Tryz.func76 (by kernel_rfl) rfl #[.slice A23 y133.length c23] (by rfl) rfl rfl (by (try simp only [List.map_toArray, List.map_cons, List.map_nil]); first | done | rfl | (simp only [List.length_drop, List.length_take]; rfl)) ?_
      with_reducible refine (bytes_Clone.calls _ _ y133 t137 _ ?side1 ?side2 A14.out).mono ?_
      (case side1 => exact Kd.C_u (Kd.C_below HR136.out HB.out))
      (case side2 => exact HC136.out)
      rintro e w25 ⟨v138, rfl, ho0, hb⟩
      refine ⟨_, rfl, ?_⟩
      have n0_ := Aside0.mk (Kd.S_elder' (Kd.S_u HO_2.out) (Kd.R_base ho0) hb)
      have n1_ := Aside0.mk (Kd.R_lower ho0 (below_size (bU HB.out)))
      have n2_ := Aside0.mk (below_step (bU HB.out) hb)
      clear HO_2
      clear HB
      have HO_2 := n0_
      have HO139 := n1_
      have HB := n2_
      clear n0_ n1_ n2_
      (try clear hb)
      (try clear hb2)
      (try clear hk)
      (try clear hi)
      (try clear ho0)
      refine hK.out _ _ ⟨((HB.out.cell (World.block_lt_of_cell? w _ hw131_0)).trans hw131_0), ((HB.out.cell (World.block_lt_of_cell? w _ hw132_0)).trans hw132_0)⟩ (fun hHeld => ?_)
      clear hK K
      refine norm_ (a' := ?_) ?_ ?_; rotate_left; (show Act.put _ (some 66) _ = _; simp only [Act.put, List.setIfInBounds_toArray, List.set_cons_zero, List.set_cons_succ, i64_w, i32_w]; rfl)
      refine one_ (i := 27) (N := some 73) #[true, true, true, true, true, true, true, true, true, true, true, true, true, true, true, true, true, true, true, true, true, true, true, true, true, true, true, true, false, false, false, false] rfl rfl (one_of HT_.out (by kernel_rfl)) (by decide) (fun K hK => ?_)
      refine goes_ Tryz.func76 (by kernel_rfl) rfl #[.slice A24 y140.length c24] (by rfl) rfl rfl (by (try simp only [List.map_toArray, List.map_cons, List.map_nil]); first | done | rfl | (simp only [List.length_drop, List.length_take]; rfl)) ?_
      with_reducible refine (bytes_Clone.calls _ _ y140 t144 _ ?side1 ?side2 A18.out).mono ?_
      (case side1 => exact Kd.C_u (Kd.C_below HR143.out HB.out))
      (case side2 => exact HC143.out)
      rintro e w26 ⟨v145, rfl, ho0, hb⟩
      refine ⟨_, rfl, ?_⟩
      have n0_ := Aside0.mk (Kd.S_elder' (Kd.S_u HO_2.out) (Kd.R_base ho0) hb)
      have n1_ := Aside0.mk (Kd.R_elder' (Kd.R_u HO139.out) (Kd.R_base ho0) hb)
      have n2_ := Aside0.mk (Kd.R_lower (Kd.R_new' ho0 (Kd.R_lt (Kd.R_u HO139.out))) (below_size (bU HB.out)))
      have n3_ := Aside0.mk (below_step (bU HB.out) hb)
      clear HO_2
      clear HO139
      clear HB
      have HO_2 := n0_
      have HO139 := n1_
      have HO146 := n2_
      have HB := n3_
      clear n0_ n1_ n2_ n3_
      (try clear hb)
      (try clear hb2)
      (try clear hk)
      (try clear hi)
      (try clear ho0)
      obtain ⟨Ao27, co27, eo27⟩ := Kd.R_slice HO146.out
      (first | subst eo27 | (injection eo27 with f1_ f2_ f3_; have f4_ := f1_.symm; have f5_ := f3_.symm; clear f1_ f2_ f3_; subst f4_; subst f5_))
      obtain ⟨Ao28, co28, eo28⟩ := Kd.R_slice HO139.out
      (first | subst eo28 | (injection eo28 with f1_ f2_ f3_; have f4_ := f1_.symm; have f5_ := f3_.symm; clear f1_ f2_ f3_; subst f4_; subst f5_))
      refine hK.out _ _ ⟨((HB.out.cell (World.block_lt_of_cell? w _ hw131_0)).trans hw131_0), ((HB.out.cell (World.block_lt_of_cell? w _ hw132_0)).trans hw132_0)⟩ (fun hHeld => ?_)
      clear hK K
      refine norm_ (a' := ?_) ?_ ?_; rotate_left; (show Act.put _ (some 73) _ = _; simp only [Act.put, List.setIfInBounds_toArray, List.set_cons_zero, List.set_cons_succ, i64_w, i32_w]; rfl)
      refine pure_ (i := 28) (N := some 74) (v := ?_) (a' := ?_) #[true, true, true, true, true, true, true, true, true, true, true, true, true, true, true, true, true, true, true, true, true, true, true, true, true, true, true, true, true, false, false, false] rfl rfl (any_of HT_.out (by kernel_rfl)) (fun _ _ _ h => h) (Or.inl ⟨by rfl, ?_⟩) ?_ ?_; rotate_left; (intro w'; go_simp; with_reducible rfl); rotate_left; (simp only [Act.put, List.setIfInBounds_toArray, List.set_cons_zero, List.set_cons_succ, i64_w, i32_w]; rfl)
      refine one_ (i := 29) (N := some 75) #[true, true, true, true, true, true, true, true, true, true, true, true, true, true, true, true, true, true, true, true, true, true, true, true, true, true, true, true, true, true, false, false] rfl rfl (one_of HT_.out (by kernel_rfl)) (by decide) (fun K hK => ?_)
      refine value_ (w1 := ?_) (v := ?_) (by rfl) rfl ?_ ?_
      rotate_left 2
      · go_simp
        constructor
        rotate_left
        · rfl
        rfl
      refine hK.out _ _ ⟨(World.cell?_alloc_lt _ _ _ (World.block_lt_of_cell? _ _ (((HB.out.cell (World.block_lt_of_cell? w _ hw131_0)).trans hw131_0)))).trans (((HB.out.cell (World.block_lt_of_cell? w _ hw131_0)).trans hw131_0)), (World.cell?_alloc_lt _ _ _ (World.block_lt_of_cell? _ _ (((HB.out.cell (World.block_lt_of_cell? w _ hw132_0)).trans hw132_0)))).trans (((HB.out.cell (World.block_lt_of_cell? w _ hw132_0)).trans hw132_0))⟩ (fun hHeld => ?_)
      clear hK K
      refine norm_ (a' := ?_) ?_ ?_; rotate_left; (show Act.put _ (some 75) _ = _; simp only [Act.put, List.setIfInBounds_toArray, List.set_cons_zero, List.set_cons_succ, i64_w, i32_w]; rfl)
      refine one_ (i := 30) (N := some 76) #[true, true, true, true, true, true, true, true, true, true, true, true, true, true, true, true, true, true, true, true, true, true, true, true, true, true, true, true, true, true, true, false] rfl rfl (one_of HT_.out (by kernel_rfl)) (by decide) (fun K hK => ?_)
      refine Kd.S_append_step k77 (w0 := w) w.heap.size (by rfl) (.tmp 46) (.tmp 75) 138 77 (.agg #[(.int .i64 0), (.int .i64 0), (.bool false), (.slice none 0 0), (.slice none 0 0)]) 72 rfl Tryz.underlying138 info77 rfl (by decide) (by omega) (.slice Ao20 x2_1.length co20) x2_1 (⟨wrap64 ((rd l0 x5_1) / 64), t123, ((Go.bits .and .u8 (rd l0 x5_1) 32) != 0), t137, t144⟩ : S77) [.int .i64 (wrap64 ((rd l0 x5_1) / 64)), .int .i64 t123, .bool ((Go.bits .and .u8 (rd l0 x5_1) 32) != 0), .slice Ao28 t137.length co28, .slice Ao27 t144.length co27] (fun _ => True) (fun k_ => some k_ = (.slice Ao28 t137.length co28 : Value).ownBlock ∨ some k_ = (.slice Ao27 t144.length co27 : Value).ownBlock) rfl rfl ?aP (fun k_ hk_ => hk_.elim (fun h_ => ((Kd.R_mono (ok' := fun k_ => ((fun _ => True)) k_ ∧ some k_ ≠ (.slice Ao20 x2_1.length co20 : Value).ownBlock) (Kd.R_apart' (HO139.out) (Kd.S_typed HO_2.out) (by decide)) (fun k_ hk => ⟨trivial, hk.2⟩))).1 k_ h_.symm) (fun h_ => ((Kd.R_mono (ok' := fun k_ => ((fun _ => True)) k_ ∧ some k_ ≠ (.slice Ao20 x2_1.length co20 : Value).ownBlock) (Kd.R_apart' (HO146.out) (Kd.S_typed HO_2.out) (by decide)) (fun k_ hk => ⟨trivial, hk.2⟩))).1 k_ h_.symm)) ?aF ?aO ?aB ?aS ?aL ?_
      (case aP => exact k77_mkM _ _ _ (⟨wrap64 ((rd l0 x5_1) / 64), t123, ((Go.bits .and .u8 (rd l0 x5_1) 32) != 0), t137, t144⟩ : S77) (Kd.R_mono (Kd.R_tight rfl (Kd.R_mono (ok' := fun k_ => ((fun _ => True)) k_ ∧ some k_ ≠ (.slice Ao20 x2_1.length co20 : Value).ownBlock) (Kd.R_apart' (HO139.out) (Kd.S_typed HO_2.out) (by decide)) (fun k_ hk => ⟨trivial, hk.2⟩))) (fun _ h_ => Or.inl h_)) (Kd.R_mono (Kd.R_tight rfl (Kd.R_mono (ok' := fun k_ => ((fun _ => True)) k_ ∧ some k_ ≠ (.slice Ao20 x2_1.length co20 : Value).ownBlock) (Kd.R_apart' (HO146.out) (Kd.S_typed HO_2.out) (by decide)) (fun k_ hk => ⟨trivial, hk.2⟩))) (fun _ h_ => Or.inr (h_))))
      (case aB => exact (bU HB.out))
      (case aF => exact (fun _ _ => trivial))
      (case aO => exact (Kd.S_u (Kd.S_mono HO_2.out (fun k_ hk => ⟨trivial, fun e_ => e_.elim (fun h_ => hk.1.2 h_) (fun h_ => hk.2 h_)⟩))))
      (case aS => exact (below_size (bU HB.out)))
      (case aL => have := LMc19.out; omega)
      intro v148 w29 ho hb hg hat
      rw [← Ny147.out] at ho
      have n0_ := Aside0.mk (hb)
      have n1_ := Aside0.mk (ho)
      clear HB
      clear HO_2
      clear HO139
      clear HO146
      have HB := n0_
      have HO149 := n1_
      clear n0_ n1_
      clear ho hb hg hat
      refine hK.out _ _ ⟨((HB.out.cell (World.block_lt_of_cell? w _ hw131_0)).trans hw131_0), ((HB.out.cell (World.block_lt_of_cell? w _ hw132_0)).trans hw132_0)⟩ (fun hHeld => ?_)
      clear hK K
      refine norm_ (a' := ?_) ?_ ?_; rotate_left; (show Act.put _ (some 76) _ = _; simp only [Act.put, List.setIfInBounds_toArray, List.set_cons_zero, List.set_cons_succ, i64_w, i32_w]; rfl)
      refine pure_ (i := 31) (N := some 2) (v := ?_) (a' := ?_) #[true, true, true, true, true, true, true, true, true, true, true, true, true, true, true, true, true, true, true, true, true, true, true, true, true, true, true, true, true, true, true, true] rfl rfl (any_of HT_.out (by kernel_rfl)) (fun _ _ _ h => h) (Or.inl ⟨by rfl, ?_⟩) ?_ ?_; rotate_left; (intro w'; go_simp; with_reducible rfl); rotate_left; (simp only [Act.put, List.setIfInBounds_toArray, List.set_cons_zero, List.set_cons_succ, i64_w, i32_w]; rfl)
      refine done_ (done_of HT_.out (by kernel_rfl)) ?_
      try go_wp2
      go_roundg k1
      case measure => have := HK1.out; omega
      case rel => exact ⟨(y147), (wrap64 (t128 + t127)), (by first | rfl | (simp; done) | (simp [*]; done)), H', ⟨by have := HK1.out; omega⟩, ⟨Kd.S_u HO149.out⟩, ⟨bU HB.out⟩⟩
end Go.Proofs.YtkioddjjfifadaaGreatDoor.P
namespace Go.Proofs.YtkioddjjfifadaaGreatDoor.P
open Go.RowKit Go.Proofs.YtkioddjjfifadaaGreatDoorW.PrintWords Go.Proofs.YtkioddjjfifadaaGreatDoorW.PrintLast Go.Proofs.YtkioddjjfifadaaGreatDoorW.PrintMore
attribute [local go_sem] max2_int min2_int max_two min_two max_three min_three max_four min_four
set_option linter.unusedVariables false
set_option linter.unusedSimpArgs false
def der_One.f (k : Nat) (l0 : List Int) : Option (Int × Int × Bool × List Int × List Int × Int) := (der_Split.f k l0).bind fun bt204 => (if bt204.2.1 = 0 then (if (bt204.1.length : Int) = 0 then (some (0, 0, false, ([] : List Int), ([] : List Int), 5)) else (if (bt204.1.length : Int) > 1 then (some (0, 0, false, ([] : List Int), ([] : List Int), 4)) else (if 0 < (bt204.1.length : Int) then (some ((rd_T77 bt204.1 0).f0, (rd_T77 bt204.1 0).f1, (rd_T77 bt204.1 0).f2, (rd_T77 bt204.1 0).f3, (rd_T77 bt204.1 0).f4, 0)) else (none)))) else (some (0, 0, false, ([] : List Int), ([] : List Int), bt204.2.1)))
end Go.Proofs.YtkioddjjfifadaaGreatDoor.P
namespace Go.Proofs.YtkioddjjfifadaaGreatDoor.P
open Go.RowKit Go.Proofs.YtkioddjjfifadaaGreatDoorW.PrintWords Go.Proofs.YtkioddjjfifadaaGreatDoorW.PrintLast Go.Proofs.YtkioddjjfifadaaGreatDoorW.PrintMore
attribute [local go_sem] max2_int min2_int max_two min_two max_three min_three max_four min_four
set_option linter.unusedVariables false
set_option linter.unusedSimpArgs false
def chirographlaw13_num.f (a0 : Int) : Option (Int) := some a0
end Go.Proofs.YtkioddjjfifadaaGreatDoor.P
namespace Go.Proofs.YtkioddjjfifadaaGreatDoor.P
open Go.RowKit Go.Proofs.YtkioddjjfifadaaGreatDoorW.PrintWords Go.Proofs.YtkioddjjfifadaaGreatDoorW.PrintLast Go.Proofs.YtkioddjjfifadaaGreatDoorW.PrintMore
attribute [local go_sem] max2_int min2_int max_two min_two max_three min_three max_four min_four
set_option linter.unusedVariables false
set_option linter.unusedSimpArgs false
def slices_Index_int_int.l0 : Nat → List Int → Int → Int → Int → Option (Int)
  | 0, _, _, _, _ => none
  | k + 1, x0, x1, x7, x8 => if x8 < x7 then (if 0 ≤ x8 then (if x8 < (x0.length : Int) then (if x1 = (rd x0 x8) then (some x8) else (slices_Index_int_int.l0 k x0 x1 x7 (wrap64 (x8 + 1)))) else (none)) else (none)) else (some (-1))
def slices_Index_int_int.f (k : Nat) (l0 : List Int) (a1 : Int) : Option (Int) := slices_Index_int_int.l0 k l0 a1 (l0.length : Int) 0
end Go.Proofs.YtkioddjjfifadaaGreatDoor.P
namespace Go.Proofs.YtkioddjjfifadaaGreatDoor.P
open Go.RowKit Go.Proofs.YtkioddjjfifadaaGreatDoorW.PrintWords Go.Proofs.YtkioddjjfifadaaGreatDoorW.PrintLast Go.Proofs.YtkioddjjfifadaaGreatDoorW.PrintMore
attribute [local go_sem] max2_int min2_int max_two min_two max_three min_three max_four min_four
set_option linter.unusedVariables false
set_option linter.unusedSimpArgs false
def slices_Contains_int_int.f (k : Nat) (l0 : List Int) (a1 : Int) : Option (Bool) := (slices_Index_int_int.f k l0 a1).bind fun t102 => (some (decide (t102 ≥ 0)))
end Go.Proofs.YtkioddjjfifadaaGreatDoor.P
namespace Go.Proofs.YtkioddjjfifadaaGreatDoor.P
open Go.RowKit Go.Proofs.YtkioddjjfifadaaGreatDoorW.PrintWords Go.Proofs.YtkioddjjfifadaaGreatDoorW.PrintLast Go.Proofs.YtkioddjjfifadaaGreatDoorW.PrintMore
attribute [local go_sem] max2_int min2_int max_two min_two max_three min_three max_four min_four
set_option linter.unusedVariables false
set_option linter.unusedSimpArgs false
def crl_Counts.f (k : Nat) (l0_0 : List Int) (a0_1 : Int) (a0_2 : Int) (a1 : Int) (l2 : List Int) : Option (Bool) := if a0_1 ≤ a1 then (some true) else ((slices_Contains_int_int.f k l2 a0_2).bind fun t104 => (some (!t104)))
end Go.Proofs.YtkioddjjfifadaaGreatDoor.P
namespace Go.Proofs.YtkioddjjfifadaaGreatDoor.P
open Go.RowKit Go.Proofs.YtkioddjjfifadaaGreatDoorW.PrintWords Go.Proofs.YtkioddjjfifadaaGreatDoorW.PrintLast Go.Proofs.YtkioddjjfifadaaGreatDoorW.PrintMore
attribute [local go_sem] max2_int min2_int max_two min_two max_three min_three max_four min_four
set_option linter.unusedVariables false
set_option linter.unusedSimpArgs false
def crl_Fresh.f (l0_0 : List Int) (l0_1 : List Int) (l0_2 : List (List (S64))) (a0_3 : Int) (a0_4 : Int) (a0_5 : Bool) (a0_6 : Int) (a0_7 : Int) (a0_8 : Int) (a0_9 : Int) (l0_10 : List Int) (l0_11 : List (S30)) (l0_12 : List Int) (a0_13 : Bool) (a1 : Int) : Option (Bool) := if a0_3 ≤ a1 then (if a0_5 = true then (some true) else (some (decide (a1 ≤ a0_4)))) else (some false)
end Go.Proofs.YtkioddjjfifadaaGreatDoor.P
namespace Go.Proofs.YtkioddjjfifadaaGreatDoor.P
open Go.RowKit Go.Proofs.YtkioddjjfifadaaGreatDoorW.PrintWords Go.Proofs.YtkioddjjfifadaaGreatDoorW.PrintLast Go.Proofs.YtkioddjjfifadaaGreatDoorW.PrintMore
attribute [local go_sem] max2_int min2_int max_two min_two max_three min_three max_four min_four
set_option linter.unusedVariables false
set_option linter.unusedSimpArgs false
def bytes_Equal.f (l0 : List Int) (l1 : List Int) : Option (Bool) := some ((strOfNums l0).toList == (strOfNums l1).toList)
end Go.Proofs.YtkioddjjfifadaaGreatDoor.P
namespace Go.Proofs.YtkioddjjfifadaaGreatDoor.P
open Go.RowKit Go.Proofs.YtkioddjjfifadaaGreatDoorW.PrintWords Go.Proofs.YtkioddjjfifadaaGreatDoorW.PrintLast Go.Proofs.YtkioddjjfifadaaGreatDoorW.PrintMore
attribute [local go_sem] max2_int min2_int max_two min_two max_three min_three max_four min_four
set_option linter.unusedVariables false
set_option linter.unusedSimpArgs false
def signed_One.l0 : Nat → ByteArray → List (S163) → List (S163) → Int → Int → Option (List Int × Int)
  | 0, _, _, _, _, _ => none
  | k + 1, x1, x6, x9, x10, x11 => if x11 < x10 then (if 0 ≤ x11 then (if x11 < (x9.length : Int) then (if ((rd_T163 x9 x11).f0).toList = x1.toList then (if x6.length < 3518437208883 then (signed_One.l0 k x1 (x6 ++ [(⟨(rd_T163 x9 x11).f0, (rd_T163 x9 x11).f1⟩ : S163)]) x9 x10 (wrap64 (x11 + 1))) else (none)) else (signed_One.l0 k x1 x6 x9 x10 (wrap64 (x11 + 1)))) else (none)) else (none)) else (if (x6.length : Int) = 0 then (some (([] : List Int), 5)) else (if (x6.length : Int) > 1 then (some (([] : List Int), 121)) else (if 0 < (x6.length : Int) then (if (((rd_T163 x6 0).f1).length : Int) = 1 then (if 0 < (((rd_T163 x6 0).f1).length : Int) then ((bytes_Clone.f (rd_L1 ((rd_T163 x6 0).f1) 0)).bind fun t1158 => (some (t1158, 0))) else (none)) else (some (([] : List Int), 121))) else (none))))
def signed_One.f (k : Nat) (l0 : List (S163)) (a1 : ByteArray) : Option (List Int × Int) := signed_One.l0 k a1 ([] : List (S163)) l0 (l0.length : Int) 0
end Go.Proofs.YtkioddjjfifadaaGreatDoor.P
namespace Go.Proofs.YtkioddjjfifadaaGreatDoor.P
open Go.RowKit Go.Proofs.YtkioddjjfifadaaGreatDoorW.PrintWords Go.Proofs.YtkioddjjfifadaaGreatDoorW.PrintLast Go.Proofs.YtkioddjjfifadaaGreatDoorW.PrintMore
attribute [local go_sem] max2_int min2_int max_two min_two max_three min_three max_four min_four
set_option linter.unusedVariables false
set_option linter.unusedSimpArgs false
def chirographlaw17_num.f (a0 : Int) : Option (Int) := some a0
end Go.Proofs.YtkioddjjfifadaaGreatDoor.P
