/- What the proof of NameParses needs of: Pxf146, Lq4, Pxf189, Pxf82. -/
import Derived.Test.YtkioddjjfifadaaGreatDoorNp2
import Derived.Test.YtkioddjjfifadaaGreatDoorNp5
import Derived.Test.YtkioddjjfifadaaGreatDoorNp6
namespace Go.Proofs.YtkioddjjfifadaaGreatDoor.P
open Go.RowKit Go.Proofs.YtkioddjjfifadaaGreatDoorW.PrintWords Go.Proofs.YtkioddjjfifadaaGreatDoorW.PrintLast Go.Proofs.YtkioddjjfifadaaGreatDoorW.PrintMore
attribute [local go_sem] max2_int min2_int max_two min_two max_three min_three max_four min_four
set_option linter.unusedVariables false
set_option linter.unusedSimpArgs false
mutual
def chirographref04_Oid.j0 : Nat → List Int → Bool → Option (ByteArray × Int)
  | 0, _, _ => none
  | k + 1, x0, x19 => if x19 = true then (some ((⟨#[]⟩ : ByteArray), 6)) else (chirographref04_Oid.l0 k x0 0)
def chirographref04_Oid.l0 : Nat → List Int → Int → Option (ByteArray × Int)
  | 0, _, _ => none
  | k + 1, x0, x4 => if x4 < (x0.length : Int) then (if 0 ≤ x4 then (if (rd x0 x4) = 128 then (if x4 = 0 then (some ((⟨#[]⟩ : ByteArray), 6)) else (if 0 ≤ (wrap64 (x4 - 1)) then (if (wrap64 (x4 - 1)) < (x0.length : Int) then (if (rd x0 (wrap64 (x4 - 1))) < 128 then (some ((⟨#[]⟩ : ByteArray), 6)) else (chirographref04_Oid.l0 k x0 (wrap64 (x4 + 1)))) else (none)) else (none))) else (chirographref04_Oid.l0 k x0 (wrap64 (x4 + 1)))) else (none)) else (chirographref04_Oid.l1 k x0 (⟨#[]⟩ : ByteArray) 0 0)
def chirographref04_Oid.l1 : Nat → List Int → ByteArray → Int → Int → Option (ByteArray × Int)
  | 0, _, _, _, _ => none
  | k + 1, x0, x5, x6, x7 => if x7 < (x0.length : Int) then (if 0 ≤ x7 then (if (wrap64 ((wrap64 (x6 * 128)) + (wrap64 (Int.tmod (rd x0 x7) 128)))) > 1099511627776 then (chirographref04_Oid.j3 k x0 x5 1099511627776 x7) else (chirographref04_Oid.j3 k x0 x5 (wrap64 ((wrap64 (x6 * 128)) + (wrap64 (Int.tmod (rd x0 x7) 128)))) x7)) else (none)) else (some (x5, 0))
def chirographref04_Oid.j3 : Nat → List Int → ByteArray → Int → Int → Option (ByteArray × Int)
  | 0, _, _, _, _ => none
  | k + 1, x0, x5, x6, x7 => if 0 ≤ x7 then (if x7 < (x0.length : Int) then (if (rd x0 x7) ≥ 128 then (chirographref04_Oid.l1 k x0 x5 x6 (wrap64 (x7 + 1))) else (if x5.toList = ([] : List UInt8) then (if x6 ≥ 80 then (if (wrap64 (x6 - 80)) > 2147483647 then (some ((⟨#[]⟩ : ByteArray), 3)) else (if 1 + 1 ≤ 9223372036854775807 then ((chirographref04_Decimal.f k (wrap64 (x6 - 80))).bind fun t900 => (if 2 + t900.size ≤ 9223372036854775807 then (chirographref04_Oid.l1 k x0 (((⟨#[50]⟩ : ByteArray) ++ (⟨#[46]⟩ : ByteArray)) ++ t900) 0 (wrap64 (x7 + 1))) else (none))) else (none))) else (if x6 ≥ 40 then (if (wrap64 (x6 - 40)) > 2147483647 then (some ((⟨#[]⟩ : ByteArray), 3)) else (if 1 + 1 ≤ 9223372036854775807 then ((chirographref04_Decimal.f k (wrap64 (x6 - 40))).bind fun t901 => (if 2 + t901.size ≤ 9223372036854775807 then (chirographref04_Oid.l1 k x0 (((⟨#[49]⟩ : ByteArray) ++ (⟨#[46]⟩ : ByteArray)) ++ t901) 0 (wrap64 (x7 + 1))) else (none))) else (none))) else (if x6 > 2147483647 then (some ((⟨#[]⟩ : ByteArray), 3)) else (if 1 + 1 ≤ 9223372036854775807 then ((chirographref04_Decimal.f k x6).bind fun t902 => (if 2 + t902.size ≤ 9223372036854775807 then (chirographref04_Oid.l1 k x0 (((⟨#[48]⟩ : ByteArray) ++ (⟨#[46]⟩ : ByteArray)) ++ t902) 0 (wrap64 (x7 + 1))) else (none))) else (none))))) else (if x6 > 2147483647 then (some ((⟨#[]⟩ : ByteArray), 3)) else (if x5.size + 1 ≤ 9223372036854775807 then ((chirographref04_Decimal.f k x6).bind fun t903 => (if (x5 ++ (⟨#[46]⟩ : ByteArray)).size + t903.size ≤ 9223372036854775807 then (chirographref04_Oid.l1 k x0 ((x5 ++ (⟨#[46]⟩ : ByteArray)) ++ t903) 0 (wrap64 (x7 + 1))) else (none))) else (none))))) else (none)) else (none)
end
def chirographref04_Oid.f (k : Nat) (l0 : List Int) : Option (ByteArray × Int) := if (l0.length : Int) = 0 then (chirographref04_Oid.j0 k l0 true) else (if 0 ≤ (wrap64 ((l0.length : Int) - 1)) then (if (wrap64 ((l0.length : Int) - 1)) < (l0.length : Int) then (chirographref04_Oid.j0 k l0 (decide ((rd l0 (wrap64 ((l0.length : Int) - 1))) ≥ 128))) else (none)) else (none))
set_option maxHeartbeats 8000000 in
set_option maxRecDepth 100000 in
theorem chirographref04_Oid.calls (k : Nat) (A0 : Option Addr) (c0 : Nat) (l0 : List Int) (r1 : ByteArray) (r2 : Int) (w : World) (hr0 : Kd.C (Kd.int .u8) w A0 l0.length l0) (hc0 : l0.length ≤ c0) (h : chirographref04_Oid.f k l0 = some (r1, r2)) :
    Calls Tryz.prog 146 #[.slice A0 l0.length c0] w fun e w' => e = .returned (.tuple #[.string r1, .int .i64 r2]) ∧ Below w.heap.size w w' := by
  have HR0 := Aside0.mk hr0
  have HC0 := Aside0.mk hc0
  clear hr0 hc0
  have HB := Aside0.mk (Below.refl w.heap.size w)
  have H : (if (l0.length : Int) = 0 then (chirographref04_Oid.j0 k l0 true) else (if 0 ≤ (wrap64 ((l0.length : Int) - 1)) then (if (wrap64 ((l0.length : Int) - 1)) < (l0.length : Int) then (chirographref04_Oid.j0 k l0 (decide ((rd l0 (wrap64 ((l0.length : Int) - 1))) ≥ 128))) else (none)) else (none))) = some (r1, r2) := h
  clear h
  have HC2 := Aside0.mk H
  clear H
  go_enter Tryz.func146, Tryz.ntmps146
  go_upto_region 1 with (fail)
  go_cut [19] (fun v19 wc => ∃ (kq : Nat) (x19_1 : Bool), v19 = .bool x19_1 ∧ Aside0 (chirographref04_Oid.j0 kq l0 x19_1 = some (r1, r2)) ∧ Aside0 (kq ≤ k) ∧ Aside0 (Below w.heap.size w wc))
  case first =>
    have H := HC2.out
    clear HC2
    by_cases c3 : (l0.length : Int) = 0
    · rw [if_pos c3] at H
      have c3b0 : ((l0.length : Int) == 0) = true := beq_iff_eq.mpr c3
      have c3b1 : ((l0.length : Int) != 0) = false := bne_eq_false_iff_eq.mpr c3
      clear c3
      (first | rw [c3b0] | (simp only [i64_w, i32_w]; rw [c3b0]) | skip)
      have H' := Aside0.mk H
      clear H
      go_wp2
      go_meet
      case rel => exact ⟨_, (true), (by first | rfl | (simp; done) | (simp [*]; done)), H', ⟨by first | omega | exact Nat.le_refl _⟩, ⟨bU HB.out⟩⟩
    rw [if_neg c3] at H
    have c3b0 : ((l0.length : Int) == 0) = false := beq_eq_false_iff_ne.mpr c3
    have c3b1 : ((l0.length : Int) != 0) = true := bne_iff_ne.mpr c3
    have c3b2 : ¬ (l0 = []) := fun h_ => c3 (by rw [h_]; rfl)
    (first | rw [c3b0] | (simp only [i64_w, i32_w]; rw [c3b0]) | skip)
    obtain ⟨ji4, hji4⟩ : ∃ j_ : Int, (wrap64 ((l0.length : Int) - 1)) = j_ := ⟨_, rfl⟩
    replace H : (if 0 ≤ (ji4) then (if (ji4) < (l0.length : Int) then (chirographref04_Oid.j0 k l0 (decide ((rd l0 (ji4)) ≥ 128))) else (none)) else (none)) = some (r1, r2) := by first | (rw [hji4] at H; exact H) | (simp only [hji4] at H ⊢; exact H)
    have hji4w : (IntKind.i64.wrap ((l0.length : Int) - 1)) = ji4 := (i64_w _).trans hji4
    by_cases c5 : 0 ≤ (ji4)
    rotate_left
    · rw [if_neg c5] at H
      exact absurd H (by simp)
    rw [if_pos c5] at H
    have c5b0 : decide (0 ≤ (ji4)) = true := decide_eq_true c5
    clear c5
    by_cases c6 : (ji4) < (l0.length : Int)
    rotate_left
    · rw [if_neg c6] at H
      exact absurd H (by simp)
    rw [if_pos c6] at H
    have c6b0 : decide ((ji4) < (l0.length : Int)) = true := decide_eq_true c6
    clear c6
    have H' := Aside0.mk H
    clear H
    have p895 : 0 ≤ ((ji4) : Int) := of_decide_eq_true (by first | (with_reducible assumption) | assumption)
    have q895 : (ji4) < (l0.length : Int) := of_decide_eq_true (by first | (with_reducible assumption) | assumption)
    obtain ⟨ad895, e895, hx895_0⟩ := Kd.at_int HR0.out (ji4) p895 q895
    cases e895
    replace hx895_0 := (HB.out.cell (World.block_lt_of_cell? w _ hx895_0)).trans hx895_0
    replace p895 := eq_true p895
    replace q895 := eq_true q895
    go_wp2
    go_meet
    case rel => exact ⟨_, (decide ((rd l0 (ji4)) ≥ 128)), (by first | rfl | (simp; done) | (simp only [← hji4] <;> (first | rfl | simp)) | (simp [*]; done)), H', ⟨by first | omega | exact Nat.le_refl _⟩, ⟨bU HB.out⟩⟩
  clear HC2
  try clear c1
  try clear p2
  try clear c3
  try clear c3b0
  try clear c3b1
  try clear c3b2
  try clear c5
  try clear c5b0
  try clear c6
  try clear c6b0
  try clear p6
  try clear hx895_0
  try clear p895
  try clear q895
  obtain ⟨kq, x19_1, rfl, HA, HJ1, HB⟩ := hcut
  cases kq with
  | zero => exact absurd HA.out (by simp [chirographref04_Oid.j0])
  | succ kj1 =>
    have H := HA.out
    clear HA
    simp only [chirographref04_Oid.j0] at H
    by_cases c7 : x19_1 = true
    · subst c7
      have H1 : (some ((⟨#[]⟩ : ByteArray), 6)) = some (r1, r2) := by rw [if_pos rfl] at H; exact H
      clear H
      have H := H1
      clear H1
      simp only [Option.some.injEq, Prod.mk.injEq] at H
      obtain ⟨rfl, rfl⟩ := H
      go_wp2
      go_ret2
      exact ⟨by first | rfl | (simp [errW_none, errW_some] <;> rfl), bU HB.out⟩
    replace c7 := Bool.eq_false_iff.mpr c7
    subst c7
    have H1 : (chirographref04_Oid.l0 kj1 l0 0) = some (r1, r2) := by rw [if_neg (show ¬ (false = true) by decide)] at H; exact H
    clear H
    have H := H1
    clear H1
    have H' := Aside0.mk H
    clear H
    go_wp2
    go_loopg [4] kj1 (fun kq v4 w' => ∃ (x4_2 : Int), v4 = .int .i64 x4_2 ∧ Aside0 (chirographref04_Oid.l0 kq l0 x4_2 = some (r1, r2)) ∧ Aside0 (kq ≤ kj1) ∧ Aside0 (Below w.heap.size w w'))
    case atStart => exact ⟨(0), (by first | rfl | (simp; done) | (simp [*]; done)), H', ⟨Nat.le_refl _⟩, ⟨bU HB.out⟩⟩
    case round =>
      clear H'
      try clear c1
      try clear p2
      try clear c3
      try clear c3b0
      try clear c3b1
      try clear c3b2
      try clear c5
      try clear c5b0
      try clear c6
      try clear c6b0
      try clear p6
      try clear c7
      try clear hx895_0
      try clear p2
      try clear p6
      try clear p895
      try clear q895
      obtain ⟨x4_2, rfl, HA, HK2, HB⟩ := hrel
      cases gk with
      | zero => exact absurd HA.out (by simp [chirographref04_Oid.l0])
      | succ k2 =>
        have H := HA.out
        clear HA
        simp only [chirographref04_Oid.l0] at H
        by_cases c8 : x4_2 < (l0.length : Int)
        · rw [if_pos c8] at H
          have c8b0 : decide (x4_2 < (l0.length : Int)) = true := decide_eq_true c8
          clear c8
          by_cases c9 : 0 ≤ x4_2
          rotate_left
          · rw [if_neg c9] at H
            exact absurd H (by simp)
          rw [if_pos c9] at H
          have c9b0 : decide (0 ≤ x4_2) = true := decide_eq_true c9
          clear c9
          by_cases c10 : (rd l0 x4_2) = 128
          rotate_left
          · rw [if_neg c10] at H
            have c10b0 : ((rd l0 x4_2) == 128) = false := beq_eq_false_iff_ne.mpr c10
            have c10b1 : ((rd l0 x4_2) != 128) = true := bne_iff_ne.mpr c10
            have H' := Aside0.mk H
            clear H
            have p896 : 0 ≤ (x4_2 : Int) := of_decide_eq_true (by first | (with_reducible assumption) | assumption)
            have q896 : x4_2 < (l0.length : Int) := of_decide_eq_true (by first | (with_reducible assumption) | assumption)
            obtain ⟨ad896, e896, hx896_0⟩ := Kd.at_int HR0.out x4_2 p896 q896
            cases e896
            replace hx896_0 := (HB.out.cell (World.block_lt_of_cell? w _ hx896_0)).trans hx896_0
            replace p896 := eq_true p896
            replace q896 := eq_true q896
            go_wp2
            go_roundg k2
            case measure => have := HJ1.out; have := HK2.out; omega
            case rel => exact ⟨(wrap64 (x4_2 + 1)), (by first | rfl | (simp; done) | (simp [*]; done)), H', ⟨by have := HJ1.out; have := HK2.out; omega⟩, ⟨bU HB.out⟩⟩
          rw [if_pos c10] at H
          have c10b0 : ((rd l0 x4_2) == 128) = true := beq_iff_eq.mpr c10
          have c10b1 : ((rd l0 x4_2) != 128) = false := bne_eq_false_iff_eq.mpr c10
          clear c10
          by_cases c11 : x4_2 = 0
          · rw [if_pos c11] at H
            have c11b0 : (x4_2 == 0) = true := beq_iff_eq.mpr c11
            have c11b1 : (x4_2 != 0) = false := bne_eq_false_iff_eq.mpr c11
            clear c11
            simp only [Option.some.injEq, Prod.mk.injEq] at H
            obtain ⟨rfl, rfl⟩ := H
            have p896 : 0 ≤ (x4_2 : Int) := of_decide_eq_true (by first | (with_reducible assumption) | assumption)
            have q896 : x4_2 < (l0.length : Int) := of_decide_eq_true (by first | (with_reducible assumption) | assumption)
            obtain ⟨ad896, e896, hx896_0⟩ := Kd.at_int HR0.out x4_2 p896 q896
            cases e896
            replace hx896_0 := (HB.out.cell (World.block_lt_of_cell? w _ hx896_0)).trans hx896_0
            replace p896 := eq_true p896
            replace q896 := eq_true q896
            go_wp2
            go_ret2
            exact ⟨by first | rfl | (simp [errW_none, errW_some] <;> rfl), bU HB.out⟩
          rw [if_neg c11] at H
          have c11b0 : (x4_2 == 0) = false := beq_eq_false_iff_ne.mpr c11
          have c11b1 : (x4_2 != 0) = true := bne_iff_ne.mpr c11
          obtain ⟨ji12, hji12⟩ : ∃ j_ : Int, (wrap64 (x4_2 - 1)) = j_ := ⟨_, rfl⟩
          replace H : (if 0 ≤ (ji12) then (if (ji12) < (l0.length : Int) then (if (rd l0 (ji12)) < 128 then (some ((⟨#[]⟩ : ByteArray), 6)) else (chirographref04_Oid.l0 k2 l0 (wrap64 (x4_2 + 1)))) else (none)) else (none)) = some (r1, r2) := by first | (rw [hji12] at H; exact H) | (simp only [hji12] at H ⊢; exact H)
          have hji12w : (IntKind.i64.wrap (x4_2 - 1)) = ji12 := (i64_w _).trans hji12
          by_cases c13 : 0 ≤ (ji12)
          rotate_left
          · rw [if_neg c13] at H
            exact absurd H (by simp)
          rw [if_pos c13] at H
          have c13b0 : decide (0 ≤ (ji12)) = true := decide_eq_true c13
          clear c13
          by_cases c14 : (ji12) < (l0.length : Int)
          rotate_left
          · rw [if_neg c14] at H
            exact absurd H (by simp)
          rw [if_pos c14] at H
          have c14b0 : decide ((ji12) < (l0.length : Int)) = true := decide_eq_true c14
          clear c14
          by_cases c15 : (rd l0 (ji12)) < 128
          · rw [if_pos c15] at H
            have c15b0 : decide ((rd l0 (ji12)) < 128) = true := decide_eq_true c15
            clear c15
            simp only [Option.some.injEq, Prod.mk.injEq] at H
            obtain ⟨rfl, rfl⟩ := H
            have p896 : 0 ≤ (x4_2 : Int) := of_decide_eq_true (by first | (with_reducible assumption) | assumption)
            have q896 : x4_2 < (l0.length : Int) := of_decide_eq_true (by first | (with_reducible assumption) | assumption)
            obtain ⟨ad896, e896, hx896_0⟩ := Kd.at_int HR0.out x4_2 p896 q896
            cases e896
            replace hx896_0 := (HB.out.cell (World.block_lt_of_cell? w _ hx896_0)).trans hx896_0
            replace p896 := eq_true p896
            replace q896 := eq_true q896
            have p897 : 0 ≤ ((ji12) : Int) := of_decide_eq_true (by first | (with_reducible assumption) | assumption)
            have q897 : (ji12) < (l0.length : Int) := of_decide_eq_true (by first | (with_reducible assumption) | assumption)
            obtain ⟨ad897, e897, hx897_0⟩ := Kd.at_int HR0.out (ji12) p897 q897
            obtain rfl : ad896 = ad897 := (by injection e897)
            replace hx897_0 := (HB.out.cell (World.block_lt_of_cell? w _ hx897_0)).trans hx897_0
            replace p897 := eq_true p897
            replace q897 := eq_true q897
            go_wp2
            go_ret2
            exact ⟨by first | rfl | (simp [errW_none, errW_some] <;> rfl) | (simp only [← hji12]; first | rfl | (simp [errW_none, errW_some] <;> rfl)) | (simp [*, errW_none, errW_some] <;> rfl), bU HB.out⟩
          rw [if_neg c15] at H
          have c15b0 : decide ((rd l0 (ji12)) < 128) = false := decide_eq_false c15
          clear c15
          have H' := Aside0.mk H
          clear H
          have p896 : 0 ≤ (x4_2 : Int) := of_decide_eq_true (by first | (with_reducible assumption) | assumption)
          have q896 : x4_2 < (l0.length : Int) := of_decide_eq_true (by first | (with_reducible assumption) | assumption)
          obtain ⟨ad896, e896, hx896_0⟩ := Kd.at_int HR0.out x4_2 p896 q896
          cases e896
          replace hx896_0 := (HB.out.cell (World.block_lt_of_cell? w _ hx896_0)).trans hx896_0
          replace p896 := eq_true p896
          replace q896 := eq_true q896
          have p897 : 0 ≤ ((ji12) : Int) := of_decide_eq_true (by first | (with_reducible assumption) | assumption)
          have q897 : (ji12) < (l0.length : Int) := of_decide_eq_true (by first | (with_reducible assumption) | assumption)
          obtain ⟨ad897, e897, hx897_0⟩ := Kd.at_int HR0.out (ji12) p897 q897
          obtain rfl : ad896 = ad897 := (by injection e897)
          replace hx897_0 := (HB.out.cell (World.block_lt_of_cell? w _ hx897_0)).trans hx897_0
          replace p897 := eq_true p897
          replace q897 := eq_true q897
          go_wp2
          go_roundg k2
          case measure => have := HJ1.out; have := HK2.out; omega
          case rel => exact ⟨(wrap64 (x4_2 + 1)), (by first | rfl | (simp; done) | (simp [*]; done)), H', ⟨by have := HJ1.out; have := HK2.out; omega⟩, ⟨bU HB.out⟩⟩
        rw [if_neg c8] at H
        have c8b0 : decide (x4_2 < (l0.length : Int)) = false := decide_eq_false c8
        clear c8
        have H' := Aside0.mk H
        clear H
        go_wp2
        go_loopg [5, 6, 7] k2 (fun kq v5 v6 v7 w' => ∃ (x5_3 : ByteArray) (x6_3 : Int) (x7_3 : Int), v5 = .string x5_3 ∧ v6 = .int .i64 x6_3 ∧ v7 = .int .i64 x7_3 ∧ Aside0 (chirographref04_Oid.l1 kq l0 x5_3 x6_3 x7_3 = some (r1, r2)) ∧ Aside0 (kq ≤ k2) ∧ Aside0 (Below w.heap.size w w'))
        case atStart => exact ⟨((⟨#[]⟩ : ByteArray)), (0), (0), (by first | rfl | (simp; done) | (simp [*]; done)), (by first | rfl | (simp; done) | (simp [*]; done)), (by first | rfl | (simp; done) | (simp [*]; done)), H', ⟨Nat.le_refl _⟩, ⟨bU HB.out⟩⟩
        case round =>
          clear H'
          try clear c1
          try clear p2
          try clear c3
          try clear c3b0
          try clear c3b1
          try clear c3b2
          try clear c5
          try clear c5b0
          try clear c6
          try clear c6b0
          try clear p6
          try clear c7
          try clear c8
          try clear c8b0
          try clear p8
          try clear q8
          try clear hx8
          try clear c9
          try clear c9b0
          try clear c10
          try clear c10b0
          try clear c10b1
          try clear c11
          try clear c11b0
          try clear c11b1
          try clear c13
          try clear c13b0
          try clear c14
          try clear c14b0
          try clear c15
          try clear c15b0
          try clear hx895_0
          try clear hx896_0
          try clear hx897_0
          try clear p2
          try clear p6
          try clear p895
          try clear p896
          try clear p897
          try clear q895
          try clear q896
          try clear q897
          obtain ⟨x5_3, x6_3, x7_3, rfl, rfl, rfl, HA, HK3, HB⟩ := hrel
          cases gk with
          | zero => exact absurd HA.out (by simp [chirographref04_Oid.l1])
          | succ k3 =>
            have H := HA.out
            clear HA
            simp only [chirographref04_Oid.l1] at H
            by_cases c16 : x7_3 < (l0.length : Int)
            rotate_left
            · rw [if_neg c16] at H
              have c16b0 : decide (x7_3 < (l0.length : Int)) = false := decide_eq_false c16
              clear c16
              simp only [Option.some.injEq, Prod.mk.injEq] at H
              obtain ⟨rfl, rfl⟩ := H
              go_wp2
              go_ret2
              exact ⟨by first | rfl | (simp [errW_none, errW_some] <;> rfl), bU HB.out⟩
            rw [if_pos c16] at H
            have c16b0 : decide (x7_3 < (l0.length : Int)) = true := decide_eq_true c16
            clear c16
            by_cases c17 : 0 ≤ x7_3
            rotate_left
            · rw [if_neg c17] at H
              exact absurd H (by simp)
            rw [if_pos c17] at H
            have c17b0 : decide (0 ≤ x7_3) = true := decide_eq_true c17
            clear c17
            have HC18 := Aside0.mk H
            clear H
            have p898 : 0 ≤ (x7_3 : Int) := of_decide_eq_true (by first | (with_reducible assumption) | assumption)
            have q898 : x7_3 < (l0.length : Int) := of_decide_eq_true (by first | (with_reducible assumption) | assumption)
            obtain ⟨ad898, e898, hx898_0⟩ := Kd.at_int HR0.out x7_3 p898 q898
            cases e898
            replace hx898_0 := (HB.out.cell (World.block_lt_of_cell? w _ hx898_0)).trans hx898_0
            replace p898 := eq_true p898
            replace q898 := eq_true q898
            go_upto_if 59 with (fail)
            go_cut [6] (fun v6 wc => ∃ (kq : Nat) (x6_17 : Int), v6 = .int .i64 x6_17 ∧ Aside0 (chirographref04_Oid.j3 kq l0 x5_3 x6_17 x7_3 = some (r1, r2)) ∧ Aside0 (kq ≤ k3) ∧ Aside0 (Below w.heap.size w wc))
            case first =>
              have H := HC18.out
              clear HC18
              by_cases c19 : (wrap64 ((wrap64 (x6_3 * 128)) + (wrap64 (Int.tmod (rd l0 x7_3) 128)))) > 1099511627776
              rotate_left
              · rw [if_neg c19] at H
                have c19b0 : decide (1099511627776 < (wrap64 ((wrap64 (x6_3 * 128)) + (wrap64 (Int.tmod (rd l0 x7_3) 128))))) = false := decide_eq_false c19
                clear c19
                (first | rw [c19b0] | (simp only [i64_w, i32_w]; rw [c19b0]) | skip)
                have H' := Aside0.mk H
                clear H
                go_wp2
                go_meet
                case rel => exact ⟨_, (wrap64 ((wrap64 (x6_3 * 128)) + (wrap64 (Int.tmod (rd l0 x7_3) 128)))), (by first | rfl | (simp; done) | (simp [*]; done)), H', ⟨by have := HJ1.out; have := HK2.out; have := HK3.out; first | omega | exact Nat.le_refl _⟩, ⟨bU HB.out⟩⟩
              rw [if_pos c19] at H
              have c19b0 : decide (1099511627776 < (wrap64 ((wrap64 (x6_3 * 128)) + (wrap64 (Int.tmod (rd l0 x7_3) 128))))) = true := decide_eq_true c19
              clear c19
              (first | rw [c19b0] | (simp only [i64_w, i32_w]; rw [c19b0]) | skip)
              have H' := Aside0.mk H
              clear H
              go_wp2
              go_meet
              case rel => exact ⟨_, (1099511627776), (by first | rfl | (simp; done) | (simp [*]; done)), H', ⟨by have := HJ1.out; have := HK2.out; have := HK3.out; first | omega | exact Nat.le_refl _⟩, ⟨bU HB.out⟩⟩
            clear HC18
            try clear c1
            try clear p2
            try clear c3
            try clear c3b0
            try clear c3b1
            try clear c3b2
            try clear c5
            try clear c5b0
            try clear c6
            try clear c6b0
            try clear p6
            try clear c7
            try clear c8
            try clear c8b0
            try clear p8
            try clear q8
            try clear hx8
            try clear c9
            try clear c9b0
            try clear c10
            try clear c10b0
            try clear c10b1
            try clear c11
            try clear c11b0
            try clear c11b1
            try clear c13
            try clear c13b0
            try clear c14
            try clear c14b0
            try clear c15
            try clear c15b0
            try clear c16
            try clear c16b0
            try clear c17
            try clear c17b0
            try clear c19
            try clear c19b0
            try clear hx895_0
            try clear hx896_0
            try clear hx897_0
            try clear hx898_0
            try clear p2
            try clear p6
            try clear p8
            try clear p895
            try clear p896
            try clear p897
            try clear p898
            try clear q8
            try clear q895
            try clear q896
            try clear q897
            try clear q898
            obtain ⟨kq, x6_17, rfl, HA, HJ17, HB⟩ := hcut
            cases kq with
            | zero => exact absurd HA.out (by simp [chirographref04_Oid.j3])
            | succ kj17 =>
              have H := HA.out
              clear HA
              simp only [chirographref04_Oid.j3] at H
              by_cases c20 : 0 ≤ x7_3
              rotate_left
              · rw [if_neg c20] at H
                exact absurd H (by simp)
              rw [if_pos c20] at H
              have c20b0 : decide (0 ≤ x7_3) = true := decide_eq_true c20
              clear c20
              by_cases c21 : x7_3 < (l0.length : Int)
              rotate_left
              · rw [if_neg c21] at H
                exact absurd H (by simp)
              rw [if_pos c21] at H
              have c21b0 : decide (x7_3 < (l0.length : Int)) = true := decide_eq_true c21
              clear c21
              by_cases c22 : (rd l0 x7_3) ≥ 128
              · rw [if_pos c22] at H
                have c22b0 : decide (128 ≤ (rd l0 x7_3)) = true := decide_eq_true c22
                clear c22
                have H' := Aside0.mk H
                clear H
                have p899 : 0 ≤ (x7_3 : Int) := of_decide_eq_true (by first | (with_reducible assumption) | assumption)
                have q899 : x7_3 < (l0.length : Int) := of_decide_eq_true (by first | (with_reducible assumption) | assumption)
                obtain ⟨ad899, e899, hx899_0⟩ := Kd.at_int HR0.out x7_3 p899 q899
                obtain rfl : ad898 = ad899 := (by injection e899)
                replace hx899_0 := (HB.out.cell (World.block_lt_of_cell? w _ hx899_0)).trans hx899_0
                replace p899 := eq_true p899
                replace q899 := eq_true q899
                go_wp2
                go_roundg kj17
                case measure => have := HJ1.out; have := HK2.out; have := HK3.out; have := HJ17.out; omega
                case rel => exact ⟨(x5_3), (x6_17), (wrap64 (x7_3 + 1)), (by first | rfl | (simp; done) | (simp [*]; done)), (by first | rfl | (simp; done) | (simp [*]; done)), (by first | rfl | (simp; done) | (simp [*]; done)), H', ⟨by have := HJ1.out; have := HK2.out; have := HK3.out; have := HJ17.out; omega⟩, ⟨bU HB.out⟩⟩
              rw [if_neg c22] at H
              have c22b0 : decide (128 ≤ (rd l0 x7_3)) = false := decide_eq_false c22
              clear c22
              by_cases c23 : x5_3.toList = ([] : List UInt8)
              rotate_left
              · rw [if_neg c23] at H
                have c23b0 : (x5_3.toList == ([] : List UInt8)) = false := beq_eq_false_iff_ne.mpr c23
                have c23b1 : (x5_3.toList != ([] : List UInt8)) = true := bne_iff_ne.mpr c23
                by_cases c41 : x6_17 > 2147483647
                · rw [if_pos c41] at H
                  have c41b0 : decide (2147483647 < x6_17) = true := decide_eq_true c41
                  clear c41
                  simp only [Option.some.injEq, Prod.mk.injEq] at H
                  obtain ⟨rfl, rfl⟩ := H
                  have p899 : 0 ≤ (x7_3 : Int) := of_decide_eq_true (by first | (with_reducible assumption) | assumption)
                  have q899 : x7_3 < (l0.length : Int) := of_decide_eq_true (by first | (with_reducible assumption) | assumption)
                  obtain ⟨ad899, e899, hx899_0⟩ := Kd.at_int HR0.out x7_3 p899 q899
                  obtain rfl : ad898 = ad899 := (by injection e899)
                  replace hx899_0 := (HB.out.cell (World.block_lt_of_cell? w _ hx899_0)).trans hx899_0
                  replace p899 := eq_true p899
                  replace q899 := eq_true q899
                  go_wp2
                  go_ret2
                  exact ⟨by first | rfl | (simp [errW_none, errW_some] <;> rfl), bU HB.out⟩
                rw [if_neg c41] at H
                have c41b0 : decide (2147483647 < x6_17) = false := decide_eq_false c41
                clear c41
                by_cases c42 : x5_3.size + 1 ≤ 9223372036854775807
                rotate_left
                · rw [if_neg c42] at H
                  exact absurd H (by simp)
                rw [if_pos c42] at H
                have c42b0 := eq_true c42
                have c42b1 : decide (x5_3.size + 1 ≤ 9223372036854775807) = true := decide_eq_true c42
                try have c42b2 : (9223372036854775807 < x5_3.size + 1) = False := eq_false (Nat.not_lt.2 c42)
                replace H := Option.bind_eq_some_iff.mp H
                obtain ⟨t903, A430, H⟩ := H
                try dsimp only at H
                have A43 := Aside0.mk A430
                clear A430
                by_cases c44 : (x5_3 ++ (⟨#[46]⟩ : ByteArray)).size + t903.size ≤ 9223372036854775807
                rotate_left
                · rw [if_neg c44] at H
                  exact absurd H (by simp)
                rw [if_pos c44] at H
                have c44b0 := eq_true c44
                have c44b1 : decide ((x5_3 ++ (⟨#[46]⟩ : ByteArray)).size + t903.size ≤ 9223372036854775807) = true := decide_eq_true c44
                try have c44b2 : (9223372036854775807 < (x5_3 ++ (⟨#[46]⟩ : ByteArray)).size + t903.size) = False := eq_false (Nat.not_lt.2 c44)
                have ZZ46 : (⟨#[46]⟩ : ByteArray).size = 1 := rfl
                have YYt903 : (9223372036854775807 < x5_3.size + 1 + t903.size) = False := eq_false (by have h_ := c44; simp only [ByteArray.size_append, ZZ46] at h_; omega)
                have H' := Aside0.mk H
                clear H
                have p899 : 0 ≤ (x7_3 : Int) := of_decide_eq_true (by first | (with_reducible assumption) | assumption)
                have q899 : x7_3 < (l0.length : Int) := of_decide_eq_true (by first | (with_reducible assumption) | assumption)
                obtain ⟨ad899, e899, hx899_0⟩ := Kd.at_int HR0.out x7_3 p899 q899
                obtain rfl : ad898 = ad899 := (by injection e899)
                replace hx899_0 := (HB.out.cell (World.block_lt_of_cell? w _ hx899_0)).trans hx899_0
                replace p899 := eq_true p899
                replace q899 := eq_true q899
                go_wp2_with (first | ((with_reducible refine gate_callee (f := 183) rfl ?_); refine goesL_ (some 80) rfl rfl Tryz.func183 (by kernel_rfl) rfl #[.int .i64 x6_17] rfl (by (try simp only [List.map_toArray, List.map_cons, List.map_nil]); first | done | rfl | (simp only [List.length_drop, List.length_take]; rfl)) ?_; (with_reducible refine (chirographref04_Decimal.calls kj17 x6_17 t903 _ A43.out).mono ?_); rintro e w45 ⟨rfl, hb⟩; refine ⟨_, rfl, ?_⟩; have n0_ := Aside0.mk (below_step (bU HB.out) hb); replace HB := n0_; clear n0_; (try clear hb); (try clear hb2); (try clear hk); (try clear hi)))
                go_roundg kj17
                case measure => have := HJ1.out; have := HK2.out; have := HK3.out; have := HJ17.out; omega
                case rel => exact ⟨((x5_3 ++ (⟨#[46]⟩ : ByteArray)) ++ t903), (0), (wrap64 (x7_3 + 1)), (by first | rfl | (simp; done) | (simp [*]; done)), (by first | rfl | (simp; done) | (simp [*]; done)), (by first | rfl | (simp; done) | (simp [*]; done)), H', ⟨by have := HJ1.out; have := HK2.out; have := HK3.out; have := HJ17.out; omega⟩, ⟨bU HB.out⟩⟩
              rw [if_pos c23] at H
              have c23b0 : (x5_3.toList == ([] : List UInt8)) = true := beq_iff_eq.mpr c23
              have c23b1 : (x5_3.toList != ([] : List UInt8)) = false := bne_eq_false_iff_eq.mpr c23
              clear c23
              by_cases c24 : x6_17 ≥ 80
              · rw [if_pos c24] at H
                have c24b0 : decide (80 ≤ x6_17) = true := decide_eq_true c24
                clear c24
                by_cases c25 : (wrap64 (x6_17 - 80)) > 2147483647
                · rw [if_pos c25] at H
                  have c25b0 : decide (2147483647 < (wrap64 (x6_17 - 80))) = true := decide_eq_true c25
                  clear c25
                  simp only [Option.some.injEq, Prod.mk.injEq] at H
                  obtain ⟨rfl, rfl⟩ := H
                  have p899 : 0 ≤ (x7_3 : Int) := of_decide_eq_true (by first | (with_reducible assumption) | assumption)
                  have q899 : x7_3 < (l0.length : Int) := of_decide_eq_true (by first | (with_reducible assumption) | assumption)
                  obtain ⟨ad899, e899, hx899_0⟩ := Kd.at_int HR0.out x7_3 p899 q899
                  obtain rfl : ad898 = ad899 := (by injection e899)
                  replace hx899_0 := (HB.out.cell (World.block_lt_of_cell? w _ hx899_0)).trans hx899_0
                  replace p899 := eq_true p899
                  replace q899 := eq_true q899
                  go_wp2
                  go_ret2
                  exact ⟨by first | rfl | (simp [errW_none, errW_some] <;> rfl), bU HB.out⟩
                rw [if_neg c25] at H
                have c25b0 : decide (2147483647 < (wrap64 (x6_17 - 80))) = false := decide_eq_false c25
                clear c25
                by_cases c26 : 1 + 1 ≤ 9223372036854775807
                rotate_left
                · rw [if_neg c26] at H
                  exact absurd H (by simp)
                rw [if_pos c26] at H
                have c26b0 := eq_true c26
                have c26b1 : decide (1 + 1 ≤ 9223372036854775807) = true := decide_eq_true c26
                try have c26b2 : (9223372036854775807 < 1 + 1) = False := eq_false (Nat.not_lt.2 c26)
                replace H := Option.bind_eq_some_iff.mp H
                obtain ⟨t900, A270, H⟩ := H
                try dsimp only at H
                have A27 := Aside0.mk A270
                clear A270
                by_cases c28 : 2 + t900.size ≤ 9223372036854775807
                rotate_left
                · rw [if_neg c28] at H
                  exact absurd H (by simp)
                rw [if_pos c28] at H
                have c28b0 := eq_true c28
                have c28b1 : decide (2 + t900.size ≤ 9223372036854775807) = true := decide_eq_true c28
                try have c28b2 : (9223372036854775807 < 2 + t900.size) = False := eq_false (Nat.not_lt.2 c28)
                have YYt900 : (9223372036854775807 < 1 + 1 + t900.size) = False := eq_false (by have h_ := c28; omega)
                have YZt900 : (9223372036854775807 < 1 + (1 + t900.size)) = False := eq_false (by have h_ := c28; omega)
                have H' := Aside0.mk H
                clear H
                have p899 : 0 ≤ (x7_3 : Int) := of_decide_eq_true (by first | (with_reducible assumption) | assumption)
                have q899 : x7_3 < (l0.length : Int) := of_decide_eq_true (by first | (with_reducible assumption) | assumption)
                obtain ⟨ad899, e899, hx899_0⟩ := Kd.at_int HR0.out x7_3 p899 q899
                obtain rfl : ad898 = ad899 := (by injection e899)
                replace hx899_0 := (HB.out.cell (World.block_lt_of_cell? w _ hx899_0)).trans hx899_0
                replace p899 := eq_true p899
                replace q899 := eq_true q899
                go_wp2_with (first | ((with_reducible refine gate_callee (f := 183) rfl ?_); refine goesL_ (some 80) rfl rfl Tryz.func183 (by kernel_rfl) rfl #[.int .i64 (wrap64 (x6_17 - 80))] rfl (by (try simp only [List.map_toArray, List.map_cons, List.map_nil]); first | done | rfl | (simp only [List.length_drop, List.length_take]; rfl)) ?_; (with_reducible refine (chirographref04_Decimal.calls kj17 (wrap64 (x6_17 - 80)) t900 _ A27.out).mono ?_); rintro e w29 ⟨rfl, hb⟩; refine ⟨_, rfl, ?_⟩; have n0_ := Aside0.mk (below_step (bU HB.out) hb); replace HB := n0_; clear n0_; (try clear hb); (try clear hb2); (try clear hk); (try clear hi)))
                go_roundg kj17
                case measure => have := HJ1.out; have := HK2.out; have := HK3.out; have := HJ17.out; omega
                case rel => exact ⟨(((⟨#[50]⟩ : ByteArray) ++ (⟨#[46]⟩ : ByteArray)) ++ t900), (0), (wrap64 (x7_3 + 1)), (by first | rfl | (simp; done) | (simp [*]; done)), (by first | rfl | (simp; done) | (simp [*]; done)), (by first | rfl | (simp; done) | (simp [*]; done)), H', ⟨by have := HJ1.out; have := HK2.out; have := HK3.out; have := HJ17.out; omega⟩, ⟨bU HB.out⟩⟩
              rw [if_neg c24] at H
              have c24b0 : decide (80 ≤ x6_17) = false := decide_eq_false c24
              clear c24
              by_cases c30 : x6_17 ≥ 40
              rotate_left
              · rw [if_neg c30] at H
                have c30b0 : decide (40 ≤ x6_17) = false := decide_eq_false c30
                clear c30
                by_cases c36 : x6_17 > 2147483647
                · rw [if_pos c36] at H
                  have c36b0 : decide (2147483647 < x6_17) = true := decide_eq_true c36
                  clear c36
                  simp only [Option.some.injEq, Prod.mk.injEq] at H
                  obtain ⟨rfl, rfl⟩ := H
                  have p899 : 0 ≤ (x7_3 : Int) := of_decide_eq_true (by first | (with_reducible assumption) | assumption)
                  have q899 : x7_3 < (l0.length : Int) := of_decide_eq_true (by first | (with_reducible assumption) | assumption)
                  obtain ⟨ad899, e899, hx899_0⟩ := Kd.at_int HR0.out x7_3 p899 q899
                  obtain rfl : ad898 = ad899 := (by injection e899)
                  replace hx899_0 := (HB.out.cell (World.block_lt_of_cell? w _ hx899_0)).trans hx899_0
                  replace p899 := eq_true p899
                  replace q899 := eq_true q899
                  go_wp2
                  go_ret2
                  exact ⟨by first | rfl | (simp [errW_none, errW_some] <;> rfl), bU HB.out⟩
                rw [if_neg c36] at H
                have c36b0 : decide (2147483647 < x6_17) = false := decide_eq_false c36
                clear c36
                by_cases c37 : 1 + 1 ≤ 9223372036854775807
                rotate_left
                · rw [if_neg c37] at H
                  exact absurd H (by simp)
                rw [if_pos c37] at H
                have c37b0 := eq_true c37
                have c37b1 : decide (1 + 1 ≤ 9223372036854775807) = true := decide_eq_true c37
                try have c37b2 : (9223372036854775807 < 1 + 1) = False := eq_false (Nat.not_lt.2 c37)
                replace H := Option.bind_eq_some_iff.mp H
                obtain ⟨t902, A380, H⟩ := H
                try dsimp only at H
                have A38 := Aside0.mk A380
                clear A380
                by_cases c39 : 2 + t902.size ≤ 9223372036854775807
                rotate_left
                · rw [if_neg c39] at H
                  exact absurd H (by simp)
                rw [if_pos c39] at H
                have c39b0 := eq_true c39
                have c39b1 : decide (2 + t902.size ≤ 9223372036854775807) = true := decide_eq_true c39
                try have c39b2 : (9223372036854775807 < 2 + t902.size) = False := eq_false (Nat.not_lt.2 c39)
                have YYt902 : (9223372036854775807 < 1 + 1 + t902.size) = False := eq_false (by have h_ := c39; omega)
                have YZt902 : (9223372036854775807 < 1 + (1 + t902.size)) = False := eq_false (by have h_ := c39; omega)
                have H' := Aside0.mk H
                clear H
                have p899 : 0 ≤ (x7_3 : Int) := of_decide_eq_true (by first | (with_reducible assumption) | assumption)
                have q899 : x7_3 < (l0.length : Int) := of_decide_eq_true (by first | (with_reducible assumption) | assumption)
                obtain ⟨ad899, e899, hx899_0⟩ := Kd.at_int HR0.out x7_3 p899 q899
                obtain rfl : ad898 = ad899 := (by injection e899)
                replace hx899_0 := (HB.out.cell (World.block_lt_of_cell? w _ hx899_0)).trans hx899_0
                replace p899 := eq_true p899
                replace q899 := eq_true q899
                go_wp2_with (first | ((with_reducible refine gate_callee (f := 183) rfl ?_); refine goesL_ (some 80) rfl rfl Tryz.func183 (by kernel_rfl) rfl #[.int .i64 x6_17] rfl (by (try simp only [List.map_toArray, List.map_cons, List.map_nil]); first | done | rfl | (simp only [List.length_drop, List.length_take]; rfl)) ?_; (with_reducible refine (chirographref04_Decimal.calls kj17 x6_17 t902 _ A38.out).mono ?_); rintro e w40 ⟨rfl, hb⟩; refine ⟨_, rfl, ?_⟩; have n0_ := Aside0.mk (below_step (bU HB.out) hb); replace HB := n0_; clear n0_; (try clear hb); (try clear hb2); (try clear hk); (try clear hi)))
                go_roundg kj17
                case measure => have := HJ1.out; have := HK2.out; have := HK3.out; have := HJ17.out; omega
                case rel => exact ⟨(((⟨#[48]⟩ : ByteArray) ++ (⟨#[46]⟩ : ByteArray)) ++ t902), (0), (wrap64 (x7_3 + 1)), (by first | rfl | (simp; done) | (simp [*]; done)), (by first | rfl | (simp; done) | (simp [*]; done)), (by first | rfl | (simp; done) | (simp [*]; done)), H', ⟨by have := HJ1.out; have := HK2.out; have := HK3.out; have := HJ17.out; omega⟩, ⟨bU HB.out⟩⟩
              rw [if_pos c30] at H
              have c30b0 : decide (40 ≤ x6_17) = true := decide_eq_true c30
              clear c30
              by_cases c31 : (wrap64 (x6_17 - 40)) > 2147483647
              · rw [if_pos c31] at H
                have c31b0 : decide (2147483647 < (wrap64 (x6_17 - 40))) = true := decide_eq_true c31
                clear c31
                simp only [Option.some.injEq, Prod.mk.injEq] at H
                obtain ⟨rfl, rfl⟩ := H
                have p899 : 0 ≤ (x7_3 : Int) := of_decide_eq_true (by first | (with_reducible assumption) | assumption)
                have q899 : x7_3 < (l0.length : Int) := of_decide_eq_true (by first | (with_reducible assumption) | assumption)
                obtain ⟨ad899, e899, hx899_0⟩ := Kd.at_int HR0.out x7_3 p899 q899
                obtain rfl : ad898 = ad899 := (by injection e899)
                replace hx899_0 := (HB.out.cell (World.block_lt_of_cell? w _ hx899_0)).trans hx899_0
                replace p899 := eq_true p899
                replace q899 := eq_true q899
                go_wp2
                go_ret2
                exact ⟨by first | rfl | (simp [errW_none, errW_some] <;> rfl), bU HB.out⟩
              rw [if_neg c31] at H
              have c31b0 : decide (2147483647 < (wrap64 (x6_17 - 40))) = false := decide_eq_false c31
              clear c31
              by_cases c32 : 1 + 1 ≤ 9223372036854775807
              rotate_left
              · rw [if_neg c32] at H
                exact absurd H (by simp)
              rw [if_pos c32] at H
              have c32b0 := eq_true c32
              have c32b1 : decide (1 + 1 ≤ 9223372036854775807) = true := decide_eq_true c32
              try have c32b2 : (9223372036854775807 < 1 + 1) = False := eq_false (Nat.not_lt.2 c32)
              replace H := Option.bind_eq_some_iff.mp H
              obtain ⟨t901, A330, H⟩ := H
              try dsimp only at H
              have A33 := Aside0.mk A330
              clear A330
              by_cases c34 : 2 + t901.size ≤ 9223372036854775807
              rotate_left
              · rw [if_neg c34] at H
                exact absurd H (by simp)
              rw [if_pos c34] at H
              have c34b0 := eq_true c34
              have c34b1 : decide (2 + t901.size ≤ 9223372036854775807) = true := decide_eq_true c34
              try have c34b2 : (9223372036854775807 < 2 + t901.size) = False := eq_false (Nat.not_lt.2 c34)
              have YYt901 : (9223372036854775807 < 1 + 1 + t901.size) = False := eq_false (by have h_ := c34; omega)
              have YZt901 : (9223372036854775807 < 1 + (1 + t901.size)) = False := eq_false (by have h_ := c34; omega)
              have H' := Aside0.mk H
              clear H
              have p899 : 0 ≤ (x7_3 : Int) := of_decide_eq_true (by first | (with_reducible assumption) | assumption)
              have q899 : x7_3 < (l0.length : Int) := of_decide_eq_true (by first | (with_reducible assumption) | assumption)
              obtain ⟨ad899, e899, hx899_0⟩ := Kd.at_int HR0.out x7_3 p899 q899
              obtain rfl : ad898 = ad899 := (by injection e899)
              replace hx899_0 := (HB.out.cell (World.block_lt_of_cell? w _ hx899_0)).trans hx899_0
              replace p899 := eq_true p899
              replace q899 := eq_true q899
              go_wp2_with (first | ((with_reducible refine gate_callee (f := 183) rfl ?_); refine goesL_ (some 80) rfl rfl Tryz.func183 (by kernel_rfl) rfl #[.int .i64 (wrap64 (x6_17 - 40))] rfl (by (try simp only [List.map_toArray, List.map_cons, List.map_nil]); first | done | rfl | (simp only [List.length_drop, List.length_take]; rfl)) ?_; (with_reducible refine (chirographref04_Decimal.calls kj17 (wrap64 (x6_17 - 40)) t901 _ A33.out).mono ?_); rintro e w35 ⟨rfl, hb⟩; refine ⟨_, rfl, ?_⟩; have n0_ := Aside0.mk (below_step (bU HB.out) hb); replace HB := n0_; clear n0_; (try clear hb); (try clear hb2); (try clear hk); (try clear hi)))
              go_roundg kj17
              case measure => have := HJ1.out; have := HK2.out; have := HK3.out; have := HJ17.out; omega
              case rel => exact ⟨(((⟨#[49]⟩ : ByteArray) ++ (⟨#[46]⟩ : ByteArray)) ++ t901), (0), (wrap64 (x7_3 + 1)), (by first | rfl | (simp; done) | (simp [*]; done)), (by first | rfl | (simp; done) | (simp [*]; done)), (by first | rfl | (simp; done) | (simp [*]; done)), H', ⟨by have := HJ1.out; have := HK2.out; have := HK3.out; have := HJ17.out; omega⟩, ⟨bU HB.out⟩⟩
end Go.Proofs.YtkioddjjfifadaaGreatDoor.P
namespace Go.Proofs.YtkioddjjfifadaaGreatDoor.P
open Go.RowKit Go.Proofs.YtkioddjjfifadaaGreatDoorW.PrintWords Go.Proofs.YtkioddjjfifadaaGreatDoorW.PrintMore
theorem decimal_any (k : Nat) (h : 30 ≤ k) (x : Int) (h0 : 0 ≤ x) (h1 : x ≤ 9223372036854775807) : chirographref04_Decimal.f k x = some (T (Lib.itoa x)) ∧ (Lib.itoa x).length ≤ 21 := by
  refine ⟨?_, (itoa_at x h0 h1).2⟩
  obtain ⟨u, rfl⟩ : ∃ u : Nat, x = (u : Int) := ⟨x.toNat, by omega⟩
  exact at_rounds (g := fun k => chirographref04_Decimal.f k (u : Int)) (fun k => chirographref04_Decimal.mono _ k) h (decimal_itoa 30 (by decide) (by decide) u (by omega))
theorem val_min (b v : Int) (b0 : 0 ≤ b) (b1 : b ≤ 255) (v0 : 0 ≤ v) (v1 : v ≤ 1099511627776) : mn (Go.bits .or .u64 (IntKind.u64.wrap (v * 128)) (IntKind.u64.wrap (Go.bits .and .u8 b 127))) 1099511627776 = min (v * 128 + b % 128) 1099511627776 := by
  have e1 : IntKind.u64.wrap (v * 128) = v * 128 := by rw [IntKind.wrap_u64]; omega
  have e2 : IntKind.u64.wrap (b % 128) = b % 128 := by rw [IntKind.wrap_u64]; omega
  rw [and127b b b0 b1, e1, e2, or7u v _ v0 (by omega) (by omega) (by omega)]
  unfold mn
  split <;> omega
theorem firsts (V : Int) (h0 : 0 ≤ V) (h1 : V ≤ 1099511627776) :
    wrap64 (mn (IntKind.u64.wrap (Int.tdiv V 40)) 2) = (if V ≥ 80 then 2 else if V ≥ 40 then 1 else 0) ∧
    IntKind.u64.wrap (V - (IntKind.u64.wrap (40 * (mn (IntKind.u64.wrap (Int.tdiv V 40)) 2)))) = (if V ≥ 80 then V - 80 else if V ≥ 40 then V - 40 else V) := by
  have e1 : mn (IntKind.u64.wrap (Int.tdiv V 40)) 2 = (if V ≥ 80 then 2 else if V ≥ 40 then 1 else 0) := by
    rw [Int.tdiv_eq_ediv_of_nonneg h0, IntKind.wrap_u64]
    unfold mn
    split <;> split <;> (try split) <;> omega
  rw [e1]
  by_cases a : V ≥ 80
  · simp only [if_pos a]
    refine ⟨wb (by decide) (by decide), ?_⟩
    rw [show IntKind.u64.wrap (40 * 2) = 80 by decide, IntKind.wrap_u64]
    omega
  by_cases b : V ≥ 40
  rotate_left
  · simp only [if_neg a, if_neg b]
    refine ⟨wb (by decide) (by decide), ?_⟩
    rw [show IntKind.u64.wrap (40 * 0) = 0 by decide, IntKind.wrap_u64]
    omega
  simp only [if_neg a, if_pos b]
  refine ⟨wb (by decide) (by decide), ?_⟩
  rw [show IntKind.u64.wrap (40 * 1) = 40 by decide, IntKind.wrap_u64]
  omega
theorem dot_two (d : UInt8) (s : List UInt8) : ((⟨#[d]⟩ : ByteArray) ++ (⟨#[46]⟩ : ByteArray)) ++ T s = T ([d] ++ ([46] ++ s)) := by
  rw [show (⟨#[d]⟩ : ByteArray) = T [d] from rfl, show (⟨#[46]⟩ : ByteArray) = T [46] from rfl, T_app, T_app, List.append_assoc]
theorem oid_alike (x0 : List Int) (hl : Aside0 (x0.length ≤ 100000000)) (hb : ByL x0) : ∀ (m kd kr : Nat) (q v : Int) (t : List UInt8), 0 ≤ q → q ≤ (x0.length : Int) → (x0.length : Int) - q ≤ m → m + 1 ≤ kd → 2 * m + 40 ≤ kr → 0 ≤ v → v ≤ 1099511627776 → (t.length : Int) ≤ 50 * q →
    ∃ s e, der_Oid.l1 kd (T t) v x0 (x0.length : Int) q = some (s, e) ∧ chirographref04_Oid.l1 kr x0 (T t) v q = some (s, e) := by
  intro m
  induction m with
  | zero =>
    intro kd kr q v t h0 h1 hm hkd hkr v0 v1 ht
    obtain ⟨kd, rfl⟩ : ∃ k1, kd = k1 + 1 := ⟨kd - 1, by omega⟩
    obtain ⟨kr, rfl⟩ : ∃ k1, kr = k1 + 1 := ⟨kr - 1, by omega⟩
    have n : ¬ q < (x0.length : Int) := by omega
    rw [der_Oid.l1, chirographref04_Oid.l1, if_neg n, if_neg n]
    exact ⟨_, _, rfl, rfl⟩
  | succ m IH =>
    intro kd kr q v t h0 h1 hm hkd hkr v0 v1 ht
    obtain ⟨kd, rfl⟩ : ∃ k1, kd = k1 + 1 := ⟨kd - 1, by omega⟩
    obtain ⟨kr, rfl⟩ : ∃ k1, kr = k1 + 2 := ⟨kr - 2, by omega⟩
    by_cases c : q < (x0.length : Int)
    rotate_left
    · have n := c
      rw [der_Oid.l1, chirographref04_Oid.l1, if_neg n, if_neg n]
      exact ⟨_, _, rfl, rfl⟩
    have hl2 := hl.out
    obtain ⟨b0, b1⟩ := hb _ (rd_memI x0 q h0 c)
    obtain ⟨b, hbd⟩ : ∃ b, rd x0 q = b := ⟨_, rfl⟩
    rw [hbd] at b0 b1
    obtain ⟨V, hV⟩ : ∃ V, min (v * 128 + b % 128) 1099511627776 = V := ⟨_, rfl⟩
    have V0 : 0 ≤ V := by omega
    have V1 : V ≤ 1099511627776 := by omega
    have hm1 := val_min b v b0 b1 v0 v1
    rw [hV] at hm1
    have e1 : Int.tmod b 128 = b % 128 := Int.tmod_eq_emod_of_nonneg b0
    have w1 : wrap64 (v * 128) = v * 128 := wb (by omega) (by omega)
    have w2 : wrap64 (b % 128) = b % 128 := wb (by omega) (by omega)
    have w3 : wrap64 (v * 128 + b % 128) = v * 128 + b % 128 := wb (by omega) (by omega)
    have w4 : wrap64 (q + 1) = q + 1 := wb (by omega) (by omega)
    have ih : ∀ (v' : Int) (t' : List UInt8), 0 ≤ v' → v' ≤ 1099511627776 → (t'.length : Int) ≤ (t.length : Int) + 50 → ∃ s e, der_Oid.l1 kd (T t') v' x0 (x0.length : Int) (q + 1) = some (s, e) ∧ chirographref04_Oid.l1 kr x0 (T t') v' (q + 1) = some (s, e) := fun v' t' a1 a2 a3 => IH kd kr (q + 1) v' t' (by omega) (by omega) (by omega) (by omega) (by omega) a1 a2 (by omega)
    have hs : (t.length : Int) ≤ 5000000000 := by omega
    have hk30 : 30 ≤ kr := by omega
    have hR : chirographref04_Oid.l1 (kr + 2) x0 (T t) v q = chirographref04_Oid.j3 (kr + 1) x0 (T t) V q := by
      rw [chirographref04_Oid.l1, if_pos c, if_pos h0, hbd, e1, w1, w2, w3]
      by_cases cM : v * 128 + b % 128 > 1099511627776
      rotate_left
      · rw [if_neg cM, show v * 128 + b % 128 = V by omega]
      rw [if_pos cM, show V = 1099511627776 by omega]
    rw [hR, der_Oid.l1, chirographref04_Oid.j3, if_pos c, if_pos h0, if_pos h0, if_pos c, if_pos c, hbd, hm1, w4]
    clear hR w1 w2 w3 w4 e1 hm1 IH hm hkd hkr
    by_cases c8 : b ≥ 128
    · rw [if_pos c8, if_pos c8]
      exact ih V t V0 V1 (by omega)
    rw [if_neg c8, if_neg c8]
    by_cases ce : (T t).toList = []
    rotate_left
    · rw [if_neg ce, if_neg ce]
      by_cases cw : V > 2147483647
      · rw [if_pos cw, if_pos cw]
        exact ⟨_, _, rfl, rfl⟩
      obtain ⟨j1, j2⟩ := itoa_at V V0 (by omega)
      obtain ⟨d1, _⟩ := decimal_any kr hk30 V V0 (by omega)
      have z1 : (⟨#[46]⟩ : ByteArray) = T [46] := rfl
      have s0 : (T t).size + 1 ≤ 9223372036854775807 := by rw [T_size]; omega
      have s1 : 1 + (T (Lib.itoa V)).size ≤ 9223372036854775807 := by rw [T_size]; omega
      have s2 : (T t).size + (T ([46] ++ Lib.itoa V)).size ≤ 9223372036854775807 := by rw [T_size, T_size, List.length_append]; simp only [List.length_cons, List.length_nil]; omega
      have s3 : (T (t ++ [46])).size + (T (Lib.itoa V)).size ≤ 9223372036854775807 := by rw [T_size, T_size, List.length_append]; simp only [List.length_cons, List.length_nil]; omega
      rw [if_neg cw, if_neg cw, wb (n := V) (by omega) (by omega), j1, d1, Option.bind_some, Option.bind_some, z1, T_app, T_app, T_app, T_app, List.append_assoc, if_pos s0, if_pos s1, if_pos s2, if_pos s3]
      exact ih 0 (t ++ ([46] ++ Lib.itoa V)) (Int.le_refl _) (by decide) (by simp only [List.length_append, List.length_cons, List.length_nil]; omega)
    rw [if_pos ce, if_pos ce]
    obtain ⟨f1, f2⟩ := firsts V V0 V1
    rw [f1, f2]
    clear f1 f2
    have te : t = [] := by rw [Lib.toList_data] at ce; simpa [T] using ce
    have one : (1 : Nat) + 1 ≤ 9223372036854775807 := by decide
    have fin : ∀ (d : UInt8) (F W : Int), 0 ≤ F → F ≤ 9 → Lib.itoa F = [d] → 0 ≤ W → W ≤ 1099511627776 →
        ∃ s e, ((strconv_Itoa.f F).bind fun t179 => (if W > 2147483647 then (some ((⟨#[]⟩ : ByteArray), (3 : Int))) else ((strconv_Itoa.f (wrap64 W)).bind fun t180 => (if 1 + t180.size ≤ 9223372036854775807 then (if t179.size + ((⟨#[46]⟩ : ByteArray) ++ t180).size ≤ 9223372036854775807 then (der_Oid.l1 kd (t179 ++ ((⟨#[46]⟩ : ByteArray) ++ t180)) 0 x0 (x0.length : Int) (q + 1)) else (none)) else (none))))) = some (s, e) ∧
          (if (wrap64 W) > 2147483647 then (some ((⟨#[]⟩ : ByteArray), (3 : Int))) else (if 1 + 1 ≤ 9223372036854775807 then ((chirographref04_Decimal.f kr (wrap64 W)).bind fun t900 => (if 2 + t900.size ≤ 9223372036854775807 then (chirographref04_Oid.l1 kr x0 (((⟨#[d]⟩ : ByteArray) ++ (⟨#[46]⟩ : ByteArray)) ++ t900) 0 (q + 1)) else (none))) else (none))) = some (s, e) := fun d F W F0 F9 hF W0 W1 => by
      obtain ⟨i1, i2⟩ := itoa_at F F0 (by omega)
      rw [i1, Option.bind_some, wb (n := W) (by omega) (by omega)]
      by_cases cw : W > 2147483647
      · rw [if_pos cw, if_pos cw]
        exact ⟨_, _, rfl, rfl⟩
      · obtain ⟨j1, j2⟩ := itoa_at W W0 (by omega)
        obtain ⟨d1, _⟩ := decimal_any kr hk30 W W0 (by omega)
        have z1 : (⟨#[46]⟩ : ByteArray) = T [46] := rfl
        have s1 : 1 + (T (Lib.itoa W)).size ≤ 9223372036854775807 := by rw [T_size]; omega
        have s2 : (T (Lib.itoa F)).size + (T ([46] ++ Lib.itoa W)).size ≤ 9223372036854775807 := by rw [T_size, T_size, List.length_append]; simp only [List.length_cons, List.length_nil]; omega
        have s3 : 2 + (T (Lib.itoa W)).size ≤ 9223372036854775807 := by rw [T_size]; omega
        rw [if_neg cw, if_neg cw, if_pos one, j1, d1, Option.bind_some, Option.bind_some, if_pos s1, if_pos s3, dot_two, z1, T_app, if_pos s2, T_app, hF]
        exact ih 0 ([d] ++ ([46] ++ Lib.itoa W)) (Int.le_refl _) (by decide) (by simp only [List.length_append, List.length_cons, List.length_nil]; omega)
    by_cases a : V ≥ 80
    · simp only [if_pos a]
      exact fin 50 2 (V - 80) (by decide) (by decide) (itoa_digit 2 (by decide) (by decide)) (by omega) (by omega)
    by_cases a4 : V ≥ 40
    · simp only [if_neg a, if_pos a4]
      exact fin 49 1 (V - 40) (by decide) (by decide) (itoa_digit 1 (by decide) (by decide)) (by omega) (by omega)
    simp only [if_neg a, if_neg a4]
    have := fin 48 0 V (by decide) (by decide) (itoa_digit 0 (by decide) (by decide)) V0 V1
    rw [wb (n := V) (by omega) (by omega)] at this
    rw [wb (n := V) (by omega) (by omega)]
    exact this
theorem oid_scan (x0 : List Int) (hl : Aside0 (x0.length ≤ 100000000)) (hb : ByL x0) : ∀ (m k : Nat) (q : Int), 0 ≤ q → q ≤ (x0.length : Int) → (x0.length : Int) - q ≤ m → m + 1 + (2 * x0.length + 40) ≤ k →
    ∃ s e, der_Oid.l0 k x0 x0 (x0.length : Int) q = some (s, e) ∧ chirographref04_Oid.l0 k x0 q = some (s, e) := by
  intro m
  induction m with
  | zero =>
    intro k q h0 h1 hm hk
    obtain ⟨k, rfl⟩ : ∃ k1, k = k1 + 1 := ⟨k - 1, by omega⟩
    have n : ¬ q < (x0.length : Int) := by omega
    rw [der_Oid.l0, chirographref04_Oid.l0, if_neg n, if_neg n]
    exact oid_alike x0 hl hb x0.length k k 0 0 [] (Int.le_refl _) (by omega) (by omega) (by omega) (by omega) (Int.le_refl _) (by decide) (by decide)
  | succ m IH =>
    intro k q h0 h1 hm hk
    obtain ⟨k, rfl⟩ : ∃ k1, k = k1 + 1 := ⟨k - 1, by omega⟩
    by_cases c : q < (x0.length : Int)
    rotate_left
    · have n := c
      rw [der_Oid.l0, chirographref04_Oid.l0, if_neg n, if_neg n]
      exact oid_alike x0 hl hb x0.length k k 0 0 [] (Int.le_refl _) (by omega) (by omega) (by omega) (by omega) (Int.le_refl _) (by decide) (by decide)
    have hl2 := hl.out
    have ih := IH k (q + 1) (by omega) (by omega) (by omega) (by omega)
    have w4 : wrap64 (q + 1) = q + 1 := wb (by omega) (by omega)
    rw [der_Oid.l0, chirographref04_Oid.l0, if_pos c, if_pos h0, if_pos c, if_pos c, if_pos h0]
    by_cases cb : rd x0 q = 128
    rotate_left
    · rw [if_neg cb, if_neg cb, w4]
      exact ih
    rw [if_pos cb, if_pos cb]
    by_cases cq : q = 0
    · rw [if_pos cq, if_pos cq]
      exact ⟨_, _, rfl, rfl⟩
    have q1 : 0 ≤ q - 1 := by omega
    have q2 : q - 1 < (x0.length : Int) := by omega
    have w5 : wrap64 (q - 1) = q - 1 := wb (by omega) (by omega)
    rw [if_neg cq, if_neg cq, w5, if_pos q1, if_pos q1, if_pos q2, if_pos q2]
    by_cases cp : rd x0 (q - 1) < 128
    rotate_left
    · rw [if_neg cp, if_neg cp, w4]
      exact ih
    rw [if_pos cp, if_pos cp]
    exact ⟨_, _, rfl, rfl⟩
theorem oid_both (x0 : List Int) (hl : x0.length ≤ 100000000) (hb : ByL x0) (k : Nat) (hk : 3 * x0.length + 60 ≤ k) :
    ∃ s e, der_Oid.f k x0 = some (s, e) ∧ chirographref04_Oid.f k x0 = some (s, e) := by
  obtain ⟨k, rfl⟩ : ∃ k1, k = k1 + 1 := ⟨k - 1, by omega⟩
  unfold der_Oid.f chirographref04_Oid.f
  have sc := fun k' (h : x0.length + 1 + (2 * x0.length + 40) ≤ k') => oid_scan x0 ⟨hl⟩ hb x0.length k' 0 (Int.le_refl _) (by omega) (by omega) h
  by_cases c : (x0.length : Int) = 0
  · rw [if_pos c, if_pos c, der_Oid.j0, chirographref04_Oid.j0, if_pos rfl, if_pos rfl]
    exact ⟨_, _, rfl, rfl⟩
  have q1 : 0 ≤ (x0.length : Int) - 1 := by omega
  have q2 : (x0.length : Int) - 1 < (x0.length : Int) := by omega
  have w5 : wrap64 ((x0.length : Int) - 1) = (x0.length : Int) - 1 := wb (by omega) (by omega)
  rw [if_neg c, if_neg c, w5, if_pos q1, if_pos q1, if_pos q2, if_pos q2]
  by_cases cb : rd x0 ((x0.length : Int) - 1) ≥ 128
  rotate_left
  · rw [decide_eq_false cb, der_Oid.j0, chirographref04_Oid.j0, if_neg (show ¬ (false = true) by decide), if_neg (show ¬ (false = true) by decide)]
    exact sc k (by omega)
  rw [decide_eq_true cb, der_Oid.j0, chirographref04_Oid.j0, if_pos rfl, if_pos rfl]
  exact ⟨_, _, rfl, rfl⟩
end Go.Proofs.YtkioddjjfifadaaGreatDoor.P
namespace Go.Proofs.YtkioddjjfifadaaGreatDoor.P
open Go.RowKit Go.Proofs.YtkioddjjfifadaaGreatDoorW.PrintWords Go.Proofs.YtkioddjjfifadaaGreatDoorW.PrintLast Go.Proofs.YtkioddjjfifadaaGreatDoorW.PrintMore
attribute [local go_sem] max2_int min2_int max_two min_two max_three min_three max_four min_four
set_option linter.unusedVariables false
set_option linter.unusedSimpArgs false
def name_part.j0 : Nat → List (S77) → Bool → Option (ByteArray × Int × List Int × Int)
  | 0, _, _ => none
  | k + 1, x4, x50 => if x50 = true then (some ((⟨#[]⟩ : ByteArray), 0, ([] : List Int), 30)) else (if 0 < (x4.length : Int) then ((der_Oid.f k ((rd_T77 x4 0).f3)).bind fun bt205 => (if bt205.2 = 0 then (if 1 < (x4.length : Int) then (some (bt205.1, (rd_T77 x4 1).f1, (rd_T77 x4 1).f3, 0)) else (none)) else (some ((⟨#[]⟩ : ByteArray), 0, ([] : List Int), bt205.2)))) else (none))
def name_part.f (k : Nat) (a0_0 : Int) (a0_1 : Int) (a0_2 : Bool) (l0_3 : List Int) (l0_4 : List Int) : Option (ByteArray × Int × List Int × Int) := (name_inside.f k a0_0 a0_1 a0_2 l0_3 l0_4 16).bind fun bt195 => (if bt195.2 = 0 then (if (bt195.1.length : Int) = 2 then (if 0 < (bt195.1.length : Int) then (if 1 < (bt195.1.length : Int) then (if (wrap64 (((rd_T77 bt195.1 0).f0) + ((rd_T77 bt195.1 1).f0))) = 0 then (if ((rd_T77 bt195.1 0).f1) = 6 then (if (rd_T77 bt195.1 0).f2 = true then (name_part.j0 k bt195.1 true) else (name_part.j0 k bt195.1 ((rd_T77 bt195.1 1).f2))) else (name_part.j0 k bt195.1 true)) else (name_part.j0 k bt195.1 true)) else (none)) else (none)) else (name_part.j0 k bt195.1 true)) else (some ((⟨#[]⟩ : ByteArray), 0, ([] : List Int), bt195.2)))
def name_part.T9 : Bool × List (List Nat × List Nat) := (true, [([], []), ([], []), ([1], [1]), ([2], [2]), ([3], [3]), ([], []), ([5], [5]), ([6], [6]), ([7], [7]), ([0, 4, 8], [0, 4, 8]), ([9, 0, 1, 2, 3, 4, 5, 6, 7, 8, 9], [9]), ([10, 0, 1, 2, 3, 4, 5, 6, 7, 8, 9, 10], [])])
def name_part.B9 : List Nat := [0, 0, 2, 6, 14, 0, 32, 96, 224, 511, 1023, 2047]
theorem name_part.tab9 : rtab .any (opsOf Tryz.f189 9) = name_part.T9 := by kernel_rfl
theorem name_part.bits9 : waitsOk name_part.T9.2 name_part.B9 = true := by kernel_rfl
set_option maxHeartbeats 8000000 in
set_option maxRecDepth 100000 in
theorem name_part.calls (k : Nat) (a0_0 : Int) (a0_1 : Int) (a0_2 : Bool) (A0_3 : Option Addr) (c0_3 : Nat) (l0_3 : List Int) (A0_4 : Option Addr) (c0_4 : Nat) (l0_4 : List Int) (r1 : ByteArray) (r2 : Int) (r3 : List Int) (r4 : Int) (w : World) (hr0_3 : Kd.C (Kd.int .u8) w A0_3 l0_3.length l0_3) (hc0_3 : l0_3.length ≤ c0_3) (hr0_4 : Kd.C (Kd.int .u8) w A0_4 l0_4.length l0_4) (hc0_4 : l0_4.length ≤ c0_4) (h : name_part.f k a0_0 a0_1 a0_2 l0_3 l0_4 = some (r1, r2, r3, r4)) (hH : Tb w) :
    Calls Tryz.prog 189 #[.agg #[.int .i64 a0_0, .int .i64 a0_1, .bool a0_2, .slice A0_3 l0_3.length c0_3, .slice A0_4 l0_4.length c0_4]] w fun e w' => ∃ v2_ ev_ : Value, e = .returned (.tuple #[.agg #[.string r1, .int .i64 r2, v2_], ev_]) ∧ EV ev_ r4 ∧ Kd.R (Kd.int .u8) 5 w' w.heap.size (fun _ => True) v2_ r3 ∧ Below w.heap.size w w' := by
  have hu77 := Tryz.underlying77
  have hu64 := Tryz.underlying64
  have HR0_3 := Aside0.mk hr0_3
  have HC0_3 := Aside0.mk hc0_3
  clear hr0_3 hc0_3
  have HR0_4 := Aside0.mk hr0_4
  have HC0_4 := Aside0.mk hc0_4
  clear hr0_4 hc0_4
  have HB := Aside0.mk (Below.refl w.heap.size w)
  have HHd := Aside0.mk hH
  clear hH
  have H : ((name_inside.f k a0_0 a0_1 a0_2 l0_3 l0_4 16).bind fun bt195 => (if bt195.2 = 0 then (if (bt195.1.length : Int) = 2 then (if 0 < (bt195.1.length : Int) then (if 1 < (bt195.1.length : Int) then (if (wrap64 (((rd_T77 bt195.1 0).f0) + ((rd_T77 bt195.1 1).f0))) = 0 then (if ((rd_T77 bt195.1 0).f1) = 6 then (if (rd_T77 bt195.1 0).f2 = true then (name_part.j0 k bt195.1 true) else (name_part.j0 k bt195.1 ((rd_T77 bt195.1 1).f2))) else (name_part.j0 k bt195.1 true)) else (name_part.j0 k bt195.1 true)) else (none)) else (none)) else (name_part.j0 k bt195.1 true)) else (some ((⟨#[]⟩ : ByteArray), 0, ([] : List Int), bt195.2)))) = some (r1, r2, r3, r4) := h
  clear h
  replace H := Option.bind_eq_some_iff.mp H
  obtain ⟨⟨t195, t198⟩, A20, H⟩ := H
  try dsimp only at H
  have A2 := Aside0.mk A20
  clear A20
  by_cases c3 : t198 = 0
  rotate_left
  · rw [if_neg c3] at H
    have c3b0 : (t198 == 0) = false := beq_eq_false_iff_ne.mpr c3
    have c3b1 : (t198 != 0) = true := bne_iff_ne.mpr c3
    simp only [Option.some.injEq, Prod.mk.injEq] at H
    obtain ⟨rfl, rfl, rfl, rfl⟩ := H
    go_enter Tryz.func189, Tryz.ntmps189
    go_wp2_with (first | ((with_reducible refine gate_dst (N := 1) rfl ?_); refine box_event ?hg (N := 1) ?hd (cs := #[.int .i64 a0_0, .int .i64 a0_1, .bool a0_2, .slice A0_3 l0_3.length c0_3, .slice A0_4 l0_4.length c0_4]) (t := 77) ?hr ?_; (case hd => rfl); (case hg => rfl); (case hr => first | (go_simp; done) | (go_simp; rfl)); intro gb193 hg w44 hbox hb; have n0_ := Aside0.mk (below_step (bU HB.out) hb); have n1_ := Aside0.mk (hbox); have n2_ := Aside0.mk ((by rw [hg]; exact (below_size (bU HB.out)) : w.heap.size ≤ gb193)); have n3_ := Aside0.mk ((by rw [hg]; exact (below_size (bU HB.out)) : w.heap.size ≤ gb193)); replace HB := n0_; have BK193 := n1_; have GW193 := n2_; have GE193 := n3_; clear n0_ n1_ n2_ n3_; clear hb hbox hg) | ((with_reducible refine gate_dst (N := 2) rfl ?_); refine box_event ?hg (N := 2) ?hd (cs := #[.string (⟨#[]⟩ : ByteArray), .int .i64 0, .slice none 0 0]) (t := 64) ?hr ?_; (case hd => rfl); (case hg => rfl); (case hr => first | (go_simp; done) | (go_simp; rfl)); intro gb194 hg w45 hbox hb; have n0_ := Aside0.mk (blk_below (blk_u BK193.out) hb); have n1_ := Aside0.mk (below_step (by repeat (first | exact HB.out | apply below_alloc | apply pw_below_drewN | apply below_drew1 | refine below_set ?_ GE193.out)) hb); have n2_ := Aside0.mk (hbox); have n3_ := Aside0.mk ((by rw [hg]; exact (below_size (by repeat (first | exact HB.out | apply below_alloc | apply pw_below_drewN | apply below_drew1 | refine below_set ?_ GE193.out))) : w.heap.size ≤ gb194)); have n4_ := Aside0.mk ((by rw [hg]; exact (below_size (by repeat (first | exact HB.out | apply below_alloc | apply pw_below_drewN | apply below_drew1 | refine below_set ?_ GE193.out))) : w.heap.size ≤ gb194)); have n5_ := Aside0.mk ((by rw [hg]; exact Nat.ne_of_lt (blk_lt (blk_u BK193.out)) : gb193 ≠ gb194)); have n6_ := Aside0.mk ((by rw [hg]; exact Nat.ne_of_gt (blk_lt (blk_u BK193.out)) : gb194 ≠ gb193)); clear BK193; clear HB; have BK193 := n0_; have HB := n1_; have BK194 := n2_; have GW194 := n3_; have GE194 := n4_; have NB193_194 := n5_; have NB194_193 := n6_; clear n0_ n1_ n2_ n3_ n4_ n5_ n6_; clear hb hbox hg; have hnb46 := NB193_194.out; have hnc46 := NB194_193.out; have hcz47_0 : w45.cell? ⟨gb193, 0, none⟩ = some (.int .i64 a0_0) := (blk_cell BK193.out 0).trans rfl; have hcz47_1 : w45.cell? ⟨gb193, 1, none⟩ = some (.int .i64 a0_1) := (blk_cell BK193.out 1).trans rfl; have hcz47_2 : w45.cell? ⟨gb193, 2, none⟩ = some (.bool a0_2) := (blk_cell BK193.out 2).trans rfl; have hcz47_3 : w45.cell? ⟨gb193, 3, none⟩ = some (.slice A0_3 l0_3.length c0_3) := (blk_cell BK193.out 3).trans rfl; have hcz47_4 : w45.cell? ⟨gb193, 4, none⟩ = some (.slice A0_4 l0_4.length c0_4) := (blk_cell BK193.out 4).trans rfl; have hfz47_0 := blk_frozen BK193.out 0; have hfz47_1 := blk_frozen BK193.out 1; have hfz47_2 := blk_frozen BK193.out 2; have hfz47_3 := blk_frozen BK193.out 3; have hfz47_4 := blk_frozen BK193.out 4) | ((with_reducible refine gate_callee (f := 141) rfl ?_); refine goesL_ (some 10) rfl rfl Tryz.func141 (by kernel_rfl) rfl #[.agg #[.int .i64 a0_0, .int .i64 a0_1, .bool a0_2, .slice A0_3 l0_3.length c0_3, .slice A0_4 l0_4.length c0_4], .int .i64 16] rfl (by (try simp only [List.map_toArray, List.map_cons, List.map_nil]); first | done | rfl | (simp only [List.length_drop, List.length_take]; rfl)) ?_; (with_reducible refine (name_inside.calls k a0_0 a0_1 a0_2 _ _ l0_3 _ _ l0_4 16 t195 t198 _ ?side1 ?side2 ?side3 ?side4 A2.out).mono ?_); (case side1 => exact Kd.C_u (Kd.C_below HR0_3.out HB.out)); (case side2 => exact HC0_3.out); (case side3 => exact Kd.C_u (Kd.C_below HR0_4.out HB.out)); (case side4 => exact HC0_4.out); rintro e w48 ⟨v196, ev_, rfl, hev_, ho0, hb⟩; obtain ⟨et_, eu_, rfl⟩ := EV.some_of hev_ c3b0; have HEV_ := Aside0.mk hev_; clear hev_; refine ⟨_, rfl, ?_⟩; have n0_ := Aside0.mk (Kd.S_lower (Kd.S_newB ho0 (blk_u BK193.out)) (below_size (by repeat (first | exact HB.out | apply below_alloc | apply pw_below_drewN | apply below_drew1 | refine below_set ?_ GE193.out | refine below_set ?_ GE194.out)))); have n1_ := Aside0.mk (blk_below (blk_u BK193.out) hb); have n2_ := Aside0.mk (blk_below (g := gb194) (o := .cells #[.string (⟨#[]⟩ : ByteArray), .int .i64 0, .slice none 0 0] 64 (0, 0)) (blk_u BK194.out) hb); have n3_ := Aside0.mk (below_step (by repeat (first | exact HB.out | apply below_alloc | apply pw_below_drewN | apply below_drew1 | refine below_set ?_ GE193.out | refine below_set ?_ GE194.out)) hb); clear BK193; clear BK194; clear HB; have HO197 := n0_; have BK193 := n1_; have BK194 := n2_; have HB := n3_; clear n0_ n1_ n2_ n3_; (try clear hb); (try clear hb2); (try clear hk); (try clear hi); (try clear ho0); have hcz49_0 : w48.cell? ⟨gb194, 0, none⟩ = some (.string (⟨#[]⟩ : ByteArray)) := (blk_cell BK194.out 0).trans rfl; have hcz49_1 : w48.cell? ⟨gb194, 1, none⟩ = some (.int .i64 0) := (blk_cell BK194.out 1).trans rfl; have hcz49_2 : w48.cell? ⟨gb194, 2, none⟩ = some (.slice none 0 0) := (blk_cell BK194.out 2).trans rfl; have hfz49_0 := blk_frozen BK194.out 0; have hfz49_1 := blk_frozen BK194.out 1; have hfz49_2 := blk_frozen BK194.out 2))
    refine bodyPost_ret (results_ct rfl _ _ gb194 64 #[.string (⟨#[]⟩ : ByteArray), .int .i64 0, .slice none 0 0] (0, 0) _ rfl (by (with_reducible repeat (first | refine blk_drewN ?_ _ | refine blk_drew ?_ | refine blk_alloc ?_ _)); refine blk_put (cs := #[.string (⟨#[]⟩ : ByteArray), .int .i64 0, .slice none 0 0]) ?_ 2 _ rfl; (with_reducible repeat (first | refine blk_drewN ?_ _ | refine blk_drew ?_ | refine blk_alloc ?_ _)); refine blk_put (cs := #[.string (⟨#[]⟩ : ByteArray), .int .i64 0, .slice none 0 0]) ?_ 1 _ rfl; (with_reducible repeat (first | refine blk_drewN ?_ _ | refine blk_drew ?_ | refine blk_alloc ?_ _)); refine blk_put (cs := #[.string (⟨#[]⟩ : ByteArray), .int .i64 0, .slice none 0 0]) ?_ 0 _ rfl; (with_reducible repeat (first | refine blk_drewN ?_ _ | refine blk_drew ?_ | refine blk_alloc ?_ _)); exact BK194.out) Tryz.underlying64 rfl (by kernel_rfl)) rfl ?_
    exact ⟨_, _, by first | rfl | (simp [errW_none, errW_some] <;> rfl), (by first | exact EV.nil | exact EV.f30 | exact EV.f5 | exact EV.f4 | exact EV.f1 | exact EV.low (by assumption) | exact HEV_.out | exact EV.part HEV_.out), by first | exact Kd.R_nil _ _ _ _ _ | exact Kd.N_nil _ _ _ _ _ | exact Kd.V_nil _ _ _ _ _ | exact Kd.Q_nil _ _ _ _ _ | exact Kd.S_nil _ _ _ _ _, by repeat (first | exact HB.out | apply below_alloc | apply pw_below_drewN | apply below_drew1 | refine below_set ?_ GE193.out | refine below_set ?_ GE194.out)⟩
  rw [if_pos c3] at H
  have c3b0 : (t198 == 0) = true := beq_iff_eq.mpr c3
  have c3b1 : (t198 != 0) = false := bne_eq_false_iff_eq.mpr c3
  clear c3
  have HC4 := Aside0.mk H
  clear H
  go_enter Tryz.func189, Tryz.ntmps189
  go_upto_region 4 with (first | ((with_reducible refine gate_dst (N := 1) rfl ?_); refine box_event ?hg (N := 1) ?hd (cs := #[.int .i64 a0_0, .int .i64 a0_1, .bool a0_2, .slice A0_3 l0_3.length c0_3, .slice A0_4 l0_4.length c0_4]) (t := 77) ?hr ?_; (case hd => rfl); (case hg => rfl); (case hr => first | (go_simp; done) | (go_simp; rfl)); intro gb193 hg w5 hbox hb; have n0_ := Aside0.mk (below_step (bU HB.out) hb); have n1_ := Aside0.mk (hbox); have n2_ := Aside0.mk ((by rw [hg]; exact (below_size (bU HB.out)) : w.heap.size ≤ gb193)); have n3_ := Aside0.mk ((by rw [hg]; exact (below_size (bU HB.out)) : w.heap.size ≤ gb193)); replace HB := n0_; have BK193 := n1_; have GW193 := n2_; have GE193 := n3_; clear n0_ n1_ n2_ n3_; clear hb hbox hg) | ((with_reducible refine gate_dst (N := 2) rfl ?_); refine box_event ?hg (N := 2) ?hd (cs := #[.string (⟨#[]⟩ : ByteArray), .int .i64 0, .slice none 0 0]) (t := 64) ?hr ?_; (case hd => rfl); (case hg => rfl); (case hr => first | (go_simp; done) | (go_simp; rfl)); intro gb194 hg w6 hbox hb; have n0_ := Aside0.mk (blk_below (blk_u BK193.out) hb); have n1_ := Aside0.mk (below_step (by repeat (first | exact HB.out | apply below_alloc | apply pw_below_drewN | apply below_drew1 | refine below_set ?_ GE193.out)) hb); have n2_ := Aside0.mk (hbox); have n3_ := Aside0.mk ((by rw [hg]; exact (below_size (by repeat (first | exact HB.out | apply below_alloc | apply pw_below_drewN | apply below_drew1 | refine below_set ?_ GE193.out))) : w.heap.size ≤ gb194)); have n4_ := Aside0.mk ((by rw [hg]; exact (below_size (by repeat (first | exact HB.out | apply below_alloc | apply pw_below_drewN | apply below_drew1 | refine below_set ?_ GE193.out))) : w.heap.size ≤ gb194)); have n5_ := Aside0.mk ((by rw [hg]; exact Nat.ne_of_lt (blk_lt (blk_u BK193.out)) : gb193 ≠ gb194)); have n6_ := Aside0.mk ((by rw [hg]; exact Nat.ne_of_gt (blk_lt (blk_u BK193.out)) : gb194 ≠ gb193)); clear BK193; clear HB; have BK193 := n0_; have HB := n1_; have BK194 := n2_; have GW194 := n3_; have GE194 := n4_; have NB193_194 := n5_; have NB194_193 := n6_; clear n0_ n1_ n2_ n3_ n4_ n5_ n6_; clear hb hbox hg; have hnb7 := NB193_194.out; have hnc7 := NB194_193.out; have hcz8_0 : w6.cell? ⟨gb193, 0, none⟩ = some (.int .i64 a0_0) := (blk_cell BK193.out 0).trans rfl; have hcz8_1 : w6.cell? ⟨gb193, 1, none⟩ = some (.int .i64 a0_1) := (blk_cell BK193.out 1).trans rfl; have hcz8_2 : w6.cell? ⟨gb193, 2, none⟩ = some (.bool a0_2) := (blk_cell BK193.out 2).trans rfl; have hcz8_3 : w6.cell? ⟨gb193, 3, none⟩ = some (.slice A0_3 l0_3.length c0_3) := (blk_cell BK193.out 3).trans rfl; have hcz8_4 : w6.cell? ⟨gb193, 4, none⟩ = some (.slice A0_4 l0_4.length c0_4) := (blk_cell BK193.out 4).trans rfl; have hfz8_0 := blk_frozen BK193.out 0; have hfz8_1 := blk_frozen BK193.out 1; have hfz8_2 := blk_frozen BK193.out 2; have hfz8_3 := blk_frozen BK193.out 3; have hfz8_4 := blk_frozen BK193.out 4) | ((with_reducible refine gate_callee (f := 141) rfl ?_); refine goesL_ (some 10) rfl rfl Tryz.func141 (by kernel_rfl) rfl #[.agg #[.int .i64 a0_0, .int .i64 a0_1, .bool a0_2, .slice A0_3 l0_3.length c0_3, .slice A0_4 l0_4.length c0_4], .int .i64 16] rfl (by (try simp only [List.map_toArray, List.map_cons, List.map_nil]); first | done | rfl | (simp only [List.length_drop, List.length_take]; rfl)) ?_; (with_reducible refine (name_inside.calls k a0_0 a0_1 a0_2 _ _ l0_3 _ _ l0_4 16 t195 t198 _ ?side1 ?side2 ?side3 ?side4 A2.out).mono ?_); (case side1 => exact Kd.C_u (Kd.C_below HR0_3.out HB.out)); (case side2 => exact HC0_3.out); (case side3 => exact Kd.C_u (Kd.C_below HR0_4.out HB.out)); (case side4 => exact HC0_4.out); rintro e w9 ⟨v196, ev_, rfl, hev_, ho0, hb⟩; obtain rfl := EV.nil_of hev_ c3b0; have HEV_ := Aside0.mk hev_; clear hev_; refine ⟨_, rfl, ?_⟩; have n0_ := Aside0.mk (Kd.S_lower (Kd.S_newB ho0 (blk_u BK193.out)) (below_size (by repeat (first | exact HB.out | apply below_alloc | apply pw_below_drewN | apply below_drew1 | refine below_set ?_ GE193.out | refine below_set ?_ GE194.out)))); have n1_ := Aside0.mk (blk_below (blk_u BK193.out) hb); have n2_ := Aside0.mk (blk_below (g := gb194) (o := .cells #[.string (⟨#[]⟩ : ByteArray), .int .i64 0, .slice none 0 0] 64 (0, 0)) (blk_u BK194.out) hb); have n3_ := Aside0.mk (below_step (by repeat (first | exact HB.out | apply below_alloc | apply pw_below_drewN | apply below_drew1 | refine below_set ?_ GE193.out | refine below_set ?_ GE194.out)) hb); clear BK193; clear BK194; clear HB; have HO197 := n0_; have BK193 := n1_; have BK194 := n2_; have HB := n3_; clear n0_ n1_ n2_ n3_; (try clear hb); (try clear hb2); (try clear hk); (try clear hi); (try clear ho0)))
  (try simp only [Act.put, List.setIfInBounds_toArray, List.set_cons_zero, List.set_cons_succ])
  go_cut [50] (fun v50 wc => ∃ (kq : Nat) (x50_3 : Bool), v50 = .bool x50_3 ∧ Aside0 (name_part.j0 kq t195 x50_3 = some (r1, r2, r3, r4)) ∧ Aside0 (kq ≤ k) ∧ Aside0 (Kd.S k77 77 wc w.heap.size (fun k_ => k_ ≠ gb193) v196 t195) ∧ Aside0 (wc.heap[gb193]? = some (.cells #[.int .i64 a0_0, .int .i64 a0_1, .bool a0_2, (.slice A0_3 l0_3.length c0_3), (.slice A0_4 l0_4.length c0_4)] 77 (0, 0))) ∧ Aside0 (wc.heap[gb194]? = some (.cells #[.string (⟨#[]⟩ : ByteArray), .int .i64 0, (.slice none 0 0)] 64 (0, 0))) ∧ Aside0 (Below w.heap.size w wc))
  case first =>
    have H := HC4.out
    clear HC4
    obtain ⟨Ao18, co18, eo18⟩ := Kd.S_slice HO197.out
    (first | subst eo18 | (injection eo18 with f1_ f2_ f3_; have f4_ := f1_.symm; have f5_ := f3_.symm; clear f1_ f2_ f3_; subst f4_; subst f5_))
    by_cases c10 : (t195.length : Int) = 2
    rotate_left
    · rw [if_neg c10] at H
      have c10b0 : ((t195.length : Int) == 2) = false := beq_eq_false_iff_ne.mpr c10
      have c10b1 : ((t195.length : Int) != 2) = true := bne_iff_ne.mpr c10
      clear c10
      have H' := Aside0.mk H
      clear H
      go_quiet (fail)
      try go_wp2
      go_meet
      case rel => exact ⟨_, (true), (by first | rfl | (simp; done) | (simp [*]; done)), H', ⟨Nat.le_refl _⟩, ⟨Kd.S_u (Kd.S_mono HO197.out (fun _ hk => hk.2))⟩, ⟨blk_u BK193.out⟩, ⟨blk_u BK194.out⟩, ⟨by repeat (first | exact HB.out | apply below_alloc | apply pw_below_drewN | apply below_drew1 | refine below_set ?_ GE193.out | refine below_set ?_ GE194.out)⟩⟩
    rw [if_pos c10, if_pos (by omega), if_pos (by omega)] at H
    have c10b0 : ((t195.length : Int) == 2) = true := beq_iff_eq.mpr c10
    have c10b1 : ((t195.length : Int) != 2) = false := bne_eq_false_iff_eq.mpr c10
    have p199 : 0 ≤ (0 : Int) := (by omega)
    have q199 : 0 < (t195.length : Int) := by omega
    obtain ⟨ad199, A199_3, c199_3, A199_4, c199_4, e199, hx199_0, hx199_1, hx199_2, hx199_3, hx199_4, hl199_3, hi199_3, hl199_4, hi199_4⟩ := at_T77 (Kd.S_reads' HO197.out).2.2 0 p199 q199
    cases e199
    have qi199 : (0 < t195.length) = True := eq_true (by omega)
    (try rw [show ((0 : Int)).toNat = 0 from rfl] at hx199_0)
    (try rw [show 0 * 5 = 0 from rfl] at hx199_0)
    (try rw [Addr.add_zero'] at hx199_0)
    (try rw [show ((0 : Int)).toNat = 0 from rfl] at hx199_1)
    (try rw [show 0 * 5 = 0 from rfl] at hx199_1)
    (try rw [Addr.add_zero'] at hx199_1)
    (try rw [show ((0 : Int)).toNat = 0 from rfl] at hx199_2)
    (try rw [show 0 * 5 = 0 from rfl] at hx199_2)
    (try rw [Addr.add_zero'] at hx199_2)
    clear hi199_3 hl199_3 hi199_4 hl199_4 hx199_3 hx199_4
    replace p199 := eq_true p199
    replace q199 := eq_true q199
    have p200 : 0 ≤ (1 : Int) := (by omega)
    have q200 : 1 < (t195.length : Int) := by omega
    obtain ⟨ad200, A200_3, c200_3, A200_4, c200_4, e200, hx200_0, hx200_1, hx200_2, hx200_3, hx200_4, hl200_3, hi200_3, hl200_4, hi200_4⟩ := at_T77 (Kd.S_reads' HO197.out).2.2 1 p200 q200
    obtain rfl : ad199 = ad200 := (by injection e200)
    (try simp only [show (1 : Int).toNat = 1 from rfl, Nat.reduceMul, Nat.reduceEqDiff, Go.Addr.add, ↓reduceIte] at hx200_0)
    (try simp only [show (1 : Int).toNat = 1 from rfl, Nat.reduceMul, Nat.reduceEqDiff, Go.Addr.add, ↓reduceIte] at hx200_1)
    (try simp only [show (1 : Int).toNat = 1 from rfl, Nat.reduceMul, Nat.reduceEqDiff, Go.Addr.add, ↓reduceIte] at hx200_2)
    have qi200 : (1 < t195.length) = True := eq_true (by omega)
    (try rw [show ((1 : Int)).toNat = 1 from rfl] at hx200_0)
    (try rw [show 1 * 5 = 5 from rfl] at hx200_0)
    (try rw [show ((1 : Int)).toNat = 1 from rfl] at hx200_1)
    (try rw [show 1 * 5 = 5 from rfl] at hx200_1)
    (try rw [show ((1 : Int)).toNat = 1 from rfl] at hx200_2)
    (try rw [show 1 * 5 = 5 from rfl] at hx200_2)
    clear hi200_3 hl200_3 hi200_4 hl200_4 hx200_3 hx200_4
    replace p200 := eq_true p200
    replace q200 := eq_true q200
    clear c10
    generalize (rd_T77 t195 0).f0 = a0f0 at *
    generalize (rd_T77 t195 1).f0 = a1f0 at *
    generalize (rd_T77 t195 0).f1 = a0f1 at *
    generalize (rd_T77 t195 0).f2 = a0f2 at *
    generalize (rd_T77 t195 1).f2 = a1f2 at *
    by_cases c13 : (wrap64 (a0f0 + a1f0)) = 0
    rotate_left
    · rw [if_neg c13] at H
      have c13b0 : ((wrap64 (a0f0 + a1f0)) == 0) = false := beq_eq_false_iff_ne.mpr c13
      have c13b1 : ((wrap64 (a0f0 + a1f0)) != 0) = true := bne_iff_ne.mpr c13
      clear c13
      have H' := Aside0.mk H
      clear H
      go_quiet (fail)
      try go_wp2
      go_meet
      case rel => exact ⟨_, (true), (by first | rfl | (simp; done) | (simp [*]; done)), H', ⟨Nat.le_refl _⟩, ⟨Kd.S_u (Kd.S_mono HO197.out (fun _ hk => hk.2))⟩, ⟨blk_u BK193.out⟩, ⟨blk_u BK194.out⟩, ⟨by repeat (first | exact HB.out | apply below_alloc | apply pw_below_drewN | apply below_drew1 | refine below_set ?_ GE193.out | refine below_set ?_ GE194.out)⟩⟩
    rw [if_pos c13] at H
    have c13b0 : ((wrap64 (a0f0 + a1f0)) == 0) = true := beq_iff_eq.mpr c13
    have c13b1 : ((wrap64 (a0f0 + a1f0)) != 0) = false := bne_eq_false_iff_eq.mpr c13
    clear c13
    by_cases c14 : a0f1 = 6
    rotate_left
    · rw [if_neg c14] at H
      have c14b0 : (a0f1 == 6) = false := beq_eq_false_iff_ne.mpr c14
      have c14b1 : (a0f1 != 6) = true := bne_iff_ne.mpr c14
      clear c14
      have H' := Aside0.mk H
      clear H
      go_quiet (fail)
      try go_wp2
      go_meet
      case rel => exact ⟨_, (true), (by first | rfl | (simp; done) | (simp [*]; done)), H', ⟨Nat.le_refl _⟩, ⟨Kd.S_u (Kd.S_mono HO197.out (fun _ hk => hk.2))⟩, ⟨blk_u BK193.out⟩, ⟨blk_u BK194.out⟩, ⟨by repeat (first | exact HB.out | apply below_alloc | apply pw_below_drewN | apply below_drew1 | refine below_set ?_ GE193.out | refine below_set ?_ GE194.out)⟩⟩
    rw [if_pos c14] at H
    have c14b0 : (a0f1 == 6) = true := beq_iff_eq.mpr c14
    have c14b1 : (a0f1 != 6) = false := bne_eq_false_iff_eq.mpr c14
    clear c14
    cases a0f2 with
    | true =>
      rw [if_pos rfl] at H
      have H' := Aside0.mk H
      clear H
      go_quiet (fail)
      try go_wp2
      go_meet
      case rel => exact ⟨_, (true), (by first | rfl | (simp; done) | (simp [*]; done)), H', ⟨Nat.le_refl _⟩, ⟨Kd.S_u (Kd.S_mono HO197.out (fun _ hk => hk.2))⟩, ⟨blk_u BK193.out⟩, ⟨blk_u BK194.out⟩, ⟨by repeat (first | exact HB.out | apply below_alloc | apply pw_below_drewN | apply below_drew1 | refine below_set ?_ GE193.out | refine below_set ?_ GE194.out)⟩⟩
    | false =>
      rw [if_neg (show ¬ (false = true) by decide)] at H
      have H' := Aside0.mk H
      clear H
      go_quiet (fail)
      try go_wp2
      go_meet
      case rel => exact ⟨_, (a1f2), (by first | rfl | (simp; done) | (simp [*]; done)), H', ⟨Nat.le_refl _⟩, ⟨Kd.S_u (Kd.S_mono HO197.out (fun _ hk => hk.2))⟩, ⟨blk_u BK193.out⟩, ⟨blk_u BK194.out⟩, ⟨by repeat (first | exact HB.out | apply below_alloc | apply pw_below_drewN | apply below_drew1 | refine below_set ?_ GE193.out | refine below_set ?_ GE194.out)⟩⟩
  clear HC4
  try clear c1
  try clear p1
  try clear q1
  try clear hx1
  try clear qi1
  try clear c2
  try clear p2
  try clear q2
  try clear hx2
  try clear qi2
  try clear p6
  try clear c10
  try clear c10b0
  try clear c10b1
  try clear c11
  try clear c12
  try clear c13
  try clear c13b0
  try clear c13b1
  try clear c19
  try clear p19
  try clear q19
  try clear hx19
  try clear qi19
  try clear c20
  try clear p20
  try clear q20
  try clear hx20
  try clear qi20
  try clear hx199_0
  try clear hx199_1
  try clear hx199_2
  try clear hx199_3
  try clear hx199_4
  try clear hx200_0
  try clear hx200_1
  try clear hx200_2
  try clear hx200_3
  try clear hx200_4
  try clear p199
  try clear p200
  try clear q199
  try clear q200
  obtain ⟨kq, x50_3, rfl, HA, HJ3, HO_4, BK193, BK194, HB⟩ := hcut
  cases kq with
  | zero => exact absurd HA.out (by simp [name_part.j0])
  | succ kj3 =>
    have H := HA.out
    clear HA
    simp only [name_part.j0] at H
    by_cases c27 : x50_3 = true
    · subst c27
      have H1 : (some ((⟨#[]⟩ : ByteArray), 0, ([] : List Int), 30)) = some (r1, r2, r3, r4) := by rw [if_pos rfl] at H; exact H
      clear H
      have H := H1
      clear H1
      simp only [Option.some.injEq, Prod.mk.injEq] at H
      obtain ⟨rfl, rfl, rfl, rfl⟩ := H
      have hnb28 := NB194_193.out
      have hnc28 := NB193_194.out
      have hcz29_0 : wc.cell? ⟨gb194, 0, none⟩ = some (.string (⟨#[]⟩ : ByteArray)) := (blk_cell BK194.out 0).trans rfl
      have hcz29_1 : wc.cell? ⟨gb194, 1, none⟩ = some (.int .i64 0) := (blk_cell BK194.out 1).trans rfl
      have hcz29_2 : wc.cell? ⟨gb194, 2, none⟩ = some (.slice none 0 0) := (blk_cell BK194.out 2).trans rfl
      have hfz29_0 := blk_frozen BK194.out 0
      have hfz29_1 := blk_frozen BK194.out 1
      have hfz29_2 := blk_frozen BK194.out 2
      go_wp2
      refine bodyPost_ret (results_ct rfl _ _ gb194 64 #[.string (⟨#[]⟩ : ByteArray), .int .i64 0, .slice none 0 0] (0, 0) _ rfl (by (with_reducible repeat (first | refine blk_drewN ?_ _ | refine blk_drew ?_ | refine blk_alloc ?_ _)); refine blk_put (cs := #[.string (⟨#[]⟩ : ByteArray), .int .i64 0, .slice none 0 0]) ?_ 2 _ rfl; (with_reducible repeat (first | refine blk_drewN ?_ _ | refine blk_drew ?_ | refine blk_alloc ?_ _)); refine blk_put (cs := #[.string (⟨#[]⟩ : ByteArray), .int .i64 0, .slice none 0 0]) ?_ 1 _ rfl; (with_reducible repeat (first | refine blk_drewN ?_ _ | refine blk_drew ?_ | refine blk_alloc ?_ _)); refine blk_put (cs := #[.string (⟨#[]⟩ : ByteArray), .int .i64 0, .slice none 0 0]) ?_ 0 _ rfl; (with_reducible repeat (first | refine blk_drewN ?_ _ | refine blk_drew ?_ | refine blk_alloc ?_ _)); exact BK194.out) Tryz.underlying64 rfl (by kernel_rfl)) rfl ?_
      exact ⟨_, _, by first | rfl | (simp [errW_none, errW_some] <;> rfl), (by first | exact EV.nil | exact EV.f30 | exact EV.f5 | exact EV.f4 | exact EV.f1 | exact EV.low (by assumption) | exact HEV_.out | exact EV.part HEV_.out), by first | exact Kd.R_nil _ _ _ _ _ | exact Kd.N_nil _ _ _ _ _ | exact Kd.V_nil _ _ _ _ _ | exact Kd.Q_nil _ _ _ _ _ | exact Kd.S_nil _ _ _ _ _, by repeat (first | exact HB.out | apply below_alloc | apply pw_below_drewN | apply below_drew1 | refine below_set ?_ GE193.out | refine below_set ?_ GE194.out)⟩
    replace c27 := Bool.eq_false_iff.mpr c27
    subst c27
    have H1 : (if 0 < (t195.length : Int) then ((der_Oid.f kj3 ((rd_T77 t195 0).f3)).bind fun bt205 => (if bt205.2 = 0 then (if 1 < (t195.length : Int) then (some (bt205.1, (rd_T77 t195 1).f1, (rd_T77 t195 1).f3, 0)) else (none)) else (some ((⟨#[]⟩ : ByteArray), 0, ([] : List Int), bt205.2)))) else (none)) = some (r1, r2, r3, r4) := by rw [if_neg (show ¬ (false = true) by decide)] at H; exact H
    clear H
    have H := H1
    clear H1
    by_cases c30 : 0 < (t195.length : Int)
    rotate_left
    · rw [if_neg c30] at H
      exact absurd H (by simp)
    rw [if_pos c30] at H
    have c30b0 : decide (0 < (t195.length : Int)) = true := decide_eq_true c30
    have c30b1 : decide (0 < t195.length) = true := decide_eq_true (by omega)
    clear c30
    replace H := Option.bind_eq_some_iff.mp H
    obtain ⟨⟨t205, t206⟩, A310, H⟩ := H
    try dsimp only at H
    have A31 := Aside0.mk A310
    clear A310
    by_cases c32 : t206 = 0
    rotate_left
    · rw [if_neg c32] at H
      have c32b0 : (t206 == 0) = false := beq_eq_false_iff_ne.mpr c32
      have c32b1 : (t206 != 0) = true := bne_iff_ne.mpr c32
      simp only [Option.some.injEq, Prod.mk.injEq] at H
      obtain ⟨rfl, rfl, rfl, rfl⟩ := H
      obtain ⟨Ao40, co40, eo40⟩ := Kd.S_slice HO_4.out
      subst eo40
      have p204 : 0 ≤ (0 : Int) := (by omega)
      have q204 : 0 < (t195.length : Int) := of_decide_eq_true (by first | (with_reducible assumption) | assumption)
      obtain ⟨ad204, A204_3, c204_3, A204_4, c204_4, e204, hx204_0, hx204_1, hx204_2, hx204_3, hx204_4, hl204_3, hi204_3, hl204_4, hi204_4⟩ := at_T77 (Kd.S_reads' HO_4.out).2.2 0 p204 q204
      cases e204
      obtain ⟨ce204, hce204, hMe204, hcc204⟩ := Kd.S_get HO_4.out z77 0 p204 (by first | exact q204 | exact of_decide_eq_true (by first | (with_reducible assumption) | assumption) | (have e_ := (Kd.S_reads' HO_4.out).1; omega))
      obtain ⟨ve204_3, ve204_4, rfl, ge204_3, ge204_4⟩ := k77_openM hMe204
      have hv204_3 := hcc204 3 _ rfl
      rw [add_field _ _ 3 (by omega)] at hv204_3
      replace hv204_3 := Option.some.inj (hv204_3.symm.trans hx204_3)
      rw [hv204_3] at ge204_3
      have HL204_3 := Aside0.mk (show Kd.R (Kd.int .u8) 5 _ _ _ _ ((rd_T77 t195 0).f3) from ge204_3)
      clear hv204_3 ge204_3
      have hv204_4 := hcc204 4 _ rfl
      rw [add_field _ _ 4 (by omega)] at hv204_4
      replace hv204_4 := Option.some.inj (hv204_4.symm.trans hx204_4)
      rw [hv204_4] at ge204_4
      have HL204_4 := Aside0.mk (show Kd.R (Kd.int .u8) 5 _ _ _ _ ((rd_T77 t195 0).f4) from ge204_4)
      clear hv204_4 ge204_4
      clear hcc204 hce204
      have qi204 : (0 < t195.length) = True := eq_true (by omega)
      (try rw [show ((0 : Int)).toNat = 0 from rfl] at hx204_0)
      (try rw [show 0 * 5 = 0 from rfl] at hx204_0)
      (try rw [Addr.add_zero'] at hx204_0)
      (try rw [show ((0 : Int)).toNat = 0 from rfl] at hx204_1)
      (try rw [show 0 * 5 = 0 from rfl] at hx204_1)
      (try rw [Addr.add_zero'] at hx204_1)
      (try rw [show ((0 : Int)).toNat = 0 from rfl] at hx204_2)
      (try rw [show 0 * 5 = 0 from rfl] at hx204_2)
      (try rw [Addr.add_zero'] at hx204_2)
      (try rw [show ((0 : Int)).toNat = 0 from rfl] at hx204_3)
      (try rw [show 0 * 5 = 0 from rfl] at hx204_3)
      (try rw [Addr.add_zero'] at hx204_3)
      (try rw [show ((0 : Int)).toNat = 0 from rfl] at hx204_4)
      (try rw [show 0 * 5 = 0 from rfl] at hx204_4)
      (try rw [Addr.add_zero'] at hx204_4)
      have HR204_3 := Aside0.mk hi204_3
      have HC204_3 := Aside0.mk hl204_3
      clear hi204_3 hl204_3
      have HR204_4 := Aside0.mk hi204_4
      have HC204_4 := Aside0.mk hl204_4
      clear hi204_4 hl204_4
      replace p204 := eq_true p204
      replace q204 := eq_true q204
      go_wp2_with (first | ((with_reducible refine gate_callee (f := 163) rfl ?_); refine goesL_ (some 58) rfl rfl Tryz.func163 (by kernel_rfl) rfl #[.slice A204_3 ((rd_T77 t195 0).f3).length c204_3] rfl (by (try simp only [List.map_toArray, List.map_cons, List.map_nil]); first | done | rfl | (simp only [List.length_drop, List.length_take]; rfl)) ?_; (with_reducible refine (der_Oid.calls kj3 _ _ ((rd_T77 t195 0).f3) t205 t206 _ ?side1 ?side2 A31.out (Tb.below HHd.out (by repeat (first | exact HB.out | apply below_alloc | apply pw_below_drewN | apply below_drew1 | refine below_set ?_ GE193.out | refine below_set ?_ GE194.out)))).mono ?_); (case side1 => repeat (first | exact (by exact Kd.C_u HR204_3.out) | (with_reducible refine Kd.C_alloc ?_ _) | (with_reducible refine Kd.C_drewN ?_ _) | (with_reducible refine Kd.C_drew ?_))); (case side2 => exact HC204_3.out); rintro e w41 ⟨rfl, hb⟩; refine ⟨_, rfl, ?_⟩; have n0_ := Aside0.mk (Kd.S_below (Kd.S_u HO_4.out) hb); have n1_ := Aside0.mk (Kd.R_below (Kd.R_u HL204_3.out) hb); have n2_ := Aside0.mk (Kd.R_below (Kd.R_u HL204_4.out) hb); have n3_ := Aside0.mk (blk_below (blk_u BK193.out) hb); have n4_ := Aside0.mk (blk_below (g := gb194) (o := .cells #[.string (⟨#[]⟩ : ByteArray), .int .i64 0, .slice none 0 0] 64 (0, 0)) (blk_u BK194.out) hb); have n5_ := Aside0.mk (Kd.C_below (by exact Kd.C_u HR204_3.out) hb); have n6_ := Aside0.mk (Kd.C_below (by exact Kd.C_u HR204_4.out) hb); have n7_ := Aside0.mk (below_step (by repeat (first | exact HB.out | apply below_alloc | apply pw_below_drewN | apply below_drew1 | refine below_set ?_ GE193.out | refine below_set ?_ GE194.out)) hb); clear HO_4; clear HL204_3; clear HL204_4; clear BK193; clear BK194; clear HR204_3; clear HR204_4; clear HB; have HO_4 := n0_; have HL204_3 := n1_; have HL204_4 := n2_; have BK193 := n3_; have BK194 := n4_; have HR204_3 := n5_; have HR204_4 := n6_; have HB := n7_; clear n0_ n1_ n2_ n3_ n4_ n5_ n6_ n7_; (try clear hb); (try clear hb2); (try clear hk); (try clear hi); have hnb42 := NB194_193.out; have hnc42 := NB193_194.out; have hcz43_0 : w41.cell? ⟨gb194, 0, none⟩ = some (.string (⟨#[]⟩ : ByteArray)) := (blk_cell BK194.out 0).trans rfl; have hcz43_1 : w41.cell? ⟨gb194, 1, none⟩ = some (.int .i64 0) := (blk_cell BK194.out 1).trans rfl; have hcz43_2 : w41.cell? ⟨gb194, 2, none⟩ = some (.slice none 0 0) := (blk_cell BK194.out 2).trans rfl; have hfz43_0 := blk_frozen BK194.out 0; have hfz43_1 := blk_frozen BK194.out 1; have hfz43_2 := blk_frozen BK194.out 2))
      refine bodyPost_ret (results_ct rfl _ _ gb194 64 #[.string (⟨#[]⟩ : ByteArray), .int .i64 0, .slice none 0 0] (0, 0) _ rfl (by (with_reducible repeat (first | refine blk_drewN ?_ _ | refine blk_drew ?_ | refine blk_alloc ?_ _)); refine blk_put (cs := #[.string (⟨#[]⟩ : ByteArray), .int .i64 0, .slice none 0 0]) ?_ 2 _ rfl; (with_reducible repeat (first | refine blk_drewN ?_ _ | refine blk_drew ?_ | refine blk_alloc ?_ _)); refine blk_put (cs := #[.string (⟨#[]⟩ : ByteArray), .int .i64 0, .slice none 0 0]) ?_ 1 _ rfl; (with_reducible repeat (first | refine blk_drewN ?_ _ | refine blk_drew ?_ | refine blk_alloc ?_ _)); refine blk_put (cs := #[.string (⟨#[]⟩ : ByteArray), .int .i64 0, .slice none 0 0]) ?_ 0 _ rfl; (with_reducible repeat (first | refine blk_drewN ?_ _ | refine blk_drew ?_ | refine blk_alloc ?_ _)); exact BK194.out) Tryz.underlying64 rfl (by kernel_rfl)) rfl ?_
      exact ⟨_, _, by first | rfl | (simp [errW_none, errW_some] <;> rfl), (by first | exact EV.nil | exact EV.f30 | exact EV.f5 | exact EV.f4 | exact EV.f1 | exact EV.low (by assumption) | exact HEV_.out | exact EV.part HEV_.out), by first | exact Kd.R_nil _ _ _ _ _ | exact Kd.N_nil _ _ _ _ _ | exact Kd.V_nil _ _ _ _ _ | exact Kd.Q_nil _ _ _ _ _ | exact Kd.S_nil _ _ _ _ _, by repeat (first | exact HB.out | apply below_alloc | apply pw_below_drewN | apply below_drew1 | refine below_set ?_ GE193.out | refine below_set ?_ GE194.out)⟩
    rw [if_pos c32] at H
    have c32b0 : (t206 == 0) = true := beq_iff_eq.mpr c32
    have c32b1 : (t206 != 0) = false := bne_eq_false_iff_eq.mpr c32
    clear c32
    by_cases c33 : 1 < (t195.length : Int)
    rotate_left
    · rw [if_neg c33] at H
      exact absurd H (by simp)
    rw [if_pos c33] at H
    have c33b0 : decide (1 < (t195.length : Int)) = true := decide_eq_true c33
    have c33b1 : decide (1 < t195.length) = true := decide_eq_true (by omega)
    clear c33
    simp only [Option.some.injEq, Prod.mk.injEq] at H
    obtain ⟨rfl, rfl, rfl, rfl⟩ := H
    obtain ⟨Ao34, co34, eo34⟩ := Kd.S_slice HO_4.out
    subst eo34
    have p204 : 0 ≤ (0 : Int) := (by omega)
    have q204 : 0 < (t195.length : Int) := of_decide_eq_true (by first | (with_reducible assumption) | assumption)
    obtain ⟨ad204, A204_3, c204_3, A204_4, c204_4, e204, hx204_0, hx204_1, hx204_2, hx204_3, hx204_4, hl204_3, hi204_3, hl204_4, hi204_4⟩ := at_T77 (Kd.S_reads' HO_4.out).2.2 0 p204 q204
    cases e204
    obtain ⟨ce204, hce204, hMe204, hcc204⟩ := Kd.S_get HO_4.out z77 0 p204 (by first | exact q204 | exact of_decide_eq_true (by first | (with_reducible assumption) | assumption) | (have e_ := (Kd.S_reads' HO_4.out).1; omega))
    obtain ⟨ve204_3, ve204_4, rfl, ge204_3, ge204_4⟩ := k77_openM hMe204
    have hv204_3 := hcc204 3 _ rfl
    rw [add_field _ _ 3 (by omega)] at hv204_3
    replace hv204_3 := Option.some.inj (hv204_3.symm.trans hx204_3)
    rw [hv204_3] at ge204_3
    have HL204_3 := Aside0.mk (show Kd.R (Kd.int .u8) 5 _ _ _ _ ((rd_T77 t195 0).f3) from ge204_3)
    clear hv204_3 ge204_3
    have hv204_4 := hcc204 4 _ rfl
    rw [add_field _ _ 4 (by omega)] at hv204_4
    replace hv204_4 := Option.some.inj (hv204_4.symm.trans hx204_4)
    rw [hv204_4] at ge204_4
    have HL204_4 := Aside0.mk (show Kd.R (Kd.int .u8) 5 _ _ _ _ ((rd_T77 t195 0).f4) from ge204_4)
    clear hv204_4 ge204_4
    clear hcc204 hce204
    have qi204 : (0 < t195.length) = True := eq_true (by omega)
    (try rw [show ((0 : Int)).toNat = 0 from rfl] at hx204_0)
    (try rw [show 0 * 5 = 0 from rfl] at hx204_0)
    (try rw [Addr.add_zero'] at hx204_0)
    (try rw [show ((0 : Int)).toNat = 0 from rfl] at hx204_1)
    (try rw [show 0 * 5 = 0 from rfl] at hx204_1)
    (try rw [Addr.add_zero'] at hx204_1)
    (try rw [show ((0 : Int)).toNat = 0 from rfl] at hx204_2)
    (try rw [show 0 * 5 = 0 from rfl] at hx204_2)
    (try rw [Addr.add_zero'] at hx204_2)
    (try rw [show ((0 : Int)).toNat = 0 from rfl] at hx204_3)
    (try rw [show 0 * 5 = 0 from rfl] at hx204_3)
    (try rw [Addr.add_zero'] at hx204_3)
    (try rw [show ((0 : Int)).toNat = 0 from rfl] at hx204_4)
    (try rw [show 0 * 5 = 0 from rfl] at hx204_4)
    (try rw [Addr.add_zero'] at hx204_4)
    have HR204_3 := Aside0.mk hi204_3
    have HC204_3 := Aside0.mk hl204_3
    clear hi204_3 hl204_3
    have HR204_4 := Aside0.mk hi204_4
    have HC204_4 := Aside0.mk hl204_4
    clear hi204_4 hl204_4
    replace p204 := eq_true p204
    replace q204 := eq_true q204
    try go_wp2_with (first | ((with_reducible refine gate_callee (f := 163) rfl ?_); refine goesL_ (some 58) rfl rfl Tryz.func163 (by kernel_rfl) rfl #[.slice A204_3 ((rd_T77 t195 0).f3).length c204_3] rfl (by (try simp only [List.map_toArray, List.map_cons, List.map_nil]); first | done | rfl | (simp only [List.length_drop, List.length_take]; rfl)) ?_; (with_reducible refine (der_Oid.calls kj3 _ _ ((rd_T77 t195 0).f3) t205 t206 _ ?side1 ?side2 A31.out (Tb.below HHd.out (by repeat (first | exact HB.out | apply below_alloc | apply pw_below_drewN | apply below_drew1 | refine below_set ?_ GE193.out | refine below_set ?_ GE194.out)))).mono ?_); (case side1 => repeat (first | exact (by exact Kd.C_u HR204_3.out) | (with_reducible refine Kd.C_alloc ?_ _) | (with_reducible refine Kd.C_drewN ?_ _) | (with_reducible refine Kd.C_drew ?_))); (case side2 => exact HC204_3.out); rintro e w35 ⟨rfl, hb⟩; refine ⟨_, rfl, ?_⟩; have n0_ := Aside0.mk (Kd.S_below (Kd.S_u HO_4.out) hb); have n1_ := Aside0.mk (Kd.R_below (Kd.R_u HL204_3.out) hb); have n2_ := Aside0.mk (Kd.R_below (Kd.R_u HL204_4.out) hb); have n3_ := Aside0.mk (blk_below (blk_u BK193.out) hb); have n4_ := Aside0.mk (blk_below (g := gb194) (o := .cells #[.string (⟨#[]⟩ : ByteArray), .int .i64 0, .slice none 0 0] 64 (0, 0)) (blk_u BK194.out) hb); have n5_ := Aside0.mk (Kd.C_below (by exact Kd.C_u HR204_3.out) hb); have n6_ := Aside0.mk (Kd.C_below (by exact Kd.C_u HR204_4.out) hb); have n7_ := Aside0.mk (below_step (by repeat (first | exact HB.out | apply below_alloc | apply pw_below_drewN | apply below_drew1 | refine below_set ?_ GE193.out | refine below_set ?_ GE194.out)) hb); clear HO_4; clear HL204_3; clear HL204_4; clear BK193; clear BK194; clear HR204_3; clear HR204_4; clear HB; have HO_4 := n0_; have HL204_3 := n1_; have HL204_4 := n2_; have BK193 := n3_; have BK194 := n4_; have HR204_3 := n5_; have HR204_4 := n6_; have HB := n7_; clear n0_ n1_ n2_ n3_ n4_ n5_ n6_ n7_; (try clear hb); (try clear hb2); (try clear hk); (try clear hi)))
    have n0_ := Aside0.mk (Kd.S_drew HO_4.out)
    have n1_ := Aside0.mk (Kd.R_drew HL204_3.out)
    have n2_ := Aside0.mk (Kd.R_drew HL204_4.out)
    have n3_ := Aside0.mk (blk_drew BK193.out)
    have n4_ := Aside0.mk (blk_drew BK194.out)
    have n5_ := Aside0.mk (Kd.C_drew HR204_3.out)
    have n6_ := Aside0.mk (Kd.C_drew HR204_4.out)
    have n7_ := Aside0.mk (below_drew1 HB.out)
    clear HO_4
    clear HL204_3
    clear HL204_4
    clear BK193
    clear BK194
    clear HR204_3
    clear HR204_4
    clear HB
    have HO_4 := n0_
    have HL204_3 := n1_
    have HL204_4 := n2_
    have BK193 := n3_
    have BK194 := n4_
    have HR204_3 := n5_
    have HR204_4 := n6_
    have HB := n7_
    clear n0_ n1_ n2_ n3_ n4_ n5_ n6_ n7_
    have p207 : 0 ≤ (1 : Int) := (by omega)
    have q207 : 1 < (t195.length : Int) := of_decide_eq_true (by first | (with_reducible assumption) | assumption)
    obtain ⟨ad207, A207_3, c207_3, A207_4, c207_4, e207, hx207_0, hx207_1, hx207_2, hx207_3, hx207_4, hl207_3, hi207_3, hl207_4, hi207_4⟩ := at_T77 (Kd.S_reads' HO_4.out).2.2 1 p207 q207
    obtain rfl : ad204 = ad207 := (by injection e207)
    obtain ⟨ce207, hce207, hMe207, hcc207⟩ := Kd.S_get HO_4.out z77 1 p207 (by first | exact q207 | exact of_decide_eq_true (by first | (with_reducible assumption) | assumption) | (have e_ := (Kd.S_reads' HO_4.out).1; omega))
    obtain ⟨ve207_3, ve207_4, rfl, ge207_3, ge207_4⟩ := k77_openM hMe207
    have hv207_3 := hcc207 3 _ rfl
    rw [add_field _ _ 3 (by omega)] at hv207_3
    replace hv207_3 := Option.some.inj (hv207_3.symm.trans hx207_3)
    rw [hv207_3] at ge207_3
    have HL207_3 := Aside0.mk (show Kd.R (Kd.int .u8) 5 _ _ _ _ ((rd_T77 t195 1).f3) from ge207_3)
    clear hv207_3 ge207_3
    have hv207_4 := hcc207 4 _ rfl
    rw [add_field _ _ 4 (by omega)] at hv207_4
    replace hv207_4 := Option.some.inj (hv207_4.symm.trans hx207_4)
    rw [hv207_4] at ge207_4
    have HL207_4 := Aside0.mk (show Kd.R (Kd.int .u8) 5 _ _ _ _ ((rd_T77 t195 1).f4) from ge207_4)
    clear hv207_4 ge207_4
    clear hcc207 hce207
    (try simp only [show (1 : Int).toNat = 1 from rfl, Nat.reduceMul, Nat.reduceEqDiff, Go.Addr.add, ↓reduceIte] at hx207_0)
    (try simp only [show (1 : Int).toNat = 1 from rfl, Nat.reduceMul, Nat.reduceEqDiff, Go.Addr.add, ↓reduceIte] at hx207_1)
    (try simp only [show (1 : Int).toNat = 1 from rfl, Nat.reduceMul, Nat.reduceEqDiff, Go.Addr.add, ↓reduceIte] at hx207_2)
    (try simp only [show (1 : Int).toNat = 1 from rfl, Nat.reduceMul, Nat.reduceEqDiff, Go.Addr.add, ↓reduceIte] at hx207_3)
    (try simp only [show (1 : Int).toNat = 1 from rfl, Nat.reduceMul, Nat.reduceEqDiff, Go.Addr.add, ↓reduceIte] at hx207_4)
    have qi207 : (1 < t195.length) = True := eq_true (by omega)
    (try rw [show ((1 : Int)).toNat = 1 from rfl] at hx207_0)
    (try rw [show 1 * 5 = 5 from rfl] at hx207_0)
    (try rw [show ((1 : Int)).toNat = 1 from rfl] at hx207_1)
    (try rw [show 1 * 5 = 5 from rfl] at hx207_1)
    (try rw [show ((1 : Int)).toNat = 1 from rfl] at hx207_2)
    (try rw [show 1 * 5 = 5 from rfl] at hx207_2)
    (try rw [show ((1 : Int)).toNat = 1 from rfl] at hx207_3)
    (try rw [show 1 * 5 = 5 from rfl] at hx207_3)
    (try rw [show ((1 : Int)).toNat = 1 from rfl] at hx207_4)
    (try rw [show 1 * 5 = 5 from rfl] at hx207_4)
    have HR207_3 := Aside0.mk hi207_3
    have HC207_3 := Aside0.mk hl207_3
    clear hi207_3 hl207_3
    have HR207_4 := Aside0.mk hi207_4
    have HC207_4 := Aside0.mk hl207_4
    clear hi207_4 hl207_4
    replace p207 := eq_true p207
    replace q207 := eq_true q207
    have p208 : 0 ≤ (1 : Int) := (by omega)
    have q208 : 1 < (t195.length : Int) := of_decide_eq_true (by first | (with_reducible assumption) | assumption)
    obtain ⟨ad208, A208_3, c208_3, A208_4, c208_4, e208, hx208_0, hx208_1, hx208_2, hx208_3, hx208_4, hl208_3, hi208_3, hl208_4, hi208_4⟩ := at_T77 (Kd.S_reads' HO_4.out).2.2 1 p208 q208
    obtain rfl : ad204 = ad208 := (by injection e208)
    obtain ⟨ce208, hce208, hMe208, hcc208⟩ := Kd.S_get HO_4.out z77 1 p208 (by first | exact q208 | exact of_decide_eq_true (by first | (with_reducible assumption) | assumption) | (have e_ := (Kd.S_reads' HO_4.out).1; omega))
    obtain ⟨ve208_3, ve208_4, rfl, ge208_3, ge208_4⟩ := k77_openM hMe208
    have hv208_3 := hcc208 3 _ rfl
    rw [add_field _ _ 3 (by omega)] at hv208_3
    replace hv208_3 := Option.some.inj (hv208_3.symm.trans hx208_3)
    rw [hv208_3] at ge208_3
    have HL208_3 := Aside0.mk (show Kd.R (Kd.int .u8) 5 _ _ _ _ ((rd_T77 t195 1).f3) from ge208_3)
    clear hv208_3 ge208_3
    have hv208_4 := hcc208 4 _ rfl
    rw [add_field _ _ 4 (by omega)] at hv208_4
    replace hv208_4 := Option.some.inj (hv208_4.symm.trans hx208_4)
    rw [hv208_4] at ge208_4
    have HL208_4 := Aside0.mk (show Kd.R (Kd.int .u8) 5 _ _ _ _ ((rd_T77 t195 1).f4) from ge208_4)
    clear hv208_4 ge208_4
    clear hcc208 hce208
    (try simp only [show (1 : Int).toNat = 1 from rfl, Nat.reduceMul, Nat.reduceEqDiff, Go.Addr.add, ↓reduceIte] at hx208_0)
    (try simp only [show (1 : Int).toNat = 1 from rfl, Nat.reduceMul, Nat.reduceEqDiff, Go.Addr.add, ↓reduceIte] at hx208_1)
    (try simp only [show (1 : Int).toNat = 1 from rfl, Nat.reduceMul, Nat.reduceEqDiff, Go.Addr.add, ↓reduceIte] at hx208_2)
    (try simp only [show (1 : Int).toNat = 1 from rfl, Nat.reduceMul, Nat.reduceEqDiff, Go.Addr.add, ↓reduceIte] at hx208_3)
    (try simp only [show (1 : Int).toNat = 1 from rfl, Nat.reduceMul, Nat.reduceEqDiff, Go.Addr.add, ↓reduceIte] at hx208_4)
    have qi208 : (1 < t195.length) = True := eq_true (by omega)
    (try rw [show ((1 : Int)).toNat = 1 from rfl] at hx208_0)
    (try rw [show 1 * 5 = 5 from rfl] at hx208_0)
    (try rw [show ((1 : Int)).toNat = 1 from rfl] at hx208_1)
    (try rw [show 1 * 5 = 5 from rfl] at hx208_1)
    (try rw [show ((1 : Int)).toNat = 1 from rfl] at hx208_2)
    (try rw [show 1 * 5 = 5 from rfl] at hx208_2)
    (try rw [show ((1 : Int)).toNat = 1 from rfl] at hx208_3)
    (try rw [show 1 * 5 = 5 from rfl] at hx208_3)
    (try rw [show ((1 : Int)).toNat = 1 from rfl] at hx208_4)
    (try rw [show 1 * 5 = 5 from rfl] at hx208_4)
    have HR208_3 := Aside0.mk hi208_3
    have HC208_3 := Aside0.mk hl208_3
    clear hi208_3 hl208_3
    have HR208_4 := Aside0.mk hi208_4
    have HC208_4 := Aside0.mk hl208_4
    clear hi208_4 hl208_4
    replace p208 := eq_true p208
    replace q208 := eq_true q208
    have ea_ := Option.some.inj (hx207_3.symm.trans hx208_3)
    injection ea_ with ea_ en_ ec_
    subst ea_
    subst ec_
    clear en_
    have ea_ := Option.some.inj (hx207_4.symm.trans hx208_4)
    injection ea_ with ea_ en_ ec_
    subst ea_
    subst ec_
    clear en_
    refine start_ (n := 12) (S := fun w' => w'.cell? ⟨ad204.block, ad204.off + 5, none⟩ = some (.int .i64 ((rd_T77 t195 1).f0)) ∧ w'.cell? ⟨ad204.block, ad204.off + 5 + 1, none⟩ = some (.int .i64 ((rd_T77 t195 1).f1)) ∧ w'.cell? ⟨ad204.block, ad204.off + 5 + 2, none⟩ = some (.bool ((rd_T77 t195 1).f2)) ∧ w'.cell? ⟨ad204.block, ad204.off + 5 + 3, none⟩ = some (.slice A207_3 ((rd_T77 t195 1).f3).length c207_3) ∧ w'.cell? ⟨ad204.block, ad204.off + 5 + 4, none⟩ = some (.slice A207_4 ((rd_T77 t195 1).f4).length c207_4) ∧ w'.cell? ⟨ad204.block, ad204.off + 5, none⟩ = some (.int .i64 ((rd_T77 t195 1).f0)) ∧ w'.cell? ⟨ad204.block, ad204.off + 5 + 1, none⟩ = some (.int .i64 ((rd_T77 t195 1).f1)) ∧ w'.cell? ⟨ad204.block, ad204.off + 5 + 2, none⟩ = some (.bool ((rd_T77 t195 1).f2)) ∧ w'.cell? ⟨ad204.block, ad204.off + 5 + 3, none⟩ = some (.slice A207_3 ((rd_T77 t195 1).f3).length c207_3) ∧ w'.cell? ⟨ad204.block, ad204.off + 5 + 4, none⟩ = some (.slice A207_4 ((rd_T77 t195 1).f4).length c207_4)) (ds := []) #[false, false, false, false, false, false, false, false, false, false, false, false] (by kernel_rfl) rfl rfl ⟨hx207_0, hx207_1, hx207_2, hx207_3, hx207_4, hx208_0, hx208_1, hx208_2, hx208_3, hx208_4⟩ (fun hHeld => ?_); refine with_tabW name_part.tab9 name_part.bits9 (fun HT_ HW_ => ?_)
    generalize w35.drew = w36 at HO_4 HL204_3 HL204_4 BK193 BK194 HR204_3 HR204_4 HB HL207_3 HL207_4 HL208_3 HL208_4 HR207_3 HR207_4 HR208_3 HR208_4 hx207_0 hx207_1 hx207_2 hx207_3 hx207_4 hx208_0 hx208_1 hx208_2 hx208_3 hx208_4 hHeld ⊢
    refine pure_ (i := 0) (N := some 67) (v := ?_) (a' := ?_) #[true, false, false, false, false, false, false, false, false, false, false, false] rfl rfl (any_of HT_.out (by kernel_rfl)) (fun _ _ _ h => h) (Or.inl ⟨by rfl, ?_⟩) ?_ ?_; rotate_left; (intro w'; go_simp; with_reducible rfl); rotate_left; (simp only [Act.put, List.setIfInBounds_toArray, List.set_cons_zero, List.set_cons_succ, i64_w, i32_w]; rfl)
    refine pure_ (i := 1) (N := some 68) (v := ?_) (a' := ?_) #[true, true, false, false, false, false, false, false, false, false, false, false] rfl rfl (any_of HT_.out (by kernel_rfl)) (fun _ _ _ h => h) (Or.inl ⟨by rfl, ?_⟩) ?_ ?_; rotate_left; (intro w'; go_simp; with_reducible rfl); rotate_left; (simp only [Act.put, List.setIfInBounds_toArray, List.set_cons_zero, List.set_cons_succ, i64_w, i32_w]; rfl)
    refine pure_ (i := 2) (N := some 69) (v := ?_) (a' := ?_) #[true, true, true, false, false, false, false, false, false, false, false, false] rfl rfl (any_of HT_.out (by kernel_rfl)) (fun _ _ _ h => h) (Or.inl ⟨by rfl, ?_⟩) ?_ ?_; rotate_left; (intro w'; go_simp; with_reducible rfl); rotate_left; (simp only [Act.put, List.setIfInBounds_toArray, List.set_cons_zero, List.set_cons_succ, i64_w, i32_w]; rfl)
    refine pure_ (i := 3) (N := some 70) (v := ?_) (a' := ?_) #[true, true, true, true, false, false, false, false, false, false, false, false] rfl rfl (any_of HT_.out (by kernel_rfl)) (fun _ _ _ h => h) (Or.inl ⟨by rfl, ?_⟩) ?_ ?_; rotate_left; (intro w'; go_simp; with_reducible rfl); rotate_left; (simp only [Act.put, List.setIfInBounds_toArray, List.set_cons_zero, List.set_cons_succ, i64_w, i32_w]; rfl)
    refine pure_ (i := 5) (N := some 72) (v := ?_) (a' := ?_) #[true, true, true, true, false, true, false, false, false, false, false, false] rfl rfl (any_of HT_.out (by kernel_rfl)) (fun _ _ _ h => h) (Or.inl ⟨by rfl, ?_⟩) ?_ ?_; rotate_left; (intro w'; go_simp; with_reducible rfl); rotate_left; (simp only [Act.put, List.setIfInBounds_toArray, List.set_cons_zero, List.set_cons_succ, i64_w, i32_w]; rfl)
    refine pure_ (i := 6) (N := some 73) (v := ?_) (a' := ?_) #[true, true, true, true, false, true, true, false, false, false, false, false] rfl rfl (any_of HT_.out (by kernel_rfl)) (fun _ _ _ h => h) (Or.inl ⟨by rfl, ?_⟩) ?_ ?_; rotate_left; (intro w'; go_simp; with_reducible rfl); rotate_left; (simp only [Act.put, List.setIfInBounds_toArray, List.set_cons_zero, List.set_cons_succ, i64_w, i32_w]; rfl)
    refine pure_ (i := 7) (N := some 74) (v := ?_) (a' := ?_) #[true, true, true, true, false, true, true, true, false, false, false, false] rfl rfl (any_of HT_.out (by kernel_rfl)) (fun _ _ _ h => h) (Or.inl ⟨by rfl, ?_⟩) ?_ ?_; rotate_left; (intro w'; go_simp; with_reducible rfl); rotate_left; (simp only [Act.put, List.setIfInBounds_toArray, List.set_cons_zero, List.set_cons_succ, i64_w, i32_w]; rfl)
    refine take_ (i := 4) (N := some 71) (v := ?_) (a' := ?_) #[true, true, true, true, true, true, true, true, false, false, false, false] rfl rfl (take_ofW HT_.out HW_.out (by kernel_rfl)) (fun _ _ _ h => h) (Or.inl ⟨by rfl, ?_⟩) hHeld ?_ ?_; rotate_left; (rintro w' ⟨s0, s1, s2, s3, s4, s5, s6, s7, s8, s9⟩; go_simp; with_reducible rfl); rotate_left; (simp only [Act.put, List.setIfInBounds_toArray, List.set_cons_zero, List.set_cons_succ, i64_w, i32_w]; rfl)
    refine take_ (i := 8) (N := some 75) (v := ?_) (a' := ?_) #[true, true, true, true, true, true, true, true, true, false, false, false] rfl rfl (take_ofW HT_.out HW_.out (by kernel_rfl)) (fun _ _ _ h => h) (Or.inl ⟨by rfl, ?_⟩) hHeld ?_ ?_; rotate_left; (rintro w' ⟨s0, s1, s2, s3, s4, s5, s6, s7, s8, s9⟩; go_simp; with_reducible rfl); rotate_left; (simp only [Act.put, List.setIfInBounds_toArray, List.set_cons_zero, List.set_cons_succ, i64_w, i32_w]; rfl)
    refine pure_ (i := 9) (N := some 76) (v := ?_) (a' := ?_) #[true, true, true, true, true, true, true, true, true, true, false, false] rfl rfl (any_of HT_.out (by kernel_rfl)) (fun _ _ _ h => h) (Or.inl ⟨by rfl, ?_⟩) ?_ ?_; rotate_left; (intro w'; go_simp; with_reducible rfl); rotate_left; (simp only [Act.put, List.setIfInBounds_toArray, List.set_cons_zero, List.set_cons_succ, i64_w, i32_w]; rfl)
    refine one_ (i := 10) (N := none) #[true, true, true, true, true, true, true, true, true, true, true, false] rfl rfl (one_of HT_.out (by kernel_rfl)) (by decide) (fun K hK => ?_)
    have hs37 : w36.cell? ⟨gb194, 0, none⟩ = some (.string (⟨#[]⟩ : ByteArray)) := (blk_cell BK194.out 0).trans rfl
    have hfs37 := blk_frozen BK194.out 0
    have hns37_0 := NB193_194.out
    have hms37_0 := NB194_193.out
    have hs38 : w36.cell? ⟨gb194, 1, none⟩ = some (.int .i64 0) := (blk_cell BK194.out 1).trans rfl
    have hfs38 := blk_frozen BK194.out 1
    have hns38_0 := NB193_194.out
    have hms38_0 := NB194_193.out
    have hs39 : w36.cell? ⟨gb194, 2, none⟩ = some (.slice none 0 0) := (blk_cell BK194.out 2).trans rfl
    have hfs39 := blk_frozen BK194.out 2
    have hns39_0 := NB193_194.out
    have hms39_0 := NB194_193.out
    refine skip_ (w1 := ?_) (by rfl) rfl ?_ ?_; rotate_left; (go_simp; rfl)
    refine hK.out _ _ ⟨((cell_far (p := ⟨gb194, _, none⟩) (by first | exact Kd.own_blk (Kd.S_ne HO_4.out BK194.out (by decide)) | (rw [add_block]; exact Kd.own_blk (Kd.S_ne HO_4.out BK194.out (by decide))) | (show (Addr.add _ _).block ≠ _; rw [add_block]; exact Kd.own_blk (Kd.S_ne HO_4.out BK194.out (by decide))) | (dsimp only; exact Kd.own_blk (Kd.S_ne HO_4.out BK194.out (by decide)))) _).trans (((cell_far (p := ⟨gb194, _, none⟩) (by first | exact Kd.own_blk (Kd.S_ne HO_4.out BK194.out (by decide)) | (rw [add_block]; exact Kd.own_blk (Kd.S_ne HO_4.out BK194.out (by decide))) | (show (Addr.add _ _).block ≠ _; rw [add_block]; exact Kd.own_blk (Kd.S_ne HO_4.out BK194.out (by decide))) | (dsimp only; exact Kd.own_blk (Kd.S_ne HO_4.out BK194.out (by decide)))) _).trans (((cell_far (p := ⟨gb194, _, none⟩) (by first | exact Kd.own_blk (Kd.S_ne HO_4.out BK194.out (by decide)) | (rw [add_block]; exact Kd.own_blk (Kd.S_ne HO_4.out BK194.out (by decide))) | (show (Addr.add _ _).block ≠ _; rw [add_block]; exact Kd.own_blk (Kd.S_ne HO_4.out BK194.out (by decide))) | (dsimp only; exact Kd.own_blk (Kd.S_ne HO_4.out BK194.out (by decide)))) _).trans (hHeld.1)))))), ((cell_far (p := ⟨gb194, _, none⟩) (by first | exact Kd.own_blk (Kd.S_ne HO_4.out BK194.out (by decide)) | (rw [add_block]; exact Kd.own_blk (Kd.S_ne HO_4.out BK194.out (by decide))) | (show (Addr.add _ _).block ≠ _; rw [add_block]; exact Kd.own_blk (Kd.S_ne HO_4.out BK194.out (by decide))) | (dsimp only; exact Kd.own_blk (Kd.S_ne HO_4.out BK194.out (by decide)))) _).trans (((cell_far (p := ⟨gb194, _, none⟩) (by first | exact Kd.own_blk (Kd.S_ne HO_4.out BK194.out (by decide)) | (rw [add_block]; exact Kd.own_blk (Kd.S_ne HO_4.out BK194.out (by decide))) | (show (Addr.add _ _).block ≠ _; rw [add_block]; exact Kd.own_blk (Kd.S_ne HO_4.out BK194.out (by decide))) | (dsimp only; exact Kd.own_blk (Kd.S_ne HO_4.out BK194.out (by decide)))) _).trans (((cell_far (p := ⟨gb194, _, none⟩) (by first | exact Kd.own_blk (Kd.S_ne HO_4.out BK194.out (by decide)) | (rw [add_block]; exact Kd.own_blk (Kd.S_ne HO_4.out BK194.out (by decide))) | (show (Addr.add _ _).block ≠ _; rw [add_block]; exact Kd.own_blk (Kd.S_ne HO_4.out BK194.out (by decide))) | (dsimp only; exact Kd.own_blk (Kd.S_ne HO_4.out BK194.out (by decide)))) _).trans (hHeld.2.1)))))), ((cell_far (p := ⟨gb194, _, none⟩) (by first | exact Kd.own_blk (Kd.S_ne HO_4.out BK194.out (by decide)) | (rw [add_block]; exact Kd.own_blk (Kd.S_ne HO_4.out BK194.out (by decide))) | (show (Addr.add _ _).block ≠ _; rw [add_block]; exact Kd.own_blk (Kd.S_ne HO_4.out BK194.out (by decide))) | (dsimp only; exact Kd.own_blk (Kd.S_ne HO_4.out BK194.out (by decide)))) _).trans (((cell_far (p := ⟨gb194, _, none⟩) (by first | exact Kd.own_blk (Kd.S_ne HO_4.out BK194.out (by decide)) | (rw [add_block]; exact Kd.own_blk (Kd.S_ne HO_4.out BK194.out (by decide))) | (show (Addr.add _ _).block ≠ _; rw [add_block]; exact Kd.own_blk (Kd.S_ne HO_4.out BK194.out (by decide))) | (dsimp only; exact Kd.own_blk (Kd.S_ne HO_4.out BK194.out (by decide)))) _).trans (((cell_far (p := ⟨gb194, _, none⟩) (by first | exact Kd.own_blk (Kd.S_ne HO_4.out BK194.out (by decide)) | (rw [add_block]; exact Kd.own_blk (Kd.S_ne HO_4.out BK194.out (by decide))) | (show (Addr.add _ _).block ≠ _; rw [add_block]; exact Kd.own_blk (Kd.S_ne HO_4.out BK194.out (by decide))) | (dsimp only; exact Kd.own_blk (Kd.S_ne HO_4.out BK194.out (by decide)))) _).trans (hHeld.2.2.1)))))), ((cell_far (p := ⟨gb194, _, none⟩) (by first | exact Kd.own_blk (Kd.S_ne HO_4.out BK194.out (by decide)) | (rw [add_block]; exact Kd.own_blk (Kd.S_ne HO_4.out BK194.out (by decide))) | (show (Addr.add _ _).block ≠ _; rw [add_block]; exact Kd.own_blk (Kd.S_ne HO_4.out BK194.out (by decide))) | (dsimp only; exact Kd.own_blk (Kd.S_ne HO_4.out BK194.out (by decide)))) _).trans (((cell_far (p := ⟨gb194, _, none⟩) (by first | exact Kd.own_blk (Kd.S_ne HO_4.out BK194.out (by decide)) | (rw [add_block]; exact Kd.own_blk (Kd.S_ne HO_4.out BK194.out (by decide))) | (show (Addr.add _ _).block ≠ _; rw [add_block]; exact Kd.own_blk (Kd.S_ne HO_4.out BK194.out (by decide))) | (dsimp only; exact Kd.own_blk (Kd.S_ne HO_4.out BK194.out (by decide)))) _).trans (((cell_far (p := ⟨gb194, _, none⟩) (by first | exact Kd.own_blk (Kd.S_ne HO_4.out BK194.out (by decide)) | (rw [add_block]; exact Kd.own_blk (Kd.S_ne HO_4.out BK194.out (by decide))) | (show (Addr.add _ _).block ≠ _; rw [add_block]; exact Kd.own_blk (Kd.S_ne HO_4.out BK194.out (by decide))) | (dsimp only; exact Kd.own_blk (Kd.S_ne HO_4.out BK194.out (by decide)))) _).trans (hHeld.2.2.2.1)))))), ((cell_far (p := ⟨gb194, _, none⟩) (by first | exact Kd.own_blk (Kd.S_ne HO_4.out BK194.out (by decide)) | (rw [add_block]; exact Kd.own_blk (Kd.S_ne HO_4.out BK194.out (by decide))) | (show (Addr.add _ _).block ≠ _; rw [add_block]; exact Kd.own_blk (Kd.S_ne HO_4.out BK194.out (by decide))) | (dsimp only; exact Kd.own_blk (Kd.S_ne HO_4.out BK194.out (by decide)))) _).trans (((cell_far (p := ⟨gb194, _, none⟩) (by first | exact Kd.own_blk (Kd.S_ne HO_4.out BK194.out (by decide)) | (rw [add_block]; exact Kd.own_blk (Kd.S_ne HO_4.out BK194.out (by decide))) | (show (Addr.add _ _).block ≠ _; rw [add_block]; exact Kd.own_blk (Kd.S_ne HO_4.out BK194.out (by decide))) | (dsimp only; exact Kd.own_blk (Kd.S_ne HO_4.out BK194.out (by decide)))) _).trans (((cell_far (p := ⟨gb194, _, none⟩) (by first | exact Kd.own_blk (Kd.S_ne HO_4.out BK194.out (by decide)) | (rw [add_block]; exact Kd.own_blk (Kd.S_ne HO_4.out BK194.out (by decide))) | (show (Addr.add _ _).block ≠ _; rw [add_block]; exact Kd.own_blk (Kd.S_ne HO_4.out BK194.out (by decide))) | (dsimp only; exact Kd.own_blk (Kd.S_ne HO_4.out BK194.out (by decide)))) _).trans (hHeld.2.2.2.2.1)))))), ((cell_far (p := ⟨gb194, _, none⟩) (by first | exact Kd.own_blk (Kd.S_ne HO_4.out BK194.out (by decide)) | (rw [add_block]; exact Kd.own_blk (Kd.S_ne HO_4.out BK194.out (by decide))) | (show (Addr.add _ _).block ≠ _; rw [add_block]; exact Kd.own_blk (Kd.S_ne HO_4.out BK194.out (by decide))) | (dsimp only; exact Kd.own_blk (Kd.S_ne HO_4.out BK194.out (by decide)))) _).trans (((cell_far (p := ⟨gb194, _, none⟩) (by first | exact Kd.own_blk (Kd.S_ne HO_4.out BK194.out (by decide)) | (rw [add_block]; exact Kd.own_blk (Kd.S_ne HO_4.out BK194.out (by decide))) | (show (Addr.add _ _).block ≠ _; rw [add_block]; exact Kd.own_blk (Kd.S_ne HO_4.out BK194.out (by decide))) | (dsimp only; exact Kd.own_blk (Kd.S_ne HO_4.out BK194.out (by decide)))) _).trans (((cell_far (p := ⟨gb194, _, none⟩) (by first | exact Kd.own_blk (Kd.S_ne HO_4.out BK194.out (by decide)) | (rw [add_block]; exact Kd.own_blk (Kd.S_ne HO_4.out BK194.out (by decide))) | (show (Addr.add _ _).block ≠ _; rw [add_block]; exact Kd.own_blk (Kd.S_ne HO_4.out BK194.out (by decide))) | (dsimp only; exact Kd.own_blk (Kd.S_ne HO_4.out BK194.out (by decide)))) _).trans (hHeld.2.2.2.2.2.1)))))), ((cell_far (p := ⟨gb194, _, none⟩) (by first | exact Kd.own_blk (Kd.S_ne HO_4.out BK194.out (by decide)) | (rw [add_block]; exact Kd.own_blk (Kd.S_ne HO_4.out BK194.out (by decide))) | (show (Addr.add _ _).block ≠ _; rw [add_block]; exact Kd.own_blk (Kd.S_ne HO_4.out BK194.out (by decide))) | (dsimp only; exact Kd.own_blk (Kd.S_ne HO_4.out BK194.out (by decide)))) _).trans (((cell_far (p := ⟨gb194, _, none⟩) (by first | exact Kd.own_blk (Kd.S_ne HO_4.out BK194.out (by decide)) | (rw [add_block]; exact Kd.own_blk (Kd.S_ne HO_4.out BK194.out (by decide))) | (show (Addr.add _ _).block ≠ _; rw [add_block]; exact Kd.own_blk (Kd.S_ne HO_4.out BK194.out (by decide))) | (dsimp only; exact Kd.own_blk (Kd.S_ne HO_4.out BK194.out (by decide)))) _).trans (((cell_far (p := ⟨gb194, _, none⟩) (by first | exact Kd.own_blk (Kd.S_ne HO_4.out BK194.out (by decide)) | (rw [add_block]; exact Kd.own_blk (Kd.S_ne HO_4.out BK194.out (by decide))) | (show (Addr.add _ _).block ≠ _; rw [add_block]; exact Kd.own_blk (Kd.S_ne HO_4.out BK194.out (by decide))) | (dsimp only; exact Kd.own_blk (Kd.S_ne HO_4.out BK194.out (by decide)))) _).trans (hHeld.2.2.2.2.2.2.1)))))), ((cell_far (p := ⟨gb194, _, none⟩) (by first | exact Kd.own_blk (Kd.S_ne HO_4.out BK194.out (by decide)) | (rw [add_block]; exact Kd.own_blk (Kd.S_ne HO_4.out BK194.out (by decide))) | (show (Addr.add _ _).block ≠ _; rw [add_block]; exact Kd.own_blk (Kd.S_ne HO_4.out BK194.out (by decide))) | (dsimp only; exact Kd.own_blk (Kd.S_ne HO_4.out BK194.out (by decide)))) _).trans (((cell_far (p := ⟨gb194, _, none⟩) (by first | exact Kd.own_blk (Kd.S_ne HO_4.out BK194.out (by decide)) | (rw [add_block]; exact Kd.own_blk (Kd.S_ne HO_4.out BK194.out (by decide))) | (show (Addr.add _ _).block ≠ _; rw [add_block]; exact Kd.own_blk (Kd.S_ne HO_4.out BK194.out (by decide))) | (dsimp only; exact Kd.own_blk (Kd.S_ne HO_4.out BK194.out (by decide)))) _).trans (((cell_far (p := ⟨gb194, _, none⟩) (by first | exact Kd.own_blk (Kd.S_ne HO_4.out BK194.out (by decide)) | (rw [add_block]; exact Kd.own_blk (Kd.S_ne HO_4.out BK194.out (by decide))) | (show (Addr.add _ _).block ≠ _; rw [add_block]; exact Kd.own_blk (Kd.S_ne HO_4.out BK194.out (by decide))) | (dsimp only; exact Kd.own_blk (Kd.S_ne HO_4.out BK194.out (by decide)))) _).trans (hHeld.2.2.2.2.2.2.2.1)))))), ((cell_far (p := ⟨gb194, _, none⟩) (by first | exact Kd.own_blk (Kd.S_ne HO_4.out BK194.out (by decide)) | (rw [add_block]; exact Kd.own_blk (Kd.S_ne HO_4.out BK194.out (by decide))) | (show (Addr.add _ _).block ≠ _; rw [add_block]; exact Kd.own_blk (Kd.S_ne HO_4.out BK194.out (by decide))) | (dsimp only; exact Kd.own_blk (Kd.S_ne HO_4.out BK194.out (by decide)))) _).trans (((cell_far (p := ⟨gb194, _, none⟩) (by first | exact Kd.own_blk (Kd.S_ne HO_4.out BK194.out (by decide)) | (rw [add_block]; exact Kd.own_blk (Kd.S_ne HO_4.out BK194.out (by decide))) | (show (Addr.add _ _).block ≠ _; rw [add_block]; exact Kd.own_blk (Kd.S_ne HO_4.out BK194.out (by decide))) | (dsimp only; exact Kd.own_blk (Kd.S_ne HO_4.out BK194.out (by decide)))) _).trans (((cell_far (p := ⟨gb194, _, none⟩) (by first | exact Kd.own_blk (Kd.S_ne HO_4.out BK194.out (by decide)) | (rw [add_block]; exact Kd.own_blk (Kd.S_ne HO_4.out BK194.out (by decide))) | (show (Addr.add _ _).block ≠ _; rw [add_block]; exact Kd.own_blk (Kd.S_ne HO_4.out BK194.out (by decide))) | (dsimp only; exact Kd.own_blk (Kd.S_ne HO_4.out BK194.out (by decide)))) _).trans (hHeld.2.2.2.2.2.2.2.2.1)))))), ((cell_far (p := ⟨gb194, _, none⟩) (by first | exact Kd.own_blk (Kd.S_ne HO_4.out BK194.out (by decide)) | (rw [add_block]; exact Kd.own_blk (Kd.S_ne HO_4.out BK194.out (by decide))) | (show (Addr.add _ _).block ≠ _; rw [add_block]; exact Kd.own_blk (Kd.S_ne HO_4.out BK194.out (by decide))) | (dsimp only; exact Kd.own_blk (Kd.S_ne HO_4.out BK194.out (by decide)))) _).trans (((cell_far (p := ⟨gb194, _, none⟩) (by first | exact Kd.own_blk (Kd.S_ne HO_4.out BK194.out (by decide)) | (rw [add_block]; exact Kd.own_blk (Kd.S_ne HO_4.out BK194.out (by decide))) | (show (Addr.add _ _).block ≠ _; rw [add_block]; exact Kd.own_blk (Kd.S_ne HO_4.out BK194.out (by decide))) | (dsimp only; exact Kd.own_blk (Kd.S_ne HO_4.out BK194.out (by decide)))) _).trans (((cell_far (p := ⟨gb194, _, none⟩) (by first | exact Kd.own_blk (Kd.S_ne HO_4.out BK194.out (by decide)) | (rw [add_block]; exact Kd.own_blk (Kd.S_ne HO_4.out BK194.out (by decide))) | (show (Addr.add _ _).block ≠ _; rw [add_block]; exact Kd.own_blk (Kd.S_ne HO_4.out BK194.out (by decide))) | (dsimp only; exact Kd.own_blk (Kd.S_ne HO_4.out BK194.out (by decide)))) _).trans (hHeld.2.2.2.2.2.2.2.2.2))))))⟩ (fun hHeld => ?_)
    clear hK K
    refine pure_ (i := 11) (N := some 3) (v := ?_) (a' := ?_) #[true, true, true, true, true, true, true, true, true, true, true, true] rfl rfl (any_of HT_.out (by kernel_rfl)) (fun _ _ _ h => h) (Or.inl ⟨by rfl, ?_⟩) ?_ ?_; rotate_left; (intro w'; go_simp; with_reducible rfl); rotate_left; (simp only [Act.put, List.setIfInBounds_toArray, List.set_cons_zero, List.set_cons_succ, i64_w, i32_w]; rfl)
    refine done_ (done_of HT_.out (by kernel_rfl)) ?_
    try go_wp2
    refine bodyPost_ret (results_ct rfl _ _ gb194 64 #[.string t205, .int .i64 ((rd_T77 t195 1).f1), .slice A207_3 ((rd_T77 t195 1).f3).length c207_3] (0, 0) _ rfl (by (with_reducible repeat (first | refine blk_drewN ?_ _ | refine blk_drew ?_ | refine blk_alloc ?_ _)); refine blk_put (cs := #[.string t205, .int .i64 ((rd_T77 t195 1).f1), .slice none 0 0]) ?_ 2 _ rfl; (with_reducible repeat (first | refine blk_drewN ?_ _ | refine blk_drew ?_ | refine blk_alloc ?_ _)); refine blk_put (cs := #[.string t205, .int .i64 0, .slice none 0 0]) ?_ 1 _ rfl; (with_reducible repeat (first | refine blk_drewN ?_ _ | refine blk_drew ?_ | refine blk_alloc ?_ _)); refine blk_put (cs := #[.string (⟨#[]⟩ : ByteArray), .int .i64 0, .slice none 0 0]) ?_ 0 _ rfl; (with_reducible repeat (first | refine blk_drewN ?_ _ | refine blk_drew ?_ | refine blk_alloc ?_ _)); exact BK194.out) Tryz.underlying64 rfl (by kernel_rfl)) rfl ?_
    exact ⟨_, _, by first | rfl | (simp [errW_none, errW_some] <;> rfl), (by first | exact EV.nil | exact EV.f30 | exact EV.f5 | exact EV.f4 | exact EV.f1 | exact EV.low (by assumption) | exact HEV_.out | exact EV.part HEV_.out), by (with_reducible repeat (first | apply Kd.R_alloc | apply Kd.R_drewN | apply Kd.R_drew)); exact Kd.R_mono (Kd.R_far (p := ⟨gb194, 2, none⟩) (Kd.R_far (p := ⟨gb194, 1, none⟩) (Kd.R_far (p := ⟨gb194, 0, none⟩) (Kd.R_types HL208_3.out BK194.out (by decide)) (fun _ hk => hk.2) (.string t205)) (fun _ hk => hk.2) (.int .i64 ((rd_T77 t195 1).f1))) (fun _ hk => hk.2) (.slice A207_3 ((rd_T77 t195 1).f3).length c207_3)) (fun _ hk => trivial), by repeat (first | exact HB.out | apply below_alloc | apply pw_below_drewN | apply below_drew1 | refine below_set ?_ GE193.out | refine below_set ?_ GE194.out)⟩
end Go.Proofs.YtkioddjjfifadaaGreatDoor.P
namespace Go.Proofs.YtkioddjjfifadaaGreatDoor.P
open Go.RowKit Go.Proofs.YtkioddjjfifadaaGreatDoorW.PrintWords Go.Proofs.YtkioddjjfifadaaGreatDoorW.PrintLast Go.Proofs.YtkioddjjfifadaaGreatDoorW.PrintMore
attribute [local go_sem] max2_int min2_int max_two min_two max_three min_three max_four min_four
set_option linter.unusedVariables false
set_option linter.unusedSimpArgs false
def chirographref07_in.f (k : Nat) (a0_0 : Int) (a0_1 : Int) (a0_2 : Bool) (l0_3 : List Int) (l0_4 : List Int) (a1 : Int) : Option ((List (S77)) × Int) := if a0_0 = 0 then (if a0_1 = a1 then (if a0_2 = true then ((chirographref04_Split.f k l0_3).bind fun bt536 => (some (bt536.1, bt536.2.1))) else (some (([] : List (S77)), 30))) else (some (([] : List (S77)), 30))) else (some (([] : List (S77)), 30))
set_option maxHeartbeats 8000000 in
set_option maxRecDepth 100000 in
theorem chirographref07_in.calls (k : Nat) (a0_0 : Int) (a0_1 : Int) (a0_2 : Bool) (A0_3 : Option Addr) (c0_3 : Nat) (l0_3 : List Int) (A0_4 : Option Addr) (c0_4 : Nat) (l0_4 : List Int) (a1 : Int) (r1 : List (S77)) (r2 : Int) (w : World) (hr0_3 : Kd.C (Kd.int .u8) w A0_3 l0_3.length l0_3) (hc0_3 : l0_3.length ≤ c0_3) (hr0_4 : Kd.C (Kd.int .u8) w A0_4 l0_4.length l0_4) (hc0_4 : l0_4.length ≤ c0_4) (h : chirographref07_in.f k a0_0 a0_1 a0_2 l0_3 l0_4 a1 = some (r1, r2)) :
    Calls Tryz.prog 82 #[.agg #[.int .i64 a0_0, .int .i64 a0_1, .bool a0_2, .slice A0_3 l0_3.length c0_3, .slice A0_4 l0_4.length c0_4], .int .i64 a1] w fun e w' => ∃ v0_ : Value, e = .returned (.tuple #[v0_, .int .i64 r2]) ∧ Kd.S k77 77 w' w.heap.size (fun _ => True) v0_ r1 ∧ Below w.heap.size w w' := by
  have hu77 := Tryz.underlying77
  have HR0_3 := Aside0.mk hr0_3
  have HC0_3 := Aside0.mk hc0_3
  clear hr0_3 hc0_3
  have HR0_4 := Aside0.mk hr0_4
  have HC0_4 := Aside0.mk hc0_4
  clear hr0_4 hc0_4
  have HB := Aside0.mk (Below.refl w.heap.size w)
  have H : (if a0_0 = 0 then (if a0_1 = a1 then (if a0_2 = true then ((chirographref04_Split.f k l0_3).bind fun bt536 => (some (bt536.1, bt536.2.1))) else (some (([] : List (S77)), 30))) else (some (([] : List (S77)), 30))) else (some (([] : List (S77)), 30))) = some (r1, r2) := h
  clear h
  by_cases c3 : a0_0 = 0
  rotate_left
  · rw [if_neg c3] at H
    have c3b0 : (a0_0 == 0) = false := beq_eq_false_iff_ne.mpr c3
    have c3b1 : (a0_0 != 0) = true := bne_iff_ne.mpr c3
    simp only [Option.some.injEq, Prod.mk.injEq] at H
    obtain ⟨rfl, rfl⟩ := H
    go_enter Tryz.func82, Tryz.ntmps82
    go_wp2_with (first | ((with_reducible refine gate_dst (N := 2) rfl ?_); refine box_event ?hg (N := 2) ?hd (cs := #[.int .i64 a0_0, .int .i64 a0_1, .bool a0_2, .slice A0_3 l0_3.length c0_3, .slice A0_4 l0_4.length c0_4]) (t := 77) ?hr ?_; (case hd => rfl); (case hg => rfl); (case hr => first | (go_simp; done) | (go_simp; rfl)); intro gb535 hg w14 hbox hb; have n0_ := Aside0.mk (below_step (bU HB.out) hb); have n1_ := Aside0.mk (hbox); have n2_ := Aside0.mk ((by rw [hg]; exact (below_size (bU HB.out)) : w.heap.size ≤ gb535)); have n3_ := Aside0.mk ((by rw [hg]; exact (below_size (bU HB.out)) : w.heap.size ≤ gb535)); replace HB := n0_; have BK535 := n1_; have GW535 := n2_; have GE535 := n3_; clear n0_ n1_ n2_ n3_; clear hb hbox hg; have hcz15_0 : w14.cell? ⟨gb535, 0, none⟩ = some (.int .i64 a0_0) := (blk_cell BK535.out 0).trans rfl; have hcz15_1 : w14.cell? ⟨gb535, 1, none⟩ = some (.int .i64 a0_1) := (blk_cell BK535.out 1).trans rfl; have hcz15_2 : w14.cell? ⟨gb535, 2, none⟩ = some (.bool a0_2) := (blk_cell BK535.out 2).trans rfl; have hcz15_3 : w14.cell? ⟨gb535, 3, none⟩ = some (.slice A0_3 l0_3.length c0_3) := (blk_cell BK535.out 3).trans rfl; have hcz15_4 : w14.cell? ⟨gb535, 4, none⟩ = some (.slice A0_4 l0_4.length c0_4) := (blk_cell BK535.out 4).trans rfl; have hfz15_0 := blk_frozen BK535.out 0; have hfz15_1 := blk_frozen BK535.out 1; have hfz15_2 := blk_frozen BK535.out 2; have hfz15_3 := blk_frozen BK535.out 3; have hfz15_4 := blk_frozen BK535.out 4))
    go_ret2
    exact ⟨_, by first | rfl | (simp [errW_none, errW_some] <;> rfl), by first | exact Kd.S_nil _ _ _ _ _ | exact Kd.N_nil _ _ _ _ _ | exact Kd.V_nil _ _ _ _ _ | exact Kd.Q_nil _ _ _ _ _ | exact Kd.R_nil _ _ _ _ _, by repeat (first | exact HB.out | apply below_alloc | apply pw_below_drewN | apply below_drew1 | refine below_set ?_ GE535.out)⟩
  rw [if_pos c3] at H
  have c3b0 : (a0_0 == 0) = true := beq_iff_eq.mpr c3
  have c3b1 : (a0_0 != 0) = false := bne_eq_false_iff_eq.mpr c3
  clear c3
  by_cases c4 : a0_1 = a1
  rotate_left
  · rw [if_neg c4] at H
    have c4b0 : (a0_1 == a1) = false := beq_eq_false_iff_ne.mpr c4
    have c4b1 : (a0_1 != a1) = true := bne_iff_ne.mpr c4
    simp only [Option.some.injEq, Prod.mk.injEq] at H
    obtain ⟨rfl, rfl⟩ := H
    go_enter Tryz.func82, Tryz.ntmps82
    go_wp2_with (first | ((with_reducible refine gate_dst (N := 2) rfl ?_); refine box_event ?hg (N := 2) ?hd (cs := #[.int .i64 a0_0, .int .i64 a0_1, .bool a0_2, .slice A0_3 l0_3.length c0_3, .slice A0_4 l0_4.length c0_4]) (t := 77) ?hr ?_; (case hd => rfl); (case hg => rfl); (case hr => first | (go_simp; done) | (go_simp; rfl)); intro gb535 hg w12 hbox hb; have n0_ := Aside0.mk (below_step (bU HB.out) hb); have n1_ := Aside0.mk (hbox); have n2_ := Aside0.mk ((by rw [hg]; exact (below_size (bU HB.out)) : w.heap.size ≤ gb535)); have n3_ := Aside0.mk ((by rw [hg]; exact (below_size (bU HB.out)) : w.heap.size ≤ gb535)); replace HB := n0_; have BK535 := n1_; have GW535 := n2_; have GE535 := n3_; clear n0_ n1_ n2_ n3_; clear hb hbox hg; have hcz13_0 : w12.cell? ⟨gb535, 0, none⟩ = some (.int .i64 a0_0) := (blk_cell BK535.out 0).trans rfl; have hcz13_1 : w12.cell? ⟨gb535, 1, none⟩ = some (.int .i64 a0_1) := (blk_cell BK535.out 1).trans rfl; have hcz13_2 : w12.cell? ⟨gb535, 2, none⟩ = some (.bool a0_2) := (blk_cell BK535.out 2).trans rfl; have hcz13_3 : w12.cell? ⟨gb535, 3, none⟩ = some (.slice A0_3 l0_3.length c0_3) := (blk_cell BK535.out 3).trans rfl; have hcz13_4 : w12.cell? ⟨gb535, 4, none⟩ = some (.slice A0_4 l0_4.length c0_4) := (blk_cell BK535.out 4).trans rfl; have hfz13_0 := blk_frozen BK535.out 0; have hfz13_1 := blk_frozen BK535.out 1; have hfz13_2 := blk_frozen BK535.out 2; have hfz13_3 := blk_frozen BK535.out 3; have hfz13_4 := blk_frozen BK535.out 4))
    go_ret2
    exact ⟨_, by first | rfl | (simp [errW_none, errW_some] <;> rfl), by first | exact Kd.S_nil _ _ _ _ _ | exact Kd.N_nil _ _ _ _ _ | exact Kd.V_nil _ _ _ _ _ | exact Kd.Q_nil _ _ _ _ _ | exact Kd.R_nil _ _ _ _ _, by repeat (first | exact HB.out | apply below_alloc | apply pw_below_drewN | apply below_drew1 | refine below_set ?_ GE535.out)⟩
  rw [if_pos c4] at H
  have c4b0 : (a0_1 == a1) = true := beq_iff_eq.mpr c4
  have c4b1 : (a0_1 != a1) = false := bne_eq_false_iff_eq.mpr c4
  clear c4
  by_cases c5 : a0_2 = true
  rotate_left
  · replace c5 := Bool.eq_false_iff.mpr c5
    subst c5
    have H1 : (some (([] : List (S77)), 30)) = some (r1, r2) := by rw [if_neg (show ¬ (false = true) by decide)] at H; exact H
    clear H
    have H := H1
    clear H1
    simp only [Option.some.injEq, Prod.mk.injEq] at H
    obtain ⟨rfl, rfl⟩ := H
    go_enter Tryz.func82, Tryz.ntmps82
    go_wp2_with (first | ((with_reducible refine gate_dst (N := 2) rfl ?_); refine box_event ?hg (N := 2) ?hd (cs := #[.int .i64 a0_0, .int .i64 a0_1, .bool false, .slice A0_3 l0_3.length c0_3, .slice A0_4 l0_4.length c0_4]) (t := 77) ?hr ?_; (case hd => rfl); (case hg => rfl); (case hr => first | (go_simp; done) | (go_simp; rfl)); intro gb535 hg w10 hbox hb; have n0_ := Aside0.mk (below_step (bU HB.out) hb); have n1_ := Aside0.mk (hbox); have n2_ := Aside0.mk ((by rw [hg]; exact (below_size (bU HB.out)) : w.heap.size ≤ gb535)); have n3_ := Aside0.mk ((by rw [hg]; exact (below_size (bU HB.out)) : w.heap.size ≤ gb535)); replace HB := n0_; have BK535 := n1_; have GW535 := n2_; have GE535 := n3_; clear n0_ n1_ n2_ n3_; clear hb hbox hg; have hcz11_0 : w10.cell? ⟨gb535, 0, none⟩ = some (.int .i64 a0_0) := (blk_cell BK535.out 0).trans rfl; have hcz11_1 : w10.cell? ⟨gb535, 1, none⟩ = some (.int .i64 a0_1) := (blk_cell BK535.out 1).trans rfl; have hcz11_2 : w10.cell? ⟨gb535, 2, none⟩ = some (.bool false) := (blk_cell BK535.out 2).trans rfl; have hcz11_3 : w10.cell? ⟨gb535, 3, none⟩ = some (.slice A0_3 l0_3.length c0_3) := (blk_cell BK535.out 3).trans rfl; have hcz11_4 : w10.cell? ⟨gb535, 4, none⟩ = some (.slice A0_4 l0_4.length c0_4) := (blk_cell BK535.out 4).trans rfl; have hfz11_0 := blk_frozen BK535.out 0; have hfz11_1 := blk_frozen BK535.out 1; have hfz11_2 := blk_frozen BK535.out 2; have hfz11_3 := blk_frozen BK535.out 3; have hfz11_4 := blk_frozen BK535.out 4))
    go_ret2
    exact ⟨_, by first | rfl | (simp [errW_none, errW_some] <;> rfl), by first | exact Kd.S_nil _ _ _ _ _ | exact Kd.N_nil _ _ _ _ _ | exact Kd.V_nil _ _ _ _ _ | exact Kd.Q_nil _ _ _ _ _ | exact Kd.R_nil _ _ _ _ _, by repeat (first | exact HB.out | apply below_alloc | apply pw_below_drewN | apply below_drew1 | refine below_set ?_ GE535.out)⟩
  subst c5
  have H1 : ((chirographref04_Split.f k l0_3).bind fun bt536 => (some (bt536.1, bt536.2.1))) = some (r1, r2) := by rw [if_pos rfl] at H; exact H
  clear H
  have H := H1
  clear H1
  replace H := Option.bind_eq_some_iff.mp H
  obtain ⟨⟨t536, t537, t538⟩, A60, H⟩ := H
  try dsimp only at H
  have A6 := Aside0.mk A60
  clear A60
  simp only [Option.some.injEq, Prod.mk.injEq] at H
  obtain ⟨rfl, rfl⟩ := H
  go_enter Tryz.func82, Tryz.ntmps82
  go_wp2_with (first | ((with_reducible refine gate_dst (N := 2) rfl ?_); refine box_event ?hg (N := 2) ?hd (cs := #[.int .i64 a0_0, .int .i64 a0_1, .bool true, .slice A0_3 l0_3.length c0_3, .slice A0_4 l0_4.length c0_4]) (t := 77) ?hr ?_; (case hd => rfl); (case hg => rfl); (case hr => first | (go_simp; done) | (go_simp; rfl)); intro gb535 hg w7 hbox hb; have n0_ := Aside0.mk (below_step (bU HB.out) hb); have n1_ := Aside0.mk (hbox); have n2_ := Aside0.mk ((by rw [hg]; exact (below_size (bU HB.out)) : w.heap.size ≤ gb535)); have n3_ := Aside0.mk ((by rw [hg]; exact (below_size (bU HB.out)) : w.heap.size ≤ gb535)); replace HB := n0_; have BK535 := n1_; have GW535 := n2_; have GE535 := n3_; clear n0_ n1_ n2_ n3_; clear hb hbox hg; have hcz8_0 : w7.cell? ⟨gb535, 0, none⟩ = some (.int .i64 a0_0) := (blk_cell BK535.out 0).trans rfl; have hcz8_1 : w7.cell? ⟨gb535, 1, none⟩ = some (.int .i64 a0_1) := (blk_cell BK535.out 1).trans rfl; have hcz8_2 : w7.cell? ⟨gb535, 2, none⟩ = some (.bool true) := (blk_cell BK535.out 2).trans rfl; have hcz8_3 : w7.cell? ⟨gb535, 3, none⟩ = some (.slice A0_3 l0_3.length c0_3) := (blk_cell BK535.out 3).trans rfl; have hcz8_4 : w7.cell? ⟨gb535, 4, none⟩ = some (.slice A0_4 l0_4.length c0_4) := (blk_cell BK535.out 4).trans rfl; have hfz8_0 := blk_frozen BK535.out 0; have hfz8_1 := blk_frozen BK535.out 1; have hfz8_2 := blk_frozen BK535.out 2; have hfz8_3 := blk_frozen BK535.out 3; have hfz8_4 := blk_frozen BK535.out 4) | ((with_reducible refine gate_callee (f := 145) rfl ?_); refine goesL_ (some 26) rfl rfl Tryz.func145 (by kernel_rfl) rfl #[.slice A0_3 l0_3.length c0_3] rfl (by (try simp only [List.map_toArray, List.map_cons, List.map_nil]); first | done | rfl | (simp only [List.length_drop, List.length_take]; rfl)) ?_; (with_reducible refine (chirographref04_Split.calls k _ _ l0_3 t536 t537 t538 _ ?side1 ?side2 A6.out).mono ?_); (case side1 => exact Kd.C_u (Kd.C_below HR0_3.out HB.out)); (case side2 => exact HC0_3.out); rintro e w9 ⟨v539, rfl, ho0, hb⟩; refine ⟨_, rfl, ?_⟩; have n0_ := Aside0.mk (Kd.S_lower (Kd.S_newB ho0 (blk_u BK535.out)) (below_size (by repeat (first | exact HB.out | apply below_alloc | apply pw_below_drewN | apply below_drew1 | refine below_set ?_ GE535.out)))); have n1_ := Aside0.mk (blk_below (blk_u BK535.out) hb); have n2_ := Aside0.mk (below_step (by repeat (first | exact HB.out | apply below_alloc | apply pw_below_drewN | apply below_drew1 | refine below_set ?_ GE535.out)) hb); clear BK535; clear HB; have HO540 := n0_; have BK535 := n1_; have HB := n2_; clear n0_ n1_ n2_; (try clear hb); (try clear hb2); (try clear hk); (try clear hi); (try clear ho0)))
  go_ret2
  exact ⟨_, by first | rfl | (simp [errW_none, errW_some] <;> rfl), by (with_reducible repeat (first | apply Kd.S_alloc | apply Kd.S_drewN | apply Kd.S_drew)); exact Kd.S_mono HO540.out (fun _ hk => trivial), by repeat (first | exact HB.out | apply below_alloc | apply pw_below_drewN | apply below_drew1 | refine below_set ?_ GE535.out)⟩
end Go.Proofs.YtkioddjjfifadaaGreatDoor.P
