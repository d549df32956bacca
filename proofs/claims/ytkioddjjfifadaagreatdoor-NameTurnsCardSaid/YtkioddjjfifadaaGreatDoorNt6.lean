/- What the proof of NameTurns needs of: Pxf168, Pxf126, Pxf66, Lb0, Hp1, Pxf199, Pxf125, Pxf65, Lb1, Lr0, Lr1, Pxf49, Lr2, Hr0, Hb0, Lt4, Shm, Hb1, Pxf214. -/
import Derived.Laws.BitsLemmas
import Derived.Laws.Bits64
import Derived.Laws.RangeString
import Derived.Lib.TrimUEq
import Derived.Lib.ValidLaws
import Derived.Deep.LoopGhost
import Derived.Deep.DeepBigQuietO
import Derived.Laws.BytesArg
import Derived.Lib.BytesEntry
import Derived.Lib.Bytealg
import Derived.Sort.Walk0
import Derived.Shelf.SlGeneric
import Derived.Shelf.SlLaysF
import Derived.Ground.SlsfProg
import Derived.Test.YtkioddjjfifadaaGreatDoorProg
import Derived.Shelf.SlSortCmp.NoneTotal
import Derived.Test.YtkioddjjfifadaaGreatDoorNt2
import Derived.Test.YtkioddjjfifadaaGreatDoorNt3
import Derived.Test.YtkioddjjfifadaaGreatDoorNt5
namespace Go.Proofs.YtkioddjjfifadaaGreatDoor.P
open Go.RowKit Go.Proofs.YtkioddjjfifadaaGreatDoorW.PrintWords Go.Proofs.YtkioddjjfifadaaGreatDoorW.PrintLast Go.Proofs.YtkioddjjfifadaaGreatDoorW.PrintMore
attribute [local go_sem] max2_int min2_int max_two min_two max_three min_three max_four min_four
set_option linter.unusedVariables false
set_option linter.unusedSimpArgs false
mutual
def der_Put.j0 : Nat → Int → Int → Bool → List (List Int) → Bool → Option (List Int × Int)
  | 0, _, _, _, _, _ => none
  | k + 1, x0, x1, x2, x3, x37 => if x37 = true then (some (([] : List Int), 1)) else (der_Put.l0 k x0 x1 x2 x3 0 x3 (x3.length : Int) 0)
def der_Put.l0 : Nat → Int → Int → Bool → List (List Int) → Int → List (List Int) → Int → Int → Option (List Int × Int)
  | 0, _, _, _, _, _, _, _, _ => none
  | k + 1, x0, x1, x2, x3, x10, x38, x39, x40 => if x40 < x39 then (if 0 ≤ x40 then (if x40 < (x38.length : Int) then (if ((rd_L1 x38 x40).length : Int) > (wrap64 (16777216 - x10)) then (some (([] : List Int), 3)) else (der_Put.l0 k x0 x1 x2 x3 (wrap64 (x10 + ((rd_L1 x38 x40).length : Int))) x38 x39 (wrap64 (x40 + 1)))) else (none)) else (none)) else (if x2 = true then (der_Put.j2 k x1 x3 x10 (Go.bits .or .u8 ((wrap64 (x0 * 64)) % 256) 32)) else (der_Put.j2 k x1 x3 x10 ((wrap64 (x0 * 64)) % 256)))
def der_Put.j2 : Nat → Int → List (List Int) → Int → Int → Option (List Int × Int)
  | 0, _, _, _, _ => none
  | k + 1, x1, x3, x10, x13 => if x1 < 31 then (if ([] : List Int).length < 140737488355328 then (der_Put.j3 k x3 x10 (([] : List Int) ++ [Go.bits .or .u8 x13 ((x1) % 256)])) else (none)) else (if ([] : List Int).length < 140737488355328 then ((some (([] : List Int) ++ [Go.bits .or .u8 x13 31] : List Int)).bind fun y279 => ((der_seven.f k (IntKind.u64.wrap (x1))).bind fun t282 => (if y279.length + t282.length < 140737488355328 then (der_Put.j3 k x3 x10 (y279 ++ t282)) else (none)))) else (none))
def der_Put.j3 : Nat → List (List Int) → Int → List Int → Option (List Int × Int)
  | 0, _, _, _ => none
  | k + 1, x3, x10, x14 => if x10 < 128 then (if x14.length < 140737488355328 then (der_Put.j4 k x3 (x14 ++ [(x10) % 256])) else (none)) else ((bytes_trimLeftByte.f k (([(x10 / 16777216) % 256, (x10 / 65536) % 256, (x10 / 256) % 256, (x10) % 256] : List Int)) 0).bind fun t294 => (if x14.length < 140737488355328 then ((some (x14 ++ [Go.bits .or .u8 128 (((t294.length : Int)) % 256)] : List Int)).bind fun y297 => (if y297.length + t294.length < 140737488355328 then (der_Put.j4 k x3 (y297 ++ t294)) else (none))) else (none)))
def der_Put.j4 : Nat → List (List Int) → List Int → Option (List Int × Int)
  | 0, _, _ => none
  | k + 1, x3, x14 => der_Put.l1 k x14 x3 (x3.length : Int) 0
def der_Put.l1 : Nat → List Int → List (List Int) → Int → Int → Option (List Int × Int)
  | 0, _, _, _, _ => none
  | k + 1, x14, x111, x112, x113 => if x113 < x112 then (if 0 ≤ x113 then (if x113 < (x111.length : Int) then (if x14.length + (rd_L1 x111 x113).length < 140737488355328 then (der_Put.l1 k (x14 ++ (rd_L1 x111 x113)) x111 x112 (wrap64 (x113 + 1))) else (none)) else (none)) else (none)) else (some (x14, 0))
end
def der_Put.f (k : Nat) (a0 : Int) (a1 : Int) (a2 : Bool) (l3 : List (List Int)) : Option (List Int × Int) := if a0 < 0 then (der_Put.j0 k a0 a1 a2 l3 true) else (if a0 > 3 then (der_Put.j0 k a0 a1 a2 l3 true) else (if a1 < 0 then (der_Put.j0 k a0 a1 a2 l3 true) else (if a1 > 268435455 then (der_Put.j0 k a0 a1 a2 l3 true) else (der_Put.j0 k a0 a1 a2 l3 ((wrap64 (a0 + a1)) == 0)))))
set_option maxHeartbeats 8000000 in
set_option maxRecDepth 100000 in
theorem der_Put.calls (k : Nat) (a0 : Int) (a1 : Int) (a2 : Bool) (A3 : Option Addr) (c3 : Nat) (l3 : List (List Int)) (r1 : List Int) (r2 : Int) (w : World) (hr3 : Kd.C (Kd.slice 5 (Kd.int .u8)) w A3 l3.length l3) (hc3 : l3.length ≤ c3) (h : der_Put.f k a0 a1 a2 l3 = some (r1, r2)) :
    Calls Tryz.prog 168 #[.int .i64 a0, .int .i64 a1, .bool a2, .slice A3 l3.length c3] w fun e w' => ∃ v0_ : Value, e = .returned (.tuple #[v0_, .int .i64 r2]) ∧ Kd.R (Kd.int .u8) 5 w' w.heap.size (fun _ => True) v0_ r1 ∧ Below w.heap.size w w' := by
  have HR3 := Aside0.mk hr3
  have HC3 := Aside0.mk hc3
  clear hr3 hc3
  have HB := Aside0.mk (Below.refl w.heap.size w)
  have H : (if a0 < 0 then (der_Put.j0 k a0 a1 a2 l3 true) else (if a0 > 3 then (der_Put.j0 k a0 a1 a2 l3 true) else (if a1 < 0 then (der_Put.j0 k a0 a1 a2 l3 true) else (if a1 > 268435455 then (der_Put.j0 k a0 a1 a2 l3 true) else (der_Put.j0 k a0 a1 a2 l3 ((wrap64 (a0 + a1)) == 0)))))) = some (r1, r2) := h
  clear h
  have HC5 := Aside0.mk H
  clear H
  go_enter Tryz.func168, Tryz.ntmps168
  go_upto_region 1 with (fail)
  go_cut [37] (fun v37 wc => ∃ (kq : Nat) (x37_4 : Bool), v37 = .bool x37_4 ∧ Aside0 (der_Put.j0 kq a0 a1 a2 l3 x37_4 = some (r1, r2)) ∧ Aside0 (kq ≤ k) ∧ Aside0 (Below w.heap.size w wc))
  case first =>
    have H := HC5.out
    clear HC5
    by_cases c6 : a0 < 0
    · rw [if_pos c6] at H
      have c6b0 : decide (a0 < 0) = true := decide_eq_true c6
      clear c6
      (first | rw [c6b0] | (simp only [i64_w, i32_w]; rw [c6b0]) | skip)
      have H' := Aside0.mk H
      clear H
      go_wp2
      go_meet
      case rel => exact ⟨_, (true), (by first | rfl | (simp; done) | (simp [*]; done)), H', ⟨by first | omega | exact Nat.le_refl _⟩, ⟨bU HB.out⟩⟩
    rw [if_neg c6] at H
    have c6b0 : decide (a0 < 0) = false := decide_eq_false c6
    clear c6
    (first | rw [c6b0] | (simp only [i64_w, i32_w]; rw [c6b0]) | skip)
    by_cases c7 : a0 > 3
    · rw [if_pos c7] at H
      have c7b0 : decide (3 < a0) = true := decide_eq_true c7
      clear c7
      have H' := Aside0.mk H
      clear H
      go_wp2
      go_meet
      case rel => exact ⟨_, (true), (by first | rfl | (simp; done) | (simp [*]; done)), H', ⟨by first | omega | exact Nat.le_refl _⟩, ⟨bU HB.out⟩⟩
    rw [if_neg c7] at H
    have c7b0 : decide (3 < a0) = false := decide_eq_false c7
    clear c7
    by_cases c8 : a1 < 0
    · rw [if_pos c8] at H
      have c8b0 : decide (a1 < 0) = true := decide_eq_true c8
      clear c8
      have H' := Aside0.mk H
      clear H
      go_wp2
      go_meet
      case rel => exact ⟨_, (true), (by first | rfl | (simp; done) | (simp [*]; done)), H', ⟨by first | omega | exact Nat.le_refl _⟩, ⟨bU HB.out⟩⟩
    rw [if_neg c8] at H
    have c8b0 : decide (a1 < 0) = false := decide_eq_false c8
    clear c8
    by_cases c9 : a1 > 268435455
    rotate_left
    · rw [if_neg c9] at H
      have c9b0 : decide (268435455 < a1) = false := decide_eq_false c9
      clear c9
      have H' := Aside0.mk H
      clear H
      go_wp2
      go_meet
      case rel => exact ⟨_, (((wrap64 (a0 + a1)) == 0)), (by first | rfl | (simp; done) | (simp [*]; done)), H', ⟨by first | omega | exact Nat.le_refl _⟩, ⟨bU HB.out⟩⟩
    rw [if_pos c9] at H
    have c9b0 : decide (268435455 < a1) = true := decide_eq_true c9
    clear c9
    have H' := Aside0.mk H
    clear H
    go_wp2
    go_meet
    case rel => exact ⟨_, (true), (by first | rfl | (simp; done) | (simp [*]; done)), H', ⟨by first | omega | exact Nat.le_refl _⟩, ⟨bU HB.out⟩⟩
  clear HC5
  try clear c1
  try clear p2
  try clear c3
  try clear c6
  try clear c6b0
  try clear p6
  try clear c7
  try clear c7b0
  try clear c8
  try clear c8b0
  try clear c9
  try clear c9b0
  obtain ⟨kq, x37_4, rfl, HA, HJ4, HB⟩ := hcut
  cases kq with
  | zero => exact absurd HA.out (by simp [der_Put.j0])
  | succ kj4 =>
    have H := HA.out
    clear HA
    simp only [der_Put.j0] at H
    by_cases c10 : x37_4 = true
    · subst c10
      have H1 : (some (([] : List Int), 1)) = some (r1, r2) := by rw [if_pos rfl] at H; exact H
      clear H
      have H := H1
      clear H1
      simp only [Option.some.injEq, Prod.mk.injEq] at H
      obtain ⟨rfl, rfl⟩ := H
      go_wp2
      go_ret2
      exact ⟨_, by first | rfl | (simp [errW_none, errW_some] <;> rfl), by first | exact Kd.R_nil _ _ _ _ _ | exact Kd.N_nil _ _ _ _ _ | exact Kd.V_nil _ _ _ _ _ | exact Kd.Q_nil _ _ _ _ _ | exact Kd.S_nil _ _ _ _ _, bU HB.out⟩
    replace c10 := Bool.eq_false_iff.mpr c10
    subst c10
    have H1 : (der_Put.l0 kj4 a0 a1 a2 l3 0 l3 (l3.length : Int) 0) = some (r1, r2) := by rw [if_neg (show ¬ (false = true) by decide)] at H; exact H
    clear H
    have H := H1
    clear H1
    have H' := Aside0.mk H
    clear H
    go_wp2
    go_loopg [10, 40] kj4 (fun kq v10 v40 w' => ∃ (x10_2 : Int) (x40_2 : Int), v10 = .int .i64 x10_2 ∧ v40 = .int .i64 x40_2 ∧ Aside0 (der_Put.l0 kq a0 a1 a2 l3 x10_2 l3 (l3.length : Int) x40_2 = some (r1, r2)) ∧ Aside0 (kq ≤ kj4) ∧ Aside0 (Below w.heap.size w w') ∧ Aside0 (0 ≤ x10_2 ∧ x10_2 ≤ 16777216))
    case atStart => exact ⟨(0), (0), (by first | rfl | (simp; done) | (simp [*]; done)), (by first | rfl | (simp; done) | (simp [*]; done)), H', ⟨Nat.le_refl _⟩, ⟨bU HB.out⟩, ⟨by decide⟩⟩
    case round =>
      clear H'
      try clear c1
      try clear p2
      try clear c3
      try clear c6
      try clear c6b0
      try clear p6
      try clear c7
      try clear c7b0
      try clear c8
      try clear c8b0
      try clear c9
      try clear c9b0
      try clear c10
      try clear p2
      try clear p6
      obtain ⟨x10_2, x40_2, rfl, rfl, HA, HK2, HB, HX10⟩ := hrel
      cases gk with
      | zero => exact absurd HA.out (by simp [der_Put.l0])
      | succ k2 =>
        have H := HA.out
        clear HA
        simp only [der_Put.l0] at H
        by_cases c11 : x40_2 < (l3.length : Int)
        · rw [if_pos c11] at H
          have c11b0 : decide (x40_2 < (l3.length : Int)) = true := decide_eq_true c11
          clear c11
          by_cases c12 : 0 ≤ x40_2
          rotate_left
          · rw [if_neg c12] at H
            exact absurd H (by simp)
          rw [if_pos c12] at H
          have c12b0 : decide (0 ≤ x40_2) = true := decide_eq_true c12
          clear c12
          by_cases c13 : x40_2 < (l3.length : Int)
          rotate_left
          · rw [if_neg c13] at H
            exact absurd H (by simp)
          rw [if_pos c13] at H
          have c13b0 : decide (x40_2 < (l3.length : Int)) = true := decide_eq_true c13
          clear c13
          by_cases c14 : ((rd_L1 l3 x40_2).length : Int) > (wrap64 (16777216 - x10_2))
          · rw [if_pos c14] at H
            have c14b0 : decide ((wrap64 (16777216 - x10_2)) < ((rd_L1 l3 x40_2).length : Int)) = true := decide_eq_true c14
            clear c14
            simp only [Option.some.injEq, Prod.mk.injEq] at H
            obtain ⟨rfl, rfl⟩ := H
            have p275 : 0 ≤ (x40_2 : Int) := of_decide_eq_true (by first | (with_reducible assumption) | assumption)
            have q275 : x40_2 < (l3.length : Int) := of_decide_eq_true (by first | (with_reducible assumption) | assumption)
            obtain ⟨ad275, A275_0, c275_0, e275, hx275_0, hl275_0, hi275_0⟩ := at_L1 HR3.out x40_2 p275 q275
            cases e275
            replace hx275_0 := (HB.out.cell (World.block_lt_of_cell? w _ hx275_0)).trans hx275_0
            have HR275_0 := Aside0.mk hi275_0
            have HC275_0 := Aside0.mk hl275_0
            clear hi275_0 hl275_0
            replace p275 := eq_true p275
            replace q275 := eq_true q275
            go_wp2
            go_ret2
            exact ⟨_, by first | rfl | (simp [errW_none, errW_some] <;> rfl), by first | exact Kd.R_nil _ _ _ _ _ | exact Kd.N_nil _ _ _ _ _ | exact Kd.V_nil _ _ _ _ _ | exact Kd.Q_nil _ _ _ _ _ | exact Kd.S_nil _ _ _ _ _, bU HB.out⟩
          rw [if_neg c14] at H
          have c14b0 : decide ((wrap64 (16777216 - x10_2)) < ((rd_L1 l3 x40_2).length : Int)) = false := decide_eq_false c14
          have HX2 : Aside0 (0 ≤ wrap64 (x10_2 + ((rd_L1 l3 x40_2).length : Int)) ∧ wrap64 (x10_2 + ((rd_L1 l3 x40_2).length : Int)) ≤ 16777216) := ⟨put_len HX10.out c14⟩
          clear c14
          have H' := Aside0.mk H
          clear H
          have p275 : 0 ≤ (x40_2 : Int) := of_decide_eq_true (by first | (with_reducible assumption) | assumption)
          have q275 : x40_2 < (l3.length : Int) := of_decide_eq_true (by first | (with_reducible assumption) | assumption)
          obtain ⟨ad275, A275_0, c275_0, e275, hx275_0, hl275_0, hi275_0⟩ := at_L1 HR3.out x40_2 p275 q275
          cases e275
          replace hx275_0 := (HB.out.cell (World.block_lt_of_cell? w _ hx275_0)).trans hx275_0
          have HR275_0 := Aside0.mk hi275_0
          have HC275_0 := Aside0.mk hl275_0
          clear hi275_0 hl275_0
          replace p275 := eq_true p275
          replace q275 := eq_true q275
          go_wp2
          go_roundg k2
          case measure => have := HJ4.out; have := HK2.out; omega
          case rel => exact ⟨(wrap64 (x10_2 + ((rd_L1 l3 x40_2).length : Int))), (wrap64 (x40_2 + 1)), (by first | rfl | (simp; done) | (simp [*]; done)), (by first | rfl | (simp; done) | (simp [*]; done)), H', ⟨by have := HJ4.out; have := HK2.out; omega⟩, ⟨bU HB.out⟩, HX2⟩
        rw [if_neg c11] at H
        have c11b0 : decide (x40_2 < (l3.length : Int)) = false := decide_eq_false c11
        clear c11
        have HC15 := Aside0.mk H
        clear H
        go_upto_if 57 with (fail)
        go_cut [13] (fun v13 wc => ∃ (kq : Nat) (x13_14 : Int), v13 = .int .u8 x13_14 ∧ Aside0 (der_Put.j2 kq a1 l3 x10_2 x13_14 = some (r1, r2)) ∧ Aside0 (kq ≤ k2) ∧ Aside0 (Below w.heap.size w wc))
        case first =>
          have H := HC15.out
          clear HC15
          by_cases c16 : a2 = true
          · subst c16
            have H1 : (der_Put.j2 k2 a1 l3 x10_2 (Go.bits .or .u8 ((wrap64 (a0 * 64)) % 256) 32)) = some (r1, r2) := by rw [if_pos rfl] at H; exact H
            clear H
            have H := H1
            clear H1
            have H' := Aside0.mk H
            clear H
            go_wp2
            go_meet
            case rel => exact ⟨_, (Go.bits .or .u8 ((wrap64 (a0 * 64)) % 256) 32), (by first | rfl | (simp; done) | (simp [*]; done)), H', ⟨by have := HJ4.out; have := HK2.out; first | omega | exact Nat.le_refl _⟩, ⟨bU HB.out⟩⟩
          replace c16 := Bool.eq_false_iff.mpr c16
          subst c16
          have H1 : (der_Put.j2 k2 a1 l3 x10_2 ((wrap64 (a0 * 64)) % 256)) = some (r1, r2) := by rw [if_neg (show ¬ (false = true) by decide)] at H; exact H
          clear H
          have H := H1
          clear H1
          have H' := Aside0.mk H
          clear H
          go_wp2
          go_meet
          case rel => exact ⟨_, ((wrap64 (a0 * 64)) % 256), (by first | rfl | (simp; done) | (simp [*]; done)), H', ⟨by have := HJ4.out; have := HK2.out; first | omega | exact Nat.le_refl _⟩, ⟨bU HB.out⟩⟩
        clear HC15
        try clear c1
        try clear c2
        try clear p2
        try clear q2
        try clear hx2
        try clear c3
        try clear c6
        try clear c6b0
        try clear p6
        try clear c7
        try clear c7b0
        try clear c8
        try clear c8b0
        try clear c9
        try clear c9b0
        try clear c10
        try clear c11
        try clear c11b0
        try clear c12
        try clear c12b0
        try clear c13
        try clear c13b0
        try clear c14
        try clear c14b0
        try clear c16
        try clear hx275_0
        try clear p2
        try clear p275
        try clear p6
        try clear q275
        obtain ⟨kq, x13_14, rfl, HA, HJ14, HB⟩ := hcut
        cases kq with
        | zero => exact absurd HA.out (by simp [der_Put.j2])
        | succ kj14 =>
          have H := HA.out
          clear HA
          simp only [der_Put.j2] at H
          have HC17 := Aside0.mk H
          clear H
          have hwc : wrap64 (x10_2 + 10) = ((x10_2 + 10).toNat : Int) := put_cap HX10.out
          have HWC := Aside0.mk hwc
          clear hwc
          go_upto_if 64 with ((with_reducible refine gate_dst (N := 62) rfl ?_); refine make_bytes w rfl rfl rfl (x10_2 + 10).toNat (congrArg (Value.int .i64) HWC.out) Tryz.underlying22 info5 (put_cap2 HX10.out) HB.out ?_; intro vM wM hv hb; have HOM := Aside0.mk hv; have HBM := Aside0.mk hb; clear hv hb HB; have HB := HBM; clear HBM)
          go_cut [14] (fun v14 wc => ∃ (kq : Nat) (x14_16 : List Int), Aside0 (der_Put.j3 kq l3 x10_2 x14_16 = some (r1, r2)) ∧ Aside0 (kq ≤ kj14) ∧ Aside0 (Kd.R (Kd.int .u8) 5 wc w.heap.size (fun _ => True) v14 x14_16) ∧ Aside0 (Below w.heap.size w wc))
          case first =>
            have H := HC17.out
            clear HC17
            by_cases c18 : a1 < 31
            · rw [if_pos c18] at H
              have c18b0 : decide (a1 < 31) = true := decide_eq_true c18
              clear c18
              (first | rw [c18b0] | (simp only [i64_w, i32_w]; rw [c18b0]) | skip)
              by_cases c19 : ([] : List Int).length < 140737488355328
              rotate_left
              · rw [if_neg c19] at H
                exact absurd H (by simp)
              rw [if_pos c19] at H
              have LMc19 := Aside0.mk c19
              clear c19
              obtain ⟨y276, hy276⟩ : ∃ y_ : List Int, y_ = (([] : List Int) ++ [Go.bits .or .u8 x13_14 ((a1) % 256)]) := ⟨_, rfl⟩
              replace H : (der_Put.j3 kj14 l3 x10_2 y276) = some (r1, r2) := by first | (rw [hy276]; with_reducible exact H) | (have H2_ := (Option.bind_some _ _).symm.trans H; rw [hy276]; with_reducible exact H2_) | (have H2_ := (Option.bind_some _ _).symm.trans H; with_reducible exact H2_) | with_reducible exact H | (rw [hy276]; exact H) | exact H
              have Ny276 := Aside0.mk hy276
              clear hy276
              have H' := Aside0.mk H
              clear H
              go_wp2_with (first | ((with_reducible refine gate_builtin (b := .append) (xs := #[.tmp 65, .tmp 70]) rfl ?_); at_builtin; refine Kd.R_append (Kd.int .u8) (w0 := w) w.heap.size rfl (.tmp 65) (.tmp 70) 22 5 (.int .u8 0) 1 rfl Tryz.underlying22 info5 rfl (by decide) (by omega) vM ([] : List Int) (Go.bits .or .u8 x13_14 ((a1) % 256)) [.int .u8 (Go.bits .or .u8 x13_14 ((a1) % 256))] (fun _ => True) (fun _ => False) rfl rfl ?aP (fun _ hk => hk.elim) ?aF ?aO ?aB ?aS ?aL ?_; (case aP => exact rfl); (case aB => exact (bU HB.out)); (case aF => exact (fun _ _ => trivial)); (case aO => exact (Kd.R_u HOM.out)); (case aS => exact (below_size (bU HB.out))); (case aL => have := LMc19.out; omega); intro v277 w20 ho hb hg hat; rw [← Ny276.out] at ho; have n0_ := Aside0.mk (hb); have n1_ := Aside0.mk (ho); replace HB := n0_; have HO278 := n1_; clear n0_ n1_; clear ho hb hg hat))
              go_meet
              case rel => exact ⟨_, (y276), H', ⟨by have := HJ4.out; have := HK2.out; have := HJ14.out; first | omega | exact Nat.le_refl _⟩, ⟨Kd.R_u HO278.out⟩, ⟨bU HB.out⟩⟩
            rw [if_neg c18] at H
            have c18b0 : decide (a1 < 31) = false := decide_eq_false c18
            clear c18
            (first | rw [c18b0] | (simp only [i64_w, i32_w]; rw [c18b0]) | skip)
            by_cases c21 : ([] : List Int).length < 140737488355328
            rotate_left
            · rw [if_neg c21] at H
              exact absurd H (by simp)
            rw [if_pos c21] at H
            have LMc21 := Aside0.mk c21
            clear c21
            obtain ⟨y279, hy279⟩ : ∃ y_ : List Int, y_ = (([] : List Int) ++ [Go.bits .or .u8 x13_14 31]) := ⟨_, rfl⟩
            replace H : ((der_seven.f kj14 (IntKind.u64.wrap (a1))).bind fun t282 => (if y279.length + t282.length < 140737488355328 then (der_Put.j3 kj14 l3 x10_2 (y279 ++ t282)) else (none))) = some (r1, r2) := by first | (rw [hy279]; with_reducible exact H) | (have H2_ := (Option.bind_some _ _).symm.trans H; rw [hy279]; with_reducible exact H2_) | (have H2_ := (Option.bind_some _ _).symm.trans H; with_reducible exact H2_) | with_reducible exact H | (rw [hy279]; exact H) | exact H
            have Ny279 := Aside0.mk hy279
            clear hy279
            replace H := Option.bind_eq_some_iff.mp H
            obtain ⟨t282, A220, H⟩ := H
            try dsimp only at H
            have A22 := Aside0.mk A220
            clear A220
            by_cases c23 : y279.length + t282.length < 140737488355328
            rotate_left
            · rw [if_neg c23] at H
              exact absurd H (by simp)
            rw [if_pos c23] at H
            have LMc23 := Aside0.mk c23
            clear c23
            obtain ⟨y285, hy285⟩ : ∃ y_ : List Int, y_ = (y279 ++ t282) := ⟨_, rfl⟩
            replace H : (der_Put.j3 kj14 l3 x10_2 y285) = some (r1, r2) := by first | (rw [hy285]; with_reducible exact H) | (have H2_ := (Option.bind_some _ _).symm.trans H; rw [hy285]; with_reducible exact H2_) | (have H2_ := (Option.bind_some _ _).symm.trans H; with_reducible exact H2_) | with_reducible exact H | (rw [hy285]; exact H) | exact H
            have Ny285 := Aside0.mk hy285
            clear hy285
            have H' := Aside0.mk H
            clear H
            go_wp2_with (first | ((with_reducible refine gate_builtin (b := .append) (xs := #[.tmp 72, .tmp 75]) rfl ?_); at_builtin; refine Kd.R_append (Kd.int .u8) (w0 := w) w.heap.size rfl (.tmp 72) (.tmp 75) 22 5 (.int .u8 0) 1 rfl Tryz.underlying22 info5 rfl (by decide) (by omega) vM ([] : List Int) (Go.bits .or .u8 x13_14 31) [.int .u8 (Go.bits .or .u8 x13_14 31)] (fun _ => True) (fun _ => False) rfl rfl ?aP (fun _ hk => hk.elim) ?aF ?aO ?aB ?aS ?aL ?_; (case aP => exact rfl); (case aB => exact (bU HB.out)); (case aF => exact (fun _ _ => trivial)); (case aO => exact (Kd.R_u HOM.out)); (case aS => exact (below_size (bU HB.out))); (case aL => have := LMc21.out; omega); intro v280 w24 ho hb hg hat; rw [← Ny279.out] at ho; have n0_ := Aside0.mk (hb); have n1_ := Aside0.mk (ho); replace HB := n0_; have HO281 := n1_; clear n0_ n1_; clear ho hb hg hat) | ((with_reducible refine gate_callee (f := 219) rfl ?_); refine goesL_ (some 80) rfl rfl Tryz.func219 (by kernel_rfl) rfl #[.int .u64 (IntKind.u64.wrap (a1))] rfl (by (try simp only [List.map_toArray, List.map_cons, List.map_nil]); first | done | rfl | (simp only [List.length_drop, List.length_take]; rfl)) ?_; (with_reducible refine (der_seven.calls kj14 (IntKind.u64.wrap (a1)) t282 _ A22.out).mono ?_); rintro e w25 ⟨v283, rfl, ho0, hb⟩; refine ⟨_, rfl, ?_⟩; have n0_ := Aside0.mk (Kd.R_elder' (Kd.R_u HO281.out) (Kd.R_base ho0) hb); have n1_ := Aside0.mk (Kd.R_lower (Kd.R_new' ho0 (Kd.R_lt (Kd.R_u HO281.out))) (below_size (bU HB.out))); have n2_ := Aside0.mk (below_step (bU HB.out) hb); clear HO281; clear HB; have HO281 := n0_; have HO284 := n1_; have HB := n2_; clear n0_ n1_ n2_; (try clear hb); (try clear hb2); (try clear hk); (try clear hi); (try clear ho0); obtain ⟨Ao27, co27, eo27⟩ := Kd.R_slice HO284.out; subst eo27) | ((with_reducible refine gate_builtin (b := .append) (xs := #[.tmp 77, .tmp 80]) rfl ?_); at_builtin; refine Kd.R_append_rows (Kd.int .u8) (w0 := w) w.heap.size rfl (.tmp 77) (.tmp 80) 22 5 (.int .u8 0) 1 rfl Tryz.underlying22 info5 rfl (by decide) (by omega) v280 y279 t282 _ _ _ (fun k_ => some k_ ≠ (.slice Ao27 t282.length co27 : Value).ownBlock) (fun _ => False) rfl rfl ?aO ?aR (fun _ _ h => h) (fun _ h => h.elim) ?aF ?aB ?aS ?aL ?_; (case aR => exact Kd.C_u (Kd.R_reads' HO284.out).2.2); (case aB => exact (bU HB.out)); (case aF => exact (fun k_ hk => Kd.fresh' (Kd.R_lt (Kd.R_u HO284.out)) k_ hk)); (case aO => exact (Kd.R_u (Kd.R_mono HO281.out (fun _ hk => hk.2)))); (case aS => exact (below_size (bU HB.out))); (case aL => have := LMc23.out; omega); intro v286 w26 ho hb hg hat; rw [← Ny285.out] at ho; have n0_ := Aside0.mk (Kd.R_after (ok := (fun _ => True)) (Kd.R_u HO284.out) hg hat); have n1_ := Aside0.mk (hb); have n2_ := Aside0.mk (ho); clear HO284; clear HB; clear HO281; have HO284 := n0_; have HB := n1_; have HO287 := n2_; clear n0_ n1_ n2_; clear ho hb hg hat))
            go_meet
            case rel => exact ⟨_, (y285), H', ⟨by have := HJ4.out; have := HK2.out; have := HJ14.out; first | omega | exact Nat.le_refl _⟩, ⟨Kd.R_u (Kd.R_mono HO287.out (fun _ hk => trivial))⟩, ⟨bU HB.out⟩⟩
          clear HC17
          try clear c1
          try clear c2
          try clear p2
          try clear q2
          try clear hx2
          try clear c3
          try clear c6
          try clear c6b0
          try clear p6
          try clear c7
          try clear c7b0
          try clear c8
          try clear c8b0
          try clear c9
          try clear c9b0
          try clear c10
          try clear c11
          try clear c11b0
          try clear c12
          try clear c12b0
          try clear c13
          try clear c13b0
          try clear c14
          try clear c14b0
          try clear c16
          try clear c18
          try clear c18b0
          try clear c19
          try clear c21
          try clear c23
          try clear c27
          try clear p27
          try clear q27
          try clear hx27
          try clear hx275_0
          try clear p2
          try clear p275
          try clear p6
          try clear q2
          try clear q275
          obtain ⟨kq, x14_16, HA, HJ16, HO_14, HB⟩ := hcut
          cases kq with
          | zero => exact absurd HA.out (by simp [der_Put.j3])
          | succ kj16 =>
            have H := HA.out
            clear HA
            simp only [der_Put.j3] at H
            have HC28 := Aside0.mk H
            clear H
            go_upto_if 83 with (fail)
            go_cut [14] (fun v14 wc => ∃ (kq : Nat) (x14_27 : List Int), Aside0 (der_Put.j4 kq l3 x14_27 = some (r1, r2)) ∧ Aside0 (kq ≤ kj16) ∧ Aside0 (Kd.R (Kd.int .u8) 5 wc w.heap.size (fun _ => True) v14 x14_27) ∧ Aside0 (Below w.heap.size w wc))
            case first =>
              have H := HC28.out
              clear HC28
              by_cases c29 : x10_2 < 128
              · rw [if_pos c29] at H
                have c29b0 : decide (x10_2 < 128) = true := decide_eq_true c29
                clear c29
                (first | rw [c29b0] | (simp only [i64_w, i32_w]; rw [c29b0]) | skip)
                by_cases c30 : x14_16.length < 140737488355328
                rotate_left
                · rw [if_neg c30] at H
                  exact absurd H (by simp)
                rw [if_pos c30] at H
                have LMc30 := Aside0.mk c30
                clear c30
                obtain ⟨y288, hy288⟩ : ∃ y_ : List Int, y_ = (x14_16 ++ [(x10_2) % 256]) := ⟨_, rfl⟩
                replace H : (der_Put.j4 kj16 l3 y288) = some (r1, r2) := by first | (rw [hy288]; with_reducible exact H) | (have H2_ := (Option.bind_some _ _).symm.trans H; rw [hy288]; with_reducible exact H2_) | (have H2_ := (Option.bind_some _ _).symm.trans H; with_reducible exact H2_) | with_reducible exact H | (rw [hy288]; exact H) | exact H
                have Ny288 := Aside0.mk hy288
                clear hy288
                have H' := Aside0.mk H
                clear H
                go_wp2_with (first | ((with_reducible refine gate_builtin (b := .append) (xs := #[.tmp 84, .tmp 87]) rfl ?_); at_builtin; refine Kd.R_append (Kd.int .u8) (w0 := w) w.heap.size rfl (.tmp 84) (.tmp 87) 22 5 (.int .u8 0) 1 rfl Tryz.underlying22 info5 rfl (by decide) (by omega) u14 x14_16 ((x10_2) % 256) [.int .u8 ((x10_2) % 256)] (fun _ => True) (fun _ => False) rfl rfl ?aP (fun _ hk => hk.elim) ?aF ?aO ?aB ?aS ?aL ?_; (case aP => exact rfl); (case aB => exact (bU HB.out)); (case aF => exact (fun _ _ => trivial)); (case aO => exact (Kd.R_u HO_14.out)); (case aS => exact (below_size (bU HB.out))); (case aL => have := LMc30.out; omega); intro v289 w31 ho hb hg hat; rw [← Ny288.out] at ho; have n0_ := Aside0.mk (hb); have n1_ := Aside0.mk (ho); clear HB; clear HO_14; have HB := n0_; have HO290 := n1_; clear n0_ n1_; clear ho hb hg hat))
                go_meet
                case rel => exact ⟨_, (y288), H', ⟨by have := HJ4.out; have := HK2.out; have := HJ14.out; have := HJ16.out; first | omega | exact Nat.le_refl _⟩, ⟨Kd.R_u HO290.out⟩, ⟨bU HB.out⟩⟩
              rw [if_neg c29] at H
              have c29b0 : decide (x10_2 < 128) = false := decide_eq_false c29
              clear c29
              (first | rw [c29b0] | (simp only [i64_w, i32_w]; rw [c29b0]) | skip)
              obtain ⟨y291, hy291⟩ : ∃ y_ : List Int, y_ = (([(x10_2 / 16777216) % 256, (x10_2 / 65536) % 256, (x10_2 / 256) % 256, (x10_2) % 256] : List Int)) := ⟨_, rfl⟩
              replace H : ((bytes_trimLeftByte.f kj16 y291 0).bind fun t294 => (if x14_16.length < 140737488355328 then ((some (x14_16 ++ [Go.bits .or .u8 128 (((t294.length : Int)) % 256)] : List Int)).bind fun y297 => (if y297.length + t294.length < 140737488355328 then (der_Put.j4 kj16 l3 (y297 ++ t294)) else (none))) else (none))) = some (r1, r2) := by first | (rw [hy291]; with_reducible exact H) | (have H2_ := (Option.bind_some _ _).symm.trans H; rw [hy291]; with_reducible exact H2_) | (have H2_ := (Option.bind_some _ _).symm.trans H; with_reducible exact H2_) | with_reducible exact H | (rw [hy291]; exact H) | exact H
              have Ny291 := Aside0.mk hy291
              clear hy291
              replace H := Option.bind_eq_some_iff.mp H
              obtain ⟨t294, A320, H⟩ := H
              try dsimp only at H
              have A32 := Aside0.mk A320
              clear A320
              by_cases c33 : x14_16.length < 140737488355328
              rotate_left
              · rw [if_neg c33] at H
                exact absurd H (by simp)
              rw [if_pos c33] at H
              have LMc33 := Aside0.mk c33
              clear c33
              obtain ⟨y297, hy297⟩ : ∃ y_ : List Int, y_ = (x14_16 ++ [Go.bits .or .u8 128 (((t294.length : Int)) % 256)]) := ⟨_, rfl⟩
              replace H : (if y297.length + t294.length < 140737488355328 then (der_Put.j4 kj16 l3 (y297 ++ t294)) else (none)) = some (r1, r2) := by first | (rw [hy297]; with_reducible exact H) | (have H2_ := (Option.bind_some _ _).symm.trans H; rw [hy297]; with_reducible exact H2_) | (have H2_ := (Option.bind_some _ _).symm.trans H; with_reducible exact H2_) | with_reducible exact H | (rw [hy297]; exact H) | exact H
              have Ny297 := Aside0.mk hy297
              clear hy297
              by_cases c34 : y297.length + t294.length < 140737488355328
              rotate_left
              · rw [if_neg c34] at H
                exact absurd H (by simp)
              rw [if_pos c34] at H
              have LMc34 := Aside0.mk c34
              clear c34
              obtain ⟨y300, hy300⟩ : ∃ y_ : List Int, y_ = (y297 ++ t294) := ⟨_, rfl⟩
              replace H : (der_Put.j4 kj16 l3 y300) = some (r1, r2) := by first | (rw [hy300]; with_reducible exact H) | (have H2_ := (Option.bind_some _ _).symm.trans H; rw [hy300]; with_reducible exact H2_) | (have H2_ := (Option.bind_some _ _).symm.trans H; with_reducible exact H2_) | with_reducible exact H | (rw [hy300]; exact H) | exact H
              have Ny300 := Aside0.mk hy300
              clear hy300
              have H' := Aside0.mk H
              clear H
              go_wp2_with (first | ((with_reducible refine gate_dst (N := 100) rfl ?_); refine Kd.R_lit (Kd.int .u8) _ 5 ?hg (N := 100) ?hd (xs := ([(x10_2 / 16777216) % 256, (x10_2 / 65536) % 256, (x10_2 / 256) % 256, (x10_2) % 256] : List Int)) (inner := [.int .u8 ((x10_2 / 16777216) % 256), .int .u8 ((x10_2 / 65536) % 256), .int .u8 ((x10_2 / 256) % 256), .int .u8 ((x10_2) % 256)]) (ok := fun _ => True) (okp := fun _ => True) ?hr ?hp (fun _ hk => hk) trivial (Below.refl _ _) (Nat.le_refl _) (by simp) ?_; (case hd => rfl); (case hg => rfl); (case hr => first | (go_simp; done) | (go_simp; rfl)); (case hp => exact (Reps.one (show Kd.M (Kd.int .u8) _ _ _ ((x10_2 / 16777216) % 256) [.int .u8 ((x10_2 / 16777216) % 256)] from rfl) (Reps.one (show Kd.M (Kd.int .u8) _ _ _ ((x10_2 / 65536) % 256) [.int .u8 ((x10_2 / 65536) % 256)] from rfl) (Reps.one (show Kd.M (Kd.int .u8) _ _ _ ((x10_2 / 256) % 256) [.int .u8 ((x10_2 / 256) % 256)] from rfl) (Reps.one (show Kd.M (Kd.int .u8) _ _ _ ((x10_2) % 256) [.int .u8 ((x10_2) % 256)] from rfl) (Reps.none _ _)))))); intro v292 w35 ho36 hb hg_ hnew_; clear hg_ hnew_; (first | rw [← Ny291.out] at ho36 | (simp only [Int.reduceToNat] at ho36; rw [← Ny291.out] at ho36)); have n0_ := Aside0.mk (Kd.R_elder' (Kd.R_u HO_14.out) (Kd.R_base ho36) hb); have n1_ := Aside0.mk (Kd.R_lower (Kd.R_new' ho36 (Kd.R_lt (Kd.R_u HO_14.out))) (below_size (bU HB.out))); have n2_ := Aside0.mk (below_step (bU HB.out) hb); clear HO_14; clear HB; have HO_14 := n0_; have HO293 := n1_; have HB := n2_; clear n0_ n1_ n2_; clear hb ho36; obtain ⟨Ao37, co37, eo37⟩ := Kd.R_slice HO293.out; subst eo37) | ((with_reducible refine gate_callee (f := 218) rfl ?_); refine goesL_ (some 101) rfl rfl Tryz.func218 (by kernel_rfl) rfl #[.slice Ao37 y291.length co37, .string (⟨#[0]⟩ : ByteArray)] rfl (by (try simp only [List.map_toArray, List.map_cons, List.map_nil]); first | done | rfl | (simp only [List.length_drop, List.length_take]; rfl)) ?_; (with_reducible refine (bytes_TrimLeft0.calls kj16 (fun k_ => some k_ = (.slice Ao37 y291.length co37 : Value).ownBlock) _ _ y291 t294 _ ?side1 A32.out).mono ?_); (case side1 => exact Kd.R_V (Kd.R_tight rfl (HO293.out))); rintro e w38 ⟨v295, rfl, ho0, hb⟩; refine ⟨_, rfl, ?_⟩; have n0_ := Aside0.mk (Kd.R_below (Kd.R_u HO_14.out) hb); have n1_ := Aside0.mk (Kd.R_below (Kd.R_u HO293.out) hb); have n2_ := Aside0.mk (Kd.V_lower (Kd.V_mono (ok' := fun k_ => some k_ ≠ (u14 : Value).ownBlock) ho0 (fun k_ hk_ => Or.elim hk_ (fun hs_ => ((HO293.out).1 k_ hs_.symm).2) (fun hn_ => (Kd.fresh' (Kd.R_lt (Kd.R_u HO_14.out)) k_ hn_)))) (below_size (bU HB.out))); have n3_ := Aside0.mk (below_step (bU HB.out) hb); clear HO_14; clear HO293; clear HB; have HO_14 := n0_; have HO293 := n1_; have HO296 := n2_; have HB := n3_; clear n0_ n1_ n2_ n3_; (try clear hb); (try clear hb2); (try clear hk); (try clear hi); (try clear ho0); obtain ⟨Ao39, co39, eo39⟩ := Kd.V_slice HO296.out; subst eo39) | ((with_reducible refine gate_builtin (b := .append) (xs := #[.tmp 102, .tmp 107]) rfl ?_); at_builtin; refine Kd.R_append (Kd.int .u8) (w0 := w) w.heap.size rfl (.tmp 102) (.tmp 107) 22 5 (.int .u8 0) 1 rfl Tryz.underlying22 info5 rfl (by decide) (by omega) u14 x14_16 (Go.bits .or .u8 128 (((t294.length : Int)) % 256)) [.int .u8 (Go.bits .or .u8 128 (((t294.length : Int)) % 256))] (fun k_ => some k_ ≠ (.slice Ao37 y291.length co37 : Value).ownBlock) (fun _ => False) rfl rfl ?aP (fun _ hk => hk.elim) ?aF ?aO ?aB ?aS ?aL ?_; (case aP => exact rfl); (case aB => exact (bU HB.out)); (case aF => exact (fun k_ hk => Kd.fresh' (Kd.R_lt (Kd.R_u HO293.out)) k_ hk)); (case aO => exact (Kd.R_u (Kd.R_mono HO_14.out (fun _ hk => hk.2)))); (case aS => exact (below_size (bU HB.out))); (case aL => have := LMc33.out; omega); intro v298 w40 ho hb hg hat; rw [← Ny297.out] at ho; have n0_ := Aside0.mk (Kd.R_after (ok := (fun _ => True)) (Kd.R_u HO293.out) hg hat); have n1_ := Aside0.mk (Kd.V_afterv (ok := (fun _ => True)) (Kd.V_u (Kd.V_mono HO296.out (fun _ hk => ⟨trivial, hk⟩))) hg hat); have n2_ := Aside0.mk (hb); have n3_ := Aside0.mk (ho); clear HO293; clear HO296; clear HB; clear HO_14; have HO293 := n0_; have HO296 := n1_; have HB := n2_; have HO299 := n3_; clear n0_ n1_ n2_ n3_; clear ho hb hg hat) | ((with_reducible refine gate_builtin (b := .append) (xs := #[.tmp 108, .tmp 109]) rfl ?_); at_builtin; refine Kd.R_append_rows (Kd.int .u8) (w0 := w) w.heap.size rfl (.tmp 108) (.tmp 109) 22 5 (.int .u8 0) 1 rfl Tryz.underlying22 info5 rfl (by decide) (by omega) v298 y297 t294 _ _ _ (fun k_ => some k_ ≠ (.slice Ao37 y291.length co37 : Value).ownBlock) (fun _ => False) rfl rfl ?aO ?aR (fun _ _ h => h) (fun _ h => h.elim) ?aF ?aB ?aS ?aL ?_; (case aR => exact Kd.C_u (Kd.V_reads' HO296.out).2.2); (case aB => exact (bU HB.out)); (case aF => exact (fun k_ hk => Kd.fresh' (Kd.R_lt (Kd.R_u HO293.out)) k_ hk)); (case aO => exact (Kd.R_u HO299.out)); (case aS => exact (below_size (bU HB.out))); (case aL => have := LMc34.out; omega); intro v301 w41 ho hb hg hat; rw [← Ny300.out] at ho; have n0_ := Aside0.mk (Kd.R_after (ok := (fun _ => True)) (Kd.R_u HO293.out) hg hat); have n1_ := Aside0.mk (Kd.V_afterv (ok := (fun _ => True)) (Kd.V_u HO296.out) hg hat); have n2_ := Aside0.mk (hb); have n3_ := Aside0.mk (ho); clear HO293; clear HO296; clear HB; clear HO299; have HO293 := n0_; have HO296 := n1_; have HB := n2_; have HO302 := n3_; clear n0_ n1_ n2_ n3_; clear ho hb hg hat))
              go_meet
              case rel => exact ⟨_, (y300), H', ⟨by have := HJ4.out; have := HK2.out; have := HJ14.out; have := HJ16.out; first | omega | exact Nat.le_refl _⟩, ⟨Kd.R_u (Kd.R_mono HO302.out (fun _ hk => trivial))⟩, ⟨bU HB.out⟩⟩
            clear HC28
            try clear c1
            try clear c2
            try clear p2
            try clear q2
            try clear hx2
            try clear c3
            try clear c6
            try clear c6b0
            try clear p6
            try clear c7
            try clear c7b0
            try clear c8
            try clear c8b0
            try clear c9
            try clear c9b0
            try clear c10
            try clear c11
            try clear c11b0
            try clear c12
            try clear c12b0
            try clear c13
            try clear c13b0
            try clear c14
            try clear c14b0
            try clear c16
            try clear c18
            try clear c18b0
            try clear c19
            try clear c21
            try clear c23
            try clear c26
            try clear c27
            try clear p27
            try clear q27
            try clear hx27
            try clear c29
            try clear c29b0
            try clear c30
            try clear c33
            try clear c34
            try clear hx275_0
            try clear p2
            try clear p27
            try clear p275
            try clear p6
            try clear q2
            try clear q27
            try clear q275
            obtain ⟨kq, x14_27, HA, HJ27, HO_14, HB⟩ := hcut
            cases kq with
            | zero => exact absurd HA.out (by simp [der_Put.j4])
            | succ kj27 =>
              have H := HA.out
              clear HA
              simp only [der_Put.j4] at H
              have H' := Aside0.mk H
              clear H
              go_wp2
              go_loopg [14, 113] kj27 (fun kq v14 v113 w' => ∃ (x14_6 : List Int) (x113_6 : Int), v113 = .int .i64 x113_6 ∧ Aside0 (der_Put.l1 kq x14_6 l3 (l3.length : Int) x113_6 = some (r1, r2)) ∧ Aside0 (kq ≤ kj27) ∧ Aside0 (Kd.R (Kd.int .u8) 5 w' w.heap.size (fun _ => True) v14 x14_6) ∧ Aside0 (Below w.heap.size w w'))
              case atStart => exact ⟨(x14_27), (0), (by first | rfl | (simp; done) | (simp [*]; done)), H', ⟨Nat.le_refl _⟩, ⟨Kd.R_u HO_14.out⟩, ⟨bU HB.out⟩⟩
              case round =>
                clear H'
                try clear c1
                try clear c2
                try clear p2
                try clear q2
                try clear hx2
                try clear c3
                try clear c6
                try clear c6b0
                try clear p6
                try clear c7
                try clear c7b0
                try clear c8
                try clear c8b0
                try clear c9
                try clear c9b0
                try clear c10
                try clear c11
                try clear c11b0
                try clear c12
                try clear c12b0
                try clear c13
                try clear c13b0
                try clear c14
                try clear c14b0
                try clear c16
                try clear c18
                try clear c18b0
                try clear c19
                try clear c21
                try clear c23
                try clear c26
                try clear c27
                try clear p27
                try clear q27
                try clear hx27
                try clear c29
                try clear c29b0
                try clear c30
                try clear c33
                try clear c34
                try clear hx275_0
                try clear p2
                try clear p27
                try clear p275
                try clear p6
                try clear q2
                try clear q27
                try clear q275
                obtain ⟨x14_6, x113_6, rfl, HA, HK6, HO_14, HB⟩ := hrel
                cases gk with
                | zero => exact absurd HA.out (by simp [der_Put.l1])
                | succ k6 =>
                  have H := HA.out
                  clear HA
                  simp only [der_Put.l1] at H
                  by_cases c42 : x113_6 < (l3.length : Int)
                  rotate_left
                  · rw [if_neg c42] at H
                    have c42b0 : decide (x113_6 < (l3.length : Int)) = false := decide_eq_false c42
                    clear c42
                    simp only [Option.some.injEq, Prod.mk.injEq] at H
                    obtain ⟨rfl, rfl⟩ := H
                    go_wp2
                    go_ret2
                    exact ⟨_, by first | rfl | (simp [errW_none, errW_some] <;> rfl), by (with_reducible repeat (first | apply Kd.R_alloc | apply Kd.R_drewN | apply Kd.R_drew)); exact HO_14.out, bU HB.out⟩
                  rw [if_pos c42] at H
                  have c42b0 : decide (x113_6 < (l3.length : Int)) = true := decide_eq_true c42
                  clear c42
                  by_cases c43 : 0 ≤ x113_6
                  rotate_left
                  · rw [if_neg c43] at H
                    exact absurd H (by simp)
                  rw [if_pos c43] at H
                  have c43b0 : decide (0 ≤ x113_6) = true := decide_eq_true c43
                  clear c43
                  by_cases c44 : x113_6 < (l3.length : Int)
                  rotate_left
                  · rw [if_neg c44] at H
                    exact absurd H (by simp)
                  rw [if_pos c44] at H
                  have c44b0 : decide (x113_6 < (l3.length : Int)) = true := decide_eq_true c44
                  clear c44
                  by_cases c45 : x14_6.length + (rd_L1 l3 x113_6).length < 140737488355328
                  rotate_left
                  · rw [if_neg c45] at H
                    exact absurd H (by simp)
                  rw [if_pos c45] at H
                  have LMc45 := Aside0.mk c45
                  clear c45
                  obtain ⟨y304, hy304⟩ : ∃ y_ : List Int, y_ = (x14_6 ++ (rd_L1 l3 x113_6)) := ⟨_, rfl⟩
                  replace H : (der_Put.l1 k6 y304 l3 (l3.length : Int) (wrap64 (x113_6 + 1))) = some (r1, r2) := by first | (rw [hy304]; with_reducible exact H) | (have H2_ := (Option.bind_some _ _).symm.trans H; rw [hy304]; with_reducible exact H2_) | (have H2_ := (Option.bind_some _ _).symm.trans H; with_reducible exact H2_) | with_reducible exact H | (rw [hy304]; exact H) | exact H
                  have Ny304 := Aside0.mk hy304
                  clear hy304
                  have H' := Aside0.mk H
                  clear H
                  have p303 : 0 ≤ (x113_6 : Int) := of_decide_eq_true (by first | (with_reducible assumption) | assumption)
                  have q303 : x113_6 < (l3.length : Int) := of_decide_eq_true (by first | (with_reducible assumption) | assumption)
                  obtain ⟨ad303, A303_0, c303_0, e303, hx303_0, hl303_0, hi303_0⟩ := at_L1 HR3.out x113_6 p303 q303
                  cases e303
                  replace hx303_0 := (HB.out.cell (World.block_lt_of_cell? w _ hx303_0)).trans hx303_0
                  have HR303_0 := Aside0.mk hi303_0
                  have HC303_0 := Aside0.mk hl303_0
                  clear hi303_0 hl303_0
                  replace p303 := eq_true p303
                  replace q303 := eq_true q303
                  go_wp2_with (first | ((with_reducible refine gate_builtin (b := .append) (xs := #[.tmp 117, .tmp 118]) rfl ?_); at_builtin; refine Kd.R_append_rows (Kd.int .u8) (w0 := w) w.heap.size rfl (.tmp 117) (.tmp 118) 22 5 (.int .u8 0) 1 rfl Tryz.underlying22 info5 rfl (by decide) (by omega) u14 x14_6 (rd_L1 l3 x113_6) _ _ _ (fun _ => True) (fun _ => False) rfl rfl ?aO ?aR (fun _ _ h => h) (fun _ h => h.elim) ?aF ?aB ?aS ?aL ?_; (case aR => exact Kd.C_u (Kd.C_below HR303_0.out HB.out)); (case aB => exact (bU HB.out)); (case aF => exact (fun _ _ => trivial)); (case aO => exact (Kd.R_u HO_14.out)); (case aS => exact (below_size (bU HB.out))); (case aL => have := LMc45.out; omega); intro v305 w46 ho hb hg hat; rw [← Ny304.out] at ho; have n0_ := Aside0.mk (hb); have n1_ := Aside0.mk (ho); clear HB; clear HO_14; have HB := n0_; have HO306 := n1_; clear n0_ n1_; clear ho hb hg hat))
                  go_roundg k6
                  case measure => have := HJ4.out; have := HK2.out; have := HJ14.out; have := HJ16.out; have := HJ27.out; have := HK6.out; omega
                  case rel => exact ⟨(y304), (wrap64 (x113_6 + 1)), (by first | rfl | (simp; done) | (simp [*]; done)), H', ⟨by have := HJ4.out; have := HK2.out; have := HJ14.out; have := HJ16.out; have := HJ27.out; have := HK6.out; omega⟩, ⟨Kd.R_u HO306.out⟩, ⟨bU HB.out⟩⟩
end Go.Proofs.YtkioddjjfifadaaGreatDoor.P
namespace Go.Proofs.YtkioddjjfifadaaGreatDoor.P
open Go.RowKit Go.Proofs.YtkioddjjfifadaaGreatDoorW.PrintWords Go.Proofs.YtkioddjjfifadaaGreatDoorW.PrintLast Go.Proofs.YtkioddjjfifadaaGreatDoorW.PrintMore
attribute [local go_sem] max2_int min2_int max_two min_two max_three min_three max_four min_four
set_option linter.unusedVariables false
set_option linter.unusedSimpArgs false
mutual
def chirographref03_Head.j0 : Nat → Int → Int → Int → Int → Int → Bool → List Int → Option (List Int)
  | 0, _, _, _, _, _, _, _ => none
  | k + 1, x1, x5, x1019000, x1019001, x1019002, x1019003, x1019004 => if x1019002 < 31 then (chirographref03_Head.j2 k x1 (([(x5 + ((x1019002) % 256)) % 256] : List Int))) else (chirographref03_Head.l0 k x1 x5 ([] : List Int) x1019002)
def chirographref03_Head.j2 : Nat → Int → List Int → Option (List Int)
  | 0, _, _ => none
  | k + 1, x1, x6 => if x1 < 128 then (if x6.length < 140737488355328 then (some (x6 ++ [(x1) % 256])) else (none)) else (chirographref03_Head.l1 k x1 x6 ([] : List Int))
def chirographref03_Head.l1 : Nat → Int → List Int → List Int → Option (List Int)
  | 0, _, _, _ => none
  | k + 1, x1, x6, x10 => if x1 > 0 then ((some (([(Int.tmod x1 256) % 256] : List Int) : List Int)).bind fun y1043 => (if y1043.length + x10.length < 140737488355328 then (chirographref03_Head.l1 k (wrap64 (Int.tdiv x1 256)) x6 (y1043 ++ x10)) else (none))) else (if x6.length < 140737488355328 then ((some (x6 ++ [(wrap64 (128 + (x10.length : Int))) % 256] : List Int)).bind fun y1049 => (if y1049.length + x10.length < 140737488355328 then (some (y1049 ++ x10)) else (none))) else (none))
def chirographref03_Head.l0 : Nat → Int → Int → List Int → Int → Option (List Int)
  | 0, _, _, _, _ => none
  | k + 1, x1, x5, x7, x8 => if x8 > 0 then (if (x7.length : Int) > 0 then ((some (([(((Int.tmod x8 128) % 256) + 128) % 256] : List Int) : List Int)).bind fun y1022 => (if y1022.length + x7.length < 140737488355328 then (chirographref03_Head.l0 k x1 x5 (y1022 ++ x7) (wrap64 (Int.tdiv x8 128))) else (none))) else ((some (([(Int.tmod x8 128) % 256] : List Int) : List Int)).bind fun y1028 => (if y1028.length + x7.length < 140737488355328 then (chirographref03_Head.l0 k x1 x5 (y1028 ++ x7) (wrap64 (Int.tdiv x8 128))) else (none)))) else ((some (([(x5 + 31) % 256] : List Int) : List Int)).bind fun y1034 => (if y1034.length + x7.length < 140737488355328 then (chirographref03_Head.j2 k x1 (y1034 ++ x7)) else (none)))
end
def chirographref03_Head.f (k : Nat) (a0_0 : Int) (a0_1 : Int) (a0_2 : Int) (a0_3 : Bool) (l0_4 : List Int) (a1 : Int) : Option (List Int) := if a0_3 = true then (chirographref03_Head.j0 k a1 ((((((a0_1) % 256) * 64) % 256) + 32) % 256) a0_0 a0_1 a0_2 a0_3 l0_4) else (chirographref03_Head.j0 k a1 ((((a0_1) % 256) * 64) % 256) a0_0 a0_1 a0_2 a0_3 l0_4)
end Go.Proofs.YtkioddjjfifadaaGreatDoor.P
namespace Go.Proofs.YtkioddjjfifadaaGreatDoor.P
open Go.RowKit Go.Proofs.YtkioddjjfifadaaGreatDoorW.PrintWords Go.Proofs.YtkioddjjfifadaaGreatDoorW.PrintLast Go.Proofs.YtkioddjjfifadaaGreatDoorW.PrintMore
attribute [local go_sem] max2_int min2_int max_two min_two max_three min_three max_four min_four
set_option linter.unusedVariables false
set_option linter.unusedSimpArgs false
mutual
def chirographref04_Put.j0 : Nat → Int → Int → Bool → List (List Int) → Bool → Option (List Int × Int)
  | 0, _, _, _, _, _ => none
  | k + 1, x0, x1, x2, x3, x33 => if x33 = true then (some (([] : List Int), 1)) else (chirographref04_Put.l0 k x0 x1 x2 x3 ([] : List Int) 0)
def chirographref04_Put.l0 : Nat → Int → Int → Bool → List (List Int) → List Int → Int → Option (List Int × Int)
  | 0, _, _, _, _, _, _ => none
  | k + 1, x0, x1, x2, x3, x10, x11 => if x11 < (x3.length : Int) then (if 0 ≤ x11 then (if ((rd_L1 x3 x11).length : Int) > (wrap64 (16777216 - (x10.length : Int))) then (some (([] : List Int), 3)) else (if x10.length + (rd_L1 x3 x11).length < 140737488355328 then (chirographref04_Put.l0 k x0 x1 x2 x3 (x10 ++ (rd_L1 x3 x11)) (wrap64 (x11 + 1))) else (none))) else (none)) else ((chirographref03_Head.f k 0 x0 x1 x2 ([] : List Int) (x10.length : Int)).bind fun t1060 => (if t1060.length + x10.length < 140737488355328 then (some ((t1060 ++ x10), 0)) else (none)))
end
def chirographref04_Put.f (k : Nat) (a0 : Int) (a1 : Int) (a2 : Bool) (l3 : List (List Int)) : Option (List Int × Int) := if a0 < 0 then (chirographref04_Put.j0 k a0 a1 a2 l3 true) else (if a0 > 3 then (chirographref04_Put.j0 k a0 a1 a2 l3 true) else (if a1 < 0 then (chirographref04_Put.j0 k a0 a1 a2 l3 true) else (if a1 > 268435455 then (chirographref04_Put.j0 k a0 a1 a2 l3 true) else (if a0 = 0 then (chirographref04_Put.j0 k a0 a1 a2 l3 (a1 == 0)) else (chirographref04_Put.j0 k a0 a1 a2 l3 false)))))
end Go.Proofs.YtkioddjjfifadaaGreatDoor.P
namespace Go.Proofs.YtkioddjjfifadaaGreatDoor.P
open Go.RowKit Go.Proofs.YtkioddjjfifadaaGreatDoorW.PrintWords
theorem wb {n : Int} (h0 : -9223372036854775808 ≤ n) (h1 : n ≤ 9223372036854775807) : wrap64 n = n := by unfold wrap64; omega
end Go.Proofs.YtkioddjjfifadaaGreatDoor.P
set_option linter.unusedVariables false
set_option linter.unusedSimpArgs false
namespace Go.Proofs.YtkioddjjfifadaaGreatDoor.P
open Go.RowKit Go.Proofs.YtkioddjjfifadaaGreatDoorW.PrintWords Go.Proofs.YtkioddjjfifadaaGreatDoorW.PrintLast Go.Proofs.YtkioddjjfifadaaGreatDoorW.PrintMore
attribute [local go_sem] max2_int min2_int max_two min_two max_three min_three max_four min_four
theorem R_iterG {α : Type} {d : Kd α} {e B kb p : Nat} {ok : Nat → Prop} {s : ByteArray} {w : World} {v : Value} {xs : List α} (h : d.R e w B ok v xs) (hb : w.heap[kb]? = some (.stringIter s p)) (p' : Nat) : d.R e (w.iterAt kb s p') B ok v xs :=
  Kd.R_mono (Kd.R_move (Kd.R_bound h) (fun k hk => by
    refine Lib.iterAt_other w kb k s p' ?_
    rintro rfl
    obtain ⟨_, _, _, _, _, cells, hc⟩ := hk
    rw [hb] at hc
    cases hc)) (fun _ hk => hk.1)
theorem iter_neG {α : Type} {d : Kd α} {e B kb p : Nat} {ok : Nat → Prop} {s : ByteArray} {w : World} {v : Value} {xs : List α} (h : d.R e w B ok v xs) (hb : w.heap[kb]? = some (.stringIter s p)) : some kb ≠ v.ownBlock := fun e => by
  obtain ⟨inner, ho⟩ := Kd.R_own h
  obtain ⟨cells, hc⟩ := own_typed ho kb e.symm
  rw [hb] at hc
  cases hc
def arcsGo (s : ByteArray) : Nat → Nat → List Int → Int → Int → Option (List Int)
  | 0, _, _, _, _ => none
  | f + 1, pos, l, v, n =>
    if pos < s.size then
      (if ((Utf8.decode s pos).1 : Int) = 46 ∧ 0 < n then arcsGo s f (pos + (Utf8.decode s pos).2) (l ++ [v]) 0 0
       else if ((Utf8.decode s pos).1 : Int) < 48 ∨ 57 < ((Utf8.decode s pos).1 : Int) ∨ (n = 1 ∧ v = 0) then none
       else arcsGo s f (pos + (Utf8.decode s pos).2) l (min (10 * v + (((Utf8.decode s pos).1 : Int) - 48)) 1099511627776) (min (n + 1) 20))
    else some l
def arcsEnd (l : List Int) : List Int × Bool :=
  if (l.length : Int) < 2 then ([], false) else if 2 < rd l 0 then ([], false) else if rd l 0 < 2 then (if 40 ≤ rd l 1 then ([], false) else (l, true)) else (l, true)
def der_arcs.f (a0 : ByteArray) : Option (List Int × Bool) :=
  if a0.size < 8796093022208 then some (match arcsGo (a0 ++ ⟨#[46]⟩) (a0.size + 2) 0 [] 0 0 with | none => ([], false) | some l => arcsEnd l) else none
set_option maxRecDepth 100000 in
set_option maxHeartbeats 8000000 in
theorem der_arcs.calls (a0 : ByteArray) (r1 : List Int) (r2 : Bool) (w : World) (h : der_arcs.f a0 = some (r1, r2)) :
    Calls Tryz.prog 238 #[.string a0] w fun e w' => ∃ v0_ : Value, e = .returned (.tuple #[v0_, .bool r2]) ∧ Kd.R (Kd.int .u64) 278 w' w.heap.size (fun _ => True) v0_ r1 ∧ Below w.heap.size w w' := by
  unfold der_arcs.f at h
  split at h
  case isFalse => cases h
  case isTrue hlen =>
  have h := Option.some.inj h
  have HLEN := Aside0.mk hlen
  have z46 : (⟨#[46]⟩ : ByteArray).size = 1 := rfl
  have hsz : (a0 ++ (⟨#[46]⟩ : ByteArray)).size = a0.size + 1 := by rw [ByteArray.size_append, z46]
  have yy : (9223372036854775807 < a0.size + 1) = False := eq_false (by omega)
  have HB0 := Aside0.mk (below_alloc (Below.refl w.heap.size w) (.stringIter (a0 ++ (⟨#[46]⟩ : ByteArray)) 0))
  have HIT : Aside0 ((w.alloc (.stringIter (a0 ++ (⟨#[46]⟩ : ByteArray)) 0)).heap[w.heap.size]? = some (.stringIter (a0 ++ (⟨#[46]⟩ : ByteArray)) 0)) := ⟨heap_alloc_new w _⟩
  have HE := Aside0.mk h
  have HSZ := Aside0.mk hsz
  clear h hsz hlen
  go_enter Tryz.func238, Tryz.ntmps238
  go_wp2_with fail
  generalize hS : a0 ++ (⟨#[46]⟩ : ByteArray) = S at *
  clear hS yy z46
  go_loopg [4, 5, 6] (S.size + 1) (fun kq v4 v5 v6 w' => ∃ (pos : Nat) (l : List Int) (v n : Int) (f : Nat), v5 = .int .u64 v ∧ v6 = .int .i64 n ∧ Aside0 (arcsGo S f pos l v n = arcsGo S (a0.size + 2) 0 [] 0 0) ∧ Aside0 (pos ≤ S.size ∧ S.size < f + pos ∧ S.size < kq + pos) ∧ Aside0 (l.length ≤ pos) ∧
    Aside0 (0 ≤ v ∧ v ≤ 1099511627776 ∧ 0 ≤ n ∧ n ≤ 20) ∧ Aside0 ((Kd.int .u64).R 278 w' w.heap.size (fun _ => True) v4 l) ∧ Aside0 (w'.heap[w.heap.size]? = some (.stringIter S pos)) ∧ Aside0 (Below w.heap.size w w'))
  case atStart => exact ⟨0, [], 0, 0, a0.size + 2, rfl, rfl, ⟨rfl⟩, ⟨⟨Nat.zero_le _, by have := HSZ.out; omega, by omega⟩⟩, ⟨Nat.zero_le _⟩, ⟨by decide⟩, ⟨Kd.R_nil _ _ _ _ _⟩, HIT, HB0⟩
  case round =>
    clear HB0 HIT
    obtain ⟨pos, l, v, n, f, rfl, rfl, HF, HI, HA, HV, HO, HIT, HB⟩ := hrel
    cases gk with
    | zero => exact absurd HI.out (by omega)
    | succ g1 =>
      obtain ⟨f1, rfl⟩ : ∃ f1, f = f1 + 1 := ⟨f - 1, by have := HI.out; omega⟩
      by_cases hp : pos < S.size
      rotate_left
      · have he : pos = S.size := by have := HI.out; omega
        have HR : Aside0 (arcsGo S (a0.size + 2) 0 [] 0 0 = some l) := ⟨by have := HF.out; rw [arcsGo, if_neg hp] at this; exact this.symm⟩
        have hE := HE.out
        rw [HR.out] at hE
        have HE2 : Aside0 (arcsEnd l = (r1, r2)) := ⟨hE⟩
        have hnx0 : ∀ ty, (Instr.next (.pointer (some ⟨w.heap.size, 0, none⟩)) true ty).run Tryz.prog wr = _ := fun ty => Lib.run_next_end_at wr w.heap.size S pos ty HIT.out (by omega)
        obtain ⟨Ao, co, hu⟩ := Kd.R_slice HO.out
        subst hu
        have HC := Aside0.mk (Kd.R_reads' HO.out).2.2
        have hnx := hnx0
        clear hnx0 hE
        by_cases hl : (l.length : Int) < 2
        · have e1 : decide ((l.length : Int) < 2) = true := decide_eq_true hl
          have HX : Aside0 (([], false) = (r1, r2)) := ⟨by have := HE2.out; rw [arcsEnd, if_pos hl] at this; exact this⟩
          clear hl
          go_wp2_with fail
          go_ret2
          obtain ⟨rfl, rfl⟩ := Prod.mk.inj (HX.out)
          exact ⟨_, rfl, Kd.R_nil _ _ _ _ _, HB.out⟩
        have e1 : decide ((l.length : Int) < 2) = false := decide_eq_false hl
        have p244 : 0 ≤ (0 : Int) := (by omega)
        have q244 : 0 < (l.length : Int) := by omega
        obtain ⟨ad244, e244, hx244_0⟩ := Kd.at_int HC.out 0 p244 q244
        cases e244
        have qi244 : (0 < l.length) = True := eq_true (by omega)
        (try rw [show ((0 : Int)).toNat = 0 from rfl] at hx244_0)
        (try rw [Addr.add_zero'] at hx244_0)
        replace p244 := eq_true p244
        replace q244 := eq_true q244
        by_cases h2 : 2 < rd l 0
        · have e2 : decide (2 < rd l 0) = true := decide_eq_true h2
          have HX : Aside0 (([], false) = (r1, r2)) := ⟨by have := HE2.out; rw [arcsEnd, if_neg hl, if_pos h2] at this; exact this⟩
          clear h2
          clear hl
          go_wp2_with fail
          go_ret2
          obtain ⟨rfl, rfl⟩ := Prod.mk.inj (HX.out)
          exact ⟨_, rfl, Kd.R_nil _ _ _ _ _, HB.out⟩
        have e2 : decide (2 < rd l 0) = false := decide_eq_false h2
        by_cases h3 : rd l 0 < 2
        rotate_left
        · have e3 : decide (rd l 0 < 2) = false := decide_eq_false h3
          have HX : Aside0 ((l, true) = (r1, r2)) := ⟨by have := HE2.out; rw [arcsEnd, if_neg hl, if_neg h2, if_neg h3] at this; exact this⟩
          clear h2 h3
          clear hl
          go_wp2_with fail
          go_ret2
          obtain ⟨rfl, rfl⟩ := Prod.mk.inj (HX.out)
          exact ⟨_, rfl, HO.out, HB.out⟩
        have e3 : decide (rd l 0 < 2) = true := decide_eq_true h3
        have p245 : 0 ≤ (1 : Int) := (by omega)
        have q245 : 1 < (l.length : Int) := by omega
        obtain ⟨ad245, e245, hx245_0⟩ := Kd.at_int HC.out 1 p245 q245
        obtain rfl : ad244 = ad245 := (by injection e245)
        (try simp only [show (1 : Int).toNat = 1 from rfl, Nat.reduceMul, Nat.reduceEqDiff, Go.Addr.add, ↓reduceIte] at hx245_0)
        have qi245 : (1 < l.length) = True := eq_true (by omega)
        (try rw [show ((1 : Int)).toNat = 1 from rfl] at hx245_0)
        replace p245 := eq_true p245
        replace q245 := eq_true q245
        by_cases h4 : 40 ≤ rd l 1
        rotate_left
        · have e4 : decide (40 ≤ rd l 1) = false := decide_eq_false h4
          have HX : Aside0 ((l, true) = (r1, r2)) := ⟨by have := HE2.out; rw [arcsEnd, if_neg hl, if_neg h2, if_pos h3, if_neg h4] at this; exact this⟩
          clear h2 h3 h4
          clear hl
          go_wp2_with fail
          go_ret2
          obtain ⟨rfl, rfl⟩ := Prod.mk.inj (HX.out)
          exact ⟨_, rfl, HO.out, HB.out⟩
        have e4 : decide (40 ≤ rd l 1) = true := decide_eq_true h4
        have HX : Aside0 (([], false) = (r1, r2)) := ⟨by have := HE2.out; rw [arcsEnd, if_neg hl, if_neg h2, if_pos h3, if_pos h4] at this; exact this⟩
        clear h2 h3 h4
        clear hl
        go_wp2_with fail
        go_ret2
        obtain ⟨rfl, rfl⟩ := Prod.mk.inj (HX.out)
        exact ⟨_, rfl, Kd.R_nil _ _ _ _ _, HB.out⟩
      have hnx0 : ∀ ty, (Instr.next (.pointer (some ⟨w.heap.size, 0, none⟩)) true ty).run Tryz.prog wr = _ := fun ty => Lib.run_next_any_at wr w.heap.size S pos ty HIT.out hp
      obtain ⟨n1, n2, n4⟩ := decode_width S pos hp
      have hle := decode_le S pos
      have hf := HF.out
      rw [arcsGo, if_pos hp] at hf
      have HO1 := Aside0.mk (R_iterG HO.out HIT.out (pos + (Utf8.decode S pos).2))
      have HIT1 := Aside0.mk (Lib.iterAt_heap wr w.heap.size S pos (pos + (Utf8.decode S pos).2) HIT.out)
      have HB1 := Aside0.mk (Lib.below_iterAt HB.out (Nat.le_refl _) S (pos + (Utf8.decode S pos).2))
      have hnx := hnx0
      clear HF HO HIT HB hnx0
      generalize wr.iterAt w.heap.size S (pos + (Utf8.decode S pos).2) = W2 at *
      generalize hc : (Utf8.decode S pos).1 = C at *
      generalize hn : (Utf8.decode S pos).2 = m at *
      have HFF := Aside0.mk hf
      clear hc hn hf
      have hv0 := HV.out.1
      have hv1 := HV.out.2.1
      have hn0 := HV.out.2.2.1
      have hn2 := HV.out.2.2.2
      obtain ⟨Ao, co, hu⟩ := Kd.R_slice HO1.out
      subst hu
      by_cases h46 : (C : Int) = 46
      · have e1 : ((C : Int) == 46) = true := beq_iff_eq.2 h46
        by_cases hn3 : 0 < n
        · have e2 : decide (0 < n) = true := decide_eq_true hn3
          clear hv0 hv1 hn0 hn2
          go_wp2_with ((with_reducible refine gate_builtin (b := .append) (xs := #[.tmp 32, .tmp 34]) rfl ?_); at_builtin; refine Kd.R_append (Kd.int .u64) (w0 := w) w.heap.size rfl (.tmp 32) (.tmp 34) 277 278 (.int .u64 0) 8 rfl Tryz.underlying277 info278 rfl (by decide) (by omega) (.slice Ao l.length co) l v [.int .u64 v] (fun _ => True) (fun _ => False) rfl rfl ?aP (fun _ hk => hk.elim) ?aF ?aO ?aB ?aS ?aL ?_; (case aP => exact rfl); (case aF => exact (fun _ _ => trivial)); (case aO => exact HO1.out); (case aB => exact HB1.out); (case aS => exact (below_size HB1.out)); (case aL => have := HA.out; have := HI.out; have := HLEN.out; have := HSZ.out; omega); intro v2 W3 ho hb hgr hat; have HO2 := Aside0.mk ho; have HB2 := Aside0.mk hb; have HIT2 := Aside0.mk (blk_grown HIT1.out hgr (iter_neG HO1.out HIT1.out)); clear ho hb hgr hat)
          go_roundg g1
          case measure => exact Nat.lt_succ_self _
          case rel => exact ⟨pos + m, l ++ [v], 0, 0, f1, rfl, rfl, ⟨by have := HFF.out; rw [if_pos ⟨h46, hn3⟩] at this; exact this⟩, ⟨by have := HI.out; omega⟩, ⟨by rw [List.length_append, List.length_singleton]; have := HA.out; omega⟩, ⟨by decide⟩, HO2, HIT2, HB2⟩
        have e2 : decide (0 < n) = false := decide_eq_false hn3
        have e3 : decide ((C : Int) < 48) = true := decide_eq_true (by omega)
        have HR : Aside0 (arcsGo S (a0.size + 2) 0 [] 0 0 = none) := ⟨by have := HFF.out; rw [if_neg (fun q => hn3 q.2), if_pos (Or.inl (by omega))] at this; exact this.symm⟩
        clear hv0 hv1 hn0 hn2
        go_wp2_with fail
        go_ret2
        have hE := HE.out
        rw [HR.out] at hE
        obtain ⟨rfl, rfl⟩ := Prod.mk.inj hE
        exact ⟨_, rfl, Kd.R_nil _ _ _ _ _, HB1.out⟩
      have e1 : ((C : Int) == 46) = false := by simpa using h46
      by_cases h48 : (C : Int) < 48
      · have e3 : decide ((C : Int) < 48) = true := decide_eq_true h48
        have HR : Aside0 (arcsGo S (a0.size + 2) 0 [] 0 0 = none) := ⟨by have := HFF.out; rw [if_neg (fun q => h46 q.1), if_pos (Or.inl h48)] at this; exact this.symm⟩
        clear hv0 hv1 hn0 hn2
        go_wp2_with fail
        go_ret2
        have hE := HE.out
        rw [HR.out] at hE
        obtain ⟨rfl, rfl⟩ := Prod.mk.inj hE
        exact ⟨_, rfl, Kd.R_nil _ _ _ _ _, HB1.out⟩
      have e3 : decide ((C : Int) < 48) = false := decide_eq_false h48
      by_cases h57 : 57 < (C : Int)
      · have e4 : decide (57 < (C : Int)) = true := decide_eq_true h57
        have HR : Aside0 (arcsGo S (a0.size + 2) 0 [] 0 0 = none) := ⟨by have := HFF.out; rw [if_neg (fun q => h46 q.1), if_pos (Or.inr (Or.inl h57))] at this; exact this.symm⟩
        clear hv0 hv1 hn0 hn2
        go_wp2_with fail
        go_ret2
        have hE := HE.out
        rw [HR.out] at hE
        obtain ⟨rfl, rfl⟩ := Prod.mk.inj hE
        exact ⟨_, rfl, Kd.R_nil _ _ _ _ _, HB1.out⟩
      have e4 : decide (57 < (C : Int)) = false := decide_eq_false h57
      by_cases hq : n = 1 ∧ v = 0
      · have e5 : (n == 1) = true := beq_iff_eq.2 hq.1
        have e6 : (v == 0) = true := beq_iff_eq.2 hq.2
        have HR : Aside0 (arcsGo S (a0.size + 2) 0 [] 0 0 = none) := ⟨by have := HFF.out; rw [if_neg (fun q => h46 q.1), if_pos (Or.inr (Or.inr hq))] at this; exact this.symm⟩
        clear hv0 hv1 hn0 hn2 hq
        go_wp2_with fail
        go_ret2
        have hE := HE.out
        rw [HR.out] at hE
        obtain ⟨rfl, rfl⟩ := Prod.mk.inj hE
        exact ⟨_, rfl, Kd.R_nil _ _ _ _ _, HB1.out⟩
      have HN : Aside0 (arcsGo S f1 (pos + m) l (min (10 * v + ((C : Int) - 48)) 1099511627776) (min (n + 1) 20) = arcsGo S (a0.size + 2) 0 [] 0 0) := ⟨by have := HFF.out; rw [if_neg (fun q => h46 q.1), if_neg (fun q => by rcases q with q | q | q; exact h48 q; exact h57 q; exact hq q)] at this; exact this⟩
      have h48' : (48 : Int) ≤ (C : Int) := by omega
      have h57' : (C : Int) ≤ 57 := by omega
      have hm0 : 0 ≤ (C : Int) - 48 := by omega
      have hm1 : (C : Int) - 48 ≤ 9 := by omega
      have hk0 : 0 ≤ 10 * v + ((C : Int) - 48) := by omega
      have hk1 : 10 * v + ((C : Int) - 48) ≤ 10995116277769 := by omega
      have HN0 : Aside0 (0 ≤ min (10 * v + ((C : Int) - 48)) 1099511627776 ∧ min (10 * v + ((C : Int) - 48)) 1099511627776 ≤ 1099511627776 ∧ 0 ≤ min (n + 1) 20 ∧ min (n + 1) 20 ≤ 20) := ⟨by omega⟩
      have u1 : IntKind.u64.wrap (10 * v) = 10 * v := by simp [IntKind.wrap, show IntKind.u64.signed = false from rfl, show IntKind.u64.bits = 64 from rfl]; omega
      have u2 : IntKind.i32.wrap ((C : Int) - 48) = (C : Int) - 48 := by simp [IntKind.wrap, show IntKind.i32.signed = true from rfl, show IntKind.i32.bits = 32 from rfl]; omega
      have u3 : IntKind.u64.wrap ((C : Int) - 48) = (C : Int) - 48 := by simp [IntKind.wrap, show IntKind.u64.signed = false from rfl, show IntKind.u64.bits = 64 from rfl]; omega
      have u4 : IntKind.u64.wrap (10 * v + ((C : Int) - 48)) = 10 * v + ((C : Int) - 48) := by simp [IntKind.wrap, show IntKind.u64.signed = false from rfl, show IntKind.u64.bits = 64 from rfl]; omega
      have u5 : wrap64 (n + 1) = n + 1 := by unfold wrap64; omega
      by_cases q5 : n = 1
      rotate_left
      · have e5 : (n == 1) = false := by simpa using q5
        clear hq q5 hv0 hv1 hn0 hn2 h48 h57
        go_wp2_with fail
        all_goals
          clear u1 u2 u3 u4 u5
          go_roundg g1
          case measure => exact Nat.lt_succ_self _
          case rel => exact ⟨pos + m, l, _, _, f1, rfl, rfl, ⟨(congr (congrArg (arcsGo S f1 (pos + m) l) (by omega)) (by omega)).trans HN.out⟩, ⟨by have := HI.out; omega⟩, ⟨by have := HA.out; omega⟩, ⟨by have := HV.out; omega⟩, HO1, HIT1, HB1⟩
      have e5 : (n == 1) = true := beq_iff_eq.2 q5
      have e6 : (v == 0) = false := by simpa using (fun q => hq ⟨q5, q⟩ : ¬ v = 0)
      clear hq q5 hv0 hv1 hn0 hn2 h48 h57
      go_wp2_with fail
      all_goals
        clear u1 u2 u3 u4 u5
        go_roundg g1
        case measure => exact Nat.lt_succ_self _
        case rel => exact ⟨pos + m, l, _, _, f1, rfl, rfl, ⟨(congr (congrArg (arcsGo S f1 (pos + m) l) (by omega)) (by omega)).trans HN.out⟩, ⟨by have := HI.out; omega⟩, ⟨by have := HA.out; omega⟩, ⟨by have := HV.out; omega⟩, HO1, HIT1, HB1⟩
end Go.Proofs.YtkioddjjfifadaaGreatDoor.P
namespace Go.Proofs.YtkioddjjfifadaaGreatDoor.P
open Go.RowKit Go.Proofs.YtkioddjjfifadaaGreatDoorW.PrintWords Go.Proofs.YtkioddjjfifadaaGreatDoorW.PrintLast Go.Proofs.YtkioddjjfifadaaGreatDoorW.PrintMore
attribute [local go_sem] max2_int min2_int max_two min_two max_three min_three max_four min_four
set_option linter.unusedVariables false
set_option linter.unusedSimpArgs false
mutual
def der_PutOid.l0 : Nat → List Int → List Int → Int → Int → Option (List Int × Int)
  | 0, _, _, _, _ => none
  | k + 1, x4, x18, x19, x20 => if x20 < x19 then (if 0 ≤ x20 then (if x20 < (x18.length : Int) then (if (rd x18 x20) > 2147483647 then (some (([] : List Int), 3)) else (der_PutOid.l0 k x4 x18 x19 (wrap64 (x20 + 1)))) else (none)) else (none)) else (if 0 < (x4.length : Int) then (if 1 < (x4.length : Int) then ((der_seven.f k (IntKind.u64.wrap ((IntKind.u64.wrap (40 * (rd x4 0))) + (rd x4 1)))).bind fun t318 => (if 2 ≤ (x4.length : Int) then ((some (x4.drop 2 : List Int)).bind fun y321 => (der_PutOid.l1 k t318 y321 (y321.length : Int) 0)) else (none))) else (none)) else (none))
def der_PutOid.l1 : Nat → List Int → List Int → Int → Int → Option (List Int × Int)
  | 0, _, _, _, _ => none
  | k + 1, x8, x37, x38, x39 => if x39 < x38 then (if 0 ≤ x39 then (if x39 < (x37.length : Int) then ((der_seven.f k (rd x37 x39)).bind fun t326 => (if x8.length + t326.length < 140737488355328 then (der_PutOid.l1 k (x8 ++ t326) x37 x38 (wrap64 (x39 + 1))) else (none))) else (none)) else (none)) else (some (x8, 0))
end
def der_PutOid.f (k : Nat) (a0 : ByteArray) : Option (List Int × Int) := (der_arcs.f a0).bind fun bt311 => (if bt311.2 = true then (der_PutOid.l0 k bt311.1 bt311.1 (bt311.1.length : Int) 0) else (some (([] : List Int), 6)))
def der_PutOid.T10 : Bool × List (List Nat × List Nat) := (true, [([], []), ([0], [0]), ([1], [1]), ([2], [2]), ([], []), ([4], [4]), ([5], [5]), ([3, 6], [3, 6]), ([7], [7]), ([8, 8, 0, 1, 2, 3, 4, 5, 6, 7, 8], [8])])
def der_PutOid.B10 : List Nat := [0, 1, 3, 7, 0, 16, 48, 127, 255, 511]
theorem der_PutOid.tab10 : rtab .any (opsOf Tryz.f199 10) = der_PutOid.T10 := by kernel_rfl
theorem der_PutOid.bits10 : waitsOk der_PutOid.T10.2 der_PutOid.B10 = true := by kernel_rfl
set_option maxHeartbeats 8000000 in
set_option maxRecDepth 100000 in
theorem der_PutOid.calls (k : Nat) (a0 : ByteArray) (r1 : List Int) (r2 : Int) (w : World) (h : der_PutOid.f k a0 = some (r1, r2)) :
    Calls Tryz.prog 199 #[.string a0] w fun e w' => ∃ v0_ : Value, e = .returned (.tuple #[v0_, .int .i64 r2]) ∧ Kd.R (Kd.int .u8) 5 w' w.heap.size (fun _ => True) v0_ r1 ∧ Below w.heap.size w w' := by
  have HB := Aside0.mk (Below.refl w.heap.size w)
  have H : ((der_arcs.f a0).bind fun bt311 => (if bt311.2 = true then (der_PutOid.l0 k bt311.1 bt311.1 (bt311.1.length : Int) 0) else (some (([] : List Int), 6)))) = some (r1, r2) := h
  clear h
  replace H := Option.bind_eq_some_iff.mp H
  obtain ⟨⟨t311, t312⟩, A20, H⟩ := H
  try dsimp only at H
  have A2 := Aside0.mk A20
  clear A20
  by_cases c3 : t312 = true
  rotate_left
  · replace c3 := Bool.eq_false_iff.mpr c3
    subst c3
    have H1 : (some (([] : List Int), 6)) = some (r1, r2) := by rw [if_neg (show ¬ (false = true) by decide)] at H; exact H
    clear H
    have H := H1
    clear H1
    simp only [Option.some.injEq, Prod.mk.injEq] at H
    obtain ⟨rfl, rfl⟩ := H
    go_enter Tryz.func199, Tryz.ntmps199
    go_wp2_with (first | ((with_reducible refine gate_callee (f := 238) rfl ?_); refine goesL_ (some 13) rfl rfl Tryz.func238 (by kernel_rfl) rfl #[.string a0] rfl (by (try simp only [List.map_toArray, List.map_cons, List.map_nil]); first | done | rfl | (simp only [List.length_drop, List.length_take]; rfl)) ?_; (with_reducible refine (der_arcs.calls a0 t311 false _ A2.out).mono ?_); rintro e w25 ⟨v313, rfl, ho0, hb⟩; refine ⟨_, rfl, ?_⟩; have n0_ := Aside0.mk (Kd.R_lower ho0 (below_size (bU HB.out))); have n1_ := Aside0.mk (below_step (bU HB.out) hb); clear HB; have HO314 := n0_; have HB := n1_; clear n0_ n1_; (try clear hb); (try clear hb2); (try clear hk); (try clear hi); (try clear ho0)))
    go_ret2
    exact ⟨_, by first | rfl | (simp [errW_none, errW_some] <;> rfl), by first | exact Kd.R_nil _ _ _ _ _ | exact Kd.N_nil _ _ _ _ _ | exact Kd.V_nil _ _ _ _ _ | exact Kd.Q_nil _ _ _ _ _ | exact Kd.S_nil _ _ _ _ _, bU HB.out⟩
  subst c3
  have H1 : (der_PutOid.l0 k t311 t311 (t311.length : Int) 0) = some (r1, r2) := by rw [if_pos rfl] at H; exact H
  clear H
  have H := H1
  clear H1
  have H' := Aside0.mk H
  clear H
  go_enter Tryz.func199, Tryz.ntmps199
  go_wp2_with (first | ((with_reducible refine gate_callee (f := 238) rfl ?_); refine goesL_ (some 13) rfl rfl Tryz.func238 (by kernel_rfl) rfl #[.string a0] rfl (by (try simp only [List.map_toArray, List.map_cons, List.map_nil]); first | done | rfl | (simp only [List.length_drop, List.length_take]; rfl)) ?_; (with_reducible refine (der_arcs.calls a0 t311 true _ A2.out).mono ?_); rintro e w4 ⟨v313, rfl, ho0, hb⟩; refine ⟨_, rfl, ?_⟩; have n0_ := Aside0.mk (Kd.R_lower ho0 (below_size (bU HB.out))); have n1_ := Aside0.mk (below_step (bU HB.out) hb); clear HB; have HO314 := n0_; have HB := n1_; clear n0_ n1_; (try clear hb); (try clear hb2); (try clear hk); (try clear hi); (try clear ho0); obtain ⟨Ao5, co5, eo5⟩ := Kd.R_slice HO314.out; subst eo5))
  go_loopg [20] k (fun kq v20 w' => ∃ (x20_1 : Int), v20 = .int .i64 x20_1 ∧ Aside0 (der_PutOid.l0 kq t311 t311 (t311.length : Int) x20_1 = some (r1, r2)) ∧ Aside0 (kq ≤ k) ∧ Aside0 (Kd.R (Kd.int .u64) 278 w' w.heap.size (fun _ => True) (.slice Ao5 t311.length co5) t311) ∧ Aside0 (Kd.R (Kd.int .u64) 278 w' w.heap.size (fun _ => True) (.slice Ao5 t311.length co5) t311) ∧ Aside0 (Below w.heap.size w w'))
  case atStart => exact ⟨(0), (by first | rfl | (simp; done) | (simp [*]; done)), H', ⟨Nat.le_refl _⟩, ⟨Kd.R_u HO314.out⟩, ⟨Kd.R_u HO314.out⟩, ⟨bU HB.out⟩⟩
  case round =>
    clear H'
    try clear c1
    try clear c2
    try clear p2
    try clear c3
    obtain ⟨x20_1, rfl, HA, HK1, HO_4, HO_18, HB⟩ := hrel
    cases gk with
    | zero => exact absurd HA.out (by simp [der_PutOid.l0])
    | succ k1 =>
      have H := HA.out
      clear HA
      simp only [der_PutOid.l0] at H
      by_cases c6 : x20_1 < (t311.length : Int)
      · rw [if_pos c6] at H
        have c6b0 : decide (x20_1 < (t311.length : Int)) = true := decide_eq_true c6
        clear c6
        by_cases c7 : 0 ≤ x20_1
        rotate_left
        · rw [if_neg c7] at H
          exact absurd H (by simp)
        rw [if_pos c7] at H
        have c7b0 : decide (0 ≤ x20_1) = true := decide_eq_true c7
        clear c7
        by_cases c8 : x20_1 < (t311.length : Int)
        rotate_left
        · rw [if_neg c8] at H
          exact absurd H (by simp)
        rw [if_pos c8] at H
        have c8b0 : decide (x20_1 < (t311.length : Int)) = true := decide_eq_true c8
        clear c8
        by_cases c9 : (rd t311 x20_1) > 2147483647
        · rw [if_pos c9] at H
          have c9b0 : decide (2147483647 < (rd t311 x20_1)) = true := decide_eq_true c9
          clear c9
          simp only [Option.some.injEq, Prod.mk.injEq] at H
          obtain ⟨rfl, rfl⟩ := H
          have p315 : 0 ≤ (x20_1 : Int) := of_decide_eq_true (by first | (with_reducible assumption) | assumption)
          have q315 : x20_1 < (t311.length : Int) := of_decide_eq_true (by first | (with_reducible assumption) | assumption)
          obtain ⟨ad315, e315, hx315_0⟩ := Kd.at_int (Kd.R_reads' HO_18.out).2.2 x20_1 p315 q315
          cases e315
          replace p315 := eq_true p315
          replace q315 := eq_true q315
          go_wp2
          go_ret2
          exact ⟨_, by first | rfl | (simp [errW_none, errW_some] <;> rfl), by first | exact Kd.R_nil _ _ _ _ _ | exact Kd.N_nil _ _ _ _ _ | exact Kd.V_nil _ _ _ _ _ | exact Kd.Q_nil _ _ _ _ _ | exact Kd.S_nil _ _ _ _ _, bU HB.out⟩
        rw [if_neg c9] at H
        have c9b0 : decide (2147483647 < (rd t311 x20_1)) = false := decide_eq_false c9
        clear c9
        have H' := Aside0.mk H
        clear H
        have p315 : 0 ≤ (x20_1 : Int) := of_decide_eq_true (by first | (with_reducible assumption) | assumption)
        have q315 : x20_1 < (t311.length : Int) := of_decide_eq_true (by first | (with_reducible assumption) | assumption)
        obtain ⟨ad315, e315, hx315_0⟩ := Kd.at_int (Kd.R_reads' HO_18.out).2.2 x20_1 p315 q315
        cases e315
        replace p315 := eq_true p315
        replace q315 := eq_true q315
        go_wp2
        go_roundg k1
        case measure => have := HK1.out; omega
        case rel => exact ⟨(wrap64 (x20_1 + 1)), (by first | rfl | (simp; done) | (simp [*]; done)), H', ⟨by have := HK1.out; omega⟩, ⟨Kd.R_u HO_4.out⟩, ⟨Kd.R_u HO_18.out⟩, ⟨bU HB.out⟩⟩
      rw [if_neg c6] at H
      have c6b0 : decide (x20_1 < (t311.length : Int)) = false := decide_eq_false c6
      clear c6
      by_cases c10 : 0 < (t311.length : Int)
      rotate_left
      · rw [if_neg c10] at H
        exact absurd H (by simp)
      rw [if_pos c10] at H
      have c10b0 : decide (0 < (t311.length : Int)) = true := decide_eq_true c10
      have c10b1 : decide (0 < t311.length) = true := decide_eq_true (by omega)
      clear c10
      by_cases c11 : 1 < (t311.length : Int)
      rotate_left
      · rw [if_neg c11] at H
        exact absurd H (by simp)
      rw [if_pos c11] at H
      have c11b0 : decide (1 < (t311.length : Int)) = true := decide_eq_true c11
      have c11b1 : decide (1 < t311.length) = true := decide_eq_true (by omega)
      clear c11
      replace H := Option.bind_eq_some_iff.mp H
      obtain ⟨t318, A120, H⟩ := H
      try dsimp only at H
      have A12 := Aside0.mk A120
      clear A120
      by_cases c13 : 2 ≤ (t311.length : Int)
      rotate_left
      · rw [if_neg c13] at H
        exact absurd H (by simp)
      rw [if_pos c13] at H
      have c13b0 := eq_true c13
      have c13b1 : decide (2 ≤ (t311.length : Int)) = true := decide_eq_true c13
      clear c13
      obtain ⟨y321, hy321⟩ : ∃ y_ : List Int, y_ = (t311.drop 2) := ⟨_, rfl⟩
      replace H : (der_PutOid.l1 k1 t318 y321 (y321.length : Int) 0) = some (r1, r2) := by first | (rw [hy321]; with_reducible exact H) | (have H2_ := (Option.bind_some _ _).symm.trans H; rw [hy321]; with_reducible exact H2_) | (have H2_ := (Option.bind_some _ _).symm.trans H; with_reducible exact H2_) | with_reducible exact H | (rw [hy321]; exact H) | exact H
      have Ny321 := Aside0.mk hy321
      clear hy321
      have H' := Aside0.mk H
      clear H
      try go_wp2
      have n0_ := Aside0.mk (Kd.R_drew HO_4.out)
      have n1_ := Aside0.mk (Kd.R_drew HO_18.out)
      have n2_ := Aside0.mk (below_drew1 HB.out)
      clear HO_4
      clear HO_18
      clear HB
      have HO_4 := n0_
      have HO_18 := n1_
      have HB := n2_
      clear n0_ n1_ n2_
      have p316 : 0 ≤ (0 : Int) := (by omega)
      have q316 : 0 < (t311.length : Int) := of_decide_eq_true (by first | (with_reducible assumption) | assumption)
      obtain ⟨ad316, e316, hx316_0⟩ := Kd.at_int (Kd.R_reads' HO_4.out).2.2 0 p316 q316
      cases e316
      have qi316 : (0 < t311.length) = True := eq_true (by omega)
      (try rw [show ((0 : Int)).toNat = 0 from rfl] at hx316_0)
      (try rw [Addr.add_zero'] at hx316_0)
      replace p316 := eq_true p316
      replace q316 := eq_true q316
      have p317 : 0 ≤ (1 : Int) := (by omega)
      have q317 : 1 < (t311.length : Int) := of_decide_eq_true (by first | (with_reducible assumption) | assumption)
      obtain ⟨ad317, e317, hx317_0⟩ := Kd.at_int (Kd.R_reads' HO_4.out).2.2 1 p317 q317
      obtain rfl : ad316 = ad317 := (by injection e317)
      (try simp only [show (1 : Int).toNat = 1 from rfl, Nat.reduceMul, Nat.reduceEqDiff, Go.Addr.add, ↓reduceIte] at hx317_0)
      have qi317 : (1 < t311.length) = True := eq_true (by omega)
      (try rw [show ((1 : Int)).toNat = 1 from rfl] at hx317_0)
      replace p317 := eq_true p317
      replace q317 := eq_true q317
      refine start_ (n := 10) (S := fun w' => w'.cell? ad316 = some (.int .u64 (rd t311 0)) ∧ w'.cell? ⟨ad316.block, ad316.off + 1, none⟩ = some (.int .u64 (rd t311 1))) (ds := []) #[false, false, false, false, false, false, false, false, false, false] (by kernel_rfl) rfl rfl ⟨hx316_0, hx317_0⟩ (fun hHeld => ?_); refine with_tabW der_PutOid.tab10 der_PutOid.bits10 (fun HT_ HW_ => ?_)
      generalize wr.drew = w14 at HO_4 HO_18 HB hx316_0 hx317_0 hHeld ⊢
      refine pure_ (i := 0) (N := some 27) (v := ?_) (a' := ?_) #[true, false, false, false, false, false, false, false, false, false] rfl rfl (any_of HT_.out (by kernel_rfl)) (fun _ _ _ h => h) (Or.inl ⟨by rfl, ?_⟩) ?_ ?_; rotate_left; (intro w'; go_simp; with_reducible rfl); rotate_left; (simp only [Act.put, List.setIfInBounds_toArray, List.set_cons_zero, List.set_cons_succ, i64_w, i32_w]; rfl)
      refine pure_ (i := 1) (N := some 28) (v := ?_) (a' := ?_) #[true, true, false, false, false, false, false, false, false, false] rfl rfl (any_of HT_.out (by kernel_rfl)) (fun _ _ _ h => h) (Or.inl ⟨by rfl, ?_⟩) ?_ ?_; rotate_left; (intro w'; go_simp; with_reducible rfl); rotate_left; (simp only [Act.put, List.setIfInBounds_toArray, List.set_cons_zero, List.set_cons_succ, i64_w, i32_w]; rfl)
      refine pure_ (i := 4) (N := some 31) (v := ?_) (a' := ?_) #[true, true, false, false, true, false, false, false, false, false] rfl rfl (any_of HT_.out (by kernel_rfl)) (fun _ _ _ h => h) (Or.inl ⟨by rfl, ?_⟩) ?_ ?_; rotate_left; (intro w'; go_simp; with_reducible rfl); rotate_left; (simp only [Act.put, List.setIfInBounds_toArray, List.set_cons_zero, List.set_cons_succ, i64_w, i32_w]; rfl)
      refine pure_ (i := 5) (N := some 32) (v := ?_) (a' := ?_) #[true, true, false, false, true, true, false, false, false, false] rfl rfl (any_of HT_.out (by kernel_rfl)) (fun _ _ _ h => h) (Or.inl ⟨by rfl, ?_⟩) ?_ ?_; rotate_left; (intro w'; go_simp; with_reducible rfl); rotate_left; (simp only [Act.put, List.setIfInBounds_toArray, List.set_cons_zero, List.set_cons_succ, i64_w, i32_w]; rfl)
      refine take_ (i := 2) (N := some 29) (v := ?_) (a' := ?_) #[true, true, true, false, true, true, false, false, false, false] rfl rfl (take_ofW HT_.out HW_.out (by kernel_rfl)) (fun _ _ _ h => h) (Or.inl ⟨by rfl, ?_⟩) hHeld ?_ ?_; rotate_left; (rintro w' ⟨s0, s1⟩; go_simp; with_reducible rfl); rotate_left; (simp only [Act.put, List.setIfInBounds_toArray, List.set_cons_zero, List.set_cons_succ, i64_w, i32_w]; rfl)
      refine pure_ (i := 3) (N := some 30) (v := ?_) (a' := ?_) #[true, true, true, true, true, true, false, false, false, false] rfl rfl (any_of HT_.out (by kernel_rfl)) (fun _ _ _ h => h) (Or.inl ⟨by rfl, ?_⟩) ?_ ?_; rotate_left; (intro w'; go_simp; with_reducible rfl); rotate_left; (simp only [Act.put, List.setIfInBounds_toArray, List.set_cons_zero, List.set_cons_succ, i64_w, i32_w]; rfl)
      refine take_ (i := 6) (N := some 33) (v := ?_) (a' := ?_) #[true, true, true, true, true, true, true, false, false, false] rfl rfl (take_ofW HT_.out HW_.out (by kernel_rfl)) (fun _ _ _ h => h) (Or.inl ⟨by rfl, ?_⟩) hHeld ?_ ?_; rotate_left; (rintro w' ⟨s0, s1⟩; go_simp; with_reducible rfl); rotate_left; (simp only [Act.put, List.setIfInBounds_toArray, List.set_cons_zero, List.set_cons_succ, i64_w, i32_w]; rfl)
      refine pure_ (i := 7) (N := some 34) (v := ?_) (a' := ?_) #[true, true, true, true, true, true, true, true, false, false] rfl rfl (any_of HT_.out (by kernel_rfl)) (fun _ _ _ h => h) (Or.inl ⟨by rfl, ?_⟩) ?_ ?_; rotate_left; (intro w'; go_simp; with_reducible rfl); rotate_left; (simp only [Act.put, List.setIfInBounds_toArray, List.set_cons_zero, List.set_cons_succ, i64_w, i32_w]; rfl)
      refine one_ (i := 8) (N := some 35) #[true, true, true, true, true, true, true, true, true, false] rfl rfl (one_of HT_.out (by kernel_rfl)) (by decide) (fun K hK => ?_)
      refine goes_ Tryz.func219 (by kernel_rfl) rfl #[.int .u64 (IntKind.u64.wrap ((IntKind.u64.wrap (40 * (rd t311 0))) + (rd t311 1)))] (by rfl) rfl rfl (by (try simp only [List.map_toArray, List.map_cons, List.map_nil]); first | done | rfl | (simp only [List.length_drop, List.length_take]; rfl)) ?_
      with_reducible refine (der_seven.calls k1 (IntKind.u64.wrap ((IntKind.u64.wrap (40 * (rd t311 0))) + (rd t311 1))) t318 _ A12.out).mono ?_
      rintro e w15 ⟨v319, rfl, ho0, hb⟩
      have HS0_ := (hb.cell (World.block_lt_of_cell? _ _ (hHeld.1))).trans (hHeld.1)
      have HS1_ := (hb.cell (World.block_lt_of_cell? _ _ (hHeld.2))).trans (hHeld.2)
      refine ⟨_, rfl, ?_⟩
      have n0_ := Aside0.mk (Kd.R_below (Kd.R_u HO_4.out) hb)
      have n1_ := Aside0.mk (Kd.R_below (Kd.R_u HO_18.out) hb)
      have n2_ := Aside0.mk (Kd.R_lower ho0 (below_size (bU HB.out)))
      have n3_ := Aside0.mk (below_step (bU HB.out) hb)
      clear HO_4
      clear HO_18
      clear HB
      have HO_4 := n0_
      have HO_18 := n1_
      have HO320 := n2_
      have HB := n3_
      clear n0_ n1_ n2_ n3_
      (try clear hb)
      (try clear hb2)
      (try clear hk)
      (try clear hi)
      (try clear ho0)
      refine hK.out _ _ ⟨HS0_, HS1_⟩ (fun hHeld => ?_)
      clear hK K
      refine norm_ (a' := ?_) ?_ ?_; rotate_left; (show Act.put _ (some 35) _ = _; simp only [Act.put, List.setIfInBounds_toArray, List.set_cons_zero, List.set_cons_succ, i64_w, i32_w]; rfl)
      refine pure_ (i := 9) (N := some 8) (v := ?_) (a' := ?_) #[true, true, true, true, true, true, true, true, true, true] rfl rfl (any_of HT_.out (by kernel_rfl)) (fun _ _ _ h => h) (Or.inl ⟨by rfl, ?_⟩) ?_ ?_; rotate_left; (intro w'; go_simp; with_reducible rfl); rotate_left; (simp only [Act.put, List.setIfInBounds_toArray, List.set_cons_zero, List.set_cons_succ, i64_w, i32_w]; rfl)
      refine done_ (done_of HT_.out (by kernel_rfl)) ?_
      have q16 : (2 : Int) ≤ ((t311.length : Int) : Int) := of_decide_eq_true (by first | (with_reducible assumption) | assumption)
      obtain ⟨i016, hi016, _, hsz16, _⟩ := info_parts info278
      have hroom16 : t311.length ≤ co5 := (Kd.R_reads' HO_4.out).2.1
      have hC16 : Kd.C (Kd.int .u64) _ (some ad316) t311.length t311 := (Kd.R_reads' HO_4.out).2.2
      have hcut16 := cut_from (P := Tryz.prog) 277 278 .i64 Tryz.underlying277 hi016 1 hsz16 (some ad316) t311.length co5 2 (by omega) q16
      have hr16 := Kd.C_drop (m := (2 : Int).toNat) (c := co5) hC16 (by omega) hroom16
      obtain ⟨A16, hA16⟩ : ∃ A1, A1 = (if co5 = (2 : Int).toNat then (some ad316) else ((some ad316) : Option Addr).map (·.add ((2 : Int).toNat * 1))) := ⟨_, rfl⟩
      obtain ⟨c16, hc16⟩ : ∃ c1, c1 = co5 - (2 : Int).toNat := ⟨_, rfl⟩
      have hy16 : y321.length = t311.length - (2 : Int).toNat := (by rw [Ny321.out, List.length_drop] <;> omega)
      rw [show (t311).drop (2 : Int).toNat = y321 from Ny321.out.symm] at hr16
      replace hr16 : Kd.C (Kd.int .u64) _ A16 y321.length y321 := (by rw [hA16]; exact hr16)
      rw [← hy16, ← hA16, ← hc16] at hcut16
      have HDR : Aside0 (∀ W' : World, Kd.C (Kd.int .u64) W' (some ad316) t311.length t311 → Kd.C (Kd.int .u64) W' A16 y321.length y321) := ⟨fun W' hC_ => by
        have h_ := Kd.C_drop (m := (2 : Int).toNat) (c := co5) hC_ (by omega) hroom16
        rw [show (t311).drop (2 : Int).toNat = y321 from Ny321.out.symm] at h_
        rw [hA16]; exact h_⟩
      have HR324 := Aside0.mk hr16
      have HC324 := Aside0.mk (show y321.length ≤ c16 from by rw [hy16, hc16]; exact Nat.sub_le_sub_right hroom16 _)
      clear hr16 hC16 hroom16 hi016 hsz16 hc16
      have KY16 := Aside0.mk hy16
      have KA16 := Aside0.mk hA16
      clear hy16 hA16
      have KL16 := Aside0.mk (show 2 ≤ t311.length from by omega)
      replace q16 := eq_true q16
      try go_wp2
      go_loopg [8, 39] k1 (fun kq v8 v39 w' => ∃ (x8_2 : List Int) (x39_2 : Int), v39 = .int .i64 x39_2 ∧ Aside0 (der_PutOid.l1 kq x8_2 y321 (y321.length : Int) x39_2 = some (r1, r2)) ∧ Aside0 (kq ≤ k1) ∧ Aside0 (Kd.R (Kd.int .u8) 5 w' w.heap.size (fun _ => True) v8 x8_2) ∧ Aside0 (Below w.heap.size w w') ∧ Aside0 (Kd.R (Kd.int .u64) 278 w' w.heap.size (fun _ => True) (.slice (some ad316) t311.length co5) t311))
      case atStart => exact ⟨(t318), (0), (by first | rfl | (simp; done) | (simp [*]; done)), H', ⟨Nat.le_refl _⟩, ⟨Kd.R_u HO320.out⟩, ⟨bU HB.out⟩, ⟨Kd.R_u (Kd.R_mono HO_4.out (fun _ _ => trivial))⟩⟩
      case round =>
        clear H'
        try clear c1
        try clear q1
        try clear c2
        try clear p2
        try clear c3
        try clear p3
        try clear q3
        try clear hx3
        try clear qi3
        try clear c6
        try clear c6b0
        try clear p6
        try clear c7
        try clear c7b0
        try clear c8
        try clear c8b0
        try clear c9
        try clear c9b0
        try clear c10
        try clear c10b0
        try clear c10b1
        try clear c11
        try clear c11b0
        try clear c11b1
        try clear c13
        try clear c13b0
        try clear c13b1
        try clear c16
        try clear q16
        try clear hx315_0
        try clear hx316_0
        try clear hx317_0
        try clear p2
        try clear p315
        try clear p316
        try clear p317
        try clear q16
        try clear q315
        try clear q316
        try clear q317
        obtain ⟨x8_2, x39_2, rfl, HA, HK2, HO_8, HB, HO_4⟩ := hrel
        cases gk with
        | zero => exact absurd HA.out (by simp [der_PutOid.l1])
        | succ k2 =>
          have H := HA.out
          clear HA
          simp only [der_PutOid.l1] at H
          by_cases c17 : x39_2 < (y321.length : Int)
          rotate_left
          · rw [if_neg c17] at H
            have c17b0 : decide (x39_2 < (y321.length : Int)) = false := decide_eq_false c17
            clear c17
            simp only [Option.some.injEq, Prod.mk.injEq] at H
            obtain ⟨rfl, rfl⟩ := H
            go_wp2
            go_ret2
            exact ⟨_, by first | rfl | (simp [errW_none, errW_some] <;> rfl), by (with_reducible repeat (first | apply Kd.R_alloc | apply Kd.R_drewN | apply Kd.R_drew)); exact HO_8.out, bU HB.out⟩
          rw [if_pos c17] at H
          have c17b0 : decide (x39_2 < (y321.length : Int)) = true := decide_eq_true c17
          clear c17
          by_cases c18 : 0 ≤ x39_2
          rotate_left
          · rw [if_neg c18] at H
            exact absurd H (by simp)
          rw [if_pos c18] at H
          have c18b0 : decide (0 ≤ x39_2) = true := decide_eq_true c18
          clear c18
          by_cases c19 : x39_2 < (y321.length : Int)
          rotate_left
          · rw [if_neg c19] at H
            exact absurd H (by simp)
          rw [if_pos c19] at H
          have c19b0 : decide (x39_2 < (y321.length : Int)) = true := decide_eq_true c19
          clear c19
          replace H := Option.bind_eq_some_iff.mp H
          obtain ⟨t326, A200, H⟩ := H
          try dsimp only at H
          have A20 := Aside0.mk A200
          clear A200
          by_cases c21 : x8_2.length + t326.length < 140737488355328
          rotate_left
          · rw [if_neg c21] at H
            exact absurd H (by simp)
          rw [if_pos c21] at H
          have LMc21 := Aside0.mk c21
          clear c21
          obtain ⟨y329, hy329⟩ : ∃ y_ : List Int, y_ = (x8_2 ++ t326) := ⟨_, rfl⟩
          replace H : (der_PutOid.l1 k2 y329 y321 (y321.length : Int) (wrap64 (x39_2 + 1))) = some (r1, r2) := by first | (rw [hy329]; with_reducible exact H) | (have H2_ := (Option.bind_some _ _).symm.trans H; rw [hy329]; with_reducible exact H2_) | (have H2_ := (Option.bind_some _ _).symm.trans H; with_reducible exact H2_) | with_reducible exact H | (rw [hy329]; exact H) | exact H
          have Ny329 := Aside0.mk hy329
          clear hy329
          have H' := Aside0.mk H
          clear H
          have p325 : 0 ≤ (x39_2 : Int) := of_decide_eq_true (by first | (with_reducible assumption) | assumption)
          have q325 : x39_2 < (y321.length : Int) := of_decide_eq_true (by first | (with_reducible assumption) | assumption)
          obtain ⟨ad325, e325, hx325_0⟩ := Kd.at_int (HDR.out _ (Kd.R_reads' HO_4.out).2.2) x39_2 p325 q325
          cases e325
          replace p325 := eq_true p325
          replace q325 := eq_true q325
          go_wp2_with (first | ((with_reducible refine gate_callee (f := 219) rfl ?_); refine goesL_ (some 45) rfl rfl Tryz.func219 (by kernel_rfl) rfl #[.int .u64 (rd y321 x39_2)] rfl (by (try simp only [List.map_toArray, List.map_cons, List.map_nil]); first | done | rfl | (simp only [List.length_drop, List.length_take]; rfl)) ?_; (with_reducible refine (der_seven.calls k2 (rd y321 x39_2) t326 _ A20.out).mono ?_); rintro e w22 ⟨v327, rfl, ho0, hb⟩; refine ⟨_, rfl, ?_⟩; have n0_ := Aside0.mk (Kd.R_elder' (Kd.R_u HO_8.out) (Kd.R_base ho0) hb); have n1_ := Aside0.mk (Kd.R_lower (Kd.R_new' ho0 (Kd.R_lt (Kd.R_u HO_8.out))) (below_size (bU HB.out))); have n2_ := Aside0.mk (below_step (bU HB.out) hb); have n9_ := Aside0.mk (Kd.R_below (Kd.R_u HO_4.out) hb); clear HO_4; have HO_4 := n9_; clear n9_; clear HO_8; clear HB; have HO_8 := n0_; have HO328 := n1_; have HB := n2_; clear n0_ n1_ n2_; (try clear hb); (try clear hb2); (try clear hk); (try clear hi); (try clear ho0); obtain ⟨Ao24, co24, eo24⟩ := Kd.R_slice HO328.out; subst eo24) | ((with_reducible refine gate_builtin (b := .append) (xs := #[.tmp 43, .tmp 45]) rfl ?_); at_builtin; refine Kd.R_append_rows (Kd.int .u8) (w0 := w) w.heap.size rfl (.tmp 43) (.tmp 45) 22 5 (.int .u8 0) 1 rfl Tryz.underlying22 info5 rfl (by decide) (by omega) u8 x8_2 t326 _ _ _ (fun k_ => some k_ ≠ (.slice Ao24 t326.length co24 : Value).ownBlock) (fun _ => False) rfl rfl ?aO ?aR (fun _ _ h => h) (fun _ h => h.elim) ?aF ?aB ?aS ?aL ?_; (case aR => exact Kd.C_u (Kd.R_reads' HO328.out).2.2); (case aB => exact (bU HB.out)); (case aF => exact (fun k_ hk => Kd.fresh' (Kd.R_lt (Kd.R_u HO328.out)) k_ hk)); (case aO => exact (Kd.R_u (Kd.R_mono HO_8.out (fun _ hk => hk.2)))); (case aS => exact (below_size (bU HB.out))); (case aL => have := LMc21.out; omega); intro v330 w23 ho hb hg hat; rw [← Ny329.out] at ho; have n9_ := Aside0.mk (Kd.R_mono (Kd.R_grown (Kd.R_apart' (Kd.R_u HO_4.out) (Kd.R_typed (Kd.R_u (Kd.R_mono HO_8.out (fun _ hk => hk.2)))) (by decide)) hg (fun _ hk => hk.2)) (fun _ _ => trivial)); clear HO_4; have HO_4 := n9_; clear n9_; have n0_ := Aside0.mk (Kd.R_after (ok := (fun _ => True)) (Kd.R_u HO328.out) hg hat); have n1_ := Aside0.mk (hb); have n2_ := Aside0.mk (ho); clear HO328; clear HB; clear HO_8; have HO328 := n0_; have HB := n1_; have HO331 := n2_; clear n0_ n1_ n2_; clear ho hb hg hat))
          go_roundg k2
          case measure => have := HK1.out; have := HK2.out; omega
          case rel => exact ⟨(y329), (wrap64 (x39_2 + 1)), (by first | rfl | (simp; done) | (simp [*]; done)), H', ⟨by have := HK1.out; have := HK2.out; omega⟩, ⟨Kd.R_u (Kd.R_mono HO331.out (fun _ hk => trivial))⟩, ⟨bU HB.out⟩, ⟨Kd.R_u HO_4.out⟩⟩
end Go.Proofs.YtkioddjjfifadaaGreatDoor.P
namespace Go.Proofs.YtkioddjjfifadaaGreatDoor.P
open Go.RowKit Go.Proofs.YtkioddjjfifadaaGreatDoorW.PrintWords Go.Proofs.YtkioddjjfifadaaGreatDoorW.PrintLast Go.Proofs.YtkioddjjfifadaaGreatDoorW.PrintMore
attribute [local go_sem] max2_int min2_int max_two min_two max_three min_three max_four min_four
set_option linter.unusedVariables false
set_option linter.unusedSimpArgs false
mutual
def chirographref04_arcs.l0 : Nat → ByteArray → List Int → Int → Int → Option (List Int × Bool)
  | 0, _, _, _, _ => none
  | k + 1, x0, x4, x5, x6 => if x6 ≤ (x0.size : Int) then (if x6 < (x0.size : Int) then (if 0 ≤ x6 then (chirographref04_arcs.j1 k x0 x4 x5 x6 ((bt x0 x6) != 46)) else (none)) else (chirographref04_arcs.j1 k x0 x4 x5 x6 false)) else (if (x4.length : Int) ≥ 2 then (if 0 < (x4.length : Int) then (if (rd x4 0) ≤ 2 then (if (rd x4 0) = 2 then (some (x4, true)) else (if 1 < (x4.length : Int) then (some (x4, decide ((rd x4 1) < 40))) else (none))) else (some (x4, false))) else (none)) else (some (x4, false)))
def chirographref04_arcs.j1 : Nat → ByteArray → List Int → Int → Int → Bool → Option (List Int × Bool)
  | 0, _, _, _, _, _ => none
  | k + 1, x0, x4, x5, x6, x24 => if x24 = true then (if 0 ≤ x6 then (if x6 < (x0.size : Int) then (if (bt x0 x6) < 48 then (some (([] : List Int), false)) else (if (bt x0 x6) > 57 then (some (([] : List Int), false)) else (chirographref04_arcs.l0 k x0 x4 x5 (wrap64 (x6 + 1))))) else (none)) else (none)) else (if x6 = x5 then (chirographref04_arcs.j2 k x0 x4 x5 x6 true) else (if 0 ≤ x5 then (if x5 < (x0.size : Int) then (if (bt x0 x5) = 48 then (chirographref04_arcs.j2 k x0 x4 x5 x6 (decide (x6 > (wrap64 (x5 + 1))))) else (chirographref04_arcs.j2 k x0 x4 x5 x6 false)) else (none)) else (none)))
def chirographref04_arcs.j2 : Nat → ByteArray → List Int → Int → Int → Bool → Option (List Int × Bool)
  | 0, _, _, _, _, _ => none
  | k + 1, x0, x4, x5, x6, x49 => if x49 = true then (some (([] : List Int), false)) else (chirographref04_arcs.l1 k x0 x4 x6 0 x5)
def chirographref04_arcs.l1 : Nat → ByteArray → List Int → Int → Int → Int → Option (List Int × Bool)
  | 0, _, _, _, _, _ => none
  | k + 1, x0, x4, x6, x7, x8 => if x8 < x6 then (if 0 ≤ x8 then (if x8 < (x0.size : Int) then (if (wrap64 ((wrap64 (x7 * 10)) + (((bt x0 x8) - 48) % 256))) > 1099511627776 then (chirographref04_arcs.l1 k x0 x4 x6 1099511627776 (wrap64 (x8 + 1))) else (chirographref04_arcs.l1 k x0 x4 x6 (wrap64 ((wrap64 (x7 * 10)) + (((bt x0 x8) - 48) % 256))) (wrap64 (x8 + 1)))) else (none)) else (none)) else (if x4.length < 17592186044416 then (chirographref04_arcs.l0 k x0 (x4 ++ [x7]) (wrap64 (x6 + 1)) (wrap64 (x6 + 1))) else (none))
end
def chirographref04_arcs.f (k : Nat) (a0 : ByteArray) : Option (List Int × Bool) := chirographref04_arcs.l0 k a0 ([] : List Int) 0 0
end Go.Proofs.YtkioddjjfifadaaGreatDoor.P
namespace Go.Proofs.YtkioddjjfifadaaGreatDoor.P
open Go.RowKit Go.Proofs.YtkioddjjfifadaaGreatDoorW.PrintWords Go.Proofs.YtkioddjjfifadaaGreatDoorW.PrintLast Go.Proofs.YtkioddjjfifadaaGreatDoorW.PrintMore
attribute [local go_sem] max2_int min2_int max_two min_two max_three min_three max_four min_four
set_option linter.unusedVariables false
set_option linter.unusedSimpArgs false
mutual
def chirographref04_PutOid.l0 : Nat → List Int → Int → Option (List Int × Int)
  | 0, _, _ => none
  | k + 1, x4, x6 => if x6 < (x4.length : Int) then (if 0 ≤ x6 then (if (rd x4 x6) > 2147483647 then (some (([] : List Int), 3)) else (chirographref04_PutOid.l0 k x4 (wrap64 (x6 + 1)))) else (none)) else (if 1 < (x4.length : Int) then (if 0 < (x4.length : Int) then (chirographref04_PutOid.l1 k (x4.set (1 : Int).toNat (wrap64 ((rd x4 1) + (wrap64 (40 * (rd x4 0)))))) ([] : List Int) 1) else (none)) else (none))
def chirographref04_PutOid.l1 : Nat → List Int → List Int → Int → Option (List Int × Int)
  | 0, _, _, _ => none
  | k + 1, x4, x7, x8 => if x8 < (x4.length : Int) then (if 0 ≤ x8 then (chirographref04_PutOid.l2 k x4 x7 x8 (([(Int.tmod (rd x4 x8) 128) % 256] : List Int)) (wrap64 (Int.tdiv (rd x4 x8) 128))) else (none)) else (some (x7, 0))
def chirographref04_PutOid.l2 : Nat → List Int → List Int → Int → List Int → Int → Option (List Int × Int)
  | 0, _, _, _, _, _ => none
  | k + 1, x4, x7, x8, x9, x10 => if x10 > 0 then ((some (([(wrap64 ((Int.tmod x10 128) + 128)) % 256] : List Int) : List Int)).bind fun y1009 => (if y1009.length + x9.length < 140737488355328 then (chirographref04_PutOid.l2 k x4 x7 x8 (y1009 ++ x9) (wrap64 (Int.tdiv x10 128))) else (none))) else (if x7.length + x9.length < 140737488355328 then (chirographref04_PutOid.l1 k x4 (x7 ++ x9) (wrap64 (x8 + 1))) else (none))
end
def chirographref04_PutOid.f (k : Nat) (a0 : ByteArray) : Option (List Int × Int) := (chirographref04_arcs.f k a0).bind fun bt996 => (if bt996.2 = true then (chirographref04_PutOid.l0 k bt996.1 0) else (some (([] : List Int), 6)))
end Go.Proofs.YtkioddjjfifadaaGreatDoor.P
namespace Go.Proofs.YtkioddjjfifadaaGreatDoor.P
open Go.RowKit Go.Proofs.YtkioddjjfifadaaGreatDoorW.PrintWords
theorem bt_at (s : ByteArray) (p : Nat) (h : p < s.size) : bt s (p : Int) = ((s[p]'h).toNat : Int) := by
  unfold bt
  rw [dif_pos (by simpa using h)]
  rfl
theorem dec_at (s : ByteArray) (p : Nat) (h : p < s.size) : (bt s (p : Int) < 128 → ((Utf8.decode s p).1 : Int) = bt s (p : Int) ∧ (Utf8.decode s p).2 = 1) ∧ (128 ≤ bt s (p : Int) → 128 ≤ ((Utf8.decode s p).1 : Int)) := by
  have hb := bt_at s p h
  refine ⟨fun hl => ?_, fun hg => ?_⟩
  · rw [decode_ascii s p h (by omega)]
    exact ⟨hb.symm, rfl⟩
  have e : s.get! p = s[p]'h := by
    simp [ByteArray.get!, getElem!_pos, h]
    rfl
  rw [Lib.decode_at, e]
  have hq : 128 ≤ (s[p]'h).toNat := by omega
  generalize (s[p]'h).toNat = b0 at *
  generalize s.size - p = n
  unfold Lib.decodeN
  rw [if_neg (by omega)]
  repeat' split
  all_goals (try simp only)
  all_goals omega
theorem drop_rdI (l : List Int) (i : Int) (h0 : 0 ≤ i) (h1 : i < (l.length : Int)) : l.drop i.toNat = rd l i :: l.drop (i + 1).toNat := by
  have e : (i + 1).toNat = i.toNat + 1 := by omega
  rw [e, List.drop_eq_getElem_cons (by omega)]
  congr 1
  unfold rd
  rw [List.getD_eq_getElem?_getD, List.getElem?_eq_getElem (by omega), Option.getD_some]
theorem rd_memI (l : List Int) (i : Int) (h0 : 0 ≤ i) (h1 : i < (l.length : Int)) : rd l i ∈ l := by
  have h := drop_rdI l i h0 h1
  exact List.mem_of_mem_drop (h ▸ List.mem_cons_self)
end Go.Proofs.YtkioddjjfifadaaGreatDoor.P
namespace Go.Proofs.YtkioddjjfifadaaGreatDoor.P
open Go.RowKit Go.Proofs.YtkioddjjfifadaaGreatDoorW.PrintWords
def plainC (c : Int) : Bool := c == 32 || (decide (97 ≤ Go.bits .or .u8 c 32) && decide (Go.bits .or .u8 c 32 ≤ 122))
theorem plain_loop (l : List Int) (hl : l.length ≤ 1000000) : ∀ (m k : Nat) (i : Int), 0 ≤ i → (l.length : Int) - i = m → m < k → chirographlaw07_plain.l0 k l i = some ((l.drop i.toNat).all plainC)
  | 0, k, i, h0, hm, hk => by
    obtain ⟨k1, rfl⟩ : ∃ k1, k = k1 + 1 := ⟨k - 1, by omega⟩
    rw [chirographlaw07_plain.l0, if_neg (by omega), List.drop_eq_nil_of_le (by omega)]
    rfl
  | m + 1, k, i, h0, hm, hk => by
    obtain ⟨k1, rfl⟩ : ∃ k1, k = k1 + 1 := ⟨k - 1, by omega⟩
    have ih := plain_loop l hl m k1 (i + 1) (by omega) (by omega) (by omega)
    rw [chirographlaw07_plain.l0, if_pos (by omega), if_pos h0, drop_rdI l i h0 (by omega), List.all_cons, wb (by omega) (by omega), ih]
    unfold plainC
    by_cases c0 : rd l i = 32
    · rw [if_pos c0, c0]
      simp
    · rw [if_neg c0, beq_eq_false_iff_ne.mpr c0, Bool.false_or]
      by_cases c1 : Go.bits .or .u8 (rd l i) 32 < 97
      · rw [if_pos c1, decide_eq_false (by omega), Bool.false_and, Bool.false_and]
      · rw [if_neg c1, decide_eq_true (by omega), Bool.true_and]
        by_cases c2 : Go.bits .or .u8 (rd l i) 32 > 122
        · rw [if_pos c2, decide_eq_false (by omega), Bool.false_and]
        · rw [if_neg c2, decide_eq_true (by omega), Bool.true_and]
theorem plain_eq (l : List Int) (hl : l.length ≤ 1000000) (k : Nat) (hk : l.length < k) : chirographlaw07_plain.f k l = some (l.all plainC) := plain_loop l hl l.length k 0 (Int.le_refl _) (by omega) hk
theorem plain_facts : ∀ b : Fin 256, plainC ((b.val : Nat) : Int) = true → ((b.val : Nat) : Int) < 128 ∧ (((b.val : Nat) : Int) ≠ 32 → low (Go.bits .xor .u8 ((b.val : Nat) : Int) 32) = low ((b.val : Nat) : Int) ∧ Go.bits .xor .u8 ((b.val : Nat) : Int) 32 ≠ 32 ∧ plainC (Go.bits .xor .u8 ((b.val : Nat) : Int) 32) = true ∧ 0 ≤ Go.bits .xor .u8 ((b.val : Nat) : Int) 32 ∧ Go.bits .xor .u8 ((b.val : Nat) : Int) 32 ≤ 255) ∧ text_fits.f 19 ((b.val : Nat) : Int) = some true ∧ text_fits.f 22 ((b.val : Nat) : Int) = some true := by decide +kernel
theorem plain_at (c : Int) (h0 : 0 ≤ c) (h1 : c ≤ 255) (h : plainC c = true) : c < 128 ∧ (c ≠ 32 → low (Go.bits .xor .u8 c 32) = low c ∧ Go.bits .xor .u8 c 32 ≠ 32 ∧ plainC (Go.bits .xor .u8 c 32) = true ∧ 0 ≤ Go.bits .xor .u8 c 32 ∧ Go.bits .xor .u8 c 32 ≤ 255) ∧ text_fits.f 19 c = some true ∧ text_fits.f 22 c = some true := by
  obtain ⟨n, rfl⟩ : ∃ n : Nat, c = (n : Int) := ⟨c.toNat, by omega⟩
  exact plain_facts ⟨n, by omega⟩ h
def foldP : Bool → List Int → List Int → List Int
  | _, out, [] => out
  | bl, out, c :: r => if c = 32 then foldP true out r else foldP false (foldOut bl out ++ [low c]) r
def tv (turn : List Int) (i : Int) : Int := if (turn.length : Int) > 0 then rd turn (Int.tmod i (turn.length : Int)) else 1
def stepS (c t : Int) : List Int :=
  if c = 32 then (if Int.tmod t 2 = 1 then [32, 32] else [32]) else if Int.tmod t 2 = 1 then [Go.bits .xor .u8 c 32] else [c]
def chunks (turn : List Int) : Int → List Int → List Int
  | _, [] => []
  | i, c :: r => stepS c (tv turn i) ++ chunks turn (i + 1) r
def PlainL (l : List Int) : Prop := ∀ c ∈ l, 0 ≤ c ∧ c ≤ 255 ∧ plainC c = true
theorem step_fold (c t : Int) (h : 0 ≤ c ∧ c ≤ 255 ∧ plainC c = true) (bl : Bool) (out r : List Int) : foldP bl out (stepS c t ++ r) = foldP bl out (c :: r) := by
  unfold stepS
  by_cases c0 : c = 32
  rotate_left
  · obtain ⟨h1, h2, _⟩ := (plain_at c h.1 h.2.1 h.2.2).2.1 c0
    rw [if_neg c0]
    split
    rotate_left
    · rfl
    show foldP bl out (Go.bits .xor .u8 c 32 :: r) = _
    rw [foldP, if_neg h2, foldP, if_neg c0, h1]
  rw [if_pos c0]
  split
  rotate_left
  · show foldP bl out (32 :: r) = _
    rw [foldP, if_pos rfl, foldP, if_pos c0]
  show foldP bl out (32 :: 32 :: r) = _
  rw [foldP, if_pos rfl, foldP, if_pos rfl, foldP, if_pos c0]
theorem chunks_fold (turn : List Int) : ∀ (l : List Int) (i : Int) (bl : Bool) (out : List Int), PlainL l → foldP bl out (chunks turn i l ++ [32]) = foldP bl out l
  | [], i, bl, out, _ => by
    exact (if_pos rfl : (if (32 : Int) = 32 then foldP true out [] else foldP false (foldOut bl out ++ [low 32]) []) = foldP true out [])
  | c :: r, i, bl, out, h => by
    rw [chunks, List.append_assoc, step_fold c _ (h c List.mem_cons_self), foldP, foldP]
    have hr : PlainL r := fun z hz => h z (List.mem_cons_of_mem _ hz)
    split
    · exact chunks_fold turn r (i + 1) _ _ hr
    · exact chunks_fold turn r (i + 1) _ _ hr
theorem step_plain (c t : Int) (h : 0 ≤ c ∧ c ≤ 255 ∧ plainC c = true) : PlainL (stepS c t) ∧ (stepS c t).length ≤ 2 ∧ 1 ≤ (stepS c t).length := by
  unfold stepS
  have hb : plainC 32 = true := by decide +kernel
  by_cases c0 : c = 32
  rotate_left
  · rw [if_neg c0]
    obtain ⟨_, _, h3, h4, h5⟩ := (plain_at c h.1 h.2.1 h.2.2).2.1 c0
    split
    rotate_left
    · refine ⟨fun z hz => ?_, by simp, by simp⟩
      obtain rfl := List.mem_singleton.1 hz
      exact h
    refine ⟨fun z hz => ?_, by simp, by simp⟩
    obtain rfl := List.mem_singleton.1 hz
    exact ⟨h4, h5, h3⟩
  rw [if_pos c0]
  split
  rotate_left
  · refine ⟨fun z hz => ?_, by simp, by simp⟩
    obtain rfl := List.mem_singleton.1 hz
    exact ⟨by decide, by decide, hb⟩
  refine ⟨fun z hz => ?_, by simp, by simp⟩
  simp only [List.mem_cons, List.not_mem_nil, or_false, or_self] at hz
  subst hz
  exact ⟨by decide, by decide, hb⟩
theorem chunks_plain (turn : List Int) : ∀ (l : List Int) (i : Int), PlainL l → PlainL (chunks turn i l) ∧ (chunks turn i l).length ≤ 2 * l.length
  | [], i, _ => ⟨fun z hz => (by cases hz), Nat.le_refl _⟩
  | c :: r, i, h => by
    obtain ⟨h1, h2, _⟩ := step_plain c (tv turn i) (h c List.mem_cons_self)
    obtain ⟨h3, h4⟩ := chunks_plain turn r (i + 1) fun z hz => h z (List.mem_cons_of_mem _ hz)
    rw [chunks]
    refine ⟨fun z hz => ?_, ?_⟩
    · rcases List.mem_append.1 hz with hz | hz
      · exact h1 z hz
      · exact h3 z hz
    · rw [List.length_append, List.length_cons]
      omega
def turnedS (turn d : List Int) : List Int := chunks turn 0 d ++ [32]
theorem turnedS_plain (turn d : List Int) (h : PlainL d) : PlainL (turnedS turn d) ∧ (turnedS turn d).length ≤ 2 * d.length + 1 := by
  obtain ⟨h1, h2⟩ := chunks_plain turn d 0 h
  unfold turnedS
  refine ⟨fun z hz => ?_, by rw [List.length_append]; simp only [List.length_cons, List.length_nil]; omega⟩
  rcases List.mem_append.1 hz with hz | hz
  · exact h1 z hz
  obtain rfl := List.mem_singleton.1 hz
  exact ⟨by decide, by decide, by decide +kernel⟩
theorem turned_loop (turn d : List Int) (hd : d.length ≤ 1000000) (hp : PlainL d) (ht : ∀ x ∈ turn, 0 ≤ x ∧ x ≤ 255) (htl : turn.length ≤ 140737488355328) : ∀ (m k : Nat) (i : Int) (acc : List Int), 0 ≤ i → (d.length : Int) - i = m → 4 * m + 5 ≤ k → acc.length + 2 * m ≤ 10000000 →
    chirographlaw07_turned.l0 k d turn acc i = some (acc ++ chunks turn i (d.drop i.toNat) ++ [32])
  | 0, k, i, acc, h0, hm, hk, ha => by
    obtain ⟨k1, rfl⟩ : ∃ k1, k = k1 + 1 := ⟨k - 1, by omega⟩
    rw [chirographlaw07_turned.l0, if_neg (by omega), if_pos (by omega), List.drop_eq_nil_of_le (by omega), chunks, List.append_nil]
  | m + 1, k, i, acc, h0, hm, hk, ha => by
    obtain ⟨k1, rfl⟩ : ∃ k1, k = k1 + 4 := ⟨k - 4, by omega⟩
    obtain ⟨q0, q1, q2⟩ := hp _ (rd_memI d i h0 (by omega))
    obtain ⟨s1, s2, s3⟩ := step_plain (rd d i) (tv turn i) ⟨q0, q1, q2⟩
    have ih := turned_loop turn d hd hp ht htl m k1 (i + 1) (acc ++ stepS (rd d i) (tv turn i)) (by omega) (by omega) (by omega) (by rw [List.length_append]; omega)
    have ih2 := turned_loop turn d hd hp ht htl m (k1 + 1) (i + 1) (acc ++ stepS (rd d i) (tv turn i)) (by omega) (by omega) (by omega) (by rw [List.length_append]; omega)
    rw [drop_rdI d i h0 (by omega), chunks, ← List.append_assoc]
    have hw : wrap64 (i + 1) = i + 1 := wb (by omega) (by omega)
    have hj : chirographlaw07_turned.j1 (k1 + 3) d turn acc i (tv turn i) = some (acc ++ stepS (rd d i) (tv turn i) ++ chunks turn (i + 1) (d.drop (i + 1).toNat) ++ [32]) := by
      rw [chirographlaw07_turned.j1, if_pos h0, if_pos (by omega)]
      unfold stepS at ih ih2 ⊢
      by_cases c0 : rd d i = 32
      · rw [if_pos c0] at ih ih2 ⊢
        rw [if_pos c0, chirographlaw07_turned.j2, if_neg (by decide), if_pos (by omega), Option.bind_some, if_pos c0, c0]
        by_cases c1 : Int.tmod (tv turn i) 2 = 1
        · rw [if_pos c1] at ih ih2 ⊢
          rw [if_pos c1, if_pos (by rw [List.length_append]; simp only [List.length_cons, List.length_nil]; omega), hw, List.append_assoc]
          exact ih2
        · rw [if_neg c1] at ih ih2 ⊢
          rw [if_neg c1, hw]
          exact ih2
      · obtain ⟨_, f2, _⟩ := (plain_at _ q0 q1 q2).2.1 c0
        rw [if_neg c0] at ih ih2 ⊢
        rw [if_neg c0, chirographlaw07_turned.j2]
        by_cases c1 : Int.tmod (tv turn i) 2 = 1
        · rw [if_pos c1] at ih ih2 ⊢
          rw [beq_iff_eq.mpr c1, if_pos rfl, if_pos (by omega), Option.bind_some, if_neg f2, hw]
          exact ih2
        · rw [if_neg c1] at ih ih2 ⊢
          rw [beq_eq_false_iff_ne.mpr c1, if_neg (by decide), if_pos (by omega), Option.bind_some, if_neg c0, hw]
          exact ih2
    rw [chirographlaw07_turned.l0, if_pos (by omega)]
    by_cases c : (turn.length : Int) > 0
    · have e : tv turn i = rd turn (Int.tmod i (turn.length : Int)) := if_pos c
      have t0 : 0 ≤ Int.tmod i (turn.length : Int) := Int.tmod_nonneg _ h0
      have t1 : Int.tmod i (turn.length : Int) < (turn.length : Int) := Int.tmod_lt_of_pos _ c
      rw [e] at hj
      rw [if_pos c, if_neg (by omega), if_pos t0, if_pos t1, hj, e]
    · have e : tv turn i = 1 := if_neg c
      rw [e] at hj
      rw [if_neg c, hj, e]
theorem turned_eq (turn d : List Int) (hd : d.length ≤ 1000000) (hp : PlainL d) (ht : ∀ x ∈ turn, 0 ≤ x ∧ x ≤ 255) (htl : turn.length ≤ 140737488355328) (k : Nat) (hk : 4 * d.length + 5 ≤ k) : chirographlaw07_turned.f k d turn = some (turnedS turn d) := by
  unfold chirographlaw07_turned.f turnedS
  have := turned_loop turn d hd hp ht htl d.length k 0 [] (Int.le_refl _) (by omega) hk (by simp only [List.length_nil]; omega)
  rw [show (0 : Int).toNat = 0 from rfl, List.drop_zero, List.nil_append] at this
  exact this
theorem sn_bt (l : List Int) (hb : PlainL l) (p : Nat) (h : p < l.length) : bt (strOfNums l) (p : Int) = rd l (p : Int) := by
  have hs : (strOfNums l).size = l.length := strOfNums_size l
  rw [bt_at _ p (by omega)]
  have hm := rd_memI l (p : Int) (by omega) (by omega)
  obtain ⟨b0, b1, _⟩ := hb _ hm
  have e : rd l (p : Int) = l[p] := by
    unfold rd
    rw [Int.toNat_natCast, List.getD_eq_getElem?_getD, List.getElem?_eq_getElem h, Option.getD_some]
  have e2 : ((strOfNums l)[p]'(by omega)) = UInt8.ofNat (l[p]).toNat := by
    show ((strOfNums l).data[p]'_) = _
    unfold strOfNums
    simp
  rw [e2, e, UInt8.toNat_ofNat_of_lt' (by show (l[p]).toNat < 256; omega)]
  omega
theorem low_rng (c : Int) (h0 : 0 ≤ c) (h1 : c < 128) : 0 ≤ low c ∧ low c < 128 := by
  unfold low
  split <;> omega
theorem fold_plain (l : List Int) (hb : PlainL l) : ∀ (m f p : Nat) (bl : Bool) (out : List Int), l.length - p = m → m < f → p ≤ l.length → foldGo (strOfNums l) f p bl out = foldP bl out (l.drop p)
  | 0, f, p, bl, out, hm, hf, hp => by
    obtain ⟨f1, rfl⟩ : ∃ f1, f = f1 + 1 := ⟨f - 1, by omega⟩
    have hs : (strOfNums l).size = l.length := strOfNums_size l
    rw [foldGo, if_neg (by omega), List.drop_eq_nil_of_le (by omega), foldP]
  | m + 1, f, p, bl, out, hm, hf, hp => by
    obtain ⟨f1, rfl⟩ : ∃ f1, f = f1 + 1 := ⟨f - 1, by omega⟩
    have hs : (strOfNums l).size = l.length := strOfNums_size l
    have hp2 : p < l.length := by omega
    obtain ⟨b0, b1, b2⟩ := hb _ (rd_memI l (p : Int) (by omega) (by omega))
    obtain ⟨c0, _⟩ := plain_at _ b0 b1 b2
    have hbt := sn_bt l hb p hp2
    obtain ⟨d1, d2⟩ := (dec_at (strOfNums l) p (by omega)).1 (by rw [hbt]; exact c0)
    have hd := drop_rdI l (p : Int) (by omega) (by omega)
    rw [Int.toNat_natCast, show ((p : Int) + 1).toNat = p + 1 by omega] at hd
    rw [hbt] at d1
    rw [foldGo, if_pos (by omega), d1, d2, hd, foldP]
    by_cases c : rd l (p : Int) = 32
    · rw [if_pos c, if_pos c]
      exact fold_plain l hb m f1 (p + 1) true out (by omega) (by omega) (by omega)
    · obtain ⟨g0, g1⟩ := low_rng _ b0 c0
      rw [if_neg c, if_neg c, if_neg (by omega), Lib.encodeRuneZ_one g0 (by omega)]
      exact fold_plain l hb m f1 (p + 1) false _ (by omega) (by omega) (by omega)
end Go.Proofs.YtkioddjjfifadaaGreatDoor.P
namespace Go.Proofs.YtkioddjjfifadaaGreatDoor.P
open Go.RowKit Go.Proofs.YtkioddjjfifadaaGreatDoorW.PrintWords
theorem plain_bytes {l : List Int} (h : PlainL l) : l.all isByte = true := List.all_eq_true.2 fun y hy => by
  obtain ⟨h0, h1, _⟩ := h y hy
  simp only [isByte, Bool.and_eq_true, decide_eq_true_eq]
  exact ⟨h0, h1⟩
theorem tl_plain (a : Int) (ha : a = 19 ∨ a = 22) (l : List Int) (hl : l.length ≤ 1000000) (hp : PlainL l) : ∀ (m k : Nat) (i : Int), 0 ≤ i → (l.length : Int) - i = m → m < k → text_Text.l0 k a l l (l.length : Int) i = some (strOfNums l, 0)
  | 0, k, i, h0, hm, hk => by
    obtain ⟨k1, rfl⟩ : ∃ k1, k = k1 + 1 := ⟨k - 1, by omega⟩
    rw [text_Text.l0, if_neg (by omega)]
  | m + 1, k, i, h0, hm, hk => by
    obtain ⟨k1, rfl⟩ : ∃ k1, k = k1 + 1 := ⟨k - 1, by omega⟩
    obtain ⟨b0, b1, b2⟩ := hp _ (rd_memI l i h0 (by omega))
    obtain ⟨_, _, f19, f22⟩ := plain_at _ b0 b1 b2
    have hf : text_fits.f a (rd l i) = some true := by
      rcases ha with rfl | rfl
      · exact f19
      · exact f22
    rw [text_Text.l0, if_pos (by omega), if_pos h0, if_pos (by omega), hf, Option.bind_some, if_pos rfl, wb (by omega) (by omega)]
    exact tl_plain a ha l hl hp m k1 (i + 1) (by omega) (by omega) (by omega)
theorem valid_plain (l : List Int) (hp : PlainL l) : Lib.validD (strOfNums l).data.toList = true := by
  have h := Lib.validD_ascii (strOfNums l).data.toList.length (strOfNums l).data.toList (fun b hb => by
    rw [List.take_length] at hb
    unfold strOfNums at hb
    obtain ⟨z, hz, rfl⟩ := List.mem_map.1 (by simpa using hb)
    obtain ⟨b0, b1, b2⟩ := hp z hz
    obtain ⟨c0, _⟩ := plain_at z b0 b1 b2
    rw [UInt8.toNat_ofNat_of_lt' (by show z.toNat < 256; omega)]
    omega)
  rw [h, List.drop_length]
  rfl
theorem text_plain (a : Int) (ha : a = 12 ∨ a = 19 ∨ a = 22) (l : List Int) (hl : l.length ≤ 1000000) (hp : PlainL l) (k : Nat) (hk : l.length + 2 ≤ k) : text_Text.f k a l = some (strOfNums l, 0) := by
  obtain ⟨k1, rfl⟩ : ∃ k1, k = k1 + 1 := ⟨k - 1, by omega⟩
  unfold text_Text.f
  rcases ha with rfl | rfl | rfl
  · rw [if_neg (by decide), if_pos rfl]
    unfold utf8_Valid.f
    rw [if_pos ⟨plain_bytes hp, by omega⟩, Option.bind_some, valid_plain l hp, if_pos rfl]
  rotate_left
  · rw [if_neg (by decide), if_neg (by decide), if_neg (by decide), if_neg (by decide), if_pos rfl, text_Text.j0, if_pos (by decide)]
    exact tl_plain 22 (Or.inr rfl) l hl hp l.length k1 0 (Int.le_refl _) (by omega) (by omega)
  rw [if_neg (by decide), if_neg (by decide), if_neg (by decide), if_pos rfl, text_Text.j0, if_pos (by decide)]
  exact tl_plain 19 (Or.inl rfl) l hl hp l.length k1 0 (Int.le_refl _) (by omega) (by omega)
theorem foldGo_fuel (s : ByteArray) : ∀ (f p : Nat) (bl : Bool) (out : List Int), s.size ≤ f + p → foldGo s f p bl out = foldGo s (f + 1) p bl out
  | 0, p, bl, out, h => by
    rw [foldGo, foldGo, if_neg (by omega)]
  | f + 1, p, bl, out, h => by
    rw [foldGo, foldGo]
    by_cases c : p < s.size
    · obtain ⟨n1, _, _⟩ := decode_width s p c
      rw [if_pos c, if_pos c]
      split
      · exact foldGo_fuel s f _ _ _ (by omega)
      · split
        · exact foldGo_fuel s f _ _ _ (by omega)
        · exact foldGo_fuel s f _ _ _ (by omega)
    · rw [if_neg c, if_neg c]
theorem key_plain (a : Int) (ha : a = 12 ∨ a = 19 ∨ a = 22) (l m : List Int) (hl : l.length ≤ 100000) (hm : m.length ≤ 100000) (hp : PlainL l) (hq : PlainL m) (h : foldP false [] l = foldP false [] m) (k : Nat) (hk : l.length + 2 ≤ k) (hk2 : m.length + 2 ≤ k) : text_Key.f k a l = text_Key.f k a m := by
  have s1 : (strOfNums l).size = l.length := strOfNums_size l
  have s2 : (strOfNums m).size = m.length := strOfNums_size m
  have e1 : text_Fold.f (strOfNums l) = text_Fold.f (strOfNums m) := by
    unfold text_Fold.f
    rw [if_pos (by omega), if_pos (by omega), s1, s2]
    have f1 : foldGo (strOfNums l) l.length 0 false [] = foldP false [] l := by
      cases l with
      | nil => rfl
      | cons c r =>
        have := fold_plain (c :: r) hp (c :: r).length ((c :: r).length + 1) 0 false [] (by omega) (by omega) (Nat.zero_le _)
        rw [List.drop_zero] at this
        rw [← this]
        exact foldGo_fuel _ _ _ _ _ (by rw [s1]; omega)
    have f2 : foldGo (strOfNums m) m.length 0 false [] = foldP false [] m := by
      cases m with
      | nil => rfl
      | cons c r =>
        have := fold_plain (c :: r) hq (c :: r).length ((c :: r).length + 1) 0 false [] (by omega) (by omega) (Nat.zero_le _)
        rw [List.drop_zero] at this
        rw [← this]
        exact foldGo_fuel _ _ _ _ _ (by rw [s2]; omega)
    rw [f1, f2, h]
  unfold text_Key.f
  rw [text_plain a ha l (by omega) hp k hk, text_plain a ha m (by omega) hq k hk2, Option.bind_some, Option.bind_some, if_pos rfl, if_pos rfl, e1]
def tagT (a : Int) : Bool := a == 12 || a == 19 || a == 22
def turnP (turn : List Int) (p : S64) : S64 := if tagT p.f1 = true then (if p.f2.all plainC = true then ⟨p.f0, p.f1, turnedS turn p.f2⟩ else p) else p
def turnN (turn : List Int) (n : List (List S64)) : List (List S64) := n.map fun s => s.reverse.map (turnP turn)
theorem plainL_of {l : List Int} (h1 : l.all isByte = true) (h2 : l.all plainC = true) : PlainL l := fun c hc => by
  have b := List.all_eq_true.1 h1 c hc
  simp only [isByte, Bool.and_eq_true, decide_eq_true_eq] at b
  exact ⟨b.1, b.2, List.all_eq_true.1 h2 c hc⟩
theorem turnP_good (turn : List Int) (p : S64) (h : GoodP p) : Good8 (turnP turn p) ∧ itemB (turnP turn p) = itemB p := by
  obtain ⟨g1, g2, g3, g4, g5⟩ := h
  unfold turnP
  by_cases c : tagT p.f1 = true
  rotate_left
  · rw [if_neg c]
    exact ⟨⟨by omega, by omega, g3, g4, g5⟩, rfl⟩
  rw [if_pos c]
  by_cases c2 : p.f2.all plainC = true
  rotate_left
  · rw [if_neg c2]
    exact ⟨⟨by omega, by omega, g3, g4, g5⟩, rfl⟩
  rw [if_pos c2]
  have hp := plainL_of g3 c2
  obtain ⟨h1, h2⟩ := turnedS_plain turn p.f2 hp
  refine ⟨⟨by show p.f0.size ≤ 20000; omega, by show (turnedS turn p.f2).length ≤ 20000; omega, plain_bytes h1, g4, g5⟩, ?_⟩
  have ha : p.f1 = 12 ∨ p.f1 = 19 ∨ p.f1 = 22 := by
    unfold tagT at c
    simp only [Bool.or_eq_true, beq_iff_eq] at c
    rcases c with (c | c) | c
    · exact Or.inl c
    rotate_left
    · exact Or.inr (Or.inr c)
    exact Or.inr (Or.inl c)
  have hf : foldP false [] (turnedS turn p.f2) = foldP false [] p.f2 := chunks_fold turn p.f2 0 false [] hp
  have hk : keyB ⟨p.f0, p.f1, turnedS turn p.f2⟩ = keyB p := by
    unfold keyB
    rw [key_plain p.f1 ha (turnedS turn p.f2) p.f2 (by omega) (by omega) h1 hp hf 20010 (by omega) (by omega)]
  unfold itemB
  rw [hk]
theorem keyBytes_turn (turn : List Int) (n : List (List S64)) (h : ∀ s ∈ n, ∀ p ∈ s, GoodP p) : keyBytes (turnN turn n) = keyBytes n := by
  unfold keyBytes turnN
  rw [List.map_map]
  congr 1
  refine List.map_congr_left fun s hs => ?_
  simp only [Function.comp]
  have e : markB (s.reverse.map (turnP turn)) = markB s := by
    unfold markB
    rw [List.map_map]
    have : s.reverse.map (itemB ∘ turnP turn) = s.reverse.map itemB := List.map_congr_left fun p hp => (turnP_good turn p (h s hs p (List.mem_reverse.1 hp))).2
    rw [this]
    unfold finB
    rw [sortB_perm ((List.reverse_perm s).map itemB)]
  rw [e]
end Go.Proofs.YtkioddjjfifadaaGreatDoor.P
namespace Go.Proofs.YtkioddjjfifadaaGreatDoor.P
open Go.RowKit Go.Proofs.YtkioddjjfifadaaGreatDoorW.PrintWords Go.Proofs.YtkioddjjfifadaaGreatDoorW.PrintLast Go.Proofs.YtkioddjjfifadaaGreatDoorW.PrintMore
attribute [local go_sem] max2_int min2_int max_two min_two max_three min_three max_four min_four
set_option linter.unusedVariables false
set_option linter.unusedSimpArgs false
def name_Within.f (k : Nat) (l0 : List (List (S64))) (l1 : List (List (S64))) : Option (Bool) := if (l0.length : Int) ≥ (l1.length : Int) then (if 0 ≤ (l1.length : Int) then (if (l1.length : Int) ≤ (l0.length : Int) then ((name_Same.f k (l0.take ((l1.length : Int) : Int).toNat) l1).bind fun t483 => (some t483)) else (none)) else (none)) else (some false)
set_option maxHeartbeats 8000000 in
set_option maxRecDepth 100000 in
theorem name_Within.calls (k : Nat) (A0 : Option Addr) (c0 : Nat) (l0 : List (List (S64))) (A1 : Option Addr) (c1 : Nat) (l1 : List (List (S64))) (r : Bool) (w : World) (hr0 : Kd.C (Kd.slice 64 k64) w A0 l0.length l0) (hc0 : l0.length ≤ c0) (hr1 : Kd.C (Kd.slice 64 k64) w A1 l1.length l1) (hc1 : l1.length ≤ c1) (h : name_Within.f k l0 l1 = some r) (hT : Tb w) :
    Calls Tryz.prog 49 #[.slice A0 l0.length c0, .slice A1 l1.length c1] w fun e w' => e = .returned (.bool r) ∧ Below w.heap.size w w' := by
  have HR0 := Aside0.mk hr0
  have HC0 := Aside0.mk hc0
  clear hr0 hc0
  have HR1 := Aside0.mk hr1
  have HC1 := Aside0.mk hc1
  clear hr1 hc1
  have HB := Aside0.mk (Below.refl w.heap.size w)
  have HTb := Aside0.mk hT
  clear hT
  have H : (if (l0.length : Int) ≥ (l1.length : Int) then (if 0 ≤ (l1.length : Int) then (if (l1.length : Int) ≤ (l0.length : Int) then ((name_Same.f k (l0.take ((l1.length : Int) : Int).toNat) l1).bind fun t483 => (some t483)) else (none)) else (none)) else (some false)) = some r := h
  clear h
  by_cases c3 : (l0.length : Int) ≥ (l1.length : Int)
  rotate_left
  · rw [if_neg c3] at H
    have c3b0 : decide ((l1.length : Int) ≤ (l0.length : Int)) = false := decide_eq_false c3
    have c3b1 : decide (l1.length ≤ l0.length) = false := decide_eq_false (fun h => c3 (Int.ofNat_le.mpr h))
    clear c3
    obtain rfl := Option.some.inj H
    go_enter Tryz.func49, Tryz.ntmps49
    go_wp2
    go_ret
    exact ⟨by first | rfl | (simp [errW_none, errW_some] <;> rfl), bU HB.out⟩
  rw [if_pos c3] at H
  have c3b0 : decide ((l1.length : Int) ≤ (l0.length : Int)) = true := decide_eq_true c3
  have c3b1 : decide (l1.length ≤ l0.length) = true := decide_eq_true (Int.ofNat_le.mp c3)
  clear c3
  by_cases c4 : 0 ≤ (l1.length : Int)
  rotate_left
  · rw [if_neg c4] at H
    exact absurd H (by simp)
  rw [if_pos c4] at H
  have c4b0 := eq_true c4
  have c4b1 : decide (0 ≤ (l1.length : Int)) = true := decide_eq_true c4
  clear c4
  by_cases c5 : (l1.length : Int) ≤ (l0.length : Int)
  rotate_left
  · rw [if_neg c5] at H
    exact absurd H (by simp)
  rw [if_pos c5] at H
  have c5b0 := eq_true c5
  have c5b1 : decide ((l1.length : Int) ≤ (l0.length : Int)) = true := decide_eq_true c5
  clear c5
  obtain ⟨y479, hy479⟩ : ∃ y_ : List (List (S64)), y_ = (l0.take ((l1.length : Int) : Int).toNat) := ⟨_, rfl⟩
  replace H : ((name_Same.f k y479 l1).bind fun t483 => (some t483)) = some r := by first | (rw [hy479]; with_reducible exact H) | (have H2_ := (Option.bind_some _ _).symm.trans H; rw [hy479]; with_reducible exact H2_) | (have H2_ := (Option.bind_some _ _).symm.trans H; with_reducible exact H2_) | with_reducible exact H | (rw [hy479]; exact H) | exact H
  have Ny479 := Aside0.mk hy479
  clear hy479
  replace H := Option.bind_eq_some_iff.mp H
  obtain ⟨t483, A60, H⟩ := H
  try dsimp only at H
  have A6 := Aside0.mk A60
  clear A60
  obtain rfl := Option.some.inj H
  have q7 : ((l1.length : Int) : Int) ≤ ((l0.length : Int) : Int) := of_decide_eq_true (by first | (with_reducible assumption) | assumption)
  obtain ⟨i07, hi07, _, hsz7, _⟩ := info_parts info62
  have hroom7 : l0.length ≤ c0 := HC0.out
  have hC7 : Kd.C (Kd.slice 64 k64) _ A0 l0.length l0 := HR0.out
  have hcut7 := cut_to (P := Tryz.prog) 23 62 .i64 Tryz.underlying23 hi07 A0 l0.length c0 (l1.length : Int) (of_decide_eq_true (by first | (with_reducible assumption) | assumption)) q7 hroom7
  have hr7 := Kd.C_take (m := ((l1.length : Int) : Int).toNat) hC7 (by omega)
  have hy7 : y479.length = ((l1.length : Int) : Int).toNat := (by rw [Ny479.out, List.length_take]; omega)
  rw [← Ny479.out] at hr7
  rw [← hy7] at hcut7
  have HR482 := Aside0.mk hr7
  have HC482 := Aside0.mk (show y479.length ≤ c0 from by omega)
  clear hr7 hC7 hroom7 hi07 hsz7
  have KY7 := Aside0.mk hy7
  clear hy7
  replace q7 := eq_true q7
  go_enter Tryz.func49, Tryz.ntmps49
  go_wp2_with (first | (go_at_call 45; (with_reducible refine (name_Same.calls k _ _ y479 _ _ l1 t483 _ ?side1 ?side2 ?side3 ?side4 A6.out (Tb.below HTb.out (bU HB.out))).mono ?_); (case side1 => exact Kd.C_u HR482.out); (case side2 => exact HC482.out); (case side3 => exact Kd.C_u HR1.out); (case side4 => exact HC1.out); rintro e w8 ⟨rfl, hb⟩; have n0_ := Aside0.mk (below_step (bU HB.out) hb); replace HB := n0_; clear n0_; (try clear hb); (try clear hb2); (try clear hk); (try clear hi)))
  go_ret
  exact ⟨by first | rfl | (simp [errW_none, errW_some] <;> rfl), bU HB.out⟩
end Go.Proofs.YtkioddjjfifadaaGreatDoor.P
namespace Go.Proofs.YtkioddjjfifadaaGreatDoor.P
open Go.RowKit Go.Proofs.YtkioddjjfifadaaGreatDoorW.PrintWords Go.Proofs.YtkioddjjfifadaaGreatDoorW.PrintMore
theorem goodP_8 {p : S64} (h : GoodP p) : Good8 p := ⟨by have := h.1; omega, by have := h.2.1; omega, h.2.2.1, h.2.2.2.1, h.2.2.2.2⟩
theorem turn_all (turn : List Int) (n : List (List S64)) (hn : n.length ≤ 200) (hs : ∀ s ∈ n, s.length ≤ 200) (h : ∀ s ∈ n, ∀ p ∈ s, GoodP p) (k : Nat) (hk : 20300 ≤ k) :
    name_Same.f k n (turnN turn n) = some true ∧ (∃ b, name_Key.f k n = some b ∧ name_Key.f k (turnN turn n) = some b) ∧ name_Within.f k n (turnN turn n) = some true ∧ (turnN turn n).length = n.length := by
  have hl : (turnN turn n).length = n.length := by unfold turnN; rw [List.length_map]
  have g1 : ∀ s ∈ n, s.length ≤ 200 ∧ ∀ p ∈ s, Good8 p := fun s q => ⟨hs s q, fun p hp => goodP_8 (h s q p hp)⟩
  have g2 : ∀ s ∈ turnN turn n, s.length ≤ 200 ∧ ∀ p ∈ s, Good8 p := fun s q => by
    obtain ⟨t, ht, rfl⟩ := List.mem_map.1 q
    refine ⟨by rw [List.length_map, List.length_reverse]; exact hs t ht, fun p hp => ?_⟩
    obtain ⟨p0, h0, rfl⟩ := List.mem_map.1 hp
    exact (turnP_good turn p0 (h t ht p0 (List.mem_reverse.1 h0))).1
  have e := keyBytes_turn turn n h
  have hsame := same_at k hk n (turnN turn n) hn (by omega) g1 g2 e.symm
  refine ⟨hsame, ⟨_, key_at k hk n hn g1, ?_⟩, ?_, hl⟩
  · rw [← e]
    exact key_at k hk (turnN turn n) (by omega) g2
  unfold name_Within.f
  rw [hl, if_pos (Int.le_refl _), if_pos (by omega), if_pos (Int.le_refl _)]
  have e2 : n.take ((n.length : Int).toNat) = n := by rw [Int.toNat_natCast, List.take_length]
  rw [e2, hsame]
  rfl
end Go.Proofs.YtkioddjjfifadaaGreatDoor.P
namespace Go.Proofs.YtkioddjjfifadaaGreatDoor.P
open Go.RowKit Go.Proofs.YtkioddjjfifadaaGreatDoorW.PrintWords Go.Proofs.YtkioddjjfifadaaGreatDoorW.PrintLast Go.Proofs.YtkioddjjfifadaaGreatDoorW.PrintMore
def ltL (a b : List Int) : Bool := Op.bytesLess (strOfNums a).toList (strOfNums b).toList
def bub : Nat → List (List Int) → List (List Int)
  | 0, l => l
  | k + 1, l => if ltL (l.getD (k + 1) []) (l.getD k []) = true then bub k ((l.set (k + 1) (l.getD k [])).set k (l.getD (k + 1) [])) else l
def insL (out : List (List Int)) (x : List Int) : List (List Int) := bub out.length (out ++ [x])
def sortedL (l : List (List Int)) : List (List Int) := l.foldl insL []
def chirographref07_sorted.f (l : List (List Int)) : Option (List (List Int)) := if l.length ≤ 1000000 then some (sortedL l) else none
end Go.Proofs.YtkioddjjfifadaaGreatDoor.P
set_option linter.unusedVariables false
namespace Go.Proofs.YtkioddjjfifadaaGreatDoor.P
open Go.RowKit Go.Proofs.YtkioddjjfifadaaGreatDoorW.PrintWords Go.Proofs.YtkioddjjfifadaaGreatDoorW.PrintLast Go.Proofs.YtkioddjjfifadaaGreatDoorW.PrintMore
theorem run_bytesSl {P : Program} {w : World} {A : Option Addr} {n c : Nat} {xs : List Int} (h : (Kd.int .u8).C w A n xs) : (Extern.Bytes.bytesOf (.slice A n c)).run P w = .ok ⟨(Lib.bytesOf xs).toArray⟩ w := by
  have hn : xs.length = n := h.1
  cases A with
  | none =>
    have : xs = [] := by
      rcases Nat.eq_zero_or_pos n with h0 | h0
      · exact List.eq_nil_of_length_eq_zero (hn.trans h0)
      obtain ⟨ad, e, _⟩ := h.2.2 h0
      cases e
    subst this
    rfl
  | some a =>
    have hr := Kd.reads_of_C (d := (0 : Int)) h
    have hl := Lib.run_loadBytesX (P := P) w xs a .empty (fun j x hj => by
      have hjl : j < xs.length := (List.getElem?_eq_some_iff.1 hj).1
      obtain ⟨ad, e, hc⟩ := hr.2.2 (by omega)
      cases e
      have h2 := hc j (by omega)
      rw [List.getD_eq_getElem?_getD, hj] at h2
      exact h2)
    rw [hn] at hl
    have he : (⟨ByteArray.empty.data ++ (Lib.bytesOf xs).toArray⟩ : ByteArray) = ⟨(Lib.bytesOf xs).toArray⟩ := by
      apply ByteArray.ext
      show (#[] : Array UInt8) ++ (Lib.bytesOf xs).toArray = (Lib.bytesOf xs).toArray
      simp
    rw [he] at hl
    exact hl
theorem run_compareSl {P : Program} {w : World} {A B : Option Addr} {n c m d : Nat} {xs ys : List Int} (h : (Kd.int .u8).C w A n xs) (h2 : (Kd.int .u8).C w B m ys) :
    (Extern.BytealgCompare.compare #[.slice A n c, .slice B m d]).run P w = .ok (.int .i64 (Lib.compareBytes (Lib.bytesOf xs) (Lib.bytesOf ys))) w := by
  change Sem.run P (do pure (goInt (Extern.BytealgCompare.cmp (← Extern.Bytes.bytesOf (.slice A n c)) (← Extern.Bytes.bytesOf (.slice B m d))))) w = _
  simp only [Sem.run_bind, run_bytesSl h, run_bytesSl h2, Sem.run_pure, Result.andThen]
  rw [Lib.cmp_eq]
  rfl
theorem bytes_Compare_calls (A B : Option Addr) (n c m d : Nat) (xs ys : List Int) (w : World) (h : (Kd.int .u8).C w A n xs) (h2 : (Kd.int .u8).C w B m ys) :
    Calls Tryz.prog 151 #[.slice A n c, .slice B m d] w fun e w' => e = .returned (.int .i64 (Lib.compareBytes (Lib.bytesOf xs) (Lib.bytesOf ys))) ∧ w' = w := by
  have h8 := @run_callFunc_extern Tryz.prog 202 _ Extern.BytealgCompare.compare Tryz.func202 (by kernel_rfl) (by kernel_rfl) (by kernel_rfl) (by kernel_rfl)
  have hr := run_compareSl (P := Tryz.prog) (c := c) (d := d) h h2
  clear h h2
  generalize Lib.compareBytes (Lib.bytesOf xs) (Lib.bytesOf ys) = R at *
  go_enter Tryz.func151, Tryz.ntmps151
  go_wp2
  go_ret
  exact ⟨rfl, rfl⟩
theorem long_calls (A : Option Addr) (n c : Nat) (w : World) : Calls Tryz.prog 148 #[.slice A n c] w fun e w' => e = .returned (.bool (decide (64 < (n : Int)))) ∧ w' = w := by
  go_enter Tryz.func148, Tryz.ntmps148
  go_wp2
  go_ret
  exact ⟨rfl, rfl⟩
def longL (l : List (List S64)) : Bool := l.any fun s => decide (64 < (s.length : Int))
def IdxPost (l : List (List S64)) (w : World) (e : Ending) (w' : World) : Prop := ∃ i : Int, e = .returned (.int .i64 i) ∧ decide (0 ≤ i) = longL l ∧ w' = w
theorem longL_take (l : List (List S64)) (j : Nat) (hj : j < l.length) : longL (l.take (j + 1)) = (longL (l.take j) || decide (64 < ((rd_L5 l (j : Int)).length : Int))) := by
  unfold longL
  rw [List.take_succ_eq_append_getElem hj, List.any_append]
  congr 1
  simp only [List.any_cons, List.any_nil, Bool.or_false]
  have : rd_L5 l (j : Int) = l[j] := by
    show l.getD (j : Int).toNat [] = l[j]
    rw [Int.toNat_natCast, List.getD_eq_getElem?_getD, List.getElem?_eq_getElem hj]; rfl
  rw [this]
set_option maxRecDepth 100000 in
set_option maxHeartbeats 4000000 in
theorem index_long (A0 : Option Addr) (c0 : Nat) (l0 : List (List S64)) (w : World) (hr0 : Kd.C (Kd.slice 64 k64) w A0 l0.length l0) (hl : l0.length < 4611686018427387904) :
    Calls Tryz.prog 198 #[.slice A0 l0.length c0, .func (.func 148) #[] #[]] w (IdxPost l0 w) := by
  have HR0 := Aside0.mk hr0
  have HL := Aside0.mk hl
  clear hr0 hl
  go_enter Tryz.func198, Tryz.ntmps198
  go_wp2
  go_loopg [8] (l0.length + 1) (fun kq v8 w' => ∃ (j : Nat), v8 = .int .i64 (j : Int) ∧ Aside0 (j ≤ l0.length ∧ l0.length < kq + j) ∧ Aside0 (longL (l0.take j) = false) ∧ w' = w)
  case atStart => exact ⟨0, rfl, ⟨⟨Nat.zero_le _, by omega⟩⟩, ⟨rfl⟩, rfl⟩
  case round =>
    obtain ⟨j, rfl, HJ, HF, rfl⟩ := hrel
    cases gk with
    | zero => exact absurd HJ.out (by omega)
    | succ g1 =>
      by_cases hj : j < l0.length
      rotate_left
      · have c1 : decide ((j : Int) < (l0.length : Int)) = false := decide_eq_false (by omega)
        go_wp2
        go_ret
        refine ⟨_, rfl, ?_, rfl⟩
        have := HF.out
        rw [List.take_of_length_le (by omega)] at this
        rw [this]
        rfl
      have c1 : decide ((j : Int) < (l0.length : Int)) = true := decide_eq_true (by omega)
      have p1 : ((0 : Int) ≤ (j : Int)) = True := eq_true (by omega)
      have q1 : ((j : Int) < (l0.length : Int)) = True := eq_true (by omega)
      obtain ⟨ad, A1, c1', rfl, hx, hl1, hC1⟩ := at_L5 HR0.out (j : Int) (by omega) (by omega)
      rw [Int.toNat_natCast] at hx
      have HS := Aside0.mk (longL_take l0 j hj)
      have hw3 : wrap64 ((j : Int) + 1) = ((j + 1 : Nat) : Int) := by unfold wrap64; have := HL.out; omega
      clear hl1 hC1
      obtain ⟨n1, hn1⟩ : ∃ n1, (rd_L5 l0 (j : Int)).length = n1 := ⟨_, rfl⟩
      rw [hn1] at hx
      have HN := Aside0.mk hn1
      clear hn1
      by_cases hb : 64 < (n1 : Int)
      rotate_left
      · have hd : decide (64 < (n1 : Int)) = false := decide_eq_false hb
        have HB : Aside0 (longL (l0.take (j + 1)) = false) := ⟨by rw [HS.out, HF.out, HN.out, hd]; rfl⟩
        have ARM : ∀ W : World, Calls Tryz.prog 148 #[.slice A1 n1 c1'] W fun e w' => e = .returned (.bool false) ∧ w' = W := fun W => hd ▸ long_calls A1 n1 c1' W
        clear hd hb
        go_wp2_with ((with_reducible refine (ARM _).mono ?_); rintro e w4 ⟨rfl, rfl⟩)
        go_roundg g1
        case measure => exact Nat.lt_succ_self _
        case rel => exact ⟨j + 1, congrArg (Value.int .i64) hw3, ⟨by have := HJ.out; omega⟩, HB, rfl⟩
      have hd : decide (64 < (n1 : Int)) = true := decide_eq_true hb
      have HB : Aside0 (longL (l0.take (j + 1)) = true) := ⟨by rw [HS.out, HF.out, HN.out, hd]; rfl⟩
      have ARM : ∀ W : World, Calls Tryz.prog 148 #[.slice A1 n1 c1'] W fun e w' => e = .returned (.bool true) ∧ w' = W := fun W => hd ▸ long_calls A1 n1 c1' W
      clear hd hb
      go_wp2_with ((with_reducible refine (ARM _).mono ?_); rintro e w4 ⟨rfl, rfl⟩)
      go_ret
      refine ⟨_, rfl, ?_, rfl⟩
      have h1 : longL l0 = true := by
        have := HB.out
        unfold longL at this ⊢
        rw [List.any_eq_true] at this ⊢
        obtain ⟨x, hx, hp⟩ := this
        exact ⟨x, List.mem_of_mem_take hx, hp⟩
      rw [h1]
      exact decide_eq_true (by omega)
def slices_ContainsFunc.f (l : List (List S64)) : Option Bool := if l.length < 4611686018427387904 then some (longL l) else none
theorem contains_long (A0 : Option Addr) (c0 : Nat) (l0 : List (List S64)) (r : Bool) (w : World) (hr0 : Kd.C (Kd.slice 64 k64) w A0 l0.length l0) (h : slices_ContainsFunc.f l0 = some r) :
    Calls Tryz.prog 147 #[.slice A0 l0.length c0, .func (.func 148) #[] #[]] w fun e w' => e = .returned (.bool r) ∧ w' = w := by
  unfold slices_ContainsFunc.f at h
  split at h
  case isFalse => cases h
  case isTrue hl =>
  have HR := Aside0.mk (Option.some.inj h)
  have HC := Aside0.mk hr0
  have HL := Aside0.mk hl
  clear h hl hr0
  go_enter Tryz.func147, Tryz.ntmps147
  go_wp2_with fail
  refine (index_long A0 c0 l0 _ HC.out HL.out).mono ?_
  rintro e w4 ⟨i, rfl, hi, rfl⟩
  rw [HR.out] at hi
  go_wp2_with fail
  go_ret
  exact ⟨by first | rfl | (rw [hi]), rfl⟩
end Go.Proofs.YtkioddjjfifadaaGreatDoor.P
namespace Go.Proofs.YtkioddjjfifadaaGreatDoor.P
open Go.RowKit Go.Proofs.YtkioddjjfifadaaGreatDoorW.PrintWords
def un (y : List Int) : List UInt8 := (strOfNums y).data.toList
theorem ltL_un (a b : List Int) : ltL a b = decide (un a < un b) := by
  unfold ltL un
  rw [bytesLess_eq, Lib.toList_data, Lib.toList_data]
def insR : List (List Int) → List Int → List (List Int)
  | [], x => [x]
  | a :: A, x => if ltL x a = true then insR A x ++ [a] else A.reverse ++ [a, x]
theorem getD_mid {α : Type} (A B : List α) (x d : α) (k : Nat) (h : k = A.length) : (A ++ x :: B).getD k d = x := by
  subst h
  rw [List.getD_eq_getElem?_getD, List.getElem?_append_right (Nat.le_refl _), Nat.sub_self]
  rfl
theorem set_mid {α : Type} (A B : List α) (x y : α) (k : Nat) (h : k = A.length) : (A ++ x :: B).set k y = A ++ y :: B := by
  subst h
  rw [List.set_append_right _ _ (Nat.le_refl _), Nat.sub_self]
  rfl
theorem bub_insR : ∀ (A : List (List Int)) (x : List Int) (B : List (List Int)), bub A.length (A.reverse ++ x :: B) = insR A x ++ B
  | [], x, B => rfl
  | a :: A, x, B => by
    have e1 : ((a :: A).reverse ++ x :: B).getD (A.length + 1) [] = x := getD_mid _ _ _ _ _ (by simp)
    have e2 : ((a :: A).reverse ++ x :: B).getD A.length [] = a := by
      rw [List.reverse_cons, List.append_assoc]
      exact getD_mid _ _ _ _ _ (by simp)
    have e3 : (((a :: A).reverse ++ x :: B).set (A.length + 1) a).set A.length x = A.reverse ++ x :: (a :: B) := by
      rw [set_mid _ _ _ _ _ (by simp), List.reverse_cons, List.append_assoc]
      exact set_mid _ _ _ _ _ (by simp)
    show bub (A.length + 1) _ = _
    rw [bub, e1, e2, e3]
    unfold insR
    by_cases h : ltL x a = true
    · rw [if_pos h, if_pos h, bub_insR A x (a :: B), List.append_assoc]
      rfl
    · rw [if_neg h, if_neg h, List.reverse_cons, List.append_assoc, List.append_assoc]
      rfl
theorem insL_insR (out : List (List Int)) (x : List Int) : insL out x = insR out.reverse x := by
  have := bub_insR out.reverse x []
  rw [List.length_reverse, List.reverse_reverse, List.append_nil] at this
  exact this
abbrev leU (a b : List Int) : Prop := un a ≤ un b
theorem insR_perm : ∀ (A : List (List Int)) (x : List Int), (insR A x).Perm (x :: A)
  | [], x => List.Perm.refl _
  | a :: A, x => by
    unfold insR
    split
    · refine (List.perm_append_comm).trans ?_
      exact ((insR_perm A x).cons a).trans (List.Perm.swap x a A)
    · have h1 : (A.reverse ++ [a, x]).Perm ([a, x] ++ A.reverse) := List.perm_append_comm
      refine h1.trans ?_
      refine (List.Perm.swap x a _).trans ?_
      exact ((List.reverse_perm A).cons a).cons x
theorem insR_sorted : ∀ (A : List (List Int)) (x : List Int), A.reverse.Pairwise leU → (insR A x).Pairwise leU
  | [], x, _ => List.pairwise_singleton _ _
  | a :: A, x, h => by
    rw [List.reverse_cons, List.pairwise_append] at h
    obtain ⟨h1, _, h3⟩ := h
    have h3' : ∀ u ∈ A.reverse, leU u a := fun u hu => h3 u hu a (List.mem_singleton.2 rfl)
    unfold insR
    split
    · rename_i hlt
      rw [ltL_un, decide_eq_true_eq] at hlt
      rw [List.pairwise_append]
      refine ⟨insR_sorted A x h1, List.pairwise_singleton _ _, fun u hu v hv => ?_⟩
      rw [List.mem_singleton.1 hv]
      have hm := (insR_perm A x).mem_iff.1 hu
      rcases List.mem_cons.1 hm with rfl | hm
      · exact List.le_of_lt hlt
      · exact h3' u (List.mem_reverse.2 hm)
    · rename_i hlt
      rw [ltL_un, decide_eq_true_eq, List.not_lt] at hlt
      rw [List.pairwise_append]
      refine ⟨h1, ?_, fun u hu v hv => ?_⟩
      · rw [List.pairwise_cons]
        exact ⟨fun v hv => by rw [List.mem_singleton.1 hv]; exact hlt, List.pairwise_singleton _ _⟩
      · rcases List.mem_cons.1 hv with rfl | hv
        · exact h3' u hu
        · rw [List.mem_singleton.1 hv]
          exact List.le_trans (h3' u hu) hlt
theorem foldl_ins (l : List (List Int)) : ∀ (out : List (List Int)), out.Pairwise leU → (l.foldl insL out).Pairwise leU ∧ (l.foldl insL out).Perm (out ++ l) := by
  induction l with
  | nil => intro out h; exact ⟨h, by rw [List.append_nil]; exact List.Perm.refl _⟩
  | cons x l ih =>
    intro out h
    have hs : (insL out x).Pairwise leU := by rw [insL_insR]; exact insR_sorted _ _ (by rw [List.reverse_reverse]; exact h)
    obtain ⟨h1, h2⟩ := ih (insL out x) hs
    refine ⟨h1, h2.trans ?_⟩
    have hp : (insL out x).Perm (x :: out) := by rw [insL_insR]; exact (insR_perm _ _).trans ((List.reverse_perm out).cons x)
    refine (hp.append_right l).trans ?_
    exact (List.perm_middle).symm
end Go.Proofs.YtkioddjjfifadaaGreatDoor.P
namespace Go.Proofs
open Go.Shelf
def Tryz.laysSF_ren : Go.Shelf.Ren := ⟨fun | 6 => 150 | 15 => 201 | 14 => 200 | 28 => 247 | 29 => 248 | 20 => 239 | 21 => 240 | 22 => 241 | 23 => 242 | 24 => 243 | 25 => 244 | 26 => 245 | 27 => 246 | 46 => 280 | 47 => 281 | 48 => 282 | 49 => 283 | 50 => 284 | 57 => 303 | n => n, fun | 22 => 67 | 24 => 22 | 25 => 241 | 3 => 3 | 39 => 245 | 0 => 0 | 53 => 323 | 55 => 278 | 4 => 4 | 46 => 355 | 45 => 354 | 50 => 359 | 5 => 5 | 9 => 9 | 66 => 398 | 70 => 402 | 76 => 416 | 77 => 195 | n => n, fun | n => n⟩
theorem Tryz.laysSF : Go.Proofs.SlLaysF.n6 Tryz.prog Tryz.laysSF_ren := {
  mixed := by kernel_rfl
  f6 := ⟨Tryz.f150.name, by decide, Tryz.func150.trans (congrArg some (by kernel_rfl))⟩
  f14 := ⟨Tryz.f200.name, by decide, Tryz.func200.trans (congrArg some (by kernel_rfl))⟩
  f15 := Tryz.func201.trans (congrArg some (by kernel_rfl))
  f20 := ⟨Tryz.f239.name, by decide, Tryz.func239.trans (congrArg some (by kernel_rfl))⟩
  f21 := ⟨Tryz.f240.name, by decide, Tryz.func240.trans (congrArg some (by kernel_rfl))⟩
  f22 := ⟨Tryz.f241.name, by decide, Tryz.func241.trans (congrArg some (by kernel_rfl))⟩
  f23 := ⟨Tryz.f242.name, by decide, Tryz.func242.trans (congrArg some (by kernel_rfl))⟩
  f24 := ⟨Tryz.f243.name, by decide, Tryz.func243.trans (congrArg some (by kernel_rfl))⟩
  f25 := ⟨Tryz.f244.name, by decide, Tryz.func244.trans (congrArg some (by kernel_rfl))⟩
  f26 := ⟨Tryz.f245.name, by decide, Tryz.func245.trans (congrArg some (by kernel_rfl))⟩
  f27 := ⟨Tryz.f246.name, by decide, Tryz.func246.trans (congrArg some (by kernel_rfl))⟩
  f28 := Tryz.func247.trans (congrArg some (by kernel_rfl))
  f29 := Tryz.func248.trans (congrArg some (by kernel_rfl))
  f46 := ⟨Tryz.f280.name, by decide, Tryz.func280.trans (congrArg some (by kernel_rfl))⟩
  f47 := Tryz.func281.trans (congrArg some (by kernel_rfl))
  f48 := Tryz.func282.trans (congrArg some (by kernel_rfl))
  f49 := ⟨Tryz.f283.name, by decide, Tryz.func283.trans (congrArg some (by kernel_rfl))⟩
  f50 := ⟨Tryz.f284.name, by decide, Tryz.func284.trans (congrArg some (by kernel_rfl))⟩
  f57 := ⟨Tryz.f303.name, by decide, Tryz.func303.trans (congrArg some (by kernel_rfl))⟩
  t0 := Tryz.underlying0
  a0 := Tryz.isAgg0
  z0 := Tryz.sizeOf0
  v0 := Tryz.zeroValue0
  t3 := Tryz.underlying3
  a3 := Tryz.isAgg3
  z3 := Tryz.sizeOf3
  v3 := Tryz.zeroValue3
  t4 := Tryz.underlying4
  a4 := Tryz.isAgg4
  z4 := Tryz.sizeOf4
  v4 := Tryz.zeroValue4
  t5 := Tryz.underlying5
  a5 := Tryz.isAgg5
  z5 := Tryz.sizeOf5
  v5 := Tryz.zeroValue5
  t9 := Tryz.underlying9
  a9 := Tryz.isAgg9
  z9 := Tryz.sizeOf9
  v9 := Tryz.zeroValue9
  t22 := Tryz.underlying67
  a22 := Tryz.isAgg67
  z22 := Tryz.sizeOf67
  v22 := Tryz.zeroValue67
  a24 := Tryz.isAgg22
  z24 := Tryz.sizeOf22
  t25 := Tryz.underlying241
  a25 := Tryz.isAgg241
  z25 := Tryz.sizeOf241
  v25 := Tryz.zeroValue241
  t39 := Tryz.underlying245
  a39 := Tryz.isAgg245
  z39 := Tryz.sizeOf245
  v39 := Tryz.zeroValue245
  t45 := Tryz.underlying354
  a45 := Tryz.isAgg354
  z45 := Tryz.sizeOf354
  v45 := Tryz.zeroValue354
  t46 := Tryz.underlying355
  a46 := Tryz.isAgg355
  z46 := Tryz.sizeOf355
  v46 := Tryz.zeroValue355
  t50 := Tryz.underlying359
  a50 := Tryz.isAgg359
  z50 := Tryz.sizeOf359
  v50 := Tryz.zeroValue359
  t53 := Tryz.underlying323
  a53 := Tryz.isAgg323
  z53 := Tryz.sizeOf323
  v53 := Tryz.zeroValue323
  t55 := Tryz.underlying278
  a55 := Tryz.isAgg278
  z55 := Tryz.sizeOf278
  v55 := Tryz.zeroValue278
  t66 := Tryz.underlying398
  a66 := Tryz.isAgg398
  z66 := Tryz.sizeOf398
  v66 := Tryz.zeroValue398
  t70 := Tryz.underlying402
  a70 := Tryz.isAgg402
  z70 := Tryz.sizeOf402
  v70 := Tryz.zeroValue402
  t76 := Tryz.underlying416
  a76 := Tryz.isAgg416
  z76 := Tryz.sizeOf416
  v76 := Tryz.zeroValue416
  t77 := Tryz.underlying195
  a77 := Tryz.isAgg195
  z77 := Tryz.sizeOf195
  v77 := Tryz.zeroValue195 }
end Go.Proofs
set_option linter.unusedVariables false
namespace Go.Proofs.YtkioddjjfifadaaGreatDoor.P
open Go.RowKit Go.Sort Go.Lib Go.Proofs.YtkioddjjfifadaaGreatDoorW.PrintWords Go.Proofs.YtkioddjjfifadaaGreatDoorW.PrintLast Go.Proofs.YtkioddjjfifadaaGreatDoorW.PrintMore
theorem cmp_lt : ∀ a b : List UInt8, decide (Lib.compareBytes a b < 0) = decide (a < b)
  | [], [] => by simp [Lib.compareBytes]
  | [], _ :: _ => by simp [Lib.compareBytes]
  | _ :: _, [] => by simp [Lib.compareBytes]
  | a :: as_, b :: bs => by
    have ih := cmp_lt as_ bs
    unfold Lib.compareBytes
    by_cases h1 : a < b
    · rw [if_pos h1]
      simp [List.cons_lt_cons_iff, h1]
    · rw [if_neg h1]
      by_cases h2 : b < a
      · rw [if_pos h2]
        have : a ≠ b := fun e => by subst e; exact UInt8.lt_irrefl _ h2
        simp [List.cons_lt_cons_iff, h1, this]
      · rw [if_neg h2]
        have : a = b := UInt8.le_antisymm (UInt8.not_lt.1 h2) (UInt8.not_lt.1 h1)
        rw [ih]
        simp [List.cons_lt_cons_iff, h1, this]
abbrev byteOk (y : List Int) : Bool := y.all isByte
theorem un_inj : ∀ {a b : List Int}, byteOk a = true → byteOk b = true → un a = un b → a = b := by
  intro a b ha hb h
  have key : ∀ y : List Int, byteOk y = true → (un y).map (fun (c : UInt8) => (c.toNat : Int)) = y := by
    intro y hy
    unfold un strOfNums
    simp only [List.map_map]
    refine (List.map_congr_left (g := id) fun x hx => ?_).trans (List.map_id _)
    have := List.all_eq_true.1 hy x hx
    simp only [isByte, Bool.and_eq_true, decide_eq_true_eq] at this
    show ((UInt8.ofNat x.toNat).toNat : Int) = x
    rw [UInt8.toNat_ofNat']
    omega
  rw [← key a ha, ← key b hb, h]
theorem sortedL_perm (xs : List (List Int)) : (sortedL xs).Pairwise leU ∧ (sortedL xs).Perm xs := by
  have := foldl_ins xs [] List.Pairwise.nil
  rwa [List.nil_append] at this
theorem sortedL_only {xs ys : List (List Int)} (hb : ∀ y ∈ xs, byteOk y = true) (hp : ys.Perm xs) (hs : ys.Pairwise leU) : ys = sortedL xs := by
  obtain ⟨h1, h2⟩ := sortedL_perm xs
  refine List.Perm.eq_of_pairwise (le := leU) (fun a b ha hb' h3 h4 => ?_) hs h1 (hp.trans h2.symm)
  exact un_inj (hb a (hp.mem_iff.1 ha)) (hb b (h2.mem_iff.1 hb')) (List.le_antisymm h3 h4)
def slices_SortFunc.f (xs : List (List Int)) : Option (List (List Int)) := if (xs.all byteOk = true ∧ xs.length ≤ 1000000) then some (sortedL xs) else none
theorem swo_cmp {n : Nat} (X : Fin n → List Int) : Go.Sort.SWO (ltOf fun i j => Lib.compareBytes (un (X i)) (un (X j))) where
  irrefl x := by unfold ltOf; rw [cmp_lt]; simp
  trans x y z h1 h2 := by
    unfold ltOf at *
    rw [cmp_lt, decide_eq_true_eq] at *
    exact List.lt_trans h1 h2
  ntrans x y z h1 h2 := by
    unfold ltOf at *
    rw [cmp_lt, decide_eq_false_iff_not, List.not_lt] at *
    exact List.le_trans h2 h1
theorem slices_ContainsFunc.calls (A0 : Option Addr) (c0 : Nat) (l0 : List (List S64)) (r : Bool) (w : World) (hr0 : Kd.C (Kd.slice 64 k64) w A0 l0.length l0) (hc0 : l0.length ≤ c0) (h : slices_ContainsFunc.f l0 = some r) :
    Calls Tryz.prog 147 #[.slice A0 l0.length c0, .func (.func 148) #[] #[]] w fun e w' => e = .returned (.bool r) ∧ Below w.heap.size w w' :=
  (contains_long A0 c0 l0 r w hr0 h).mono fun e w' ⟨h1, h2⟩ => ⟨h1, h2 ▸ Below.refl _ _⟩
theorem grownBy_sortW {α : Type} [Inhabited α] (enc : α → Value) {w : World} {g n : Nat} {os : Array Obj} (d : Array α) : w.grownBy (sortWorld enc w g 0 n d os) (some g) := by
  refine ⟨rfl, rfl, rfl, ?_, fun k hk hne => ?_⟩
  · show w.heap.size ≤ ((Go.Sort.putRow enc (Go.Sort.ahead w n) g 0 d).heap ++ os).size
    rw [Array.size_append, Go.Sort.size_putRow]
    exact Nat.le_add_right _ _
  show ((Go.Sort.putRow enc (Go.Sort.ahead w n) g 0 d).heap ++ os)[k]? = _
  rw [Array.getElem?_append_left (by rw [Go.Sort.size_putRow]; exact hk)]
  show (w.heap.modify g _)[k]? = _
  rw [Array.getElem?_modify, if_neg (fun e => hne (by rw [e]))]
theorem ex_all {α : Type} (d : Array α) {n : Nat} (h : d.size = n) : (d.extract 0 n).toList = d.toList := by subst h; simp
theorem sortfunc_own (w0 : World) (v : Value) (xs r : List (List Int)) (ok : Nat → Prop) (w : World) (hR : (Kd.slice 5 (Kd.int .u8)).R 22 w w0.heap.size ok v xs) (h0 : Below w0.heap.size w0 w) (h : slices_SortFunc.f xs = some r) :
    Calls Tryz.prog 150 #[v, .func (.func 151) #[] #[]] w fun e w' => e = .returned (.tuple #[]) ∧ (Kd.slice 5 (Kd.int .u8)).R 22 w' w0.heap.size ok v r ∧ w.grownBy w' v.ownBlock ∧ Below w0.heap.size w0 w' := by
  unfold slices_SortFunc.f at h
  split at h
  case isFalse => cases h
  case isTrue hl =>
  obtain rfl := Option.some.inj h
  have hbk : ∀ y ∈ xs, byteOk y = true := List.all_eq_true.1 hl.1
  obtain ⟨hok, inner, ho, hrep⟩ := hR
  have hz1 : (Kd.slice 5 (Kd.int IntKind.u8)).sz = 1 := rfl
  rcases ho.2 with ⟨rfl, hn⟩ | ⟨g, cap, cur, rfl, hg, hh, hnc, hcm, hsz, htk⟩
  · have hx : xs = [] := List.eq_nil_of_length_eq_zero hn
    subst hx
    refine (AnyF.slices_SortFunc_none (P := Tryz.prog) (ρ := Tryz.laysSF_ren) { Tryz.laysSF with } none 0 (.func (.func 151) #[] #[]) w).mono ?_
    rintro e w' ⟨rfl, rfl⟩
    exact ⟨rfl, ⟨hok, inner, ho, hrep⟩, ⟨rfl, rfl, rfl, Nat.le_refl _, fun _ _ _ => rfl⟩, h0⟩
  have hlt : g < w.heap.size := blk_lt hh
  rw [hz1] at htk
  rcases Nat.eq_zero_or_pos xs.length with hz | hpos
  · have hx : xs = [] := List.eq_nil_of_length_eq_zero hz
    subst hx
    refine (AnyF.slices_SortFunc_none (P := Tryz.prog) (ρ := Tryz.laysSF_ren) { Tryz.laysSF with } (some ⟨g, 0, none⟩) cap (.func (.func 151) #[] #[]) w).mono ?_
    rintro e w' ⟨rfl, rfl⟩
    exact ⟨rfl, ⟨hok, inner, ho, hrep⟩, ⟨rfl, rfl, rfl, Nat.le_refl _, fun _ _ _ => rfl⟩, h0⟩
  haveI : Inhabited (Fin xs.length) := ⟨⟨0, hpos⟩⟩
  have hil : inner.length = xs.length := by have := ho.1; rw [hz1] at this; omega
  let enc : Fin xs.length → Value := fun i => inner.getD i.val undef
  let X : Fin xs.length → List Int := fun i => xs.getD i.val []
  have hM : ∀ i : Fin xs.length, ∃ A c, enc i = .slice A (X i).length c ∧ (Kd.int .u8).R 5 w w0.heap.size (fun k => ok k ∧ k ≠ g) (enc i) (X i) := fun i => by
    have hxi : xs[i.val]? = some (X i) := by
      show _ = some (xs.getD i.val [])
      rw [List.getD_eq_getElem?_getD, List.getElem?_eq_getElem i.isLt]; rfl
    obtain ⟨vi, hvi, hRi⟩ := hrep.2 i.val _ hxi
    have hv : vi = enc i := by
      have h1 : ((inner.drop (i.val * 1)).take 1) = [vi] := hvi
      rw [Nat.mul_one, List.drop_eq_getElem_cons (by omega)] at h1
      have h2 := congrArg List.head? h1
      rw [List.take_succ_cons] at h2
      have h3 : inner[i.val] = vi := Option.some.inj h2
      show vi = inner.getD i.val undef
      rw [List.getD_eq_getElem?_getD, List.getElem?_eq_getElem (by omega), ← h3]; rfl
    rw [hv] at hRi
    obtain ⟨A, c, hA⟩ := Kd.R_slice hRi
    exact ⟨A, c, hA, Kd.R_mono hRi (fun k hk => ⟨hk.1, fun e => hk.2 (by rw [e]; rfl)⟩)⟩
  have h1 : OneCell enc := fun i => by
    obtain ⟨A, c, hA, _⟩ := hM i
    rw [hA]; rfl
  let d : Array (Fin xs.length) := Array.ofFn id
  have hdz : d.size = xs.length := by simp [d]
  have hdj : ∀ j (hj : j < xs.length), d[j]! = ⟨j, hj⟩ := fun j hj => by
    rw [getElem!_pos d j (by omega)]
    simp [d]
  have hH : Go.Sort.Holds enc w g 0 d := fun j hj => by
    have hj' : j < xs.length := by omega
    refine ⟨?_, blk_frozen hh _⟩
    rw [Nat.zero_add, hdj j hj']
    refine (blk_cell hh j).trans ?_
    have h2 : (cur.toList.take (xs.length * 1))[j]? = inner[j]? := by rw [htk]
    rw [List.getElem?_take_of_lt (by omega)] at h2
    rw [← Array.getElem?_toList, h2]
    show _ = some (inner.getD j undef)
    rw [List.getD_eq_getElem?_getD, List.getElem?_eq_getElem (by omega)]; rfl
  have eg : ∀ args w, (callFunc 151 args).run Tryz.prog w = .ok (.enter 151 args) w := enters_of Tryz.func151 (by kernel_rfl) rfl
  have hcmp : CmpLays1 Tryz.prog 151 #[] enc (fun i j => Lib.compareBytes (un (X i)) (un (X j))) g 0 d.size w := fun m os dk hs x y => by
    obtain ⟨A, c, hA, hRA⟩ := hM x
    obtain ⟨B, c2, hB, hRB⟩ := hM y
    have gx := Kd.R_grown hRA (grownBy_sortW enc (g := g) (n := m) (os := os) dk) (fun k hk e => hk.2 (by injection e))
    have gy := Kd.R_grown hRB (grownBy_sortW enc (g := g) (n := m) (os := os) dk) (fun k hk e => hk.2 (by injection e))
    rw [hA] at gx
    rw [hB] at gy
    show Calls Tryz.prog 151 #[enc x, enc y] _ _
    rw [hA, hB]
    refine (bytes_Compare_calls A B (X x).length c (X y).length c2 (X x) (X y) _ (Kd.R_reads' gx).2.2 (Kd.R_reads' gy).2.2).mono ?_
    rintro e w' ⟨rfl, rfl⟩
    exact ⟨rfl, 0, #[], by rw [Go.Sort.grow_empty]; rfl⟩
  have hsort := Any.slices_SortFunc Tryz.laysSF enc h1 (fun i j => Lib.compareBytes (un (X i)) (un (X j))) (swo_cmp X) 151 #[] g 0 cap d w eg hcmp hH hlt (by omega)
  rw [hdz] at hsort
  refine Calls.mono hsort ?_
  rintro e w' ⟨rfl, d', n, os, hp, hs, rfl⟩
  have hgr := grownBy_sortW enc (w := w) (g := g) (n := n) (os := os) d'
  have hd'z : d'.size = xs.length := by rw [hp.1, hdz]
  have hys : (d'.toList.map X) = sortedL xs := by
    refine sortedL_only hbk ?_ ?_
    rotate_left
    · rw [List.pairwise_map]
      rw [List.pairwise_iff_getElem]
      intro i j hi hj hij
      have h3 := hs i j (Nat.zero_le _) hij (by rw [Array.length_toList] at hj; omega)
      unfold ltOf at h3
      rw [cmp_lt, decide_eq_false_iff_not, List.not_lt] at h3
      rw [Array.length_toList] at hi hj
      rw [getElem!_pos d' i hi, getElem!_pos d' j hj] at h3
      simpa using h3
    have h2 := hp.2.2
    have e1 : (d'.extract 0 xs.length).toList = d'.toList := ex_all d' hd'z
    have e2 : (d.extract 0 xs.length).toList = d.toList := ex_all d hdz
    rw [e1, e2] at h2
    refine (h2.map X).trans ?_
    have e3 : d.toList.map X = xs := by
      apply List.ext_getElem?
      intro j
      by_cases hj : j < xs.length
      rotate_left
      · rw [List.getElem?_eq_none (by rw [List.length_map, Array.length_toList]; omega), List.getElem?_eq_none (by omega)]
      rw [List.getElem?_map, List.getElem?_eq_getElem (by rw [Array.length_toList]; omega), List.getElem?_eq_getElem hj]
      simp [d, X, List.getD_eq_getElem?_getD, List.getElem?_eq_getElem hj]
    rw [e3]
  have hml : (d'.toList.map enc).length = xs.length := by rw [List.length_map, Array.length_toList]; exact hd'z
  have hyl : (sortedL xs).length = xs.length := (sortedL_perm xs).2.length_eq
  refine ⟨rfl, ⟨hok, d'.toList.map enc, ⟨by rw [hml, hyl, hz1, Nat.mul_one], Or.inr ⟨g, cap, Go.Sort.putCells enc 0 d' cur, ?_, hg, ?_, by rw [hyl]; omega, hcm, by simp [Go.Sort.putCells]; simpa using hsz, ?_⟩⟩, ?_⟩, hgr, pw_below_grown h0 _ h0.size hgr (fun k hk => by injection hk with hk; omega)⟩
  · rw [hyl]
  · show ((Go.Sort.putRow enc (Go.Sort.ahead w n) g 0 d').heap ++ os)[g]? = _
    rw [Array.getElem?_append_left (by rw [Go.Sort.size_putRow]; exact hlt)]
    show (w.heap.modify g _)[g]? = _
    rw [Array.getElem?_modify, if_pos rfl, hh]
    rfl
  · rw [hyl, hz1, Nat.mul_one]
    have hcz : xs.length ≤ cur.size := by have := hsz; rw [hz1] at this; omega
    apply List.ext_getElem?
    intro j
    by_cases hj : j < d'.size
    rotate_left
    · rw [List.getElem?_eq_none (by rw [List.length_take]; omega), List.getElem?_eq_none (by simp; omega)]
    rw [List.getElem?_take_of_lt (by omega), Array.getElem?_toList]
    have hcl : j < cur.size := by omega
    simp [Go.Sort.putCells, hcl, hj]
  rw [← hys]
  refine ⟨by simp [Kd.slice], fun j p hj => ?_⟩
  rw [List.getElem?_map] at hj
  obtain ⟨i, hi, rfl⟩ := Option.map_eq_some_iff.1 hj
  obtain ⟨A, c, hA, hRi⟩ := hM i
  refine ⟨enc i, ?_, Kd.R_mono (Kd.R_grown hRi hgr (fun k hk e => hk.2 (by injection e))) (fun k hk => ⟨hk.1, fun e => hk.2 (by rw [show (Value.slice (some (⟨g, 0, none⟩ : Addr)) xs.length cap).ownBlock = some g from rfl] at e; injection e)⟩)⟩
  have hjl : j < d'.toList.length := (List.getElem?_eq_some_iff.1 hi).1
  show ((d'.toList.map enc).drop (j * 1)).take 1 = [enc i]
  rw [Nat.mul_one, List.drop_eq_getElem_cons (by rw [List.length_map]; exact hjl), List.take_succ_cons, List.take_zero]
  have := (List.getElem?_eq_some_iff.1 hi).2
  rw [List.getElem_map, this]
end Go.Proofs.YtkioddjjfifadaaGreatDoor.P
namespace Go.Proofs.YtkioddjjfifadaaGreatDoor.P
open Go.RowKit Go.Proofs.YtkioddjjfifadaaGreatDoorW.PrintWords Go.Proofs.YtkioddjjfifadaaGreatDoorW.PrintLast Go.Proofs.YtkioddjjfifadaaGreatDoorW.PrintMore
attribute [local go_sem] max2_int min2_int max_two min_two max_three min_three max_four min_four
set_option linter.unusedVariables false
set_option linter.unusedSimpArgs false
mutual
def der_tag.l0 : Nat → List Int → Int → Int → Int → Option (Int × Int × Int × Int)
  | 0, _, _, _, _ => none
  | k + 1, x0, x1, x4, x5 => if x5 < (x0.length : Int) then (if 0 ≤ x5 then (if x5 = (wrap64 (x1 + 1)) then (if (rd x0 x5) = 128 then (der_tag.j1 k x0 x1 (Go.bits .or .i64 (wrap64 (x4 * 128)) (wrap64 (Go.bits .and .u8 (rd x0 x5) 127))) x5 true) else (if (Go.bits .or .i64 (wrap64 (x4 * 128)) (wrap64 (Go.bits .and .u8 (rd x0 x5) 127))) > 268435455 then (der_tag.j1 k x0 x1 (Go.bits .or .i64 (wrap64 (x4 * 128)) (wrap64 (Go.bits .and .u8 (rd x0 x5) 127))) x5 true) else (if (rd x0 x5) < 128 then (der_tag.j1 k x0 x1 (Go.bits .or .i64 (wrap64 (x4 * 128)) (wrap64 (Go.bits .and .u8 (rd x0 x5) 127))) x5 (decide ((Go.bits .or .i64 (wrap64 (x4 * 128)) (wrap64 (Go.bits .and .u8 (rd x0 x5) 127))) < 31))) else (der_tag.j1 k x0 x1 (Go.bits .or .i64 (wrap64 (x4 * 128)) (wrap64 (Go.bits .and .u8 (rd x0 x5) 127))) x5 false)))) else (if (Go.bits .or .i64 (wrap64 (x4 * 128)) (wrap64 (Go.bits .and .u8 (rd x0 x5) 127))) > 268435455 then (der_tag.j1 k x0 x1 (Go.bits .or .i64 (wrap64 (x4 * 128)) (wrap64 (Go.bits .and .u8 (rd x0 x5) 127))) x5 true) else (if (rd x0 x5) < 128 then (der_tag.j1 k x0 x1 (Go.bits .or .i64 (wrap64 (x4 * 128)) (wrap64 (Go.bits .and .u8 (rd x0 x5) 127))) x5 (decide ((Go.bits .or .i64 (wrap64 (x4 * 128)) (wrap64 (Go.bits .and .u8 (rd x0 x5) 127))) < 31))) else (der_tag.j1 k x0 x1 (Go.bits .or .i64 (wrap64 (x4 * 128)) (wrap64 (Go.bits .and .u8 (rd x0 x5) 127))) x5 false)))) else (none)) else (some (0, 0, 2, (x0.length : Int)))
def der_tag.j1 : Nat → List Int → Int → Int → Int → Bool → Option (Int × Int × Int × Int)
  | 0, _, _, _, _, _ => none
  | k + 1, x0, x1, x4, x5, x71 => if x71 = true then (some (0, 0, 30, x5)) else (if 0 ≤ x5 then (if x5 < (x0.length : Int) then (if (rd x0 x5) < 128 then (some (x4, wrap64 (x5 + 1), 0, 0)) else (der_tag.l0 k x0 x1 x4 (wrap64 (x5 + 1)))) else (none)) else (none))
end
def der_tag.f (k : Nat) (l0 : List Int) (a1 : Int) : Option (Int × Int × Int × Int) := if 0 ≤ a1 then (if a1 < (l0.length : Int) then (if (wrap64 (Go.bits .and .u8 (rd l0 a1) 31)) < 31 then (if (wrap64 (Go.bits .and .u8 (rd l0 a1) 31)) = 0 then (if ((rd l0 a1) / 64) = 0 then (some (0, 0, 30, a1)) else (some (wrap64 (Go.bits .and .u8 (rd l0 a1) 31), wrap64 (a1 + 1), 0, 0))) else (some (wrap64 (Go.bits .and .u8 (rd l0 a1) 31), wrap64 (a1 + 1), 0, 0))) else (der_tag.l0 k l0 a1 0 (wrap64 (a1 + 1)))) else (none)) else (none)
set_option maxHeartbeats 8000000 in
set_option maxRecDepth 100000 in
theorem der_tag.calls (k : Nat) (A0 : Option Addr) (c0 : Nat) (l0 : List Int) (a1 : Int) (r1 : Int) (r2 : Int) (r3 : Int) (r4 : Int) (w : World) (hr0 : Kd.C (Kd.int .u8) w A0 l0.length l0) (hc0 : l0.length ≤ c0) (h : der_tag.f k l0 a1 = some (r1, r2, r3, r4)) :
    Calls Tryz.prog 214 #[.slice A0 l0.length c0, .int .i64 a1] w fun e w' => e = .returned (.tuple #[.int .i64 r1, .int .i64 r2, .int .i64 r3, .int .i64 r4]) ∧ Drawn0 w w' := by
  have HR0 := Aside0.mk hr0
  have HC0 := Aside0.mk hc0
  clear hr0 hc0
  have H : (if 0 ≤ a1 then (if a1 < (l0.length : Int) then (if (wrap64 (Go.bits .and .u8 (rd l0 a1) 31)) < 31 then (if (wrap64 (Go.bits .and .u8 (rd l0 a1) 31)) = 0 then (if ((rd l0 a1) / 64) = 0 then (some (0, 0, 30, a1)) else (some (wrap64 (Go.bits .and .u8 (rd l0 a1) 31), wrap64 (a1 + 1), 0, 0))) else (some (wrap64 (Go.bits .and .u8 (rd l0 a1) 31), wrap64 (a1 + 1), 0, 0))) else (der_tag.l0 k l0 a1 0 (wrap64 (a1 + 1)))) else (none)) else (none)) = some (r1, r2, r3, r4) := h
  clear h
  by_cases c3 : 0 ≤ a1
  rotate_left
  · rw [if_neg c3] at H
    exact absurd H (by simp)
  rw [if_pos c3] at H
  have c3b0 : decide (0 ≤ a1) = true := decide_eq_true c3
  clear c3
  by_cases c4 : a1 < (l0.length : Int)
  rotate_left
  · rw [if_neg c4] at H
    exact absurd H (by simp)
  rw [if_pos c4] at H
  have c4b0 : decide (a1 < (l0.length : Int)) = true := decide_eq_true c4
  clear c4
  by_cases c5 : (wrap64 (Go.bits .and .u8 (rd l0 a1) 31)) < 31
  · rw [if_pos c5] at H
    have c5b0 : decide ((wrap64 (Go.bits .and .u8 (rd l0 a1) 31)) < 31) = true := decide_eq_true c5
    clear c5
    by_cases c6 : (wrap64 (Go.bits .and .u8 (rd l0 a1) 31)) = 0
    rotate_left
    · rw [if_neg c6] at H
      have c6b0 : ((wrap64 (Go.bits .and .u8 (rd l0 a1) 31)) == 0) = false := beq_eq_false_iff_ne.mpr c6
      have c6b1 : ((wrap64 (Go.bits .and .u8 (rd l0 a1) 31)) != 0) = true := bne_iff_ne.mpr c6
      simp only [Option.some.injEq, Prod.mk.injEq] at H
      obtain ⟨rfl, rfl, rfl, rfl⟩ := H
      have p109 : 0 ≤ (a1 : Int) := of_decide_eq_true (by first | (with_reducible assumption) | assumption)
      have q109 : a1 < (l0.length : Int) := of_decide_eq_true (by first | (with_reducible assumption) | assumption)
      obtain ⟨ad109, e109, hx109_0⟩ := Kd.at_int HR0.out a1 p109 q109
      cases e109
      replace p109 := eq_true p109
      replace q109 := eq_true q109
      go_enter Tryz.func214, Tryz.ntmps214
      go_wp2
      refine bodyPost_ret (results_list (rs := [.tmp 4, .tmp 5, .tmp 6, .tmp 7]) rfl (by simp) (.tmp (.tmp (.tmp (.tmp .nil))))) rfl ?_
      exact ⟨by first | rfl | (simp; done) | (simp [*]; done), by repeat (first | exact Drawn0.refl _ | apply Drawn0.step)⟩
    rw [if_pos c6] at H
    have c6b0 : ((wrap64 (Go.bits .and .u8 (rd l0 a1) 31)) == 0) = true := beq_iff_eq.mpr c6
    have c6b1 : ((wrap64 (Go.bits .and .u8 (rd l0 a1) 31)) != 0) = false := bne_eq_false_iff_eq.mpr c6
    clear c6
    by_cases c7 : ((rd l0 a1) / 64) = 0
    rotate_left
    · rw [if_neg c7] at H
      have c7b0 : (((rd l0 a1) / 64) == 0) = false := beq_eq_false_iff_ne.mpr c7
      have c7b1 : (((rd l0 a1) / 64) != 0) = true := bne_iff_ne.mpr c7
      simp only [Option.some.injEq, Prod.mk.injEq] at H
      obtain ⟨rfl, rfl, rfl, rfl⟩ := H
      have p109 : 0 ≤ (a1 : Int) := of_decide_eq_true (by first | (with_reducible assumption) | assumption)
      have q109 : a1 < (l0.length : Int) := of_decide_eq_true (by first | (with_reducible assumption) | assumption)
      obtain ⟨ad109, e109, hx109_0⟩ := Kd.at_int HR0.out a1 p109 q109
      cases e109
      replace p109 := eq_true p109
      replace q109 := eq_true q109
      have p110 : 0 ≤ (a1 : Int) := of_decide_eq_true (by first | (with_reducible assumption) | assumption)
      have q110 : a1 < (l0.length : Int) := of_decide_eq_true (by first | (with_reducible assumption) | assumption)
      obtain ⟨ad110, e110, hx110_0⟩ := Kd.at_int HR0.out a1 p110 q110
      obtain rfl : ad109 = ad110 := (by injection e110)
      replace p110 := eq_true p110
      replace q110 := eq_true q110
      go_enter Tryz.func214, Tryz.ntmps214
      go_wp2
      refine bodyPost_ret (results_list (rs := [.tmp 4, .tmp 5, .tmp 6, .tmp 7]) rfl (by simp) (.tmp (.tmp (.tmp (.tmp .nil))))) rfl ?_
      exact ⟨by first | rfl | (simp; done) | (simp [*]; done), by repeat (first | exact Drawn0.refl _ | apply Drawn0.step)⟩
    rw [if_pos c7] at H
    have c7b0 : (((rd l0 a1) / 64) == 0) = true := beq_iff_eq.mpr c7
    have c7b1 : (((rd l0 a1) / 64) != 0) = false := bne_eq_false_iff_eq.mpr c7
    clear c7
    simp only [Option.some.injEq, Prod.mk.injEq] at H
    obtain ⟨rfl, rfl, rfl, rfl⟩ := H
    have p109 : 0 ≤ (a1 : Int) := of_decide_eq_true (by first | (with_reducible assumption) | assumption)
    have q109 : a1 < (l0.length : Int) := of_decide_eq_true (by first | (with_reducible assumption) | assumption)
    obtain ⟨ad109, e109, hx109_0⟩ := Kd.at_int HR0.out a1 p109 q109
    cases e109
    replace p109 := eq_true p109
    replace q109 := eq_true q109
    have p110 : 0 ≤ (a1 : Int) := of_decide_eq_true (by first | (with_reducible assumption) | assumption)
    have q110 : a1 < (l0.length : Int) := of_decide_eq_true (by first | (with_reducible assumption) | assumption)
    obtain ⟨ad110, e110, hx110_0⟩ := Kd.at_int HR0.out a1 p110 q110
    obtain rfl : ad109 = ad110 := (by injection e110)
    replace p110 := eq_true p110
    replace q110 := eq_true q110
    go_enter Tryz.func214, Tryz.ntmps214
    go_wp2
    refine bodyPost_ret (results_list (rs := [.tmp 4, .tmp 5, .tmp 6, .tmp 7]) rfl (by simp) (.tmp (.tmp (.tmp (.tmp .nil))))) rfl ?_
    exact ⟨by first | rfl | (simp; done) | (simp [*]; done), by repeat (first | exact Drawn0.refl _ | apply Drawn0.step)⟩
  rw [if_neg c5] at H
  have c5b0 : decide ((wrap64 (Go.bits .and .u8 (rd l0 a1) 31)) < 31) = false := decide_eq_false c5
  clear c5
  have H' := Aside0.mk H
  clear H
  have p109 : 0 ≤ (a1 : Int) := of_decide_eq_true (by first | (with_reducible assumption) | assumption)
  have q109 : a1 < (l0.length : Int) := of_decide_eq_true (by first | (with_reducible assumption) | assumption)
  obtain ⟨ad109, e109, hx109_0⟩ := Kd.at_int HR0.out a1 p109 q109
  cases e109
  replace p109 := eq_true p109
  replace q109 := eq_true q109
  go_enter Tryz.func214, Tryz.ntmps214
  go_wp2
  go_loopg [4, 5] k (fun kq v4 v5 w' => ∃ (x4_1 : Int) (x5_1 : Int), v4 = .int .i64 x4_1 ∧ v5 = .int .i64 x5_1 ∧ Aside0 (der_tag.l0 kq l0 a1 x4_1 x5_1 = some (r1, r2, r3, r4)) ∧ Aside0 (kq ≤ k) ∧ Drawn0 w w')
  case atStart => exact ⟨(0), (wrap64 (a1 + 1)), (by first | rfl | (simp; done) | (simp [*]; done)), (by first | rfl | (simp; done) | (simp [*]; done)), H', ⟨Nat.le_refl _⟩, by repeat (first | exact Drawn0.refl _ | apply Drawn0.step)⟩
  case round =>
    clear H'
    try clear p1
    try clear q1
    try clear hx1
    try clear c2
    try clear p2
    try clear c3
    try clear c3b0
    try clear c4
    try clear c4b0
    try clear c5
    try clear c5b0
    try clear c6
    try clear c6b0
    try clear c6b1
    try clear p6
    try clear c7
    try clear c7b0
    try clear c7b1
    try clear hx109_0
    try clear hx110_0
    try clear p109
    try clear p110
    try clear q109
    try clear q110
    obtain ⟨x4_1, x5_1, rfl, rfl, HA, HK1, ⟨m1, rfl⟩⟩ := hrel
    cases gk with
    | zero => exact absurd HA.out (by simp [der_tag.l0])
    | succ k1 =>
      have H := HA.out
      clear HA
      simp only [der_tag.l0] at H
      by_cases c8 : x5_1 < (l0.length : Int)
      rotate_left
      · rw [if_neg c8] at H
        have c8b0 : decide (x5_1 < (l0.length : Int)) = false := decide_eq_false c8
        clear c8
        simp only [Option.some.injEq, Prod.mk.injEq] at H
        obtain ⟨rfl, rfl, rfl, rfl⟩ := H
        go_wp2
        refine bodyPost_ret (results_list (rs := [.tmp 4, .tmp 5, .tmp 6, .tmp 7]) rfl (by simp) (.tmp (.tmp (.tmp (.tmp .nil))))) rfl ?_
        exact ⟨by first | rfl | (simp; done) | (simp [*]; done), by repeat (first | exact Drawn0.refl _ | apply Drawn0.step)⟩
      rw [if_pos c8] at H
      have c8b0 : decide (x5_1 < (l0.length : Int)) = true := decide_eq_true c8
      clear c8
      by_cases c9 : 0 ≤ x5_1
      rotate_left
      · rw [if_neg c9] at H
        exact absurd H (by simp)
      rw [if_pos c9] at H
      have c9b0 : decide (0 ≤ x5_1) = true := decide_eq_true c9
      clear c9
      have HC10 := Aside0.mk H
      clear H
      have p111 : 0 ≤ (x5_1 : Int) := of_decide_eq_true (by first | (with_reducible assumption) | assumption)
      have q111 : x5_1 < (l0.length : Int) := of_decide_eq_true (by first | (with_reducible assumption) | assumption)
      obtain ⟨ad111, e111, hx111_0⟩ := Kd.at_int HR0.out x5_1 p111 q111
      obtain rfl : ad109 = ad111 := (by injection e111)
      replace p111 := eq_true p111
      replace q111 := eq_true q111
      go_upto_region 10 with (fail)
      go_cut [71] (fun v71 wc => ∃ (kq : Nat) (x71_9 : Bool), v71 = .bool x71_9 ∧ Aside0 (der_tag.j1 kq l0 a1 (Go.bits .or .i64 (wrap64 (x4_1 * 128)) (wrap64 (Go.bits .and .u8 (rd l0 x5_1) 127))) x5_1 x71_9 = some (r1, r2, r3, r4)) ∧ Aside0 (kq ≤ k1) ∧ Drawn0 w wc)
      case first =>
        have H := HC10.out
        clear HC10
        by_cases c11 : x5_1 = (wrap64 (a1 + 1))
        rotate_left
        · rw [if_neg c11] at H
          have c11b0 : (x5_1 == (wrap64 (a1 + 1))) = false := beq_eq_false_iff_ne.mpr c11
          have c11b1 : (x5_1 != (wrap64 (a1 + 1))) = true := bne_iff_ne.mpr c11
          (first | rw [c11b0] | (simp only [i64_w, i32_w]; rw [c11b0]) | skip)
          by_cases c15 : (Go.bits .or .i64 (wrap64 (x4_1 * 128)) (wrap64 (Go.bits .and .u8 (rd l0 x5_1) 127))) > 268435455
          · rw [if_pos c15] at H
            have c15b0 : decide (268435455 < (Go.bits .or .i64 (wrap64 (x4_1 * 128)) (wrap64 (Go.bits .and .u8 (rd l0 x5_1) 127)))) = true := decide_eq_true c15
            clear c15
            have H' := Aside0.mk H
            clear H
            go_wp2
            go_meet
            case rel => exact ⟨_, (true), (by first | rfl | (simp; done) | (simp [*]; done)), H', ⟨by have := HK1.out; first | omega | exact Nat.le_refl _⟩, by repeat (first | exact Drawn0.refl _ | apply Drawn0.step)⟩
          rw [if_neg c15] at H
          have c15b0 : decide (268435455 < (Go.bits .or .i64 (wrap64 (x4_1 * 128)) (wrap64 (Go.bits .and .u8 (rd l0 x5_1) 127)))) = false := decide_eq_false c15
          clear c15
          by_cases c16 : (rd l0 x5_1) < 128
          rotate_left
          · rw [if_neg c16] at H
            have c16b0 : decide ((rd l0 x5_1) < 128) = false := decide_eq_false c16
            clear c16
            have H' := Aside0.mk H
            clear H
            have p114 : 0 ≤ (x5_1 : Int) := of_decide_eq_true (by first | (with_reducible assumption) | assumption)
            have q114 : x5_1 < (l0.length : Int) := of_decide_eq_true (by first | (with_reducible assumption) | assumption)
            obtain ⟨ad114, e114, hx114_0⟩ := Kd.at_int HR0.out x5_1 p114 q114
            obtain rfl : ad109 = ad114 := (by injection e114)
            replace p114 := eq_true p114
            replace q114 := eq_true q114
            go_wp2
            go_meet
            case rel => exact ⟨_, (false), (by first | rfl | (simp; done) | (simp [*]; done)), H', ⟨by have := HK1.out; first | omega | exact Nat.le_refl _⟩, by repeat (first | exact Drawn0.refl _ | apply Drawn0.step)⟩
          rw [if_pos c16] at H
          have c16b0 : decide ((rd l0 x5_1) < 128) = true := decide_eq_true c16
          clear c16
          have H' := Aside0.mk H
          clear H
          have p114 : 0 ≤ (x5_1 : Int) := of_decide_eq_true (by first | (with_reducible assumption) | assumption)
          have q114 : x5_1 < (l0.length : Int) := of_decide_eq_true (by first | (with_reducible assumption) | assumption)
          obtain ⟨ad114, e114, hx114_0⟩ := Kd.at_int HR0.out x5_1 p114 q114
          obtain rfl : ad109 = ad114 := (by injection e114)
          replace p114 := eq_true p114
          replace q114 := eq_true q114
          go_wp2
          go_meet
          case rel => exact ⟨_, (decide ((Go.bits .or .i64 (wrap64 (x4_1 * 128)) (wrap64 (Go.bits .and .u8 (rd l0 x5_1) 127))) < 31)), (by first | rfl | (simp; done) | (simp [*]; done)), H', ⟨by have := HK1.out; first | omega | exact Nat.le_refl _⟩, by repeat (first | exact Drawn0.refl _ | apply Drawn0.step)⟩
        rw [if_pos c11] at H
        have c11b0 : (x5_1 == (wrap64 (a1 + 1))) = true := beq_iff_eq.mpr c11
        have c11b1 : (x5_1 != (wrap64 (a1 + 1))) = false := bne_eq_false_iff_eq.mpr c11
        clear c11
        (first | rw [c11b0] | (simp only [i64_w, i32_w]; rw [c11b0]) | skip)
        by_cases c12 : (rd l0 x5_1) = 128
        · rw [if_pos c12] at H
          have c12b0 : ((rd l0 x5_1) == 128) = true := beq_iff_eq.mpr c12
          have c12b1 : ((rd l0 x5_1) != 128) = false := bne_eq_false_iff_eq.mpr c12
          clear c12
          have H' := Aside0.mk H
          clear H
          have p112 : 0 ≤ (x5_1 : Int) := of_decide_eq_true (by first | (with_reducible assumption) | assumption)
          have q112 : x5_1 < (l0.length : Int) := of_decide_eq_true (by first | (with_reducible assumption) | assumption)
          obtain ⟨ad112, e112, hx112_0⟩ := Kd.at_int HR0.out x5_1 p112 q112
          obtain rfl : ad109 = ad112 := (by injection e112)
          replace p112 := eq_true p112
          replace q112 := eq_true q112
          go_wp2
          go_meet
          case rel => exact ⟨_, (true), (by first | rfl | (simp; done) | (simp [*]; done)), H', ⟨by have := HK1.out; first | omega | exact Nat.le_refl _⟩, by repeat (first | exact Drawn0.refl _ | apply Drawn0.step)⟩
        rw [if_neg c12] at H
        have c12b0 : ((rd l0 x5_1) == 128) = false := beq_eq_false_iff_ne.mpr c12
        have c12b1 : ((rd l0 x5_1) != 128) = true := bne_iff_ne.mpr c12
        by_cases c13 : (Go.bits .or .i64 (wrap64 (x4_1 * 128)) (wrap64 (Go.bits .and .u8 (rd l0 x5_1) 127))) > 268435455
        · rw [if_pos c13] at H
          have c13b0 : decide (268435455 < (Go.bits .or .i64 (wrap64 (x4_1 * 128)) (wrap64 (Go.bits .and .u8 (rd l0 x5_1) 127)))) = true := decide_eq_true c13
          clear c13
          have H' := Aside0.mk H
          clear H
          have p112 : 0 ≤ (x5_1 : Int) := of_decide_eq_true (by first | (with_reducible assumption) | assumption)
          have q112 : x5_1 < (l0.length : Int) := of_decide_eq_true (by first | (with_reducible assumption) | assumption)
          obtain ⟨ad112, e112, hx112_0⟩ := Kd.at_int HR0.out x5_1 p112 q112
          obtain rfl : ad109 = ad112 := (by injection e112)
          replace p112 := eq_true p112
          replace q112 := eq_true q112
          go_wp2
          go_meet
          case rel => exact ⟨_, (true), (by first | rfl | (simp; done) | (simp [*]; done)), H', ⟨by have := HK1.out; first | omega | exact Nat.le_refl _⟩, by repeat (first | exact Drawn0.refl _ | apply Drawn0.step)⟩
        rw [if_neg c13] at H
        have c13b0 : decide (268435455 < (Go.bits .or .i64 (wrap64 (x4_1 * 128)) (wrap64 (Go.bits .and .u8 (rd l0 x5_1) 127)))) = false := decide_eq_false c13
        clear c13
        by_cases c14 : (rd l0 x5_1) < 128
        rotate_left
        · rw [if_neg c14] at H
          have c14b0 : decide ((rd l0 x5_1) < 128) = false := decide_eq_false c14
          clear c14
          have H' := Aside0.mk H
          clear H
          have p112 : 0 ≤ (x5_1 : Int) := of_decide_eq_true (by first | (with_reducible assumption) | assumption)
          have q112 : x5_1 < (l0.length : Int) := of_decide_eq_true (by first | (with_reducible assumption) | assumption)
          obtain ⟨ad112, e112, hx112_0⟩ := Kd.at_int HR0.out x5_1 p112 q112
          obtain rfl : ad109 = ad112 := (by injection e112)
          replace p112 := eq_true p112
          replace q112 := eq_true q112
          have p113 : 0 ≤ (x5_1 : Int) := of_decide_eq_true (by first | (with_reducible assumption) | assumption)
          have q113 : x5_1 < (l0.length : Int) := of_decide_eq_true (by first | (with_reducible assumption) | assumption)
          obtain ⟨ad113, e113, hx113_0⟩ := Kd.at_int HR0.out x5_1 p113 q113
          obtain rfl : ad109 = ad113 := (by injection e113)
          replace p113 := eq_true p113
          replace q113 := eq_true q113
          go_wp2
          go_meet
          case rel => exact ⟨_, (false), (by first | rfl | (simp; done) | (simp [*]; done)), H', ⟨by have := HK1.out; first | omega | exact Nat.le_refl _⟩, by repeat (first | exact Drawn0.refl _ | apply Drawn0.step)⟩
        rw [if_pos c14] at H
        have c14b0 : decide ((rd l0 x5_1) < 128) = true := decide_eq_true c14
        clear c14
        have H' := Aside0.mk H
        clear H
        have p112 : 0 ≤ (x5_1 : Int) := of_decide_eq_true (by first | (with_reducible assumption) | assumption)
        have q112 : x5_1 < (l0.length : Int) := of_decide_eq_true (by first | (with_reducible assumption) | assumption)
        obtain ⟨ad112, e112, hx112_0⟩ := Kd.at_int HR0.out x5_1 p112 q112
        obtain rfl : ad109 = ad112 := (by injection e112)
        replace p112 := eq_true p112
        replace q112 := eq_true q112
        have p113 : 0 ≤ (x5_1 : Int) := of_decide_eq_true (by first | (with_reducible assumption) | assumption)
        have q113 : x5_1 < (l0.length : Int) := of_decide_eq_true (by first | (with_reducible assumption) | assumption)
        obtain ⟨ad113, e113, hx113_0⟩ := Kd.at_int HR0.out x5_1 p113 q113
        obtain rfl : ad109 = ad113 := (by injection e113)
        replace p113 := eq_true p113
        replace q113 := eq_true q113
        go_wp2
        go_meet
        case rel => exact ⟨_, (decide ((Go.bits .or .i64 (wrap64 (x4_1 * 128)) (wrap64 (Go.bits .and .u8 (rd l0 x5_1) 127))) < 31)), (by first | rfl | (simp; done) | (simp [*]; done)), H', ⟨by have := HK1.out; first | omega | exact Nat.le_refl _⟩, by repeat (first | exact Drawn0.refl _ | apply Drawn0.step)⟩
      clear HC10
      try clear c1
      try clear p1
      try clear q1
      try clear hx1
      try clear c2
      try clear p2
      try clear c3
      try clear c3b0
      try clear c4
      try clear c4b0
      try clear c5
      try clear c5b0
      try clear c6
      try clear c6b0
      try clear c6b1
      try clear p6
      try clear c7
      try clear c7b0
      try clear c7b1
      try clear c8
      try clear c8b0
      try clear c9
      try clear c9b0
      try clear p10
      try clear q10
      try clear hx10
      try clear c11
      try clear c11b0
      try clear c11b1
      try clear p11
      try clear q11
      try clear hx11
      try clear c12
      try clear c12b0
      try clear c12b1
      try clear c13
      try clear c13b0
      try clear c14
      try clear c14b0
      try clear c15
      try clear c15b0
      try clear c16
      try clear c16b0
      try clear hx109_0
      try clear hx110_0
      try clear hx111_0
      try clear hx112_0
      try clear hx113_0
      try clear hx114_0
      try clear p1
      try clear p109
      try clear p110
      try clear p111
      try clear p112
      try clear p113
      try clear p114
      try clear p2
      try clear p6
      try clear q1
      try clear q109
      try clear q110
      try clear q111
      try clear q112
      try clear q113
      try clear q114
      obtain ⟨kq, x71_9, rfl, HA, HJ9, ⟨mc9, rfl⟩⟩ := hcut
      cases kq with
      | zero => exact absurd HA.out (by simp [der_tag.j1])
      | succ kj9 =>
        have H := HA.out
        clear HA
        simp only [der_tag.j1] at H
        by_cases c17 : x71_9 = true
        · subst c17
          have H1 : (some (0, 0, 30, x5_1)) = some (r1, r2, r3, r4) := by rw [if_pos rfl] at H; exact H
          clear H
          have H := H1
          clear H1
          simp only [Option.some.injEq, Prod.mk.injEq] at H
          obtain ⟨rfl, rfl, rfl, rfl⟩ := H
          go_wp2
          refine bodyPost_ret (results_list (rs := [.tmp 4, .tmp 5, .tmp 6, .tmp 7]) rfl (by simp) (.tmp (.tmp (.tmp (.tmp .nil))))) rfl ?_
          exact ⟨by first | rfl | (simp; done) | (simp [*]; done), by repeat (first | exact Drawn0.refl _ | apply Drawn0.step)⟩
        replace c17 := Bool.eq_false_iff.mpr c17
        subst c17
        have H1 : (if 0 ≤ x5_1 then (if x5_1 < (l0.length : Int) then (if (rd l0 x5_1) < 128 then (some ((Go.bits .or .i64 (wrap64 (x4_1 * 128)) (wrap64 (Go.bits .and .u8 (rd l0 x5_1) 127))), wrap64 (x5_1 + 1), 0, 0)) else (der_tag.l0 kj9 l0 a1 (Go.bits .or .i64 (wrap64 (x4_1 * 128)) (wrap64 (Go.bits .and .u8 (rd l0 x5_1) 127))) (wrap64 (x5_1 + 1)))) else (none)) else (none)) = some (r1, r2, r3, r4) := by rw [if_neg (show ¬ (false = true) by decide)] at H; exact H
        clear H
        have H := H1
        clear H1
        by_cases c18 : 0 ≤ x5_1
        rotate_left
        · rw [if_neg c18] at H
          exact absurd H (by simp)
        rw [if_pos c18] at H
        have c18b0 : decide (0 ≤ x5_1) = true := decide_eq_true c18
        clear c18
        by_cases c19 : x5_1 < (l0.length : Int)
        rotate_left
        · rw [if_neg c19] at H
          exact absurd H (by simp)
        rw [if_pos c19] at H
        have c19b0 : decide (x5_1 < (l0.length : Int)) = true := decide_eq_true c19
        clear c19
        by_cases c20 : (rd l0 x5_1) < 128
        · rw [if_pos c20] at H
          have c20b0 : decide ((rd l0 x5_1) < 128) = true := decide_eq_true c20
          clear c20
          simp only [Option.some.injEq, Prod.mk.injEq] at H
          obtain ⟨rfl, rfl, rfl, rfl⟩ := H
          have p115 : 0 ≤ (x5_1 : Int) := of_decide_eq_true (by first | (with_reducible assumption) | assumption)
          have q115 : x5_1 < (l0.length : Int) := of_decide_eq_true (by first | (with_reducible assumption) | assumption)
          obtain ⟨ad115, e115, hx115_0⟩ := Kd.at_int HR0.out x5_1 p115 q115
          obtain rfl : ad109 = ad115 := (by injection e115)
          replace p115 := eq_true p115
          replace q115 := eq_true q115
          go_wp2
          refine bodyPost_ret (results_list (rs := [.tmp 4, .tmp 5, .tmp 6, .tmp 7]) rfl (by simp) (.tmp (.tmp (.tmp (.tmp .nil))))) rfl ?_
          exact ⟨by first | rfl | (simp; done) | (simp [*]; done), by repeat (first | exact Drawn0.refl _ | apply Drawn0.step)⟩
        rw [if_neg c20] at H
        have c20b0 : decide ((rd l0 x5_1) < 128) = false := decide_eq_false c20
        clear c20
        have H' := Aside0.mk H
        clear H
        have p115 : 0 ≤ (x5_1 : Int) := of_decide_eq_true (by first | (with_reducible assumption) | assumption)
        have q115 : x5_1 < (l0.length : Int) := of_decide_eq_true (by first | (with_reducible assumption) | assumption)
        obtain ⟨ad115, e115, hx115_0⟩ := Kd.at_int HR0.out x5_1 p115 q115
        obtain rfl : ad109 = ad115 := (by injection e115)
        replace p115 := eq_true p115
        replace q115 := eq_true q115
        go_wp2
        go_roundg kj9
        case measure => have := HK1.out; have := HJ9.out; omega
        case rel => exact ⟨((Go.bits .or .i64 (wrap64 (x4_1 * 128)) (wrap64 (Go.bits .and .u8 (rd l0 x5_1) 127)))), (wrap64 (x5_1 + 1)), (by first | rfl | (simp; done) | (simp [*]; done)), (by first | rfl | (simp; done) | (simp [*]; done)), H', ⟨by have := HK1.out; have := HJ9.out; omega⟩, by repeat (first | exact Drawn0.refl _ | apply Drawn0.step)⟩
end Go.Proofs.YtkioddjjfifadaaGreatDoor.P
