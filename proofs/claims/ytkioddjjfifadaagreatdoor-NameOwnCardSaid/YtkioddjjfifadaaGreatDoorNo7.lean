/- What the proof of NameOwn needs of: Pxf219, Pxf168, Pxf126, Pxf66, Lb0, Lp0, Lp1, Ht3, Hp1, Pxf199, Pxf125, Pxf65, Lb1, Pxf196, Pxf197, Pxf145, Lq1, Lq2, Lq3, Lp2, Pxf229, Pxf183, Lt0, Pxf146. -/
import Derived.Laws.BitsLemmas
import Derived.Laws.Bits64
import Derived.Lib.OthersKept
import Derived.Lib.RuneCountTail
import Derived.Laws.RangeString
import Derived.Lib.TrimUEq
import Derived.Lib.ItoaLen
import Derived.Lib.ItoaNum
import Derived.Test.YtkioddjjfifadaaGreatDoorNo2
import Derived.Test.YtkioddjjfifadaaGreatDoorNo3
import Derived.Test.YtkioddjjfifadaaGreatDoorNo5
import Derived.Test.YtkioddjjfifadaaGreatDoorNo6
namespace Go.Proofs.YtkioddjjfifadaaGreatDoor.P
open Go.RowKit Go.Proofs.YtkioddjjfifadaaGreatDoorW.PrintWords Go.Proofs.YtkioddjjfifadaaGreatDoorW.PrintLast Go.Proofs.YtkioddjjfifadaaGreatDoorW.PrintMore
attribute [local go_sem] max2_int min2_int max_two min_two max_three min_three max_four min_four   -- for this text's walks alone
set_option linter.unusedVariables false
set_option linter.unusedSimpArgs false
def der_seven.l0 : Nat → Int → List Int → Option (List Int)
  | 0, _, _ => none
  | k + 1, x0, x3 => if x0 > 0 then ((some (([Go.bits .or .u8 ((x0) % 256) 128] : List Int) : List Int)).bind fun y541 => (if y541.length + x3.length < 140737488355328 then (der_seven.l0 k (x0 / 128) (y541 ++ x3)) else (none))) else (some x3)
def der_seven.f (k : Nat) (a0 : Int) : Option (List Int) := der_seven.l0 k (a0 / 128) (([(Go.bits .and .u64 a0 127) % 256] : List Int))
set_option maxHeartbeats 8000000 in
set_option maxRecDepth 100000 in
theorem der_seven.calls (k : Nat) (a0 : Int) (r : List Int) (w : World) (h : der_seven.f k a0 = some r) :
    Calls Tryz.prog 219 #[.int .u64 a0] w fun e w' => ∃ v0_ : Value, e = .returned (v0_) ∧ Kd.R (Kd.int .u8) 5 w' w.heap.size (fun _ => True) v0_ r ∧ Below w.heap.size w w' := by
  have HB := Aside0.mk (Below.refl w.heap.size w)
  have H : (der_seven.l0 k (a0 / 128) (([(Go.bits .and .u64 a0 127) % 256] : List Int))) = some r := h
  clear h
  obtain ⟨y538, hy538⟩ : ∃ y_ : List Int, y_ = (([(Go.bits .and .u64 a0 127) % 256] : List Int)) := ⟨_, rfl⟩
  replace H : (der_seven.l0 k (a0 / 128) y538) = some r := by first | (rw [hy538]; with_reducible exact H) | (have H2_ := (Option.bind_some _ _).symm.trans H; rw [hy538]; with_reducible exact H2_) | (have H2_ := (Option.bind_some _ _).symm.trans H; with_reducible exact H2_) | with_reducible exact H | (rw [hy538]; exact H) | exact H
  have Ny538 := Aside0.mk hy538
  clear hy538
  have H' := Aside0.mk H
  clear H
  go_enter Tryz.func219, Tryz.ntmps219
  go_wp2_with (first | ((with_reducible refine gate_dst (N := 7) rfl ?_); refine Kd.R_lit (Kd.int .u8) _ 5 ?hg (N := 7) ?hd (xs := ([(Go.bits .and .u64 a0 127) % 256] : List Int)) (inner := [.int .u8 ((Go.bits .and .u64 a0 127) % 256)]) (ok := fun _ => True) (okp := fun _ => True) ?hr ?hp (fun _ hk => hk) trivial (Below.refl _ _) (Nat.le_refl _) (by simp) ?_; (case hd => rfl); (case hg => rfl); (case hr => first | (go_simp; done) | (go_simp; rfl)); (case hp => exact (Reps.one (show Kd.M (Kd.int .u8) _ _ _ ((Go.bits .and .u64 a0 127) % 256) [.int .u8 ((Go.bits .and .u64 a0 127) % 256)] from rfl) (Reps.none _ _))); intro v539 w2 ho3 hb hg_ hnew_; clear hg_ hnew_; (first | rw [← Ny538.out] at ho3 | (simp only [Int.reduceToNat] at ho3; rw [← Ny538.out] at ho3)); have n0_ := Aside0.mk (Kd.R_lower ho3 (below_size (by repeat (first | (with_reducible first | exact HB.out | apply below_alloc | apply pw_below_drewN | apply below_drew1) | exact HB.out)))); have n1_ := Aside0.mk (below_step (by repeat (first | (with_reducible first | exact HB.out | apply below_alloc | apply pw_below_drewN | apply below_drew1) | exact HB.out)) hb); clear HB; have HO540 := n0_; have HB := n1_; clear n0_ n1_; clear hb ho3))
  go_loopg [0, 3] k (fun kq v0 v3 w' => ∃ (x0_1 : Int) (x3_1 : List Int), v0 = .int .u64 x0_1 ∧ Aside0 (der_seven.l0 kq x0_1 x3_1 = some r) ∧ Aside0 (kq ≤ k) ∧ Aside0 (Kd.R (Kd.int .u8) 5 w' w.heap.size (fun _ => True) v3 x3_1) ∧ Aside0 (Below w.heap.size w w'))
  case atStart => exact ⟨(a0 / 128), (y538), (by first | rfl | (simp; done) | (simp [*]; done)), H', ⟨Nat.le_refl _⟩, ⟨by (with_reducible repeat (first | apply Kd.R_alloc | apply Kd.R_drewN | apply Kd.R_drew)); exact HO540.out⟩, ⟨by repeat (first | (with_reducible first | exact HB.out | apply below_alloc | apply pw_below_drewN | apply below_drew1) | exact HB.out)⟩⟩
  case round =>
    clear H'
    try clear c2
    try clear p2
    obtain ⟨x0_1, x3_1, rfl, HA, HK1, HO_3, HB⟩ := hrel
    cases gk with
    | zero => exact absurd HA.out (by simp [der_seven.l0])
    | succ k1 =>
      have H := HA.out
      clear HA
      simp only [der_seven.l0] at H
      by_cases c4 : x0_1 > 0
      · rw [if_pos c4] at H
        have c4b0 : decide (0 < x0_1) = true := decide_eq_true c4
        clear c4
        obtain ⟨y541, hy541⟩ : ∃ y_ : List Int, y_ = (([Go.bits .or .u8 ((x0_1) % 256) 128] : List Int)) := ⟨_, rfl⟩
        replace H : (if y541.length + x3_1.length < 140737488355328 then (der_seven.l0 k1 (x0_1 / 128) (y541 ++ x3_1)) else (none)) = some r := by first | (rw [hy541]; with_reducible exact H) | (have H2_ := (Option.bind_some _ _).symm.trans H; rw [hy541]; with_reducible exact H2_) | (have H2_ := (Option.bind_some _ _).symm.trans H; with_reducible exact H2_) | with_reducible exact H | (rw [hy541]; exact H) | exact H
        have Ny541 := Aside0.mk hy541
        clear hy541
        by_cases c5 : y541.length + x3_1.length < 140737488355328
        · rw [if_pos c5] at H
          have LMc5 := Aside0.mk c5
          clear c5
          obtain ⟨y544, hy544⟩ : ∃ y_ : List Int, y_ = (y541 ++ x3_1) := ⟨_, rfl⟩
          replace H : (der_seven.l0 k1 (x0_1 / 128) y544) = some r := by first | (rw [hy544]; with_reducible exact H) | (have H2_ := (Option.bind_some _ _).symm.trans H; rw [hy544]; with_reducible exact H2_) | (have H2_ := (Option.bind_some _ _).symm.trans H; with_reducible exact H2_) | with_reducible exact H | (rw [hy544]; exact H) | exact H
          have Ny544 := Aside0.mk hy544
          clear hy544
          have H' := Aside0.mk H
          clear H
          go_wp2_with (first | ((with_reducible refine gate_dst (N := 17) rfl ?_); refine Kd.R_lit (Kd.int .u8) _ 5 ?hg (N := 17) ?hd (xs := ([Go.bits .or .u8 ((x0_1) % 256) 128] : List Int)) (inner := [.int .u8 (Go.bits .or .u8 ((x0_1) % 256) 128)]) (ok := fun _ => True) (okp := fun _ => True) ?hr ?hp (fun _ hk => hk) trivial (Below.refl _ _) (Nat.le_refl _) (by simp) ?_; (case hd => rfl); (case hg => rfl); (case hr => first | (go_simp; done) | (go_simp; rfl)); (case hp => exact (Reps.one (show Kd.M (Kd.int .u8) _ _ _ (Go.bits .or .u8 ((x0_1) % 256) 128) [.int .u8 (Go.bits .or .u8 ((x0_1) % 256) 128)] from rfl) (Reps.none _ _))); intro v542 w6 ho7 hb hg_ hnew_; clear hg_ hnew_; (first | rw [← Ny541.out] at ho7 | (simp only [Int.reduceToNat] at ho7; rw [← Ny541.out] at ho7)); have n0_ := Aside0.mk (Kd.R_elder' (by (with_reducible repeat (first | apply Kd.R_alloc | apply Kd.R_drewN | apply Kd.R_drew)); exact HO_3.out) (Kd.R_base ho7) hb); have n1_ := Aside0.mk (Kd.R_lower (Kd.R_new' ho7 (Kd.R_lt (by (with_reducible repeat (first | apply Kd.R_alloc | apply Kd.R_drewN | apply Kd.R_drew)); exact HO_3.out))) (below_size (by repeat (first | (with_reducible first | exact HB.out | apply below_alloc | apply pw_below_drewN | apply below_drew1) | exact HB.out)))); have n2_ := Aside0.mk (below_step (by repeat (first | (with_reducible first | exact HB.out | apply below_alloc | apply pw_below_drewN | apply below_drew1) | exact HB.out)) hb); clear HO_3; clear HB; have HO_3 := n0_; have HO543 := n1_; have HB := n2_; clear n0_ n1_ n2_; clear hb ho7; obtain ⟨Ao9, co9, eo9⟩ := Kd.R_slice HO_3.out; subst eo9) | ((with_reducible refine gate_builtin (b := .append) (xs := #[.tmp 17, .tmp 18]) rfl ?_); at_builtin; refine Kd.R_append_rows (Kd.int .u8) (w0 := w) w.heap.size rfl (.tmp 17) (.tmp 18) 22 5 (.int .u8 0) 1 rfl Tryz.underlying22 info5 rfl (by decide) (by omega) v542 y541 x3_1 _ _ _ (fun k_ => some k_ ≠ (.slice Ao9 x3_1.length co9 : Value).ownBlock) (fun _ => False) rfl rfl ?aO ?aR (fun _ _ h => h) (fun _ h => h.elim) ?aF ?aB ?aS ?aL ?_; (case aR => repeat (first | exact (Kd.R_reads' HO_3.out).2.2 | (with_reducible refine Kd.C_alloc ?_ _) | (with_reducible refine Kd.C_drewN ?_ _) | (with_reducible refine Kd.C_drew ?_))); (case aB => exact (by repeat (first | (with_reducible first | exact HB.out | apply below_alloc | apply pw_below_drewN | apply below_drew1) | exact HB.out))); (case aF => exact (fun k_ hk => Kd.fresh' (Kd.R_lt (by (with_reducible repeat (first | apply Kd.R_alloc | apply Kd.R_drewN | apply Kd.R_drew)); exact HO_3.out)) k_ hk)); (case aO => exact (by (with_reducible repeat (first | apply Kd.R_alloc | apply Kd.R_drewN | apply Kd.R_drew)); exact Kd.R_mono HO543.out (fun _ hk => hk.2))); (case aS => exact (below_size (by repeat (first | (with_reducible first | exact HB.out | apply below_alloc | apply pw_below_drewN | apply below_drew1) | exact HB.out)))); (case aL => have := LMc5.out; omega); intro v545 w8 ho hb hg hat; rw [← Ny544.out] at ho; have n0_ := Aside0.mk (Kd.R_after (ok := (fun _ => True)) (by (with_reducible repeat (first | apply Kd.R_alloc | apply Kd.R_drewN | apply Kd.R_drew)); exact HO_3.out) hg hat); have n1_ := Aside0.mk (hb); have n2_ := Aside0.mk (ho); clear HO_3; clear HB; clear HO543; have HO_3 := n0_; have HB := n1_; have HO546 := n2_; clear n0_ n1_ n2_; clear ho hb hg hat))
          go_roundg k1
          case measure => have := HK1.out; omega
          case rel => exact ⟨(x0_1 / 128), (y544), (by first | rfl | (simp; done) | (simp [*]; done)), H', ⟨by have := HK1.out; omega⟩, ⟨by (with_reducible repeat (first | apply Kd.R_alloc | apply Kd.R_drewN | apply Kd.R_drew)); exact Kd.R_mono HO546.out (fun _ hk => trivial)⟩, ⟨by repeat (first | (with_reducible first | exact HB.out | apply below_alloc | apply pw_below_drewN | apply below_drew1) | exact HB.out)⟩⟩
        · rw [if_neg c5] at H
          exact absurd H (by simp)
      · rw [if_neg c4] at H
        have c4b0 : decide (0 < x0_1) = false := decide_eq_false c4
        clear c4
        obtain rfl := Option.some.inj H
        go_wp2
        go_ret
        exact ⟨_, by first | rfl | (simp [errW_none, errW_some] <;> rfl) | (simp [*, errW_none, errW_some] <;> rfl), by (with_reducible repeat (first | apply Kd.R_alloc | apply Kd.R_drewN | apply Kd.R_drew)); exact HO_3.out, by repeat (first | (with_reducible first | exact HB.out | apply below_alloc | apply pw_below_drewN | apply below_drew1) | exact HB.out)⟩
end Go.Proofs.YtkioddjjfifadaaGreatDoor.P
namespace Go.Proofs.YtkioddjjfifadaaGreatDoor.P
open Go.RowKit Go.Proofs.YtkioddjjfifadaaGreatDoorW.PrintWords Go.Proofs.YtkioddjjfifadaaGreatDoorW.PrintLast Go.Proofs.YtkioddjjfifadaaGreatDoorW.PrintMore
attribute [local go_sem] max2_int min2_int max_two min_two max_three min_three max_four min_four   -- for this text's walks alone
set_option linter.unusedVariables false
set_option linter.unusedSimpArgs false
mutual
def der_Put.j0 : Nat → Int → Int → Bool → List (List Int) → Bool → Option (List Int × Int)
  | 0, _, _, _, _, _ => none
  | k + 1, x0, x1, x2, x3, x37 => if x37 = true then (some (([] : List Int), 1)) else (der_Put.l0 k x0 x1 x2 x3 0 x3 (x3.length : Int) 0)
def der_Put.l0 : Nat → Int → Int → Bool → List (List Int) → Int → List (List Int) → Int → Int → Option (List Int × Int)
  | 0, _, _, _, _, _, _, _, _ => none
  | k + 1, x0, x1, x2, x3, x10, x38, x39, x40 => if x40 < x39 then (if 0 ≤ x40 then (if x40 < (x38.length : Int) then (if ((rd_L1 x38 x40).length : Int) > (wrap64 (16777216 - x10)) then (some (([] : List Int), 3)) else (der_Put.l0 k x0 x1 x2 x3 (wrap64 (x10 + ((rd_L1 x38 x40).length : Int))) x38 x39 (wrap64 (x40 + 1)))) else (none)) else (none)) else (if x2 = true then (der_Put.j2 k x1 x3 x10 (Go.bits .or .u8 ((wrap64 (x0 * 64)) % 256) 32)) else (der_Put.j2 k x1 x3 x10 ((wrap64 (x0 * 64)) % 256)))
def der_Put.j2 : Nat → Int → List (List Int) → Int → Int → Option (List Int × Int)
  | 0, _, _, _, _ => none
  | k + 1, x1, x3, x10, x13 => if x1 < 31 then (if ([] : List Int).length < 140737488355328 then (der_Put.j3 k x3 x10 (([] : List Int) ++ [Go.bits .or .u8 x13 ((x1) % 256)])) else (none)) else (if ([] : List Int).length < 140737488355328 then ((some (([] : List Int) ++ [Go.bits .or .u8 x13 31] : List Int)).bind fun y279 => ((der_seven.f k (IntKind.u64.wrap (x1))).bind fun t282 => (if y279.length + t282.length < 140737488355328 then (der_Put.j3 k x3 x10 (y279 ++ t282)) else (none)))) else (none))
def der_Put.j3 : Nat → List (List Int) → Int → List Int → Option (List Int × Int)
  | 0, _, _, _ => none
  | k + 1, x3, x10, x14 => if x10 < 128 then (if x14.length < 140737488355328 then (der_Put.j4 k x3 (x14 ++ [(x10) % 256])) else (none)) else ((bytes_trimLeftByte.f k (([(x10 / 16777216) % 256, (x10 / 65536) % 256, (x10 / 256) % 256, (x10) % 256] : List Int)) 0).bind fun t294 => (if x14.length < 140737488355328 then ((some (x14 ++ [Go.bits .or .u8 128 (((t294.length : Int)) % 256)] : List Int)).bind fun y297 => (if y297.length + t294.length < 140737488355328 then (der_Put.j4 k x3 (y297 ++ t294)) else (none))) else (none)))
def der_Put.j4 : Nat → List (List Int) → List Int → Option (List Int × Int)
  | 0, _, _ => none
  | k + 1, x3, x14 => der_Put.l1 k x14 x3 (x3.length : Int) 0
def der_Put.l1 : Nat → List Int → List (List Int) → Int → Int → Option (List Int × Int)
  | 0, _, _, _, _ => none
  | k + 1, x14, x111, x112, x113 => if x113 < x112 then (if 0 ≤ x113 then (if x113 < (x111.length : Int) then (if x14.length + (rd_L1 x111 x113).length < 140737488355328 then (der_Put.l1 k (x14 ++ (rd_L1 x111 x113)) x111 x112 (wrap64 (x113 + 1))) else (none)) else (none)) else (none)) else (some (x14, 0))
end
def der_Put.f (k : Nat) (a0 : Int) (a1 : Int) (a2 : Bool) (l3 : List (List Int)) : Option (List Int × Int) := if a0 < 0 then (der_Put.j0 k a0 a1 a2 l3 true) else (if a0 > 3 then (der_Put.j0 k a0 a1 a2 l3 true) else (if a1 < 0 then (der_Put.j0 k a0 a1 a2 l3 true) else (if a1 > 268435455 then (der_Put.j0 k a0 a1 a2 l3 true) else (der_Put.j0 k a0 a1 a2 l3 ((wrap64 (a0 + a1)) == 0)))))
set_option maxHeartbeats 8000000 in
set_option maxRecDepth 100000 in
theorem der_Put.calls (k : Nat) (a0 : Int) (a1 : Int) (a2 : Bool) (A3 : Option Addr) (c3 : Nat) (l3 : List (List Int)) (r1 : List Int) (r2 : Int) (w : World) (hr3 : Kd.C (Kd.slice 5 (Kd.int .u8)) w A3 l3.length l3) (hc3 : l3.length ≤ c3) (h : der_Put.f k a0 a1 a2 l3 = some (r1, r2)) :
    Calls Tryz.prog 168 #[.int .i64 a0, .int .i64 a1, .bool a2, .slice A3 l3.length c3] w fun e w' => ∃ v0_ : Value, e = .returned (.tuple #[v0_, .int .i64 r2]) ∧ Kd.R (Kd.int .u8) 5 w' w.heap.size (fun _ => True) v0_ r1 ∧ Below w.heap.size w w' := by
  have HR3 := Aside0.mk hr3
  have HC3 := Aside0.mk hc3
  clear hr3 hc3
  have HB := Aside0.mk (Below.refl w.heap.size w)
  have H : (if a0 < 0 then (der_Put.j0 k a0 a1 a2 l3 true) else (if a0 > 3 then (der_Put.j0 k a0 a1 a2 l3 true) else (if a1 < 0 then (der_Put.j0 k a0 a1 a2 l3 true) else (if a1 > 268435455 then (der_Put.j0 k a0 a1 a2 l3 true) else (der_Put.j0 k a0 a1 a2 l3 ((wrap64 (a0 + a1)) == 0)))))) = some (r1, r2) := h
  clear h
  have HC5 := Aside0.mk H
  clear H
  go_enter Tryz.func168, Tryz.ntmps168
  go_upto_region 1 with (fail)
  go_cut [37] (fun v37 wc => ∃ (kq : Nat) (x37_4 : Bool), v37 = .bool x37_4 ∧ Aside0 (der_Put.j0 kq a0 a1 a2 l3 x37_4 = some (r1, r2)) ∧ Aside0 (kq ≤ k) ∧ Aside0 (Below w.heap.size w wc))
  case first =>
    have H := HC5.out
    clear HC5
    by_cases c6 : a0 < 0
    · rw [if_pos c6] at H
      have c6b0 : decide (a0 < 0) = true := decide_eq_true c6
      clear c6
      (first | rw [c6b0] | (simp only [i64_w, i32_w]; rw [c6b0]) | skip)
      have H' := Aside0.mk H
      clear H
      go_wp2
      go_meet
      case rel => exact ⟨_, (true), (by first | rfl | (simp; done) | (simp [*]; done)), H', ⟨by first | omega | exact Nat.le_refl _⟩, ⟨by repeat (first | (with_reducible first | exact HB.out | apply below_alloc | apply pw_below_drewN | apply below_drew1) | exact HB.out)⟩⟩
    · rw [if_neg c6] at H
      have c6b0 : decide (a0 < 0) = false := decide_eq_false c6
      clear c6
      (first | rw [c6b0] | (simp only [i64_w, i32_w]; rw [c6b0]) | skip)
      by_cases c7 : a0 > 3
      · rw [if_pos c7] at H
        have c7b0 : decide (3 < a0) = true := decide_eq_true c7
        clear c7
        have H' := Aside0.mk H
        clear H
        go_wp2
        go_meet
        case rel => exact ⟨_, (true), (by first | rfl | (simp; done) | (simp [*]; done)), H', ⟨by first | omega | exact Nat.le_refl _⟩, ⟨by repeat (first | (with_reducible first | exact HB.out | apply below_alloc | apply pw_below_drewN | apply below_drew1) | exact HB.out)⟩⟩
      · rw [if_neg c7] at H
        have c7b0 : decide (3 < a0) = false := decide_eq_false c7
        clear c7
        by_cases c8 : a1 < 0
        · rw [if_pos c8] at H
          have c8b0 : decide (a1 < 0) = true := decide_eq_true c8
          clear c8
          have H' := Aside0.mk H
          clear H
          go_wp2
          go_meet
          case rel => exact ⟨_, (true), (by first | rfl | (simp; done) | (simp [*]; done)), H', ⟨by first | omega | exact Nat.le_refl _⟩, ⟨by repeat (first | (with_reducible first | exact HB.out | apply below_alloc | apply pw_below_drewN | apply below_drew1) | exact HB.out)⟩⟩
        · rw [if_neg c8] at H
          have c8b0 : decide (a1 < 0) = false := decide_eq_false c8
          clear c8
          by_cases c9 : a1 > 268435455
          · rw [if_pos c9] at H
            have c9b0 : decide (268435455 < a1) = true := decide_eq_true c9
            clear c9
            have H' := Aside0.mk H
            clear H
            go_wp2
            go_meet
            case rel => exact ⟨_, (true), (by first | rfl | (simp; done) | (simp [*]; done)), H', ⟨by first | omega | exact Nat.le_refl _⟩, ⟨by repeat (first | (with_reducible first | exact HB.out | apply below_alloc | apply pw_below_drewN | apply below_drew1) | exact HB.out)⟩⟩
          · rw [if_neg c9] at H
            have c9b0 : decide (268435455 < a1) = false := decide_eq_false c9
            clear c9
            have H' := Aside0.mk H
            clear H
            go_wp2
            go_meet
            case rel => exact ⟨_, (((wrap64 (a0 + a1)) == 0)), (by first | rfl | (simp; done) | (simp [*]; done)), H', ⟨by first | omega | exact Nat.le_refl _⟩, ⟨by repeat (first | (with_reducible first | exact HB.out | apply below_alloc | apply pw_below_drewN | apply below_drew1) | exact HB.out)⟩⟩
  case rest =>
    clear HC5
    try clear c1
    try clear p2
    try clear c3
    try clear c6
    try clear c6b0
    try clear p6
    try clear c7
    try clear c7b0
    try clear c8
    try clear c8b0
    try clear c9
    try clear c9b0
    obtain ⟨kq, x37_4, rfl, HA, HJ4, HB⟩ := hcut
    cases kq with
    | zero => exact absurd HA.out (by simp [der_Put.j0])
    | succ kj4 =>
      have H := HA.out
      clear HA
      simp only [der_Put.j0] at H
      by_cases c10 : x37_4 = true
      · subst c10
        have H1 : (some (([] : List Int), 1)) = some (r1, r2) := by rw [if_pos rfl] at H; exact H
        clear H
        have H := H1
        clear H1
        simp only [Option.some.injEq, Prod.mk.injEq] at H
        obtain ⟨rfl, rfl⟩ := H
        go_wp2
        go_ret2
        exact ⟨_, by first | rfl | (simp [errW_none, errW_some] <;> rfl) | (simp [*, errW_none, errW_some] <;> rfl), by first | exact Kd.R_nil _ _ _ _ _ | exact Kd.N_nil _ _ _ _ _ | exact Kd.V_nil _ _ _ _ _ | exact Kd.Q_nil _ _ _ _ _ | exact Kd.S_nil _ _ _ _ _, by repeat (first | (with_reducible first | exact HB.out | apply below_alloc | apply pw_below_drewN | apply below_drew1) | exact HB.out)⟩
      · replace c10 := Bool.eq_false_iff.mpr c10
        subst c10
        have H1 : (der_Put.l0 kj4 a0 a1 a2 l3 0 l3 (l3.length : Int) 0) = some (r1, r2) := by rw [if_neg (show ¬ (false = true) by decide)] at H; exact H
        clear H
        have H := H1
        clear H1
        have H' := Aside0.mk H
        clear H
        go_wp2
        go_loopg [10, 40] kj4 (fun kq v10 v40 w' => ∃ (x10_2 : Int) (x40_2 : Int), v10 = .int .i64 x10_2 ∧ v40 = .int .i64 x40_2 ∧ Aside0 (der_Put.l0 kq a0 a1 a2 l3 x10_2 l3 (l3.length : Int) x40_2 = some (r1, r2)) ∧ Aside0 (kq ≤ kj4) ∧ Aside0 (Below w.heap.size w w') ∧ Aside0 (0 ≤ x10_2 ∧ x10_2 ≤ 16777216))
        case atStart => exact ⟨(0), (0), (by first | rfl | (simp; done) | (simp [*]; done)), (by first | rfl | (simp; done) | (simp [*]; done)), H', ⟨Nat.le_refl _⟩, ⟨by repeat (first | (with_reducible first | exact HB.out | apply below_alloc | apply pw_below_drewN | apply below_drew1) | exact HB.out)⟩, ⟨by decide⟩⟩
        case round =>
          clear H'
          try clear c1
          try clear p2
          try clear c3
          try clear c6
          try clear c6b0
          try clear p6
          try clear c7
          try clear c7b0
          try clear c8
          try clear c8b0
          try clear c9
          try clear c9b0
          try clear c10
          try clear p2
          try clear p6
          obtain ⟨x10_2, x40_2, rfl, rfl, HA, HK2, HB, HX10⟩ := hrel
          cases gk with
          | zero => exact absurd HA.out (by simp [der_Put.l0])
          | succ k2 =>
            have H := HA.out
            clear HA
            simp only [der_Put.l0] at H
            by_cases c11 : x40_2 < (l3.length : Int)
            · rw [if_pos c11] at H
              have c11b0 : decide (x40_2 < (l3.length : Int)) = true := decide_eq_true c11
              clear c11
              by_cases c12 : 0 ≤ x40_2
              · rw [if_pos c12] at H
                have c12b0 : decide (0 ≤ x40_2) = true := decide_eq_true c12
                clear c12
                by_cases c13 : x40_2 < (l3.length : Int)
                · rw [if_pos c13] at H
                  have c13b0 : decide (x40_2 < (l3.length : Int)) = true := decide_eq_true c13
                  clear c13
                  by_cases c14 : ((rd_L1 l3 x40_2).length : Int) > (wrap64 (16777216 - x10_2))
                  · rw [if_pos c14] at H
                    have c14b0 : decide ((wrap64 (16777216 - x10_2)) < ((rd_L1 l3 x40_2).length : Int)) = true := decide_eq_true c14
                    clear c14
                    simp only [Option.some.injEq, Prod.mk.injEq] at H
                    obtain ⟨rfl, rfl⟩ := H
                    have p275 : 0 ≤ (x40_2 : Int) := of_decide_eq_true (by first | (with_reducible assumption) | assumption)
                    have q275 : x40_2 < (l3.length : Int) := of_decide_eq_true (by first | (with_reducible assumption) | assumption)
                    obtain ⟨ad275, A275_0, c275_0, e275, hx275_0, hl275_0, hi275_0⟩ := at_L1 HR3.out x40_2 p275 q275
                    cases e275
                    replace hx275_0 := (HB.out.cell (World.block_lt_of_cell? w _ hx275_0)).trans hx275_0
                    have HR275_0 := Aside0.mk hi275_0
                    have HC275_0 := Aside0.mk hl275_0
                    clear hi275_0 hl275_0
                    replace p275 := eq_true p275
                    replace q275 := eq_true q275
                    go_wp2
                    go_ret2
                    exact ⟨_, by first | rfl | (simp [errW_none, errW_some] <;> rfl) | (simp [*, errW_none, errW_some] <;> rfl), by first | exact Kd.R_nil _ _ _ _ _ | exact Kd.N_nil _ _ _ _ _ | exact Kd.V_nil _ _ _ _ _ | exact Kd.Q_nil _ _ _ _ _ | exact Kd.S_nil _ _ _ _ _, by repeat (first | (with_reducible first | exact HB.out | apply below_alloc | apply pw_below_drewN | apply below_drew1) | exact HB.out)⟩
                  · rw [if_neg c14] at H
                    have c14b0 : decide ((wrap64 (16777216 - x10_2)) < ((rd_L1 l3 x40_2).length : Int)) = false := decide_eq_false c14
                    have HX2 : Aside0 (0 ≤ wrap64 (x10_2 + ((rd_L1 l3 x40_2).length : Int)) ∧ wrap64 (x10_2 + ((rd_L1 l3 x40_2).length : Int)) ≤ 16777216) := ⟨put_len HX10.out c14⟩
                    clear c14
                    have H' := Aside0.mk H
                    clear H
                    have p275 : 0 ≤ (x40_2 : Int) := of_decide_eq_true (by first | (with_reducible assumption) | assumption)
                    have q275 : x40_2 < (l3.length : Int) := of_decide_eq_true (by first | (with_reducible assumption) | assumption)
                    obtain ⟨ad275, A275_0, c275_0, e275, hx275_0, hl275_0, hi275_0⟩ := at_L1 HR3.out x40_2 p275 q275
                    cases e275
                    replace hx275_0 := (HB.out.cell (World.block_lt_of_cell? w _ hx275_0)).trans hx275_0
                    have HR275_0 := Aside0.mk hi275_0
                    have HC275_0 := Aside0.mk hl275_0
                    clear hi275_0 hl275_0
                    replace p275 := eq_true p275
                    replace q275 := eq_true q275
                    go_wp2
                    go_roundg k2
                    case measure => have := HJ4.out; have := HK2.out; omega
                    case rel => exact ⟨(wrap64 (x10_2 + ((rd_L1 l3 x40_2).length : Int))), (wrap64 (x40_2 + 1)), (by first | rfl | (simp; done) | (simp [*]; done)), (by first | rfl | (simp; done) | (simp [*]; done)), H', ⟨by have := HJ4.out; have := HK2.out; omega⟩, ⟨by repeat (first | (with_reducible first | exact HB.out | apply below_alloc | apply pw_below_drewN | apply below_drew1) | exact HB.out)⟩, HX2⟩
                · rw [if_neg c13] at H
                  exact absurd H (by simp)
              · rw [if_neg c12] at H
                exact absurd H (by simp)
            · rw [if_neg c11] at H
              have c11b0 : decide (x40_2 < (l3.length : Int)) = false := decide_eq_false c11
              clear c11
              have HC15 := Aside0.mk H
              clear H
              go_upto_if 57 with (fail)
              go_cut [13] (fun v13 wc => ∃ (kq : Nat) (x13_14 : Int), v13 = .int .u8 x13_14 ∧ Aside0 (der_Put.j2 kq a1 l3 x10_2 x13_14 = some (r1, r2)) ∧ Aside0 (kq ≤ k2) ∧ Aside0 (Below w.heap.size w wc))
              case first =>
                have H := HC15.out
                clear HC15
                by_cases c16 : a2 = true
                · subst c16
                  have H1 : (der_Put.j2 k2 a1 l3 x10_2 (Go.bits .or .u8 ((wrap64 (a0 * 64)) % 256) 32)) = some (r1, r2) := by rw [if_pos rfl] at H; exact H
                  clear H
                  have H := H1
                  clear H1
                  have H' := Aside0.mk H
                  clear H
                  go_wp2
                  go_meet
                  case rel => exact ⟨_, (Go.bits .or .u8 ((wrap64 (a0 * 64)) % 256) 32), (by first | rfl | (simp; done) | (simp [*]; done)), H', ⟨by have := HJ4.out; have := HK2.out; first | omega | exact Nat.le_refl _⟩, ⟨by repeat (first | (with_reducible first | exact HB.out | apply below_alloc | apply pw_below_drewN | apply below_drew1) | exact HB.out)⟩⟩
                · replace c16 := Bool.eq_false_iff.mpr c16
                  subst c16
                  have H1 : (der_Put.j2 k2 a1 l3 x10_2 ((wrap64 (a0 * 64)) % 256)) = some (r1, r2) := by rw [if_neg (show ¬ (false = true) by decide)] at H; exact H
                  clear H
                  have H := H1
                  clear H1
                  have H' := Aside0.mk H
                  clear H
                  go_wp2
                  go_meet
                  case rel => exact ⟨_, ((wrap64 (a0 * 64)) % 256), (by first | rfl | (simp; done) | (simp [*]; done)), H', ⟨by have := HJ4.out; have := HK2.out; first | omega | exact Nat.le_refl _⟩, ⟨by repeat (first | (with_reducible first | exact HB.out | apply below_alloc | apply pw_below_drewN | apply below_drew1) | exact HB.out)⟩⟩
              case rest =>
                clear HC15
                try clear c1
                try clear c2
                try clear p2
                try clear q2
                try clear hx2
                try clear c3
                try clear c6
                try clear c6b0
                try clear p6
                try clear c7
                try clear c7b0
                try clear c8
                try clear c8b0
                try clear c9
                try clear c9b0
                try clear c10
                try clear c11
                try clear c11b0
                try clear c12
                try clear c12b0
                try clear c13
                try clear c13b0
                try clear c14
                try clear c14b0
                try clear c16
                try clear hx275_0
                try clear p2
                try clear p275
                try clear p6
                try clear q275
                obtain ⟨kq, x13_14, rfl, HA, HJ14, HB⟩ := hcut
                cases kq with
                | zero => exact absurd HA.out (by simp [der_Put.j2])
                | succ kj14 =>
                  have H := HA.out
                  clear HA
                  simp only [der_Put.j2] at H
                  have HC17 := Aside0.mk H
                  clear H
                  have hwc : wrap64 (x10_2 + 10) = ((x10_2 + 10).toNat : Int) := put_cap HX10.out
                  have HWC := Aside0.mk hwc
                  clear hwc
                  go_upto_if 64 with ((with_reducible refine gate_dst (N := 62) rfl ?_); refine make_bytes w rfl rfl rfl (x10_2 + 10).toNat (congrArg (Value.int .i64) HWC.out) Tryz.underlying22 info5 (put_cap2 HX10.out) HB.out ?_; intro vM wM hv hb; have HOM := Aside0.mk hv; have HBM := Aside0.mk hb; clear hv hb HB; have HB := HBM; clear HBM)
                  go_cut [14] (fun v14 wc => ∃ (kq : Nat) (x14_16 : List Int), Aside0 (der_Put.j3 kq l3 x10_2 x14_16 = some (r1, r2)) ∧ Aside0 (kq ≤ kj14) ∧ Aside0 (Kd.R (Kd.int .u8) 5 wc w.heap.size (fun _ => True) v14 x14_16) ∧ Aside0 (Below w.heap.size w wc))
                  case first =>
                    have H := HC17.out
                    clear HC17
                    by_cases c18 : a1 < 31
                    · rw [if_pos c18] at H
                      have c18b0 : decide (a1 < 31) = true := decide_eq_true c18
                      clear c18
                      (first | rw [c18b0] | (simp only [i64_w, i32_w]; rw [c18b0]) | skip)
                      by_cases c19 : ([] : List Int).length < 140737488355328
                      · rw [if_pos c19] at H
                        have LMc19 := Aside0.mk c19
                        clear c19
                        obtain ⟨y276, hy276⟩ : ∃ y_ : List Int, y_ = (([] : List Int) ++ [Go.bits .or .u8 x13_14 ((a1) % 256)]) := ⟨_, rfl⟩
                        replace H : (der_Put.j3 kj14 l3 x10_2 y276) = some (r1, r2) := by first | (rw [hy276]; with_reducible exact H) | (have H2_ := (Option.bind_some _ _).symm.trans H; rw [hy276]; with_reducible exact H2_) | (have H2_ := (Option.bind_some _ _).symm.trans H; with_reducible exact H2_) | with_reducible exact H | (rw [hy276]; exact H) | exact H
                        have Ny276 := Aside0.mk hy276
                        clear hy276
                        have H' := Aside0.mk H
                        clear H
                        go_wp2_with (first | ((with_reducible refine gate_builtin (b := .append) (xs := #[.tmp 65, .tmp 70]) rfl ?_); at_builtin; refine Kd.R_append (Kd.int .u8) (w0 := w) w.heap.size rfl (.tmp 65) (.tmp 70) 22 5 (.int .u8 0) 1 rfl Tryz.underlying22 info5 rfl (by decide) (by omega) vM ([] : List Int) (Go.bits .or .u8 x13_14 ((a1) % 256)) [.int .u8 (Go.bits .or .u8 x13_14 ((a1) % 256))] (fun _ => True) (fun _ => False) rfl rfl ?aP (fun _ hk => hk.elim) ?aF ?aO ?aB ?aS ?aL ?_; (case aP => exact rfl); (case aB => exact (by repeat (first | (with_reducible first | exact HB.out | apply below_alloc | apply pw_below_drewN | apply below_drew1) | exact HB.out))); (case aF => exact (fun _ _ => trivial)); (case aO => exact (by (with_reducible repeat (first | apply Kd.R_alloc | apply Kd.R_drewN | apply Kd.R_drew)); exact HOM.out)); (case aS => exact (below_size (by repeat (first | (with_reducible first | exact HB.out | apply below_alloc | apply pw_below_drewN | apply below_drew1) | exact HB.out)))); (case aL => have := LMc19.out; omega); intro v277 w20 ho hb hg hat; rw [← Ny276.out] at ho; have n0_ := Aside0.mk (hb); have n1_ := Aside0.mk (ho); clear HB; have HB := n0_; have HO278 := n1_; clear n0_ n1_; clear ho hb hg hat))
                        go_meet
                        case rel => exact ⟨_, (y276), H', ⟨by have := HJ4.out; have := HK2.out; have := HJ14.out; first | omega | exact Nat.le_refl _⟩, ⟨by (with_reducible repeat (first | apply Kd.R_alloc | apply Kd.R_drewN | apply Kd.R_drew)); exact HO278.out⟩, ⟨by repeat (first | (with_reducible first | exact HB.out | apply below_alloc | apply pw_below_drewN | apply below_drew1) | exact HB.out)⟩⟩
                      · rw [if_neg c19] at H
                        exact absurd H (by simp)
                    · rw [if_neg c18] at H
                      have c18b0 : decide (a1 < 31) = false := decide_eq_false c18
                      clear c18
                      (first | rw [c18b0] | (simp only [i64_w, i32_w]; rw [c18b0]) | skip)
                      by_cases c21 : ([] : List Int).length < 140737488355328
                      · rw [if_pos c21] at H
                        have LMc21 := Aside0.mk c21
                        clear c21
                        obtain ⟨y279, hy279⟩ : ∃ y_ : List Int, y_ = (([] : List Int) ++ [Go.bits .or .u8 x13_14 31]) := ⟨_, rfl⟩
                        replace H : ((der_seven.f kj14 (IntKind.u64.wrap (a1))).bind fun t282 => (if y279.length + t282.length < 140737488355328 then (der_Put.j3 kj14 l3 x10_2 (y279 ++ t282)) else (none))) = some (r1, r2) := by first | (rw [hy279]; with_reducible exact H) | (have H2_ := (Option.bind_some _ _).symm.trans H; rw [hy279]; with_reducible exact H2_) | (have H2_ := (Option.bind_some _ _).symm.trans H; with_reducible exact H2_) | with_reducible exact H | (rw [hy279]; exact H) | exact H
                        have Ny279 := Aside0.mk hy279
                        clear hy279
                        replace H := Option.bind_eq_some_iff.mp H
                        obtain ⟨t282, A220, H⟩ := H
                        replace H : (if y279.length + t282.length < 140737488355328 then (der_Put.j3 kj14 l3 x10_2 (y279 ++ t282)) else (none)) = some (r1, r2) := H
                        have A22 := Aside0.mk A220
                        clear A220
                        by_cases c23 : y279.length + t282.length < 140737488355328
                        · rw [if_pos c23] at H
                          have LMc23 := Aside0.mk c23
                          clear c23
                          obtain ⟨y285, hy285⟩ : ∃ y_ : List Int, y_ = (y279 ++ t282) := ⟨_, rfl⟩
                          replace H : (der_Put.j3 kj14 l3 x10_2 y285) = some (r1, r2) := by first | (rw [hy285]; with_reducible exact H) | (have H2_ := (Option.bind_some _ _).symm.trans H; rw [hy285]; with_reducible exact H2_) | (have H2_ := (Option.bind_some _ _).symm.trans H; with_reducible exact H2_) | with_reducible exact H | (rw [hy285]; exact H) | exact H
                          have Ny285 := Aside0.mk hy285
                          clear hy285
                          have H' := Aside0.mk H
                          clear H
                          go_wp2_with (first | ((with_reducible refine gate_builtin (b := .append) (xs := #[.tmp 72, .tmp 75]) rfl ?_); at_builtin; refine Kd.R_append (Kd.int .u8) (w0 := w) w.heap.size rfl (.tmp 72) (.tmp 75) 22 5 (.int .u8 0) 1 rfl Tryz.underlying22 info5 rfl (by decide) (by omega) vM ([] : List Int) (Go.bits .or .u8 x13_14 31) [.int .u8 (Go.bits .or .u8 x13_14 31)] (fun _ => True) (fun _ => False) rfl rfl ?aP (fun _ hk => hk.elim) ?aF ?aO ?aB ?aS ?aL ?_; (case aP => exact rfl); (case aB => exact (by repeat (first | (with_reducible first | exact HB.out | apply below_alloc | apply pw_below_drewN | apply below_drew1) | exact HB.out))); (case aF => exact (fun _ _ => trivial)); (case aO => exact (by (with_reducible repeat (first | apply Kd.R_alloc | apply Kd.R_drewN | apply Kd.R_drew)); exact HOM.out)); (case aS => exact (below_size (by repeat (first | (with_reducible first | exact HB.out | apply below_alloc | apply pw_below_drewN | apply below_drew1) | exact HB.out)))); (case aL => have := LMc21.out; omega); intro v280 w24 ho hb hg hat; rw [← Ny279.out] at ho; have n0_ := Aside0.mk (hb); have n1_ := Aside0.mk (ho); clear HB; have HB := n0_; have HO281 := n1_; clear n0_ n1_; clear ho hb hg hat) | ((with_reducible refine gate_callee (f := 219) rfl ?_); refine goesL_ (some 80) rfl rfl Tryz.func219 (by kernel_rfl) rfl #[.int .u64 (IntKind.u64.wrap (a1))] rfl (by (try simp only [List.map_toArray, List.map_cons, List.map_nil]); first | done | rfl | (simp only [List.length_drop, List.length_take]; rfl)) ?_; (with_reducible refine (der_seven.calls kj14 (IntKind.u64.wrap (a1)) t282 _ A22.out).mono ?_); rintro e w25 ⟨v283, rfl, ho0, hb⟩; refine ⟨_, rfl, ?_⟩; have n0_ := Aside0.mk (Kd.R_elder' (by (with_reducible repeat (first | apply Kd.R_alloc | apply Kd.R_drewN | apply Kd.R_drew)); exact HO281.out) (Kd.R_base ho0) hb); have n1_ := Aside0.mk (Kd.R_lower (Kd.R_new' ho0 (Kd.R_lt (by (with_reducible repeat (first | apply Kd.R_alloc | apply Kd.R_drewN | apply Kd.R_drew)); exact HO281.out))) (below_size (by repeat (first | (with_reducible first | exact HB.out | apply below_alloc | apply pw_below_drewN | apply below_drew1) | exact HB.out)))); have n2_ := Aside0.mk (below_step (by repeat (first | (with_reducible first | exact HB.out | apply below_alloc | apply pw_below_drewN | apply below_drew1) | exact HB.out)) hb); clear HO281; clear HB; have HO281 := n0_; have HO284 := n1_; have HB := n2_; clear n0_ n1_ n2_; (try clear hb); (try clear hb2); (try clear hk); (try clear hi); (try clear ho0); obtain ⟨Ao27, co27, eo27⟩ := Kd.R_slice HO284.out; subst eo27) | ((with_reducible refine gate_builtin (b := .append) (xs := #[.tmp 77, .tmp 80]) rfl ?_); at_builtin; refine Kd.R_append_rows (Kd.int .u8) (w0 := w) w.heap.size rfl (.tmp 77) (.tmp 80) 22 5 (.int .u8 0) 1 rfl Tryz.underlying22 info5 rfl (by decide) (by omega) v280 y279 t282 _ _ _ (fun k_ => some k_ ≠ (.slice Ao27 t282.length co27 : Value).ownBlock) (fun _ => False) rfl rfl ?aO ?aR (fun _ _ h => h) (fun _ h => h.elim) ?aF ?aB ?aS ?aL ?_; (case aR => repeat (first | exact (Kd.R_reads' HO284.out).2.2 | (with_reducible refine Kd.C_alloc ?_ _) | (with_reducible refine Kd.C_drewN ?_ _) | (with_reducible refine Kd.C_drew ?_))); (case aB => exact (by repeat (first | (with_reducible first | exact HB.out | apply below_alloc | apply pw_below_drewN | apply below_drew1) | exact HB.out))); (case aF => exact (fun k_ hk => Kd.fresh' (Kd.R_lt (by (with_reducible repeat (first | apply Kd.R_alloc | apply Kd.R_drewN | apply Kd.R_drew)); exact HO284.out)) k_ hk)); (case aO => exact (by (with_reducible repeat (first | apply Kd.R_alloc | apply Kd.R_drewN | apply Kd.R_drew)); exact Kd.R_mono HO281.out (fun _ hk => hk.2))); (case aS => exact (below_size (by repeat (first | (with_reducible first | exact HB.out | apply below_alloc | apply pw_below_drewN | apply below_drew1) | exact HB.out)))); (case aL => have := LMc23.out; omega); intro v286 w26 ho hb hg hat; rw [← Ny285.out] at ho; have n0_ := Aside0.mk (Kd.R_after (ok := (fun _ => True)) (by (with_reducible repeat (first | apply Kd.R_alloc | apply Kd.R_drewN | apply Kd.R_drew)); exact HO284.out) hg hat); have n1_ := Aside0.mk (hb); have n2_ := Aside0.mk (ho); clear HO284; clear HB; clear HO281; have HO284 := n0_; have HB := n1_; have HO287 := n2_; clear n0_ n1_ n2_; clear ho hb hg hat))
                          go_meet
                          case rel => exact ⟨_, (y285), H', ⟨by have := HJ4.out; have := HK2.out; have := HJ14.out; first | omega | exact Nat.le_refl _⟩, ⟨by (with_reducible repeat (first | apply Kd.R_alloc | apply Kd.R_drewN | apply Kd.R_drew)); exact Kd.R_mono HO287.out (fun _ hk => trivial)⟩, ⟨by repeat (first | (with_reducible first | exact HB.out | apply below_alloc | apply pw_below_drewN | apply below_drew1) | exact HB.out)⟩⟩
                        · rw [if_neg c23] at H
                          exact absurd H (by simp)
                      · rw [if_neg c21] at H
                        exact absurd H (by simp)
                  case rest =>
                    clear HC17
                    try clear c1
                    try clear c2
                    try clear p2
                    try clear q2
                    try clear hx2
                    try clear c3
                    try clear c6
                    try clear c6b0
                    try clear p6
                    try clear c7
                    try clear c7b0
                    try clear c8
                    try clear c8b0
                    try clear c9
                    try clear c9b0
                    try clear c10
                    try clear c11
                    try clear c11b0
                    try clear c12
                    try clear c12b0
                    try clear c13
                    try clear c13b0
                    try clear c14
                    try clear c14b0
                    try clear c16
                    try clear c18
                    try clear c18b0
                    try clear c19
                    try clear c21
                    try clear c23
                    try clear c27
                    try clear p27
                    try clear q27
                    try clear hx27
                    try clear hx275_0
                    try clear p2
                    try clear p275
                    try clear p6
                    try clear q2
                    try clear q275
                    obtain ⟨kq, x14_16, HA, HJ16, HO_14, HB⟩ := hcut
                    cases kq with
                    | zero => exact absurd HA.out (by simp [der_Put.j3])
                    | succ kj16 =>
                      have H := HA.out
                      clear HA
                      simp only [der_Put.j3] at H
                      have HC28 := Aside0.mk H
                      clear H
                      go_upto_if 83 with (fail)
                      go_cut [14] (fun v14 wc => ∃ (kq : Nat) (x14_27 : List Int), Aside0 (der_Put.j4 kq l3 x14_27 = some (r1, r2)) ∧ Aside0 (kq ≤ kj16) ∧ Aside0 (Kd.R (Kd.int .u8) 5 wc w.heap.size (fun _ => True) v14 x14_27) ∧ Aside0 (Below w.heap.size w wc))
                      case first =>
                        have H := HC28.out
                        clear HC28
                        by_cases c29 : x10_2 < 128
                        · rw [if_pos c29] at H
                          have c29b0 : decide (x10_2 < 128) = true := decide_eq_true c29
                          clear c29
                          (first | rw [c29b0] | (simp only [i64_w, i32_w]; rw [c29b0]) | skip)
                          by_cases c30 : x14_16.length < 140737488355328
                          · rw [if_pos c30] at H
                            have LMc30 := Aside0.mk c30
                            clear c30
                            obtain ⟨y288, hy288⟩ : ∃ y_ : List Int, y_ = (x14_16 ++ [(x10_2) % 256]) := ⟨_, rfl⟩
                            replace H : (der_Put.j4 kj16 l3 y288) = some (r1, r2) := by first | (rw [hy288]; with_reducible exact H) | (have H2_ := (Option.bind_some _ _).symm.trans H; rw [hy288]; with_reducible exact H2_) | (have H2_ := (Option.bind_some _ _).symm.trans H; with_reducible exact H2_) | with_reducible exact H | (rw [hy288]; exact H) | exact H
                            have Ny288 := Aside0.mk hy288
                            clear hy288
                            have H' := Aside0.mk H
                            clear H
                            go_wp2_with (first | ((with_reducible refine gate_builtin (b := .append) (xs := #[.tmp 84, .tmp 87]) rfl ?_); at_builtin; refine Kd.R_append (Kd.int .u8) (w0 := w) w.heap.size rfl (.tmp 84) (.tmp 87) 22 5 (.int .u8 0) 1 rfl Tryz.underlying22 info5 rfl (by decide) (by omega) u14 x14_16 ((x10_2) % 256) [.int .u8 ((x10_2) % 256)] (fun _ => True) (fun _ => False) rfl rfl ?aP (fun _ hk => hk.elim) ?aF ?aO ?aB ?aS ?aL ?_; (case aP => exact rfl); (case aB => exact (by repeat (first | (with_reducible first | exact HB.out | apply below_alloc | apply pw_below_drewN | apply below_drew1) | exact HB.out))); (case aF => exact (fun _ _ => trivial)); (case aO => exact (by (with_reducible repeat (first | apply Kd.R_alloc | apply Kd.R_drewN | apply Kd.R_drew)); exact HO_14.out)); (case aS => exact (below_size (by repeat (first | (with_reducible first | exact HB.out | apply below_alloc | apply pw_below_drewN | apply below_drew1) | exact HB.out)))); (case aL => have := LMc30.out; omega); intro v289 w31 ho hb hg hat; rw [← Ny288.out] at ho; have n0_ := Aside0.mk (hb); have n1_ := Aside0.mk (ho); clear HB; clear HO_14; have HB := n0_; have HO290 := n1_; clear n0_ n1_; clear ho hb hg hat))
                            go_meet
                            case rel => exact ⟨_, (y288), H', ⟨by have := HJ4.out; have := HK2.out; have := HJ14.out; have := HJ16.out; first | omega | exact Nat.le_refl _⟩, ⟨by (with_reducible repeat (first | apply Kd.R_alloc | apply Kd.R_drewN | apply Kd.R_drew)); exact HO290.out⟩, ⟨by repeat (first | (with_reducible first | exact HB.out | apply below_alloc | apply pw_below_drewN | apply below_drew1) | exact HB.out)⟩⟩
                          · rw [if_neg c30] at H
                            exact absurd H (by simp)
                        · rw [if_neg c29] at H
                          have c29b0 : decide (x10_2 < 128) = false := decide_eq_false c29
                          clear c29
                          (first | rw [c29b0] | (simp only [i64_w, i32_w]; rw [c29b0]) | skip)
                          obtain ⟨y291, hy291⟩ : ∃ y_ : List Int, y_ = (([(x10_2 / 16777216) % 256, (x10_2 / 65536) % 256, (x10_2 / 256) % 256, (x10_2) % 256] : List Int)) := ⟨_, rfl⟩
                          replace H : ((bytes_trimLeftByte.f kj16 y291 0).bind fun t294 => (if x14_16.length < 140737488355328 then ((some (x14_16 ++ [Go.bits .or .u8 128 (((t294.length : Int)) % 256)] : List Int)).bind fun y297 => (if y297.length + t294.length < 140737488355328 then (der_Put.j4 kj16 l3 (y297 ++ t294)) else (none))) else (none))) = some (r1, r2) := by first | (rw [hy291]; with_reducible exact H) | (have H2_ := (Option.bind_some _ _).symm.trans H; rw [hy291]; with_reducible exact H2_) | (have H2_ := (Option.bind_some _ _).symm.trans H; with_reducible exact H2_) | with_reducible exact H | (rw [hy291]; exact H) | exact H
                          have Ny291 := Aside0.mk hy291
                          clear hy291
                          replace H := Option.bind_eq_some_iff.mp H
                          obtain ⟨t294, A320, H⟩ := H
                          replace H : (if x14_16.length < 140737488355328 then ((some (x14_16 ++ [Go.bits .or .u8 128 (((t294.length : Int)) % 256)] : List Int)).bind fun y297 => (if y297.length + t294.length < 140737488355328 then (der_Put.j4 kj16 l3 (y297 ++ t294)) else (none))) else (none)) = some (r1, r2) := H
                          have A32 := Aside0.mk A320
                          clear A320
                          by_cases c33 : x14_16.length < 140737488355328
                          · rw [if_pos c33] at H
                            have LMc33 := Aside0.mk c33
                            clear c33
                            obtain ⟨y297, hy297⟩ : ∃ y_ : List Int, y_ = (x14_16 ++ [Go.bits .or .u8 128 (((t294.length : Int)) % 256)]) := ⟨_, rfl⟩
                            replace H : (if y297.length + t294.length < 140737488355328 then (der_Put.j4 kj16 l3 (y297 ++ t294)) else (none)) = some (r1, r2) := by first | (rw [hy297]; with_reducible exact H) | (have H2_ := (Option.bind_some _ _).symm.trans H; rw [hy297]; with_reducible exact H2_) | (have H2_ := (Option.bind_some _ _).symm.trans H; with_reducible exact H2_) | with_reducible exact H | (rw [hy297]; exact H) | exact H
                            have Ny297 := Aside0.mk hy297
                            clear hy297
                            by_cases c34 : y297.length + t294.length < 140737488355328
                            · rw [if_pos c34] at H
                              have LMc34 := Aside0.mk c34
                              clear c34
                              obtain ⟨y300, hy300⟩ : ∃ y_ : List Int, y_ = (y297 ++ t294) := ⟨_, rfl⟩
                              replace H : (der_Put.j4 kj16 l3 y300) = some (r1, r2) := by first | (rw [hy300]; with_reducible exact H) | (have H2_ := (Option.bind_some _ _).symm.trans H; rw [hy300]; with_reducible exact H2_) | (have H2_ := (Option.bind_some _ _).symm.trans H; with_reducible exact H2_) | with_reducible exact H | (rw [hy300]; exact H) | exact H
                              have Ny300 := Aside0.mk hy300
                              clear hy300
                              have H' := Aside0.mk H
                              clear H
                              go_wp2_with (first | ((with_reducible refine gate_dst (N := 100) rfl ?_); refine Kd.R_lit (Kd.int .u8) _ 5 ?hg (N := 100) ?hd (xs := ([(x10_2 / 16777216) % 256, (x10_2 / 65536) % 256, (x10_2 / 256) % 256, (x10_2) % 256] : List Int)) (inner := [.int .u8 ((x10_2 / 16777216) % 256), .int .u8 ((x10_2 / 65536) % 256), .int .u8 ((x10_2 / 256) % 256), .int .u8 ((x10_2) % 256)]) (ok := fun _ => True) (okp := fun _ => True) ?hr ?hp (fun _ hk => hk) trivial (Below.refl _ _) (Nat.le_refl _) (by simp) ?_; (case hd => rfl); (case hg => rfl); (case hr => first | (go_simp; done) | (go_simp; rfl)); (case hp => exact (Reps.one (show Kd.M (Kd.int .u8) _ _ _ ((x10_2 / 16777216) % 256) [.int .u8 ((x10_2 / 16777216) % 256)] from rfl) (Reps.one (show Kd.M (Kd.int .u8) _ _ _ ((x10_2 / 65536) % 256) [.int .u8 ((x10_2 / 65536) % 256)] from rfl) (Reps.one (show Kd.M (Kd.int .u8) _ _ _ ((x10_2 / 256) % 256) [.int .u8 ((x10_2 / 256) % 256)] from rfl) (Reps.one (show Kd.M (Kd.int .u8) _ _ _ ((x10_2) % 256) [.int .u8 ((x10_2) % 256)] from rfl) (Reps.none _ _)))))); intro v292 w35 ho36 hb hg_ hnew_; clear hg_ hnew_; (first | rw [← Ny291.out] at ho36 | (simp only [Int.reduceToNat] at ho36; rw [← Ny291.out] at ho36)); have n0_ := Aside0.mk (Kd.R_elder' (by (with_reducible repeat (first | apply Kd.R_alloc | apply Kd.R_drewN | apply Kd.R_drew)); exact HO_14.out) (Kd.R_base ho36) hb); have n1_ := Aside0.mk (Kd.R_lower (Kd.R_new' ho36 (Kd.R_lt (by (with_reducible repeat (first | apply Kd.R_alloc | apply Kd.R_drewN | apply Kd.R_drew)); exact HO_14.out))) (below_size (by repeat (first | (with_reducible first | exact HB.out | apply below_alloc | apply pw_below_drewN | apply below_drew1) | exact HB.out)))); have n2_ := Aside0.mk (below_step (by repeat (first | (with_reducible first | exact HB.out | apply below_alloc | apply pw_below_drewN | apply below_drew1) | exact HB.out)) hb); clear HO_14; clear HB; have HO_14 := n0_; have HO293 := n1_; have HB := n2_; clear n0_ n1_ n2_; clear hb ho36; obtain ⟨Ao37, co37, eo37⟩ := Kd.R_slice HO293.out; subst eo37) | ((with_reducible refine gate_callee (f := 218) rfl ?_); refine goesL_ (some 101) rfl rfl Tryz.func218 (by kernel_rfl) rfl #[.slice Ao37 y291.length co37, .string (⟨#[0]⟩ : ByteArray)] rfl (by (try simp only [List.map_toArray, List.map_cons, List.map_nil]); first | done | rfl | (simp only [List.length_drop, List.length_take]; rfl)) ?_; (with_reducible refine (bytes_TrimLeft0.calls kj16 (fun k_ => some k_ = (.slice Ao37 y291.length co37 : Value).ownBlock) _ _ y291 t294 _ ?side1 A32.out).mono ?_); (case side1 => exact Kd.R_V (Kd.R_tight rfl (HO293.out))); rintro e w38 ⟨v295, rfl, ho0, hb⟩; refine ⟨_, rfl, ?_⟩; have n0_ := Aside0.mk (Kd.R_below (by (with_reducible repeat (first | apply Kd.R_alloc | apply Kd.R_drewN | apply Kd.R_drew)); exact HO_14.out) hb); have n1_ := Aside0.mk (Kd.R_below (by (with_reducible repeat (first | apply Kd.R_alloc | apply Kd.R_drewN | apply Kd.R_drew)); exact HO293.out) hb); have n2_ := Aside0.mk (Kd.V_lower (Kd.V_mono (ok' := fun k_ => some k_ ≠ (u14 : Value).ownBlock) ho0 (fun k_ hk_ => Or.elim hk_ (fun hs_ => ((HO293.out).1 k_ hs_.symm).2) (fun hn_ => (Kd.fresh' (Kd.R_lt (by (with_reducible repeat (first | apply Kd.R_alloc | apply Kd.R_drewN | apply Kd.R_drew)); exact HO_14.out)) k_ hn_)))) (below_size (by repeat (first | (with_reducible first | exact HB.out | apply below_alloc | apply pw_below_drewN | apply below_drew1) | exact HB.out)))); have n3_ := Aside0.mk (below_step (by repeat (first | (with_reducible first | exact HB.out | apply below_alloc | apply pw_below_drewN | apply below_drew1) | exact HB.out)) hb); clear HO_14; clear HO293; clear HB; have HO_14 := n0_; have HO293 := n1_; have HO296 := n2_; have HB := n3_; clear n0_ n1_ n2_ n3_; (try clear hb); (try clear hb2); (try clear hk); (try clear hi); (try clear ho0); obtain ⟨Ao39, co39, eo39⟩ := Kd.V_slice HO296.out; subst eo39) | ((with_reducible refine gate_builtin (b := .append) (xs := #[.tmp 102, .tmp 107]) rfl ?_); at_builtin; refine Kd.R_append (Kd.int .u8) (w0 := w) w.heap.size rfl (.tmp 102) (.tmp 107) 22 5 (.int .u8 0) 1 rfl Tryz.underlying22 info5 rfl (by decide) (by omega) u14 x14_16 (Go.bits .or .u8 128 (((t294.length : Int)) % 256)) [.int .u8 (Go.bits .or .u8 128 (((t294.length : Int)) % 256))] (fun k_ => some k_ ≠ (.slice Ao37 y291.length co37 : Value).ownBlock) (fun _ => False) rfl rfl ?aP (fun _ hk => hk.elim) ?aF ?aO ?aB ?aS ?aL ?_; (case aP => exact rfl); (case aB => exact (by repeat (first | (with_reducible first | exact HB.out | apply below_alloc | apply pw_below_drewN | apply below_drew1) | exact HB.out))); (case aF => exact (fun k_ hk => Kd.fresh' (Kd.R_lt (by (with_reducible repeat (first | apply Kd.R_alloc | apply Kd.R_drewN | apply Kd.R_drew)); exact HO293.out)) k_ hk)); (case aO => exact (by (with_reducible repeat (first | apply Kd.R_alloc | apply Kd.R_drewN | apply Kd.R_drew)); exact Kd.R_mono HO_14.out (fun _ hk => hk.2))); (case aS => exact (below_size (by repeat (first | (with_reducible first | exact HB.out | apply below_alloc | apply pw_below_drewN | apply below_drew1) | exact HB.out)))); (case aL => have := LMc33.out; omega); intro v298 w40 ho hb hg hat; rw [← Ny297.out] at ho; have n0_ := Aside0.mk (Kd.R_after (ok := (fun _ => True)) (by (with_reducible repeat (first | apply Kd.R_alloc | apply Kd.R_drewN | apply Kd.R_drew)); exact HO293.out) hg hat); have n1_ := Aside0.mk (Kd.V_afterv (ok := (fun _ => True)) (by (with_reducible repeat (first | apply Kd.V_alloc | apply Kd.V_drewN | apply Kd.V_drew)); exact Kd.V_mono HO296.out (fun _ hk => ⟨trivial, hk⟩)) hg hat); have n2_ := Aside0.mk (hb); have n3_ := Aside0.mk (ho); clear HO293; clear HO296; clear HB; clear HO_14; have HO293 := n0_; have HO296 := n1_; have HB := n2_; have HO299 := n3_; clear n0_ n1_ n2_ n3_; clear ho hb hg hat) | ((with_reducible refine gate_builtin (b := .append) (xs := #[.tmp 108, .tmp 109]) rfl ?_); at_builtin; refine Kd.R_append_rows (Kd.int .u8) (w0 := w) w.heap.size rfl (.tmp 108) (.tmp 109) 22 5 (.int .u8 0) 1 rfl Tryz.underlying22 info5 rfl (by decide) (by omega) v298 y297 t294 _ _ _ (fun k_ => some k_ ≠ (.slice Ao37 y291.length co37 : Value).ownBlock) (fun _ => False) rfl rfl ?aO ?aR (fun _ _ h => h) (fun _ h => h.elim) ?aF ?aB ?aS ?aL ?_; (case aR => repeat (first | exact (Kd.V_reads' HO296.out).2.2 | (with_reducible refine Kd.C_alloc ?_ _) | (with_reducible refine Kd.C_drewN ?_ _) | (with_reducible refine Kd.C_drew ?_))); (case aB => exact (by repeat (first | (with_reducible first | exact HB.out | apply below_alloc | apply pw_below_drewN | apply below_drew1) | exact HB.out))); (case aF => exact (fun k_ hk => Kd.fresh' (Kd.R_lt (by (with_reducible repeat (first | apply Kd.R_alloc | apply Kd.R_drewN | apply Kd.R_drew)); exact HO293.out)) k_ hk)); (case aO => exact (by (with_reducible repeat (first | apply Kd.R_alloc | apply Kd.R_drewN | apply Kd.R_drew)); exact HO299.out)); (case aS => exact (below_size (by repeat (first | (with_reducible first | exact HB.out | apply below_alloc | apply pw_below_drewN | apply below_drew1) | exact HB.out)))); (case aL => have := LMc34.out; omega); intro v301 w41 ho hb hg hat; rw [← Ny300.out] at ho; have n0_ := Aside0.mk (Kd.R_after (ok := (fun _ => True)) (by (with_reducible repeat (first | apply Kd.R_alloc | apply Kd.R_drewN | apply Kd.R_drew)); exact HO293.out) hg hat); have n1_ := Aside0.mk (Kd.V_afterv (ok := (fun _ => True)) (by (with_reducible repeat (first | apply Kd.V_alloc | apply Kd.V_drewN | apply Kd.V_drew)); exact HO296.out) hg hat); have n2_ := Aside0.mk (hb); have n3_ := Aside0.mk (ho); clear HO293; clear HO296; clear HB; clear HO299; have HO293 := n0_; have HO296 := n1_; have HB := n2_; have HO302 := n3_; clear n0_ n1_ n2_ n3_; clear ho hb hg hat))
                              go_meet
                              case rel => exact ⟨_, (y300), H', ⟨by have := HJ4.out; have := HK2.out; have := HJ14.out; have := HJ16.out; first | omega | exact Nat.le_refl _⟩, ⟨by (with_reducible repeat (first | apply Kd.R_alloc | apply Kd.R_drewN | apply Kd.R_drew)); exact Kd.R_mono HO302.out (fun _ hk => trivial)⟩, ⟨by repeat (first | (with_reducible first | exact HB.out | apply below_alloc | apply pw_below_drewN | apply below_drew1) | exact HB.out)⟩⟩
                            · rw [if_neg c34] at H
                              exact absurd H (by simp)
                          · rw [if_neg c33] at H
                            exact absurd H (by simp)
                      case rest =>
                        clear HC28
                        try clear c1
                        try clear c2
                        try clear p2
                        try clear q2
                        try clear hx2
                        try clear c3
                        try clear c6
                        try clear c6b0
                        try clear p6
                        try clear c7
                        try clear c7b0
                        try clear c8
                        try clear c8b0
                        try clear c9
                        try clear c9b0
                        try clear c10
                        try clear c11
                        try clear c11b0
                        try clear c12
                        try clear c12b0
                        try clear c13
                        try clear c13b0
                        try clear c14
                        try clear c14b0
                        try clear c16
                        try clear c18
                        try clear c18b0
                        try clear c19
                        try clear c21
                        try clear c23
                        try clear c26
                        try clear c27
                        try clear p27
                        try clear q27
                        try clear hx27
                        try clear c29
                        try clear c29b0
                        try clear c30
                        try clear c33
                        try clear c34
                        try clear hx275_0
                        try clear p2
                        try clear p27
                        try clear p275
                        try clear p6
                        try clear q2
                        try clear q27
                        try clear q275
                        obtain ⟨kq, x14_27, HA, HJ27, HO_14, HB⟩ := hcut
                        cases kq with
                        | zero => exact absurd HA.out (by simp [der_Put.j4])
                        | succ kj27 =>
                          have H := HA.out
                          clear HA
                          simp only [der_Put.j4] at H
                          have H' := Aside0.mk H
                          clear H
                          go_wp2
                          go_loopg [14, 113] kj27 (fun kq v14 v113 w' => ∃ (x14_6 : List Int) (x113_6 : Int), v113 = .int .i64 x113_6 ∧ Aside0 (der_Put.l1 kq x14_6 l3 (l3.length : Int) x113_6 = some (r1, r2)) ∧ Aside0 (kq ≤ kj27) ∧ Aside0 (Kd.R (Kd.int .u8) 5 w' w.heap.size (fun _ => True) v14 x14_6) ∧ Aside0 (Below w.heap.size w w'))
                          case atStart => exact ⟨(x14_27), (0), (by first | rfl | (simp; done) | (simp [*]; done)), H', ⟨Nat.le_refl _⟩, ⟨by (with_reducible repeat (first | apply Kd.R_alloc | apply Kd.R_drewN | apply Kd.R_drew)); exact HO_14.out⟩, ⟨by repeat (first | (with_reducible first | exact HB.out | apply below_alloc | apply pw_below_drewN | apply below_drew1) | exact HB.out)⟩⟩
                          case round =>
                            clear H'
                            try clear c1
                            try clear c2
                            try clear p2
                            try clear q2
                            try clear hx2
                            try clear c3
                            try clear c6
                            try clear c6b0
                            try clear p6
                            try clear c7
                            try clear c7b0
                            try clear c8
                            try clear c8b0
                            try clear c9
                            try clear c9b0
                            try clear c10
                            try clear c11
                            try clear c11b0
                            try clear c12
                            try clear c12b0
                            try clear c13
                            try clear c13b0
                            try clear c14
                            try clear c14b0
                            try clear c16
                            try clear c18
                            try clear c18b0
                            try clear c19
                            try clear c21
                            try clear c23
                            try clear c26
                            try clear c27
                            try clear p27
                            try clear q27
                            try clear hx27
                            try clear c29
                            try clear c29b0
                            try clear c30
                            try clear c33
                            try clear c34
                            try clear hx275_0
                            try clear p2
                            try clear p27
                            try clear p275
                            try clear p6
                            try clear q2
                            try clear q27
                            try clear q275
                            obtain ⟨x14_6, x113_6, rfl, HA, HK6, HO_14, HB⟩ := hrel
                            cases gk with
                            | zero => exact absurd HA.out (by simp [der_Put.l1])
                            | succ k6 =>
                              have H := HA.out
                              clear HA
                              simp only [der_Put.l1] at H
                              by_cases c42 : x113_6 < (l3.length : Int)
                              · rw [if_pos c42] at H
                                have c42b0 : decide (x113_6 < (l3.length : Int)) = true := decide_eq_true c42
                                clear c42
                                by_cases c43 : 0 ≤ x113_6
                                · rw [if_pos c43] at H
                                  have c43b0 : decide (0 ≤ x113_6) = true := decide_eq_true c43
                                  clear c43
                                  by_cases c44 : x113_6 < (l3.length : Int)
                                  · rw [if_pos c44] at H
                                    have c44b0 : decide (x113_6 < (l3.length : Int)) = true := decide_eq_true c44
                                    clear c44
                                    by_cases c45 : x14_6.length + (rd_L1 l3 x113_6).length < 140737488355328
                                    · rw [if_pos c45] at H
                                      have LMc45 := Aside0.mk c45
                                      clear c45
                                      obtain ⟨y304, hy304⟩ : ∃ y_ : List Int, y_ = (x14_6 ++ (rd_L1 l3 x113_6)) := ⟨_, rfl⟩
                                      replace H : (der_Put.l1 k6 y304 l3 (l3.length : Int) (wrap64 (x113_6 + 1))) = some (r1, r2) := by first | (rw [hy304]; with_reducible exact H) | (have H2_ := (Option.bind_some _ _).symm.trans H; rw [hy304]; with_reducible exact H2_) | (have H2_ := (Option.bind_some _ _).symm.trans H; with_reducible exact H2_) | with_reducible exact H | (rw [hy304]; exact H) | exact H
                                      have Ny304 := Aside0.mk hy304
                                      clear hy304
                                      have H' := Aside0.mk H
                                      clear H
                                      have p303 : 0 ≤ (x113_6 : Int) := of_decide_eq_true (by first | (with_reducible assumption) | assumption)
                                      have q303 : x113_6 < (l3.length : Int) := of_decide_eq_true (by first | (with_reducible assumption) | assumption)
                                      obtain ⟨ad303, A303_0, c303_0, e303, hx303_0, hl303_0, hi303_0⟩ := at_L1 HR3.out x113_6 p303 q303
                                      cases e303
                                      replace hx303_0 := (HB.out.cell (World.block_lt_of_cell? w _ hx303_0)).trans hx303_0
                                      have HR303_0 := Aside0.mk hi303_0
                                      have HC303_0 := Aside0.mk hl303_0
                                      clear hi303_0 hl303_0
                                      replace p303 := eq_true p303
                                      replace q303 := eq_true q303
                                      go_wp2_with (first | ((with_reducible refine gate_builtin (b := .append) (xs := #[.tmp 117, .tmp 118]) rfl ?_); at_builtin; refine Kd.R_append_rows (Kd.int .u8) (w0 := w) w.heap.size rfl (.tmp 117) (.tmp 118) 22 5 (.int .u8 0) 1 rfl Tryz.underlying22 info5 rfl (by decide) (by omega) u14 x14_6 (rd_L1 l3 x113_6) _ _ _ (fun _ => True) (fun _ => False) rfl rfl ?aO ?aR (fun _ _ h => h) (fun _ h => h.elim) ?aF ?aB ?aS ?aL ?_; (case aR => repeat (first | exact (Kd.C_below HR303_0.out HB.out) | (with_reducible refine Kd.C_alloc ?_ _) | (with_reducible refine Kd.C_drewN ?_ _) | (with_reducible refine Kd.C_drew ?_))); (case aB => exact (by repeat (first | (with_reducible first | exact HB.out | apply below_alloc | apply pw_below_drewN | apply below_drew1) | exact HB.out))); (case aF => exact (fun _ _ => trivial)); (case aO => exact (by (with_reducible repeat (first | apply Kd.R_alloc | apply Kd.R_drewN | apply Kd.R_drew)); exact HO_14.out)); (case aS => exact (below_size (by repeat (first | (with_reducible first | exact HB.out | apply below_alloc | apply pw_below_drewN | apply below_drew1) | exact HB.out)))); (case aL => have := LMc45.out; omega); intro v305 w46 ho hb hg hat; rw [← Ny304.out] at ho; have n0_ := Aside0.mk (hb); have n1_ := Aside0.mk (ho); clear HB; clear HO_14; have HB := n0_; have HO306 := n1_; clear n0_ n1_; clear ho hb hg hat))
                                      go_roundg k6
                                      case measure => have := HJ4.out; have := HK2.out; have := HJ14.out; have := HJ16.out; have := HJ27.out; have := HK6.out; omega
                                      case rel => exact ⟨(y304), (wrap64 (x113_6 + 1)), (by first | rfl | (simp; done) | (simp [*]; done)), H', ⟨by have := HJ4.out; have := HK2.out; have := HJ14.out; have := HJ16.out; have := HJ27.out; have := HK6.out; omega⟩, ⟨by (with_reducible repeat (first | apply Kd.R_alloc | apply Kd.R_drewN | apply Kd.R_drew)); exact HO306.out⟩, ⟨by repeat (first | (with_reducible first | exact HB.out | apply below_alloc | apply pw_below_drewN | apply below_drew1) | exact HB.out)⟩⟩
                                    · rw [if_neg c45] at H
                                      exact absurd H (by simp)
                                  · rw [if_neg c44] at H
                                    exact absurd H (by simp)
                                · rw [if_neg c43] at H
                                  exact absurd H (by simp)
                              · rw [if_neg c42] at H
                                have c42b0 : decide (x113_6 < (l3.length : Int)) = false := decide_eq_false c42
                                clear c42
                                simp only [Option.some.injEq, Prod.mk.injEq] at H
                                obtain ⟨rfl, rfl⟩ := H
                                go_wp2
                                go_ret2
                                exact ⟨_, by first | rfl | (simp [errW_none, errW_some] <;> rfl) | (simp [*, errW_none, errW_some] <;> rfl), by (with_reducible repeat (first | apply Kd.R_alloc | apply Kd.R_drewN | apply Kd.R_drew)); exact HO_14.out, by repeat (first | (with_reducible first | exact HB.out | apply below_alloc | apply pw_below_drewN | apply below_drew1) | exact HB.out)⟩
end Go.Proofs.YtkioddjjfifadaaGreatDoor.P
namespace Go.Proofs.YtkioddjjfifadaaGreatDoor.P
open Go.RowKit Go.Proofs.YtkioddjjfifadaaGreatDoorW.PrintWords Go.Proofs.YtkioddjjfifadaaGreatDoorW.PrintLast Go.Proofs.YtkioddjjfifadaaGreatDoorW.PrintMore
attribute [local go_sem] max2_int min2_int max_two min_two max_three min_three max_four min_four   -- for this text's walks alone
set_option linter.unusedVariables false
set_option linter.unusedSimpArgs false
mutual
def chirographref03_Head.j0 : Nat → Int → Int → Int → Int → Int → Bool → List Int → Option (List Int)
  | 0, _, _, _, _, _, _, _ => none
  | k + 1, x1, x5, x1019000, x1019001, x1019002, x1019003, x1019004 => if x1019002 < 31 then (chirographref03_Head.j2 k x1 (([(x5 + ((x1019002) % 256)) % 256] : List Int))) else (chirographref03_Head.l0 k x1 x5 ([] : List Int) x1019002)
def chirographref03_Head.j2 : Nat → Int → List Int → Option (List Int)
  | 0, _, _ => none
  | k + 1, x1, x6 => if x1 < 128 then (if x6.length < 140737488355328 then (some (x6 ++ [(x1) % 256])) else (none)) else (chirographref03_Head.l1 k x1 x6 ([] : List Int))
def chirographref03_Head.l1 : Nat → Int → List Int → List Int → Option (List Int)
  | 0, _, _, _ => none
  | k + 1, x1, x6, x10 => if x1 > 0 then ((some (([(Int.tmod x1 256) % 256] : List Int) : List Int)).bind fun y1043 => (if y1043.length + x10.length < 140737488355328 then (chirographref03_Head.l1 k (wrap64 (Int.tdiv x1 256)) x6 (y1043 ++ x10)) else (none))) else (if x6.length < 140737488355328 then ((some (x6 ++ [(wrap64 (128 + (x10.length : Int))) % 256] : List Int)).bind fun y1049 => (if y1049.length + x10.length < 140737488355328 then (some (y1049 ++ x10)) else (none))) else (none))
def chirographref03_Head.l0 : Nat → Int → Int → List Int → Int → Option (List Int)
  | 0, _, _, _, _ => none
  | k + 1, x1, x5, x7, x8 => if x8 > 0 then (if (x7.length : Int) > 0 then ((some (([(((Int.tmod x8 128) % 256) + 128) % 256] : List Int) : List Int)).bind fun y1022 => (if y1022.length + x7.length < 140737488355328 then (chirographref03_Head.l0 k x1 x5 (y1022 ++ x7) (wrap64 (Int.tdiv x8 128))) else (none))) else ((some (([(Int.tmod x8 128) % 256] : List Int) : List Int)).bind fun y1028 => (if y1028.length + x7.length < 140737488355328 then (chirographref03_Head.l0 k x1 x5 (y1028 ++ x7) (wrap64 (Int.tdiv x8 128))) else (none)))) else ((some (([(x5 + 31) % 256] : List Int) : List Int)).bind fun y1034 => (if y1034.length + x7.length < 140737488355328 then (chirographref03_Head.j2 k x1 (y1034 ++ x7)) else (none)))
end
def chirographref03_Head.f (k : Nat) (a0_0 : Int) (a0_1 : Int) (a0_2 : Int) (a0_3 : Bool) (l0_4 : List Int) (a1 : Int) : Option (List Int) := if a0_3 = true then (chirographref03_Head.j0 k a1 ((((((a0_1) % 256) * 64) % 256) + 32) % 256) a0_0 a0_1 a0_2 a0_3 l0_4) else (chirographref03_Head.j0 k a1 ((((a0_1) % 256) * 64) % 256) a0_0 a0_1 a0_2 a0_3 l0_4)
end Go.Proofs.YtkioddjjfifadaaGreatDoor.P
namespace Go.Proofs.YtkioddjjfifadaaGreatDoor.P
open Go.RowKit Go.Proofs.YtkioddjjfifadaaGreatDoorW.PrintWords Go.Proofs.YtkioddjjfifadaaGreatDoorW.PrintLast Go.Proofs.YtkioddjjfifadaaGreatDoorW.PrintMore
attribute [local go_sem] max2_int min2_int max_two min_two max_three min_three max_four min_four   -- for this text's walks alone
set_option linter.unusedVariables false
set_option linter.unusedSimpArgs false
mutual
def chirographref04_Put.j0 : Nat → Int → Int → Bool → List (List Int) → Bool → Option (List Int × Int)
  | 0, _, _, _, _, _ => none
  | k + 1, x0, x1, x2, x3, x33 => if x33 = true then (some (([] : List Int), 1)) else (chirographref04_Put.l0 k x0 x1 x2 x3 ([] : List Int) 0)
def chirographref04_Put.l0 : Nat → Int → Int → Bool → List (List Int) → List Int → Int → Option (List Int × Int)
  | 0, _, _, _, _, _, _ => none
  | k + 1, x0, x1, x2, x3, x10, x11 => if x11 < (x3.length : Int) then (if 0 ≤ x11 then (if ((rd_L1 x3 x11).length : Int) > (wrap64 (16777216 - (x10.length : Int))) then (some (([] : List Int), 3)) else (if x10.length + (rd_L1 x3 x11).length < 140737488355328 then (chirographref04_Put.l0 k x0 x1 x2 x3 (x10 ++ (rd_L1 x3 x11)) (wrap64 (x11 + 1))) else (none))) else (none)) else ((chirographref03_Head.f k 0 x0 x1 x2 ([] : List Int) (x10.length : Int)).bind fun t1060 => (if t1060.length + x10.length < 140737488355328 then (some ((t1060 ++ x10), 0)) else (none)))
end
def chirographref04_Put.f (k : Nat) (a0 : Int) (a1 : Int) (a2 : Bool) (l3 : List (List Int)) : Option (List Int × Int) := if a0 < 0 then (chirographref04_Put.j0 k a0 a1 a2 l3 true) else (if a0 > 3 then (chirographref04_Put.j0 k a0 a1 a2 l3 true) else (if a1 < 0 then (chirographref04_Put.j0 k a0 a1 a2 l3 true) else (if a1 > 268435455 then (chirographref04_Put.j0 k a0 a1 a2 l3 true) else (if a0 = 0 then (chirographref04_Put.j0 k a0 a1 a2 l3 (a1 == 0)) else (chirographref04_Put.j0 k a0 a1 a2 l3 false)))))
end Go.Proofs.YtkioddjjfifadaaGreatDoor.P
namespace Go.Proofs.YtkioddjjfifadaaGreatDoor.P
open Go.RowKit Go.Proofs.YtkioddjjfifadaaGreatDoorW.PrintWords
theorem wb {n : Int} (h0 : -9223372036854775808 ≤ n) (h1 : n ≤ 9223372036854775807) : wrap64 n = n := by unfold wrap64; omega
/-- The digits to the base 128, ahead of those that stand. -/
def sevLoop : Nat → Int → List Int → List Int
  | 0, _, acc => acc
  | f + 1, x, acc => if x > 0 then sevLoop f (x / 128) ((128 + x % 128) :: acc) else acc
def sev (x : Int) : List Int := sevLoop 9 (x / 128) [x % 128]
/-- A length's bytes. -/
def lenL (n : Int) : List Int :=
  if n < 128 then [n] else if n < 256 then [129, n] else if n < 65536 then [130, n / 256, n % 256] else if n < 16777216 then [131, n / 65536, n / 256 % 256, n % 256]
  else [132, n / 16777216, n / 65536 % 256, n / 256 % 256, n % 256]
def hdL (c tag : Int) : List Int := if tag < 31 then [c + tag] else (c + 31) :: sev tag
end Go.Proofs.YtkioddjjfifadaaGreatDoor.P
namespace Go.Proofs.YtkioddjjfifadaaGreatDoor.P
open Go.RowKit Go.Proofs.YtkioddjjfifadaaGreatDoorW.PrintWords Go.Proofs.YtkioddjjfifadaaGreatDoorW.PrintMore
theorem and127b (b : Int) (h0 : 0 ≤ b) (h1 : b ≤ 255) : Go.bits .and .u8 b 127 = b % 128 := by
  obtain ⟨n, rfl⟩ : ∃ n : Nat, b = (n : Int) := ⟨b.toNat, by omega⟩
  have hn : n < 256 := by omega
  have key : ∀ m : Fin 256, Go.bits .and .u8 (m.val : Int) 127 = (m.val : Int) % 128 := by decide +kernel
  exact key ⟨n, hn⟩
theorem and127i (b : Int) (h0 : 0 ≤ b) (h1 : b ≤ 255) : Go.bits .and .i64 b 127 = b % 128 := by
  obtain ⟨n, rfl⟩ : ∃ n : Nat, b = (n : Int) := ⟨b.toNat, by omega⟩
  have hn : n < 256 := by omega
  have key : ∀ m : Fin 256, Go.bits .and .i64 (m.val : Int) 127 = (m.val : Int) % 128 := by decide +kernel
  exact key ⟨n, hn⟩
theorem or_shift (v d : Nat) (i : Nat) (hd : d < 2 ^ i) (h : v * 2 ^ i + d < 9223372036854775808) : Go.bits .or .i64 ((v * 2 ^ i : Nat) : Int) (d : Int) = ((v * 2 ^ i + d : Nat) : Int) := by
  have hb := (bits_nat .i64 63 (by decide) (fun n h₀ h₁ => by rw [IntKind.wrap_i64]; omega) (v * 2 ^ i) d (by omega) (by omega)).2
  rw [hb, ← Nat.shiftLeft_eq, Nat.shiftLeft_add_eq_or_of_lt hd]
theorem or7 (v d : Int) (h0 : 0 ≤ v) (h1 : v ≤ 1000000000) (d0 : 0 ≤ d) (d1 : d < 128) : Go.bits .or .i64 (v * 128) d = v * 128 + d := by
  have := or_shift v.toNat d.toNat 7 (by omega) (by omega)
  rw [show ((v.toNat * 2 ^ 7 : Nat) : Int) = v * 128 by omega, show (d.toNat : Int) = d by omega, show ((v.toNat * 2 ^ 7 + d.toNat : Nat) : Int) = v * 128 + d by omega] at this
  exact this
theorem or8 (v d : Int) (h0 : 0 ≤ v) (h1 : v ≤ 1000000000) (d0 : 0 ≤ d) (d1 : d < 256) : Go.bits .or .i64 (v * 256) d = v * 256 + d := by
  have := or_shift v.toNat d.toNat 8 (by omega) (by omega)
  rw [show ((v.toNat * 2 ^ 8 : Nat) : Int) = v * 256 by omega, show (d.toNat : Int) = d by omega, show ((v.toNat * 2 ^ 8 + d.toNat : Nat) : Int) = v * 256 + d by omega] at this
  exact this
end Go.Proofs.YtkioddjjfifadaaGreatDoor.P
namespace Go.Proofs.YtkioddjjfifadaaGreatDoor.P
open Go.RowKit Go.Proofs.YtkioddjjfifadaaGreatDoorW.PrintWords Go.Proofs.YtkioddjjfifadaaGreatDoorW.PrintMore
/-- An element: made of others or not, its tag, what is in it. -/
structure El where
  cons : Bool
  tag : Int
  data : List Int
def El.enc (e : El) : List Int := hdL (if e.cons then 32 else 0) e.tag ++ (lenL (e.data.length : Int) ++ e.data)
def El.ok (e : El) : Prop := 1 ≤ e.tag ∧ e.tag ≤ 268435455 ∧ e.data.length < 16777216
end Go.Proofs.YtkioddjjfifadaaGreatDoor.P
namespace Go.Proofs.YtkioddjjfifadaaGreatDoor.P
open Go.RowKit Go.Proofs.YtkioddjjfifadaaGreatDoorW.PrintWords Go.Proofs.YtkioddjjfifadaaGreatDoorW.PrintLast Go.Proofs.YtkioddjjfifadaaGreatDoorW.PrintMore
theorem decode_width (s : ByteArray) (pos : Nat) (h : pos < s.size) : 1 ≤ (Utf8.decode s pos).2 ∧ pos + (Utf8.decode s pos).2 ≤ s.size ∧ (Utf8.decode s pos).2 ≤ 4 := by
  unfold Utf8.decode
  simp only []
  split
  · simp; omega
  · split
    · rename_i h1
      simp only [Bool.and_eq_true, decide_eq_true_eq, beq_iff_eq] at h1
      split <;> simp <;> omega
    · split
      · rename_i h1
        simp only [Bool.and_eq_true, decide_eq_true_eq, beq_iff_eq] at h1
        split <;> simp <;> omega
      · split
        · rename_i h1
          simp only [Bool.and_eq_true, decide_eq_true_eq, beq_iff_eq] at h1
          split <;> simp <;> omega
        · simp; omega
/-- A letter made small. -/
def low (c : Int) : Int := if 65 ≤ c ∧ c ≤ 90 then c + 32 else c
def foldOut (bl : Bool) (out : List Int) : List Int := if bl = true ∧ 0 < out.length then out ++ [32] else out
def foldGo (s : ByteArray) : Nat → Nat → Bool → List Int → List Int
  | 0, _, _, out => out
  | f + 1, pos, bl, out =>
    if pos < s.size then
      (if ((Utf8.decode s pos).1 : Int) = 32 then foldGo s f (pos + (Utf8.decode s pos).2) true out
      else if low ((Utf8.decode s pos).1 : Int) = 65533 then foldGo s f (pos + (Utf8.decode s pos).2) false (foldOut bl out ++ bytesOf (s.extract pos (pos + (Utf8.decode s pos).2)))
      else foldGo s f (pos + (Utf8.decode s pos).2) false (foldOut bl out ++ Lib.encodeRuneZ (low ((Utf8.decode s pos).1 : Int))))
    else out
def text_Fold.f (s : ByteArray) : Option ByteArray := if s.size ≤ 1099511627776 then some (strOfNums (foldGo s s.size 0 false [])) else none
theorem R_iter {B kb p : Nat} {s : ByteArray} {w : World} {v : Value} {xs : List Int} (h : (Kd.int .u8).R 5 w B (fun _ => True) v xs) (hb : w.heap[kb]? = some (.stringIter s p)) (p' : Nat) : (Kd.int .u8).R 5 (w.iterAt kb s p') B (fun _ => True) v xs :=
  Kd.R_mono (Kd.R_move (Kd.R_bound h) (fun k hk => by
    refine Lib.iterAt_other w kb k s p' ?_
    rintro rfl
    obtain ⟨_, _, _, _, _, cells, hc⟩ := hk
    rw [hb] at hc
    cases hc)) (fun _ hk => hk.1)
theorem iter_ne {B kb p : Nat} {s : ByteArray} {w : World} {v : Value} {xs : List Int} (h : (Kd.int .u8).R 5 w B (fun _ => True) v xs) (hb : w.heap[kb]? = some (.stringIter s p)) : some kb ≠ v.ownBlock := fun e => by
  obtain ⟨inner, ho⟩ := Kd.R_own h
  obtain ⟨cells, hc⟩ := own_typed ho kb e.symm
  rw [hb] at hc
  cases hc
theorem keep_blk {w w1 : World} {g : Nat} {o : Obj} (hb : Below w.heap.size w w1) (h : w.heap[g]? = some o) : w1.heap[g]? = some o := (hb.block g (blk_lt h)).trans h
theorem ext_size (s : ByteArray) (a b : Nat) (h : b ≤ s.size) : (s.extract a b).size = b - a := by
  rw [ByteArray.size_extract]
  omega
set_option maxRecDepth 100000 in
set_option maxHeartbeats 8000000 in
theorem text_Fold.calls (a0 : ByteArray) (r : ByteArray) (w : World) (h : text_Fold.f a0 = some r) (hH : Tb w) :
    Calls Tryz.prog 211 #[.string a0] w fun e w' => e = .returned (.string r) ∧ Below w.heap.size w w' := by
  unfold text_Fold.f at h
  split at h
  case isFalse => cases h
  case isTrue hlen =>
  obtain rfl := Option.some.inj h
  have HT := Aside0.mk hH
  have HLEN := Aside0.mk hlen
  have HB := Aside0.mk (Below.refl w.heap.size w)
  clear h hH hlen
  go_enter Tryz.func211, Tryz.ntmps211
  go_wp2_with ((with_reducible refine gate_dst (N := 12) rfl ?_); refine make_bytes w rfl rfl rfl a0.size rfl Tryz.underlying22 info5 (by have := HLEN.out; omega) HB.out ?_; intro v w1 hv hb; have HO := Aside0.mk hv; have HB1 := Aside0.mk hb; clear hv hb HB)
  generalize hkb : w1.heap.size = kb
  have HKB : Aside0 (w.heap.size ≤ kb) := ⟨by rw [← hkb]; exact HB1.out.size⟩
  have HIT : Aside0 ((w1.alloc (.stringIter a0 0)).heap[kb]? = some (.stringIter a0 0)) := ⟨by rw [← hkb]; exact heap_alloc_new w1 _⟩
  have HO0 := Aside0.mk (Kd.R_alloc HO.out (.stringIter a0 0))
  have HB0 := Aside0.mk (below_alloc HB1.out (.stringIter a0 0))
  clear HO HB1 hkb
  go_loopg [3, 4] (a0.size + 1) (fun kq v3 v4 w' => ∃ (pos : Nat) (bl : Bool) (acc : List Int) (f : Nat), v4 = .bool bl ∧ Aside0 (foldGo a0 f pos bl acc = foldGo a0 a0.size 0 false []) ∧ Aside0 (pos ≤ a0.size ∧ a0.size ≤ f + pos ∧ a0.size < kq + pos) ∧ Aside0 (acc.length ≤ 5 * pos) ∧
    Aside0 ((Kd.int .u8).R 5 w' w.heap.size (fun _ => True) v3 acc) ∧ Aside0 (w'.heap[kb]? = some (.stringIter a0 pos)) ∧ Aside0 (Below w.heap.size w w'))
  case atStart => exact ⟨0, false, [], a0.size, rfl, ⟨rfl⟩, ⟨⟨Nat.zero_le _, by omega, by omega⟩⟩, ⟨Nat.zero_le _⟩, HO0, HIT, HB0⟩
  case round =>
    clear HO0 HB0 HIT
    obtain ⟨pos, bl, acc, f, rfl, HF, HI, HA, HO, HIT, HB⟩ := hrel
    cases gk with
    | zero => exact absurd HI.out (by omega)
    | succ g1 =>
      by_cases hp : pos < a0.size
      · have hnx0 : ∀ ty, (Instr.next (.pointer (some ⟨kb, 0, none⟩)) true ty).run Tryz.prog wr = _ := fun ty => Lib.run_next_any_at wr kb a0 pos ty HIT.out hp
        obtain ⟨n1, n2, n4⟩ := decode_width a0 pos hp
        have hle := decode_le a0 pos
        obtain ⟨f1, rfl⟩ : ∃ f1, f = f1 + 1 := ⟨f - 1, by have := HI.out; omega⟩
        have hf := HF.out
        rw [foldGo, if_pos hp] at hf
        have hdg : Lib.decodeGo (a0.extract pos a0.size) = Utf8.decode a0 pos := by
          unfold Lib.decodeGo
          rw [if_neg (by rw [Lib.tail_size]; omega), Lib.tail_decode]
          first | done | rfl
        have HO1 := Aside0.mk (R_iter HO.out HIT.out (pos + (Utf8.decode a0 pos).2))
        have HIT1 := Aside0.mk (Lib.iterAt_heap wr kb a0 pos (pos + (Utf8.decode a0 pos).2) HIT.out)
        have HB1 := Aside0.mk (Lib.below_iterAt HB.out HKB.out a0 (pos + (Utf8.decode a0 pos).2))
        have hnx := hnx0
        clear HF HO HIT HB hnx0
        generalize wr.iterAt kb a0 (pos + (Utf8.decode a0 pos).2) = W2 at *
        generalize hc : (Utf8.decode a0 pos).1 = C at *
        generalize hn : (Utf8.decode a0 pos).2 = n at *
        have DG1 : Aside0 ((Lib.decodeGo (a0.extract pos a0.size)).1 = C) := ⟨by rw [hdg]; exact hc⟩
        have DG2 : Aside0 ((Lib.decodeGo (a0.extract pos a0.size)).2 = n) := ⟨by rw [hdg]; exact hn⟩
        have HFF := Aside0.mk hf
        have hw : wrap64 ((pos : Int) + (n : Int)) = (pos : Int) + (n : Int) := by unfold wrap64; have := HLEN.out; omega
        clear hdg hc hn hf
        by_cases h32 : (C : Int) = 32
        · have e1 : ((C : Int) == 32) = true := beq_iff_eq.2 h32
          go_wp2_with fail
          go_roundg g1
          case measure => exact Nat.lt_succ_self _
          case rel => exact ⟨pos + n, true, acc, f1, rfl, ⟨by have := HFF.out; rw [if_pos h32] at this; exact this⟩, ⟨by have := HI.out; omega⟩, ⟨by have := HA.out; omega⟩, HO1, HIT1, HB1⟩
        · have e1 : ((C : Int) == 32) = false := by simpa using h32
          have HF2 : Aside0 ((if low (C : Int) = 65533 then foldGo a0 f1 (pos + n) false (foldOut bl acc ++ bytesOf (a0.extract pos (pos + n))) else foldGo a0 f1 (pos + n) false (foldOut bl acc ++ Lib.encodeRuneZ (low (C : Int)))) = foldGo a0 a0.size 0 false []) := ⟨by have := HFF.out; rw [if_neg h32] at this; exact this⟩
          clear HFF
          cases bl with
          | true =>
            obtain ⟨Ao, co, hu⟩ := Kd.R_slice HO1.out
            subst hu
            by_cases hlen : 0 < acc.length
            · have e2 : decide ((0 : Int) < (acc.length : Int)) = true := decide_eq_true (by omega)
              by_cases u1 : (65 : Int) ≤ (C : Int)
              · have e3 : decide ((65 : Int) ≤ (C : Int)) = true := decide_eq_true u1
                by_cases u2 : (C : Int) ≤ 90
                · have e4 : decide ((C : Int) ≤ 90) = true := decide_eq_true u2
                  have e5 : ((C : Int) + 32 == 65533) = false := by simp; omega
                  have hlo : low (C : Int) = (C : Int) + 32 := if_pos ⟨u1, u2⟩
                  have hfo : foldOut true acc = acc ++ [32] := by simp [foldOut, hlen]
                  go_wp2_with (first | ((with_reducible refine gate_builtin (b := .append) (xs := #[.tmp 28, .tmp 29]) rfl ?_); at_builtin; refine Kd.R_append (Kd.int .u8) (w0 := w) w.heap.size rfl (.tmp 28) (.tmp 29) 22 5 (.int .u8 0) 1 rfl Tryz.underlying22 info5 rfl (by decide) (by omega) (.slice Ao acc.length co) acc 32 [.int .u8 32] (fun _ => True) (fun _ => False) rfl rfl ?aP (fun _ hk => hk.elim) ?aF ?aO ?aB ?aS ?aL ?_; (case aP => exact rfl); (case aF => exact (fun _ _ => trivial)); (case aO => exact HO1.out); (case aB => exact HB1.out); (case aS => exact (below_size HB1.out)); (case aL => have := HA.out; have := HLEN.out; omega); intro v2 W3 ho hb hgr hat; have HO2 := Aside0.mk ho; have HB2 := Aside0.mk hb; have HIT2 := Aside0.mk (blk_grown HIT1.out hgr (iter_ne HO1.out HIT1.out)); clear ho hb hgr hat))
                  refine (append_rune w v2 (acc ++ [32]) ((C : Int) + 32) (by omega) (by omega) _ HO2.out (by rw [List.length_append, List.length_singleton]; have := HA.out; have := HLEN.out; omega) HB2.out).mono ?_
                  rintro e W5 ⟨v5, rfl, hR5, hb5, hk5⟩
                  have HO5 := Aside0.mk hR5
                  have HB5 := Aside0.mk hb5
                  have HIT5 := Aside0.mk (hk5 kb _ HIT2.out (iter_ne HO2.out HIT2.out))
                  clear hR5 hb5 hk5
                  go_wp2_with fail
                  go_roundg g1
                  case measure => exact Nat.lt_succ_self _
                  case rel => exact ⟨pos + n, false, (acc ++ [32]) ++ Lib.encodeRuneZ ((C : Int) + 32), f1, rfl, ⟨by have := HF2.out; rw [if_neg (by rw [hlo]; omega), hfo, hlo] at this; exact this⟩, ⟨by have := HI.out; omega⟩, ⟨by rw [List.length_append]; rw [List.length_append, List.length_singleton]; have := encodeRuneZ_len ((C : Int) + 32); have := HA.out; omega⟩, HO5, HIT5, HB5⟩
                · have e4 : decide ((C : Int) ≤ 90) = false := decide_eq_false u2
                  have hl0 : low (C : Int) = (C : Int) := if_neg (by omega)
                  by_cases u3_ : (C : Int) = 65533
                  · have e5 : ((C : Int) == 65533) = true := beq_iff_eq.2 u3_
                    have hlo : low (C : Int) = 65533 := hl0.trans u3_
                    have hfo : foldOut true acc = acc ++ [32] := by simp [foldOut, hlen]
                    go_wp2_with (first | ((with_reducible refine gate_builtin (b := .append) (xs := #[.tmp 28, .tmp 29]) rfl ?_); at_builtin; refine Kd.R_append (Kd.int .u8) (w0 := w) w.heap.size rfl (.tmp 28) (.tmp 29) 22 5 (.int .u8 0) 1 rfl Tryz.underlying22 info5 rfl (by decide) (by omega) (.slice Ao acc.length co) acc 32 [.int .u8 32] (fun _ => True) (fun _ => False) rfl rfl ?aP (fun _ hk => hk.elim) ?aF ?aO ?aB ?aS ?aL ?_; (case aP => exact rfl); (case aF => exact (fun _ _ => trivial)); (case aO => exact HO1.out); (case aB => exact HB1.out); (case aS => exact (below_size HB1.out)); (case aL => have := HA.out; have := HLEN.out; omega); intro v2 W3 ho hb hgr hat; have HO2 := Aside0.mk ho; have HB2 := Aside0.mk hb; have HIT2 := Aside0.mk (blk_grown HIT1.out hgr (iter_ne HO1.out HIT1.out)); clear ho hb hgr hat))
                    refine (Tryz.utf8_DecodeRuneInString (a0.extract pos a0.size) _ (HT.out.below HB2.out).utf).mono ?_
                    rintro e W5 ⟨rfl, hb5⟩
                    rw [DG1.out, DG2.out]
                    have HO5 := Aside0.mk (Kd.R_below HO2.out hb5)
                    have HIT5 := Aside0.mk (keep_blk hb5 HIT2.out)
                    have HB5 := Aside0.mk (below_step HB2.out hb5)
                    clear hb5
                    have hsl : (Instr.slice 9 (.string a0) (some (.int .i64 (pos : Int))) (some (.int .i64 ((pos : Int) + (n : Int)))) none).run Tryz.prog W5 = .ok (.string (a0.extract pos (pos + n))) W5 := by
                      have := run_slice_string (P := Tryz.prog) W5 9 a0 .i64 .i64 (pos : Int) ((pos : Int) + (n : Int)) Tryz.underlying9 (by omega) (by omega) (by omega)
                      rwa [Int.toNat_natCast, show ((pos : Int) + (n : Int)).toNat = pos + n by omega] at this
                    go_wp2_with ((with_reducible refine gate_builtin (b := .append) (xs := #[.tmp 48, .tmp 54]) rfl ?_); at_builtin; refine print_append_str (w0 := w) w.heap.size rfl (.tmp 48) (.tmp 54) 22 9 5 rfl Tryz.underlying22 Tryz.underlying9 info5 v2 (acc ++ [32]) (a0.extract pos (pos + n)) rfl ?sx ?sO ?sB ?sS ?sL ?_; (case sx => rfl); (case sO => exact Kd.own_of_R HO5.out); (case sB => exact HB5.out); (case sS => exact below_size HB5.out); (case sL => have hz := ext_size a0 pos (pos + n) n2; rw [List.length_append, List.length_singleton]; have := HA.out; have := HLEN.out; omega); intro v6 W6 ho hb hgr; have HO6 : Aside0 ((Kd.int .u8).R 5 W6 w.heap.size (fun _ => True) v6 ((acc ++ [32]) ++ bytesOf (a0.extract pos (pos + n)))) := ⟨Kd.R_of_own ho (fun _ _ => trivial)⟩; have HB6 := Aside0.mk hb; have HIT6 := Aside0.mk (blk_grown HIT5.out hgr (iter_ne HO5.out HIT5.out)); clear ho hb hgr)
                    go_roundg g1
                    case measure => exact Nat.lt_succ_self _
                    case rel => exact ⟨pos + n, false, (acc ++ [32]) ++ bytesOf (a0.extract pos (pos + n)), f1, rfl, ⟨by have := HF2.out; rw [if_pos hlo, hfo] at this; exact this⟩, ⟨by have := HI.out; omega⟩, ⟨by rw [List.length_append, bytesOf_length, ext_size a0 pos (pos + n) n2]; rw [List.length_append, List.length_singleton]; have := HA.out; omega⟩, HO6, HIT6, HB6⟩
                  · have e5 : ((C : Int) == 65533) = false := by simpa using u3_
                    have hlo : low (C : Int) = (C : Int) := hl0
                    have hfo : foldOut true acc = acc ++ [32] := by simp [foldOut, hlen]
                    go_wp2_with (first | ((with_reducible refine gate_builtin (b := .append) (xs := #[.tmp 28, .tmp 29]) rfl ?_); at_builtin; refine Kd.R_append (Kd.int .u8) (w0 := w) w.heap.size rfl (.tmp 28) (.tmp 29) 22 5 (.int .u8 0) 1 rfl Tryz.underlying22 info5 rfl (by decide) (by omega) (.slice Ao acc.length co) acc 32 [.int .u8 32] (fun _ => True) (fun _ => False) rfl rfl ?aP (fun _ hk => hk.elim) ?aF ?aO ?aB ?aS ?aL ?_; (case aP => exact rfl); (case aF => exact (fun _ _ => trivial)); (case aO => exact HO1.out); (case aB => exact HB1.out); (case aS => exact (below_size HB1.out)); (case aL => have := HA.out; have := HLEN.out; omega); intro v2 W3 ho hb hgr hat; have HO2 := Aside0.mk ho; have HB2 := Aside0.mk hb; have HIT2 := Aside0.mk (blk_grown HIT1.out hgr (iter_ne HO1.out HIT1.out)); clear ho hb hgr hat))
                    refine (append_rune w v2 (acc ++ [32]) ((C : Int)) (by omega) (by omega) _ HO2.out (by rw [List.length_append, List.length_singleton]; have := HA.out; have := HLEN.out; omega) HB2.out).mono ?_
                    rintro e W5 ⟨v5, rfl, hR5, hb5, hk5⟩
                    have HO5 := Aside0.mk hR5
                    have HB5 := Aside0.mk hb5
                    have HIT5 := Aside0.mk (hk5 kb _ HIT2.out (iter_ne HO2.out HIT2.out))
                    clear hR5 hb5 hk5
                    go_wp2_with fail
                    go_roundg g1
                    case measure => exact Nat.lt_succ_self _
                    case rel => exact ⟨pos + n, false, (acc ++ [32]) ++ Lib.encodeRuneZ ((C : Int)), f1, rfl, ⟨by have := HF2.out; rw [if_neg (by rw [hlo]; omega), hfo, hlo] at this; exact this⟩, ⟨by have := HI.out; omega⟩, ⟨by rw [List.length_append]; rw [List.length_append, List.length_singleton]; have := encodeRuneZ_len ((C : Int)); have := HA.out; omega⟩, HO5, HIT5, HB5⟩
              · have e3 : decide ((65 : Int) ≤ (C : Int)) = false := decide_eq_false u1
                have e5 : ((C : Int) == 65533) = false := by simp; omega
                have hlo : low (C : Int) = (C : Int) := if_neg (by omega)
                have hfo : foldOut true acc = acc ++ [32] := by simp [foldOut, hlen]
                go_wp2_with (first | ((with_reducible refine gate_builtin (b := .append) (xs := #[.tmp 28, .tmp 29]) rfl ?_); at_builtin; refine Kd.R_append (Kd.int .u8) (w0 := w) w.heap.size rfl (.tmp 28) (.tmp 29) 22 5 (.int .u8 0) 1 rfl Tryz.underlying22 info5 rfl (by decide) (by omega) (.slice Ao acc.length co) acc 32 [.int .u8 32] (fun _ => True) (fun _ => False) rfl rfl ?aP (fun _ hk => hk.elim) ?aF ?aO ?aB ?aS ?aL ?_; (case aP => exact rfl); (case aF => exact (fun _ _ => trivial)); (case aO => exact HO1.out); (case aB => exact HB1.out); (case aS => exact (below_size HB1.out)); (case aL => have := HA.out; have := HLEN.out; omega); intro v2 W3 ho hb hgr hat; have HO2 := Aside0.mk ho; have HB2 := Aside0.mk hb; have HIT2 := Aside0.mk (blk_grown HIT1.out hgr (iter_ne HO1.out HIT1.out)); clear ho hb hgr hat))
                refine (append_rune w v2 (acc ++ [32]) ((C : Int)) (by omega) (by omega) _ HO2.out (by rw [List.length_append, List.length_singleton]; have := HA.out; have := HLEN.out; omega) HB2.out).mono ?_
                rintro e W5 ⟨v5, rfl, hR5, hb5, hk5⟩
                have HO5 := Aside0.mk hR5
                have HB5 := Aside0.mk hb5
                have HIT5 := Aside0.mk (hk5 kb _ HIT2.out (iter_ne HO2.out HIT2.out))
                clear hR5 hb5 hk5
                go_wp2_with fail
                go_roundg g1
                case measure => exact Nat.lt_succ_self _
                case rel => exact ⟨pos + n, false, (acc ++ [32]) ++ Lib.encodeRuneZ ((C : Int)), f1, rfl, ⟨by have := HF2.out; rw [if_neg (by rw [hlo]; omega), hfo, hlo] at this; exact this⟩, ⟨by have := HI.out; omega⟩, ⟨by rw [List.length_append]; rw [List.length_append, List.length_singleton]; have := encodeRuneZ_len ((C : Int)); have := HA.out; omega⟩, HO5, HIT5, HB5⟩
            · have e2 : decide ((0 : Int) < (acc.length : Int)) = false := decide_eq_false (by omega)
              by_cases u1 : (65 : Int) ≤ (C : Int)
              · have e3 : decide ((65 : Int) ≤ (C : Int)) = true := decide_eq_true u1
                by_cases u2 : (C : Int) ≤ 90
                · have e4 : decide ((C : Int) ≤ 90) = true := decide_eq_true u2
                  have e5 : ((C : Int) + 32 == 65533) = false := by simp; omega
                  have hlo : low (C : Int) = (C : Int) + 32 := if_pos ⟨u1, u2⟩
                  have hfo : foldOut true acc = acc := by simp [foldOut, hlen]
                  go_wp2_with fail
                  refine (append_rune w (.slice Ao acc.length co) (acc) ((C : Int) + 32) (by omega) (by omega) _ HO1.out (by have := HA.out; have := HLEN.out; omega) HB1.out).mono ?_
                  rintro e W5 ⟨v5, rfl, hR5, hb5, hk5⟩
                  have HO5 := Aside0.mk hR5
                  have HB5 := Aside0.mk hb5
                  have HIT5 := Aside0.mk (hk5 kb _ HIT1.out (iter_ne HO1.out HIT1.out))
                  clear hR5 hb5 hk5
                  go_wp2_with fail
                  go_roundg g1
                  case measure => exact Nat.lt_succ_self _
                  case rel => exact ⟨pos + n, false, (acc) ++ Lib.encodeRuneZ ((C : Int) + 32), f1, rfl, ⟨by have := HF2.out; rw [if_neg (by rw [hlo]; omega), hfo, hlo] at this; exact this⟩, ⟨by have := HI.out; omega⟩, ⟨by rw [List.length_append]; have := encodeRuneZ_len ((C : Int) + 32); have := HA.out; omega⟩, HO5, HIT5, HB5⟩
                · have e4 : decide ((C : Int) ≤ 90) = false := decide_eq_false u2
                  have hl0 : low (C : Int) = (C : Int) := if_neg (by omega)
                  by_cases u3_ : (C : Int) = 65533
                  · have e5 : ((C : Int) == 65533) = true := beq_iff_eq.2 u3_
                    have hlo : low (C : Int) = 65533 := hl0.trans u3_
                    have hfo : foldOut true acc = acc := by simp [foldOut, hlen]
                    go_wp2_with fail
                    refine (Tryz.utf8_DecodeRuneInString (a0.extract pos a0.size) _ (HT.out.below HB1.out).utf).mono ?_
                    rintro e W5 ⟨rfl, hb5⟩
                    rw [DG1.out, DG2.out]
                    have HO5 := Aside0.mk (Kd.R_below HO1.out hb5)
                    have HIT5 := Aside0.mk (keep_blk hb5 HIT1.out)
                    have HB5 := Aside0.mk (below_step HB1.out hb5)
                    clear hb5
                    have hsl : (Instr.slice 9 (.string a0) (some (.int .i64 (pos : Int))) (some (.int .i64 ((pos : Int) + (n : Int)))) none).run Tryz.prog W5 = .ok (.string (a0.extract pos (pos + n))) W5 := by
                      have := run_slice_string (P := Tryz.prog) W5 9 a0 .i64 .i64 (pos : Int) ((pos : Int) + (n : Int)) Tryz.underlying9 (by omega) (by omega) (by omega)
                      rwa [Int.toNat_natCast, show ((pos : Int) + (n : Int)).toNat = pos + n by omega] at this
                    go_wp2_with ((with_reducible refine gate_builtin (b := .append) (xs := #[.tmp 48, .tmp 54]) rfl ?_); at_builtin; refine print_append_str (w0 := w) w.heap.size rfl (.tmp 48) (.tmp 54) 22 9 5 rfl Tryz.underlying22 Tryz.underlying9 info5 (.slice Ao acc.length co) (acc) (a0.extract pos (pos + n)) rfl ?sx ?sO ?sB ?sS ?sL ?_; (case sx => rfl); (case sO => exact Kd.own_of_R HO5.out); (case sB => exact HB5.out); (case sS => exact below_size HB5.out); (case sL => have hz := ext_size a0 pos (pos + n) n2; have := HA.out; have := HLEN.out; omega); intro v6 W6 ho hb hgr; have HO6 : Aside0 ((Kd.int .u8).R 5 W6 w.heap.size (fun _ => True) v6 ((acc) ++ bytesOf (a0.extract pos (pos + n)))) := ⟨Kd.R_of_own ho (fun _ _ => trivial)⟩; have HB6 := Aside0.mk hb; have HIT6 := Aside0.mk (blk_grown HIT5.out hgr (iter_ne HO5.out HIT5.out)); clear ho hb hgr)
                    go_roundg g1
                    case measure => exact Nat.lt_succ_self _
                    case rel => exact ⟨pos + n, false, (acc) ++ bytesOf (a0.extract pos (pos + n)), f1, rfl, ⟨by have := HF2.out; rw [if_pos hlo, hfo] at this; exact this⟩, ⟨by have := HI.out; omega⟩, ⟨by rw [List.length_append, bytesOf_length, ext_size a0 pos (pos + n) n2]; have := HA.out; omega⟩, HO6, HIT6, HB6⟩
                  · have e5 : ((C : Int) == 65533) = false := by simpa using u3_
                    have hlo : low (C : Int) = (C : Int) := hl0
                    have hfo : foldOut true acc = acc := by simp [foldOut, hlen]
                    go_wp2_with fail
                    refine (append_rune w (.slice Ao acc.length co) (acc) ((C : Int)) (by omega) (by omega) _ HO1.out (by have := HA.out; have := HLEN.out; omega) HB1.out).mono ?_
                    rintro e W5 ⟨v5, rfl, hR5, hb5, hk5⟩
                    have HO5 := Aside0.mk hR5
                    have HB5 := Aside0.mk hb5
                    have HIT5 := Aside0.mk (hk5 kb _ HIT1.out (iter_ne HO1.out HIT1.out))
                    clear hR5 hb5 hk5
                    go_wp2_with fail
                    go_roundg g1
                    case measure => exact Nat.lt_succ_self _
                    case rel => exact ⟨pos + n, false, (acc) ++ Lib.encodeRuneZ ((C : Int)), f1, rfl, ⟨by have := HF2.out; rw [if_neg (by rw [hlo]; omega), hfo, hlo] at this; exact this⟩, ⟨by have := HI.out; omega⟩, ⟨by rw [List.length_append]; have := encodeRuneZ_len ((C : Int)); have := HA.out; omega⟩, HO5, HIT5, HB5⟩
              · have e3 : decide ((65 : Int) ≤ (C : Int)) = false := decide_eq_false u1
                have e5 : ((C : Int) == 65533) = false := by simp; omega
                have hlo : low (C : Int) = (C : Int) := if_neg (by omega)
                have hfo : foldOut true acc = acc := by simp [foldOut, hlen]
                go_wp2_with fail
                refine (append_rune w (.slice Ao acc.length co) (acc) ((C : Int)) (by omega) (by omega) _ HO1.out (by have := HA.out; have := HLEN.out; omega) HB1.out).mono ?_
                rintro e W5 ⟨v5, rfl, hR5, hb5, hk5⟩
                have HO5 := Aside0.mk hR5
                have HB5 := Aside0.mk hb5
                have HIT5 := Aside0.mk (hk5 kb _ HIT1.out (iter_ne HO1.out HIT1.out))
                clear hR5 hb5 hk5
                go_wp2_with fail
                go_roundg g1
                case measure => exact Nat.lt_succ_self _
                case rel => exact ⟨pos + n, false, (acc) ++ Lib.encodeRuneZ ((C : Int)), f1, rfl, ⟨by have := HF2.out; rw [if_neg (by rw [hlo]; omega), hfo, hlo] at this; exact this⟩, ⟨by have := HI.out; omega⟩, ⟨by rw [List.length_append]; have := encodeRuneZ_len ((C : Int)); have := HA.out; omega⟩, HO5, HIT5, HB5⟩
          | false =>
            by_cases u1 : (65 : Int) ≤ (C : Int)
            · have e3 : decide ((65 : Int) ≤ (C : Int)) = true := decide_eq_true u1
              by_cases u2 : (C : Int) ≤ 90
              · have e4 : decide ((C : Int) ≤ 90) = true := decide_eq_true u2
                have e5 : ((C : Int) + 32 == 65533) = false := by simp; omega
                have hlo : low (C : Int) = (C : Int) + 32 := if_pos ⟨u1, u2⟩
                have hfo : foldOut false acc = acc := by simp [foldOut]
                go_wp2_with fail
                refine (append_rune w u3 (acc) ((C : Int) + 32) (by omega) (by omega) _ HO1.out (by have := HA.out; have := HLEN.out; omega) HB1.out).mono ?_
                rintro e W5 ⟨v5, rfl, hR5, hb5, hk5⟩
                have HO5 := Aside0.mk hR5
                have HB5 := Aside0.mk hb5
                have HIT5 := Aside0.mk (hk5 kb _ HIT1.out (iter_ne HO1.out HIT1.out))
                clear hR5 hb5 hk5
                go_wp2_with fail
                go_roundg g1
                case measure => exact Nat.lt_succ_self _
                case rel => exact ⟨pos + n, false, (acc) ++ Lib.encodeRuneZ ((C : Int) + 32), f1, rfl, ⟨by have := HF2.out; rw [if_neg (by rw [hlo]; omega), hfo, hlo] at this; exact this⟩, ⟨by have := HI.out; omega⟩, ⟨by rw [List.length_append]; have := encodeRuneZ_len ((C : Int) + 32); have := HA.out; omega⟩, HO5, HIT5, HB5⟩
              · have e4 : decide ((C : Int) ≤ 90) = false := decide_eq_false u2
                have hl0 : low (C : Int) = (C : Int) := if_neg (by omega)
                by_cases u3_ : (C : Int) = 65533
                · have e5 : ((C : Int) == 65533) = true := beq_iff_eq.2 u3_
                  have hlo : low (C : Int) = 65533 := hl0.trans u3_
                  have hfo : foldOut false acc = acc := by simp [foldOut]
                  go_wp2_with fail
                  refine (Tryz.utf8_DecodeRuneInString (a0.extract pos a0.size) _ (HT.out.below HB1.out).utf).mono ?_
                  rintro e W5 ⟨rfl, hb5⟩
                  rw [DG1.out, DG2.out]
                  have HO5 := Aside0.mk (Kd.R_below HO1.out hb5)
                  have HIT5 := Aside0.mk (keep_blk hb5 HIT1.out)
                  have HB5 := Aside0.mk (below_step HB1.out hb5)
                  clear hb5
                  have hsl : (Instr.slice 9 (.string a0) (some (.int .i64 (pos : Int))) (some (.int .i64 ((pos : Int) + (n : Int)))) none).run Tryz.prog W5 = .ok (.string (a0.extract pos (pos + n))) W5 := by
                    have := run_slice_string (P := Tryz.prog) W5 9 a0 .i64 .i64 (pos : Int) ((pos : Int) + (n : Int)) Tryz.underlying9 (by omega) (by omega) (by omega)
                    rwa [Int.toNat_natCast, show ((pos : Int) + (n : Int)).toNat = pos + n by omega] at this
                  go_wp2_with ((with_reducible refine gate_builtin (b := .append) (xs := #[.tmp 48, .tmp 54]) rfl ?_); at_builtin; refine print_append_str (w0 := w) w.heap.size rfl (.tmp 48) (.tmp 54) 22 9 5 rfl Tryz.underlying22 Tryz.underlying9 info5 u3 (acc) (a0.extract pos (pos + n)) rfl ?sx ?sO ?sB ?sS ?sL ?_; (case sx => rfl); (case sO => exact Kd.own_of_R HO5.out); (case sB => exact HB5.out); (case sS => exact below_size HB5.out); (case sL => have hz := ext_size a0 pos (pos + n) n2; have := HA.out; have := HLEN.out; omega); intro v6 W6 ho hb hgr; have HO6 : Aside0 ((Kd.int .u8).R 5 W6 w.heap.size (fun _ => True) v6 ((acc) ++ bytesOf (a0.extract pos (pos + n)))) := ⟨Kd.R_of_own ho (fun _ _ => trivial)⟩; have HB6 := Aside0.mk hb; have HIT6 := Aside0.mk (blk_grown HIT5.out hgr (iter_ne HO5.out HIT5.out)); clear ho hb hgr)
                  go_roundg g1
                  case measure => exact Nat.lt_succ_self _
                  case rel => exact ⟨pos + n, false, (acc) ++ bytesOf (a0.extract pos (pos + n)), f1, rfl, ⟨by have := HF2.out; rw [if_pos hlo, hfo] at this; exact this⟩, ⟨by have := HI.out; omega⟩, ⟨by rw [List.length_append, bytesOf_length, ext_size a0 pos (pos + n) n2]; have := HA.out; omega⟩, HO6, HIT6, HB6⟩
                · have e5 : ((C : Int) == 65533) = false := by simpa using u3_
                  have hlo : low (C : Int) = (C : Int) := hl0
                  have hfo : foldOut false acc = acc := by simp [foldOut]
                  go_wp2_with fail
                  refine (append_rune w u3 (acc) ((C : Int)) (by omega) (by omega) _ HO1.out (by have := HA.out; have := HLEN.out; omega) HB1.out).mono ?_
                  rintro e W5 ⟨v5, rfl, hR5, hb5, hk5⟩
                  have HO5 := Aside0.mk hR5
                  have HB5 := Aside0.mk hb5
                  have HIT5 := Aside0.mk (hk5 kb _ HIT1.out (iter_ne HO1.out HIT1.out))
                  clear hR5 hb5 hk5
                  go_wp2_with fail
                  go_roundg g1
                  case measure => exact Nat.lt_succ_self _
                  case rel => exact ⟨pos + n, false, (acc) ++ Lib.encodeRuneZ ((C : Int)), f1, rfl, ⟨by have := HF2.out; rw [if_neg (by rw [hlo]; omega), hfo, hlo] at this; exact this⟩, ⟨by have := HI.out; omega⟩, ⟨by rw [List.length_append]; have := encodeRuneZ_len ((C : Int)); have := HA.out; omega⟩, HO5, HIT5, HB5⟩
            · have e3 : decide ((65 : Int) ≤ (C : Int)) = false := decide_eq_false u1
              have e5 : ((C : Int) == 65533) = false := by simp; omega
              have hlo : low (C : Int) = (C : Int) := if_neg (by omega)
              have hfo : foldOut false acc = acc := by simp [foldOut]
              go_wp2_with fail
              refine (append_rune w u3 (acc) ((C : Int)) (by omega) (by omega) _ HO1.out (by have := HA.out; have := HLEN.out; omega) HB1.out).mono ?_
              rintro e W5 ⟨v5, rfl, hR5, hb5, hk5⟩
              have HO5 := Aside0.mk hR5
              have HB5 := Aside0.mk hb5
              have HIT5 := Aside0.mk (hk5 kb _ HIT1.out (iter_ne HO1.out HIT1.out))
              clear hR5 hb5 hk5
              go_wp2_with fail
              go_roundg g1
              case measure => exact Nat.lt_succ_self _
              case rel => exact ⟨pos + n, false, (acc) ++ Lib.encodeRuneZ ((C : Int)), f1, rfl, ⟨by have := HF2.out; rw [if_neg (by rw [hlo]; omega), hfo, hlo] at this; exact this⟩, ⟨by have := HI.out; omega⟩, ⟨by rw [List.length_append]; have := encodeRuneZ_len ((C : Int)); have := HA.out; omega⟩, HO5, HIT5, HB5⟩
      · have hnx : ∀ ty, (Instr.next (.pointer (some ⟨kb, 0, none⟩)) true ty).run Tryz.prog wr = _ := fun ty => Lib.run_next_end_at wr kb a0 pos ty HIT.out hp
        have hcv := own_string (P := Tryz.prog) Tryz.underlying22 Tryz.underlying5 Tryz.underlying9 (Kd.own_of_R HO.out)
        have hfe : foldGo a0 a0.size 0 false [] = acc := by
          rw [← HF.out]
          cases f with
          | zero => rfl
          | succ f => rw [foldGo, if_neg hp]
        go_wp2_with fail
        go_ret
        exact ⟨by rw [hfe]; rfl, HB.out⟩
end Go.Proofs.YtkioddjjfifadaaGreatDoor.P
set_option linter.unusedVariables false
set_option linter.unusedSimpArgs false
namespace Go.Proofs.YtkioddjjfifadaaGreatDoor.P
open Go.RowKit Go.Proofs.YtkioddjjfifadaaGreatDoorW.PrintWords Go.Proofs.YtkioddjjfifadaaGreatDoorW.PrintLast Go.Proofs.YtkioddjjfifadaaGreatDoorW.PrintMore
attribute [local go_sem] max2_int min2_int max_two min_two max_three min_three max_four min_four
theorem R_iterG {α : Type} {d : Kd α} {e B kb p : Nat} {ok : Nat → Prop} {s : ByteArray} {w : World} {v : Value} {xs : List α} (h : d.R e w B ok v xs) (hb : w.heap[kb]? = some (.stringIter s p)) (p' : Nat) : d.R e (w.iterAt kb s p') B ok v xs :=
  Kd.R_mono (Kd.R_move (Kd.R_bound h) (fun k hk => by
    refine Lib.iterAt_other w kb k s p' ?_
    rintro rfl
    obtain ⟨_, _, _, _, _, cells, hc⟩ := hk
    rw [hb] at hc
    cases hc)) (fun _ hk => hk.1)
theorem iter_neG {α : Type} {d : Kd α} {e B kb p : Nat} {ok : Nat → Prop} {s : ByteArray} {w : World} {v : Value} {xs : List α} (h : d.R e w B ok v xs) (hb : w.heap[kb]? = some (.stringIter s p)) : some kb ≠ v.ownBlock := fun e => by
  obtain ⟨inner, ho⟩ := Kd.R_own h
  obtain ⟨cells, hc⟩ := own_typed ho kb e.symm
  rw [hb] at hc
  cases hc
def arcsGo (s : ByteArray) : Nat → Nat → List Int → Int → Int → Option (List Int)
  | 0, _, _, _, _ => none
  | f + 1, pos, l, v, n =>
    if pos < s.size then
      (if ((Utf8.decode s pos).1 : Int) = 46 ∧ 0 < n then arcsGo s f (pos + (Utf8.decode s pos).2) (l ++ [v]) 0 0
       else if ((Utf8.decode s pos).1 : Int) < 48 ∨ 57 < ((Utf8.decode s pos).1 : Int) ∨ (n = 1 ∧ v = 0) then none
       else arcsGo s f (pos + (Utf8.decode s pos).2) l (min (10 * v + (((Utf8.decode s pos).1 : Int) - 48)) 1099511627776) (min (n + 1) 20))
    else some l
def arcsEnd (l : List Int) : List Int × Bool :=
  if (l.length : Int) < 2 then ([], false) else if 2 < rd l 0 then ([], false) else if rd l 0 < 2 then (if 40 ≤ rd l 1 then ([], false) else (l, true)) else (l, true)
def der_arcs.f (a0 : ByteArray) : Option (List Int × Bool) :=
  if a0.size < 8796093022208 then some (match arcsGo (a0 ++ ⟨#[46]⟩) (a0.size + 2) 0 [] 0 0 with | none => ([], false) | some l => arcsEnd l) else none
set_option maxRecDepth 100000 in
set_option maxHeartbeats 8000000 in
theorem der_arcs.calls (a0 : ByteArray) (r1 : List Int) (r2 : Bool) (w : World) (h : der_arcs.f a0 = some (r1, r2)) :
    Calls Tryz.prog 238 #[.string a0] w fun e w' => ∃ v0_ : Value, e = .returned (.tuple #[v0_, .bool r2]) ∧ Kd.R (Kd.int .u64) 278 w' w.heap.size (fun _ => True) v0_ r1 ∧ Below w.heap.size w w' := by
  unfold der_arcs.f at h
  split at h
  case isFalse => cases h
  case isTrue hlen =>
  have h := Option.some.inj h
  have HLEN := Aside0.mk hlen
  have z46 : (⟨#[46]⟩ : ByteArray).size = 1 := rfl
  have hsz : (a0 ++ (⟨#[46]⟩ : ByteArray)).size = a0.size + 1 := by rw [ByteArray.size_append, z46]
  have yy : (9223372036854775807 < a0.size + 1) = False := eq_false (by omega)
  have HB0 := Aside0.mk (below_alloc (Below.refl w.heap.size w) (.stringIter (a0 ++ (⟨#[46]⟩ : ByteArray)) 0))
  have HIT : Aside0 ((w.alloc (.stringIter (a0 ++ (⟨#[46]⟩ : ByteArray)) 0)).heap[w.heap.size]? = some (.stringIter (a0 ++ (⟨#[46]⟩ : ByteArray)) 0)) := ⟨heap_alloc_new w _⟩
  have HE := Aside0.mk h
  have HSZ := Aside0.mk hsz
  clear h hsz hlen
  go_enter Tryz.func238, Tryz.ntmps238
  go_wp2_with fail
  generalize hS : a0 ++ (⟨#[46]⟩ : ByteArray) = S at *
  clear hS yy z46
  go_loopg [4, 5, 6] (S.size + 1) (fun kq v4 v5 v6 w' => ∃ (pos : Nat) (l : List Int) (v n : Int) (f : Nat), v5 = .int .u64 v ∧ v6 = .int .i64 n ∧ Aside0 (arcsGo S f pos l v n = arcsGo S (a0.size + 2) 0 [] 0 0) ∧ Aside0 (pos ≤ S.size ∧ S.size < f + pos ∧ S.size < kq + pos) ∧ Aside0 (l.length ≤ pos) ∧
    Aside0 (0 ≤ v ∧ v ≤ 1099511627776 ∧ 0 ≤ n ∧ n ≤ 20) ∧ Aside0 ((Kd.int .u64).R 278 w' w.heap.size (fun _ => True) v4 l) ∧ Aside0 (w'.heap[w.heap.size]? = some (.stringIter S pos)) ∧ Aside0 (Below w.heap.size w w'))
  case atStart => exact ⟨0, [], 0, 0, a0.size + 2, rfl, rfl, ⟨rfl⟩, ⟨⟨Nat.zero_le _, by have := HSZ.out; omega, by omega⟩⟩, ⟨Nat.zero_le _⟩, ⟨by decide⟩, ⟨Kd.R_nil _ _ _ _ _⟩, HIT, HB0⟩
  case round =>
    clear HB0 HIT
    obtain ⟨pos, l, v, n, f, rfl, rfl, HF, HI, HA, HV, HO, HIT, HB⟩ := hrel
    cases gk with
    | zero => exact absurd HI.out (by omega)
    | succ g1 =>
      obtain ⟨f1, rfl⟩ : ∃ f1, f = f1 + 1 := ⟨f - 1, by have := HI.out; omega⟩
      by_cases hp : pos < S.size
      · have hnx0 : ∀ ty, (Instr.next (.pointer (some ⟨w.heap.size, 0, none⟩)) true ty).run Tryz.prog wr = _ := fun ty => Lib.run_next_any_at wr w.heap.size S pos ty HIT.out hp
        obtain ⟨n1, n2, n4⟩ := decode_width S pos hp
        have hle := decode_le S pos
        have hf := HF.out
        rw [arcsGo, if_pos hp] at hf
        have HO1 := Aside0.mk (R_iterG HO.out HIT.out (pos + (Utf8.decode S pos).2))
        have HIT1 := Aside0.mk (Lib.iterAt_heap wr w.heap.size S pos (pos + (Utf8.decode S pos).2) HIT.out)
        have HB1 := Aside0.mk (Lib.below_iterAt HB.out (Nat.le_refl _) S (pos + (Utf8.decode S pos).2))
        have hnx := hnx0
        clear HF HO HIT HB hnx0
        generalize wr.iterAt w.heap.size S (pos + (Utf8.decode S pos).2) = W2 at *
        generalize hc : (Utf8.decode S pos).1 = C at *
        generalize hn : (Utf8.decode S pos).2 = m at *
        have HFF := Aside0.mk hf
        clear hc hn hf
        have hv0 := HV.out.1
        have hv1 := HV.out.2.1
        have hn0 := HV.out.2.2.1
        have hn2 := HV.out.2.2.2
        obtain ⟨Ao, co, hu⟩ := Kd.R_slice HO1.out
        subst hu
        by_cases h46 : (C : Int) = 46
        · have e1 : ((C : Int) == 46) = true := beq_iff_eq.2 h46
          by_cases hn3 : 0 < n
          · have e2 : decide (0 < n) = true := decide_eq_true hn3
            clear hv0 hv1 hn0 hn2
            go_wp2_with ((with_reducible refine gate_builtin (b := .append) (xs := #[.tmp 32, .tmp 34]) rfl ?_); at_builtin; refine Kd.R_append (Kd.int .u64) (w0 := w) w.heap.size rfl (.tmp 32) (.tmp 34) 277 278 (.int .u64 0) 8 rfl Tryz.underlying277 info278 rfl (by decide) (by omega) (.slice Ao l.length co) l v [.int .u64 v] (fun _ => True) (fun _ => False) rfl rfl ?aP (fun _ hk => hk.elim) ?aF ?aO ?aB ?aS ?aL ?_; (case aP => exact rfl); (case aF => exact (fun _ _ => trivial)); (case aO => exact HO1.out); (case aB => exact HB1.out); (case aS => exact (below_size HB1.out)); (case aL => have := HA.out; have := HI.out; have := HLEN.out; have := HSZ.out; omega); intro v2 W3 ho hb hgr hat; have HO2 := Aside0.mk ho; have HB2 := Aside0.mk hb; have HIT2 := Aside0.mk (blk_grown HIT1.out hgr (iter_neG HO1.out HIT1.out)); clear ho hb hgr hat)
            go_roundg g1
            case measure => exact Nat.lt_succ_self _
            case rel => exact ⟨pos + m, l ++ [v], 0, 0, f1, rfl, rfl, ⟨by have := HFF.out; rw [if_pos ⟨h46, hn3⟩] at this; exact this⟩, ⟨by have := HI.out; omega⟩, ⟨by rw [List.length_append, List.length_singleton]; have := HA.out; omega⟩, ⟨by decide⟩, HO2, HIT2, HB2⟩
          · have e2 : decide (0 < n) = false := decide_eq_false hn3
            have e3 : decide ((C : Int) < 48) = true := decide_eq_true (by omega)
            have HR : Aside0 (arcsGo S (a0.size + 2) 0 [] 0 0 = none) := ⟨by have := HFF.out; rw [if_neg (fun q => hn3 q.2), if_pos (Or.inl (by omega))] at this; exact this.symm⟩
            clear hv0 hv1 hn0 hn2
            go_wp2_with fail
            go_ret2
            have hE := HE.out
            rw [HR.out] at hE
            obtain ⟨rfl, rfl⟩ := Prod.mk.inj hE
            exact ⟨_, rfl, Kd.R_nil _ _ _ _ _, HB1.out⟩
        · have e1 : ((C : Int) == 46) = false := by simpa using h46
          by_cases h48 : (C : Int) < 48
          · have e3 : decide ((C : Int) < 48) = true := decide_eq_true h48
            have HR : Aside0 (arcsGo S (a0.size + 2) 0 [] 0 0 = none) := ⟨by have := HFF.out; rw [if_neg (fun q => h46 q.1), if_pos (Or.inl h48)] at this; exact this.symm⟩
            clear hv0 hv1 hn0 hn2
            go_wp2_with fail
            go_ret2
            have hE := HE.out
            rw [HR.out] at hE
            obtain ⟨rfl, rfl⟩ := Prod.mk.inj hE
            exact ⟨_, rfl, Kd.R_nil _ _ _ _ _, HB1.out⟩
          · have e3 : decide ((C : Int) < 48) = false := decide_eq_false h48
            by_cases h57 : 57 < (C : Int)
            · have e4 : decide (57 < (C : Int)) = true := decide_eq_true h57
              have HR : Aside0 (arcsGo S (a0.size + 2) 0 [] 0 0 = none) := ⟨by have := HFF.out; rw [if_neg (fun q => h46 q.1), if_pos (Or.inr (Or.inl h57))] at this; exact this.symm⟩
              clear hv0 hv1 hn0 hn2
              go_wp2_with fail
              go_ret2
              have hE := HE.out
              rw [HR.out] at hE
              obtain ⟨rfl, rfl⟩ := Prod.mk.inj hE
              exact ⟨_, rfl, Kd.R_nil _ _ _ _ _, HB1.out⟩
            · have e4 : decide (57 < (C : Int)) = false := decide_eq_false h57
              by_cases hq : n = 1 ∧ v = 0
              · have e5 : (n == 1) = true := beq_iff_eq.2 hq.1
                have e6 : (v == 0) = true := beq_iff_eq.2 hq.2
                have HR : Aside0 (arcsGo S (a0.size + 2) 0 [] 0 0 = none) := ⟨by have := HFF.out; rw [if_neg (fun q => h46 q.1), if_pos (Or.inr (Or.inr hq))] at this; exact this.symm⟩
                clear hv0 hv1 hn0 hn2 hq
                go_wp2_with fail
                go_ret2
                have hE := HE.out
                rw [HR.out] at hE
                obtain ⟨rfl, rfl⟩ := Prod.mk.inj hE
                exact ⟨_, rfl, Kd.R_nil _ _ _ _ _, HB1.out⟩
              · have HN : Aside0 (arcsGo S f1 (pos + m) l (min (10 * v + ((C : Int) - 48)) 1099511627776) (min (n + 1) 20) = arcsGo S (a0.size + 2) 0 [] 0 0) := ⟨by have := HFF.out; rw [if_neg (fun q => h46 q.1), if_neg (fun q => by rcases q with q | q | q; exact h48 q; exact h57 q; exact hq q)] at this; exact this⟩
                have h48' : (48 : Int) ≤ (C : Int) := by omega
                have h57' : (C : Int) ≤ 57 := by omega
                have hm0 : 0 ≤ (C : Int) - 48 := by omega
                have hm1 : (C : Int) - 48 ≤ 9 := by omega
                have hk0 : 0 ≤ 10 * v + ((C : Int) - 48) := by omega
                have hk1 : 10 * v + ((C : Int) - 48) ≤ 10995116277769 := by omega
                have HN0 : Aside0 (0 ≤ min (10 * v + ((C : Int) - 48)) 1099511627776 ∧ min (10 * v + ((C : Int) - 48)) 1099511627776 ≤ 1099511627776 ∧ 0 ≤ min (n + 1) 20 ∧ min (n + 1) 20 ≤ 20) := ⟨by omega⟩
                have u1 : IntKind.u64.wrap (10 * v) = 10 * v := by simp [IntKind.wrap, show IntKind.u64.signed = false from rfl, show IntKind.u64.bits = 64 from rfl]; omega
                have u2 : IntKind.i32.wrap ((C : Int) - 48) = (C : Int) - 48 := by simp [IntKind.wrap, show IntKind.i32.signed = true from rfl, show IntKind.i32.bits = 32 from rfl]; omega
                have u3 : IntKind.u64.wrap ((C : Int) - 48) = (C : Int) - 48 := by simp [IntKind.wrap, show IntKind.u64.signed = false from rfl, show IntKind.u64.bits = 64 from rfl]; omega
                have u4 : IntKind.u64.wrap (10 * v + ((C : Int) - 48)) = 10 * v + ((C : Int) - 48) := by simp [IntKind.wrap, show IntKind.u64.signed = false from rfl, show IntKind.u64.bits = 64 from rfl]; omega
                have u5 : wrap64 (n + 1) = n + 1 := by unfold wrap64; omega
                by_cases q5 : n = 1
                · have e5 : (n == 1) = true := beq_iff_eq.2 q5
                  have e6 : (v == 0) = false := by simpa using (fun q => hq ⟨q5, q⟩ : ¬ v = 0)
                  clear hq q5 hv0 hv1 hn0 hn2 h48 h57
                  go_wp2_with fail
                  all_goals
                    clear u1 u2 u3 u4 u5
                    go_roundg g1
                    case measure => exact Nat.lt_succ_self _
                    case rel => exact ⟨pos + m, l, _, _, f1, rfl, rfl, ⟨(congr (congrArg (arcsGo S f1 (pos + m) l) (by omega)) (by omega)).trans HN.out⟩, ⟨by have := HI.out; omega⟩, ⟨by have := HA.out; omega⟩, ⟨by have := HV.out; omega⟩, HO1, HIT1, HB1⟩
                · have e5 : (n == 1) = false := by simpa using q5
                  clear hq q5 hv0 hv1 hn0 hn2 h48 h57
                  go_wp2_with fail
                  all_goals
                    clear u1 u2 u3 u4 u5
                    go_roundg g1
                    case measure => exact Nat.lt_succ_self _
                    case rel => exact ⟨pos + m, l, _, _, f1, rfl, rfl, ⟨(congr (congrArg (arcsGo S f1 (pos + m) l) (by omega)) (by omega)).trans HN.out⟩, ⟨by have := HI.out; omega⟩, ⟨by have := HA.out; omega⟩, ⟨by have := HV.out; omega⟩, HO1, HIT1, HB1⟩
      · have he : pos = S.size := by have := HI.out; omega
        have HR : Aside0 (arcsGo S (a0.size + 2) 0 [] 0 0 = some l) := ⟨by have := HF.out; rw [arcsGo, if_neg hp] at this; exact this.symm⟩
        have hE := HE.out
        rw [HR.out] at hE
        have HE2 : Aside0 (arcsEnd l = (r1, r2)) := ⟨hE⟩
        have hnx0 : ∀ ty, (Instr.next (.pointer (some ⟨w.heap.size, 0, none⟩)) true ty).run Tryz.prog wr = _ := fun ty => Lib.run_next_end_at wr w.heap.size S pos ty HIT.out (by omega)
        obtain ⟨Ao, co, hu⟩ := Kd.R_slice HO.out
        subst hu
        have HC := Aside0.mk (Kd.R_reads' HO.out).2.2
        have hnx := hnx0
        clear hnx0 hE
        by_cases hl : (l.length : Int) < 2
        · have e1 : decide ((l.length : Int) < 2) = true := decide_eq_true hl
          have HX : Aside0 (([], false) = (r1, r2)) := ⟨by have := HE2.out; rw [arcsEnd, if_pos hl] at this; exact this⟩
          clear hl
          go_wp2_with fail
          go_ret2
          obtain ⟨rfl, rfl⟩ := Prod.mk.inj (HX.out)
          exact ⟨_, rfl, Kd.R_nil _ _ _ _ _, HB.out⟩
        · have e1 : decide ((l.length : Int) < 2) = false := decide_eq_false hl
          have p244 : 0 ≤ (0 : Int) := (by omega)
          have q244 : 0 < (l.length : Int) := by omega
          obtain ⟨ad244, e244, hx244_0⟩ := Kd.at_int HC.out 0 p244 q244
          cases e244
          have qi244 : (0 < l.length) = True := eq_true (by omega)
          (try rw [show ((0 : Int)).toNat = 0 from rfl] at hx244_0)
          (try rw [Addr.add_zero'] at hx244_0)
          replace p244 := eq_true p244
          replace q244 := eq_true q244
          by_cases h2 : 2 < rd l 0
          · have e2 : decide (2 < rd l 0) = true := decide_eq_true h2
            have HX : Aside0 (([], false) = (r1, r2)) := ⟨by have := HE2.out; rw [arcsEnd, if_neg hl, if_pos h2] at this; exact this⟩
            clear h2
            clear hl
            go_wp2_with fail
            go_ret2
            obtain ⟨rfl, rfl⟩ := Prod.mk.inj (HX.out)
            exact ⟨_, rfl, Kd.R_nil _ _ _ _ _, HB.out⟩
          · have e2 : decide (2 < rd l 0) = false := decide_eq_false h2
            by_cases h3 : rd l 0 < 2
            · have e3 : decide (rd l 0 < 2) = true := decide_eq_true h3
              have p245 : 0 ≤ (1 : Int) := (by omega)
              have q245 : 1 < (l.length : Int) := by omega
              obtain ⟨ad245, e245, hx245_0⟩ := Kd.at_int HC.out 1 p245 q245
              obtain rfl : ad244 = ad245 := (by injection e245)
              (try simp only [show (1 : Int).toNat = 1 from rfl, Nat.reduceMul, Nat.reduceEqDiff, Go.Addr.add, ↓reduceIte] at hx245_0)
              have qi245 : (1 < l.length) = True := eq_true (by omega)
              (try rw [show ((1 : Int)).toNat = 1 from rfl] at hx245_0)
              replace p245 := eq_true p245
              replace q245 := eq_true q245
              by_cases h4 : 40 ≤ rd l 1
              · have e4 : decide (40 ≤ rd l 1) = true := decide_eq_true h4
                have HX : Aside0 (([], false) = (r1, r2)) := ⟨by have := HE2.out; rw [arcsEnd, if_neg hl, if_neg h2, if_pos h3, if_pos h4] at this; exact this⟩
                clear h2 h3 h4
                clear hl
                go_wp2_with fail
                go_ret2
                obtain ⟨rfl, rfl⟩ := Prod.mk.inj (HX.out)
                exact ⟨_, rfl, Kd.R_nil _ _ _ _ _, HB.out⟩
              · have e4 : decide (40 ≤ rd l 1) = false := decide_eq_false h4
                have HX : Aside0 ((l, true) = (r1, r2)) := ⟨by have := HE2.out; rw [arcsEnd, if_neg hl, if_neg h2, if_pos h3, if_neg h4] at this; exact this⟩
                clear h2 h3 h4
                clear hl
                go_wp2_with fail
                go_ret2
                obtain ⟨rfl, rfl⟩ := Prod.mk.inj (HX.out)
                exact ⟨_, rfl, HO.out, HB.out⟩
            · have e3 : decide (rd l 0 < 2) = false := decide_eq_false h3
              have HX : Aside0 ((l, true) = (r1, r2)) := ⟨by have := HE2.out; rw [arcsEnd, if_neg hl, if_neg h2, if_neg h3] at this; exact this⟩
              clear h2 h3
              clear hl
              go_wp2_with fail
              go_ret2
              obtain ⟨rfl, rfl⟩ := Prod.mk.inj (HX.out)
              exact ⟨_, rfl, HO.out, HB.out⟩
end Go.Proofs.YtkioddjjfifadaaGreatDoor.P
namespace Go.Proofs.YtkioddjjfifadaaGreatDoor.P
open Go.RowKit Go.Proofs.YtkioddjjfifadaaGreatDoorW.PrintWords Go.Proofs.YtkioddjjfifadaaGreatDoorW.PrintLast Go.Proofs.YtkioddjjfifadaaGreatDoorW.PrintMore
attribute [local go_sem] max2_int min2_int max_two min_two max_three min_three max_four min_four   -- for this text's walks alone
set_option linter.unusedVariables false
set_option linter.unusedSimpArgs false
mutual
def der_PutOid.l0 : Nat → List Int → List Int → Int → Int → Option (List Int × Int)
  | 0, _, _, _, _ => none
  | k + 1, x4, x18, x19, x20 => if x20 < x19 then (if 0 ≤ x20 then (if x20 < (x18.length : Int) then (if (rd x18 x20) > 2147483647 then (some (([] : List Int), 3)) else (der_PutOid.l0 k x4 x18 x19 (wrap64 (x20 + 1)))) else (none)) else (none)) else (if 0 < (x4.length : Int) then (if 1 < (x4.length : Int) then ((der_seven.f k (IntKind.u64.wrap ((IntKind.u64.wrap (40 * (rd x4 0))) + (rd x4 1)))).bind fun t318 => (if 2 ≤ (x4.length : Int) then ((some (x4.drop 2 : List Int)).bind fun y321 => (der_PutOid.l1 k t318 y321 (y321.length : Int) 0)) else (none))) else (none)) else (none))
def der_PutOid.l1 : Nat → List Int → List Int → Int → Int → Option (List Int × Int)
  | 0, _, _, _, _ => none
  | k + 1, x8, x37, x38, x39 => if x39 < x38 then (if 0 ≤ x39 then (if x39 < (x37.length : Int) then ((der_seven.f k (rd x37 x39)).bind fun t326 => (if x8.length + t326.length < 140737488355328 then (der_PutOid.l1 k (x8 ++ t326) x37 x38 (wrap64 (x39 + 1))) else (none))) else (none)) else (none)) else (some (x8, 0))
end
def der_PutOid.f (k : Nat) (a0 : ByteArray) : Option (List Int × Int) := (der_arcs.f a0).bind fun bt311 => (if bt311.2 = true then (der_PutOid.l0 k bt311.1 bt311.1 (bt311.1.length : Int) 0) else (some (([] : List Int), 6)))
def der_PutOid.T10 : Bool × List (List Nat × List Nat) := (true, [([], []), ([0], [0]), ([1], [1]), ([2], [2]), ([], []), ([4], [4]), ([5], [5]), ([3, 6], [3, 6]), ([7], [7]), ([8, 8, 0, 1, 2, 3, 4, 5, 6, 7, 8], [8])])
def der_PutOid.B10 : List Nat := [0, 1, 3, 7, 0, 16, 48, 127, 255, 511]
theorem der_PutOid.tab10 : rtab .any (opsOf Tryz.f199 10) = der_PutOid.T10 := by kernel_rfl
theorem der_PutOid.bits10 : waitsOk der_PutOid.T10.2 der_PutOid.B10 = true := by kernel_rfl
set_option maxHeartbeats 8000000 in
set_option maxRecDepth 100000 in
theorem der_PutOid.calls (k : Nat) (a0 : ByteArray) (r1 : List Int) (r2 : Int) (w : World) (h : der_PutOid.f k a0 = some (r1, r2)) :
    Calls Tryz.prog 199 #[.string a0] w fun e w' => ∃ v0_ : Value, e = .returned (.tuple #[v0_, .int .i64 r2]) ∧ Kd.R (Kd.int .u8) 5 w' w.heap.size (fun _ => True) v0_ r1 ∧ Below w.heap.size w w' := by
  have HB := Aside0.mk (Below.refl w.heap.size w)
  have H : ((der_arcs.f a0).bind fun bt311 => (if bt311.2 = true then (der_PutOid.l0 k bt311.1 bt311.1 (bt311.1.length : Int) 0) else (some (([] : List Int), 6)))) = some (r1, r2) := h
  clear h
  replace H := Option.bind_eq_some_iff.mp H
  obtain ⟨⟨t311, t312⟩, A20, H⟩ := H
  replace H : (if t312 = true then (der_PutOid.l0 k t311 t311 (t311.length : Int) 0) else (some (([] : List Int), 6))) = some (r1, r2) := H
  have A2 := Aside0.mk A20
  clear A20
  by_cases c3 : t312 = true
  · subst c3
    have H1 : (der_PutOid.l0 k t311 t311 (t311.length : Int) 0) = some (r1, r2) := by rw [if_pos rfl] at H; exact H
    clear H
    have H := H1
    clear H1
    have H' := Aside0.mk H
    clear H
    go_enter Tryz.func199, Tryz.ntmps199
    go_wp2_with (first | ((with_reducible refine gate_callee (f := 238) rfl ?_); refine goesL_ (some 13) rfl rfl Tryz.func238 (by kernel_rfl) rfl #[.string a0] rfl (by (try simp only [List.map_toArray, List.map_cons, List.map_nil]); first | done | rfl | (simp only [List.length_drop, List.length_take]; rfl)) ?_; (with_reducible refine (der_arcs.calls a0 t311 true _ A2.out).mono ?_); rintro e w4 ⟨v313, rfl, ho0, hb⟩; refine ⟨_, rfl, ?_⟩; have n0_ := Aside0.mk (Kd.R_lower ho0 (below_size (by repeat (first | (with_reducible first | exact HB.out | apply below_alloc | apply pw_below_drewN | apply below_drew1) | exact HB.out)))); have n1_ := Aside0.mk (below_step (by repeat (first | (with_reducible first | exact HB.out | apply below_alloc | apply pw_below_drewN | apply below_drew1) | exact HB.out)) hb); clear HB; have HO314 := n0_; have HB := n1_; clear n0_ n1_; (try clear hb); (try clear hb2); (try clear hk); (try clear hi); (try clear ho0); obtain ⟨Ao5, co5, eo5⟩ := Kd.R_slice HO314.out; subst eo5))
    go_loopg [20] k (fun kq v20 w' => ∃ (x20_1 : Int), v20 = .int .i64 x20_1 ∧ Aside0 (der_PutOid.l0 kq t311 t311 (t311.length : Int) x20_1 = some (r1, r2)) ∧ Aside0 (kq ≤ k) ∧ Aside0 (Kd.R (Kd.int .u64) 278 w' w.heap.size (fun _ => True) (.slice Ao5 t311.length co5) t311) ∧ Aside0 (Kd.R (Kd.int .u64) 278 w' w.heap.size (fun _ => True) (.slice Ao5 t311.length co5) t311) ∧ Aside0 (Below w.heap.size w w'))
    case atStart => exact ⟨(0), (by first | rfl | (simp; done) | (simp [*]; done)), H', ⟨Nat.le_refl _⟩, ⟨by (with_reducible repeat (first | apply Kd.R_alloc | apply Kd.R_drewN | apply Kd.R_drew)); exact HO314.out⟩, ⟨by (with_reducible repeat (first | apply Kd.R_alloc | apply Kd.R_drewN | apply Kd.R_drew)); exact HO314.out⟩, ⟨by repeat (first | (with_reducible first | exact HB.out | apply below_alloc | apply pw_below_drewN | apply below_drew1) | exact HB.out)⟩⟩
    case round =>
      clear H'
      try clear c1
      try clear c2
      try clear p2
      try clear c3
      obtain ⟨x20_1, rfl, HA, HK1, HO_4, HO_18, HB⟩ := hrel
      cases gk with
      | zero => exact absurd HA.out (by simp [der_PutOid.l0])
      | succ k1 =>
        have H := HA.out
        clear HA
        simp only [der_PutOid.l0] at H
        by_cases c6 : x20_1 < (t311.length : Int)
        · rw [if_pos c6] at H
          have c6b0 : decide (x20_1 < (t311.length : Int)) = true := decide_eq_true c6
          clear c6
          by_cases c7 : 0 ≤ x20_1
          · rw [if_pos c7] at H
            have c7b0 : decide (0 ≤ x20_1) = true := decide_eq_true c7
            clear c7
            by_cases c8 : x20_1 < (t311.length : Int)
            · rw [if_pos c8] at H
              have c8b0 : decide (x20_1 < (t311.length : Int)) = true := decide_eq_true c8
              clear c8
              by_cases c9 : (rd t311 x20_1) > 2147483647
              · rw [if_pos c9] at H
                have c9b0 : decide (2147483647 < (rd t311 x20_1)) = true := decide_eq_true c9
                clear c9
                simp only [Option.some.injEq, Prod.mk.injEq] at H
                obtain ⟨rfl, rfl⟩ := H
                have p315 : 0 ≤ (x20_1 : Int) := of_decide_eq_true (by first | (with_reducible assumption) | assumption)
                have q315 : x20_1 < (t311.length : Int) := of_decide_eq_true (by first | (with_reducible assumption) | assumption)
                obtain ⟨ad315, e315, hx315_0⟩ := Kd.at_int (Kd.R_reads' HO_18.out).2.2 x20_1 p315 q315
                cases e315
                replace p315 := eq_true p315
                replace q315 := eq_true q315
                go_wp2
                go_ret2
                exact ⟨_, by first | rfl | (simp [errW_none, errW_some] <;> rfl) | (simp [*, errW_none, errW_some] <;> rfl), by first | exact Kd.R_nil _ _ _ _ _ | exact Kd.N_nil _ _ _ _ _ | exact Kd.V_nil _ _ _ _ _ | exact Kd.Q_nil _ _ _ _ _ | exact Kd.S_nil _ _ _ _ _, by repeat (first | (with_reducible first | exact HB.out | apply below_alloc | apply pw_below_drewN | apply below_drew1) | exact HB.out)⟩
              · rw [if_neg c9] at H
                have c9b0 : decide (2147483647 < (rd t311 x20_1)) = false := decide_eq_false c9
                clear c9
                have H' := Aside0.mk H
                clear H
                have p315 : 0 ≤ (x20_1 : Int) := of_decide_eq_true (by first | (with_reducible assumption) | assumption)
                have q315 : x20_1 < (t311.length : Int) := of_decide_eq_true (by first | (with_reducible assumption) | assumption)
                obtain ⟨ad315, e315, hx315_0⟩ := Kd.at_int (Kd.R_reads' HO_18.out).2.2 x20_1 p315 q315
                cases e315
                replace p315 := eq_true p315
                replace q315 := eq_true q315
                go_wp2
                go_roundg k1
                case measure => have := HK1.out; omega
                case rel => exact ⟨(wrap64 (x20_1 + 1)), (by first | rfl | (simp; done) | (simp [*]; done)), H', ⟨by have := HK1.out; omega⟩, ⟨by (with_reducible repeat (first | apply Kd.R_alloc | apply Kd.R_drewN | apply Kd.R_drew)); exact HO_4.out⟩, ⟨by (with_reducible repeat (first | apply Kd.R_alloc | apply Kd.R_drewN | apply Kd.R_drew)); exact HO_18.out⟩, ⟨by repeat (first | (with_reducible first | exact HB.out | apply below_alloc | apply pw_below_drewN | apply below_drew1) | exact HB.out)⟩⟩
            · rw [if_neg c8] at H
              exact absurd H (by simp)
          · rw [if_neg c7] at H
            exact absurd H (by simp)
        · rw [if_neg c6] at H
          have c6b0 : decide (x20_1 < (t311.length : Int)) = false := decide_eq_false c6
          clear c6
          by_cases c10 : 0 < (t311.length : Int)
          · rw [if_pos c10] at H
            have c10b0 : decide (0 < (t311.length : Int)) = true := decide_eq_true c10
            have c10b1 : decide (0 < t311.length) = true := decide_eq_true (by omega)
            clear c10
            by_cases c11 : 1 < (t311.length : Int)
            · rw [if_pos c11] at H
              have c11b0 : decide (1 < (t311.length : Int)) = true := decide_eq_true c11
              have c11b1 : decide (1 < t311.length) = true := decide_eq_true (by omega)
              clear c11
              replace H := Option.bind_eq_some_iff.mp H
              obtain ⟨t318, A120, H⟩ := H
              replace H : (if 2 ≤ (t311.length : Int) then ((some (t311.drop 2 : List Int)).bind fun y321 => (der_PutOid.l1 k1 t318 y321 (y321.length : Int) 0)) else (none)) = some (r1, r2) := H
              have A12 := Aside0.mk A120
              clear A120
              by_cases c13 : 2 ≤ (t311.length : Int)
              · rw [if_pos c13] at H
                have c13b0 := eq_true c13
                have c13b1 : decide (2 ≤ (t311.length : Int)) = true := decide_eq_true c13
                clear c13
                obtain ⟨y321, hy321⟩ : ∃ y_ : List Int, y_ = (t311.drop 2) := ⟨_, rfl⟩
                replace H : (der_PutOid.l1 k1 t318 y321 (y321.length : Int) 0) = some (r1, r2) := by first | (rw [hy321]; with_reducible exact H) | (have H2_ := (Option.bind_some _ _).symm.trans H; rw [hy321]; with_reducible exact H2_) | (have H2_ := (Option.bind_some _ _).symm.trans H; with_reducible exact H2_) | with_reducible exact H | (rw [hy321]; exact H) | exact H
                have Ny321 := Aside0.mk hy321
                clear hy321
                have H' := Aside0.mk H
                clear H
                try go_wp2
                have n0_ := Aside0.mk (Kd.R_drew HO_4.out)
                have n1_ := Aside0.mk (Kd.R_drew HO_18.out)
                have n2_ := Aside0.mk (below_drew1 HB.out)
                clear HO_4
                clear HO_18
                clear HB
                have HO_4 := n0_
                have HO_18 := n1_
                have HB := n2_
                clear n0_ n1_ n2_
                have p316 : 0 ≤ (0 : Int) := (by omega)
                have q316 : 0 < (t311.length : Int) := of_decide_eq_true (by first | (with_reducible assumption) | assumption)
                obtain ⟨ad316, e316, hx316_0⟩ := Kd.at_int (Kd.R_reads' HO_4.out).2.2 0 p316 q316
                cases e316
                have qi316 : (0 < t311.length) = True := eq_true (by omega)
                (try rw [show ((0 : Int)).toNat = 0 from rfl] at hx316_0)
                (try rw [Addr.add_zero'] at hx316_0)
                replace p316 := eq_true p316
                replace q316 := eq_true q316
                have p317 : 0 ≤ (1 : Int) := (by omega)
                have q317 : 1 < (t311.length : Int) := of_decide_eq_true (by first | (with_reducible assumption) | assumption)
                obtain ⟨ad317, e317, hx317_0⟩ := Kd.at_int (Kd.R_reads' HO_4.out).2.2 1 p317 q317
                obtain rfl : ad316 = ad317 := (by injection e317)
                (try simp only [show (1 : Int).toNat = 1 from rfl, Nat.reduceMul, Nat.reduceEqDiff, Go.Addr.add, ↓reduceIte] at hx317_0)
                have qi317 : (1 < t311.length) = True := eq_true (by omega)
                (try rw [show ((1 : Int)).toNat = 1 from rfl] at hx317_0)
                replace p317 := eq_true p317
                replace q317 := eq_true q317
                refine start_ (n := 10) (S := fun w' => w'.cell? ad316 = some (.int .u64 (rd t311 0)) ∧ w'.cell? ⟨ad316.block, ad316.off + 1, none⟩ = some (.int .u64 (rd t311 1))) (ds := []) #[false, false, false, false, false, false, false, false, false, false] (by kernel_rfl) rfl rfl ⟨hx316_0, hx317_0⟩ (fun hHeld => ?_); refine with_tabW der_PutOid.tab10 der_PutOid.bits10 (fun HT_ HW_ => ?_)
                generalize wr.drew = w14 at HO_4 HO_18 HB hx316_0 hx317_0 hHeld ⊢
                refine pure_ (i := 0) (N := some 27) (v := ?_) (a' := ?_) #[true, false, false, false, false, false, false, false, false, false] rfl rfl (any_of HT_.out (by kernel_rfl)) (fun _ _ _ h => h) (Or.inl ⟨by rfl, ?_⟩) ?_ ?_; rotate_left; (intro w'; go_simp; with_reducible rfl); rotate_left; (simp only [Act.put, List.setIfInBounds_toArray, List.set_cons_zero, List.set_cons_succ, i64_w, i32_w]; rfl)
                refine pure_ (i := 1) (N := some 28) (v := ?_) (a' := ?_) #[true, true, false, false, false, false, false, false, false, false] rfl rfl (any_of HT_.out (by kernel_rfl)) (fun _ _ _ h => h) (Or.inl ⟨by rfl, ?_⟩) ?_ ?_; rotate_left; (intro w'; go_simp; with_reducible rfl); rotate_left; (simp only [Act.put, List.setIfInBounds_toArray, List.set_cons_zero, List.set_cons_succ, i64_w, i32_w]; rfl)
                refine pure_ (i := 4) (N := some 31) (v := ?_) (a' := ?_) #[true, true, false, false, true, false, false, false, false, false] rfl rfl (any_of HT_.out (by kernel_rfl)) (fun _ _ _ h => h) (Or.inl ⟨by rfl, ?_⟩) ?_ ?_; rotate_left; (intro w'; go_simp; with_reducible rfl); rotate_left; (simp only [Act.put, List.setIfInBounds_toArray, List.set_cons_zero, List.set_cons_succ, i64_w, i32_w]; rfl)
                refine pure_ (i := 5) (N := some 32) (v := ?_) (a' := ?_) #[true, true, false, false, true, true, false, false, false, false] rfl rfl (any_of HT_.out (by kernel_rfl)) (fun _ _ _ h => h) (Or.inl ⟨by rfl, ?_⟩) ?_ ?_; rotate_left; (intro w'; go_simp; with_reducible rfl); rotate_left; (simp only [Act.put, List.setIfInBounds_toArray, List.set_cons_zero, List.set_cons_succ, i64_w, i32_w]; rfl)
                refine take_ (i := 2) (N := some 29) (v := ?_) (a' := ?_) #[true, true, true, false, true, true, false, false, false, false] rfl rfl (take_ofW HT_.out HW_.out (by kernel_rfl)) (fun _ _ _ h => h) (Or.inl ⟨by rfl, ?_⟩) hHeld ?_ ?_; rotate_left; (rintro w' ⟨s0, s1⟩; go_simp; with_reducible rfl); rotate_left; (simp only [Act.put, List.setIfInBounds_toArray, List.set_cons_zero, List.set_cons_succ, i64_w, i32_w]; rfl)
                refine pure_ (i := 3) (N := some 30) (v := ?_) (a' := ?_) #[true, true, true, true, true, true, false, false, false, false] rfl rfl (any_of HT_.out (by kernel_rfl)) (fun _ _ _ h => h) (Or.inl ⟨by rfl, ?_⟩) ?_ ?_; rotate_left; (intro w'; go_simp; with_reducible rfl); rotate_left; (simp only [Act.put, List.setIfInBounds_toArray, List.set_cons_zero, List.set_cons_succ, i64_w, i32_w]; rfl)
                refine take_ (i := 6) (N := some 33) (v := ?_) (a' := ?_) #[true, true, true, true, true, true, true, false, false, false] rfl rfl (take_ofW HT_.out HW_.out (by kernel_rfl)) (fun _ _ _ h => h) (Or.inl ⟨by rfl, ?_⟩) hHeld ?_ ?_; rotate_left; (rintro w' ⟨s0, s1⟩; go_simp; with_reducible rfl); rotate_left; (simp only [Act.put, List.setIfInBounds_toArray, List.set_cons_zero, List.set_cons_succ, i64_w, i32_w]; rfl)
                refine pure_ (i := 7) (N := some 34) (v := ?_) (a' := ?_) #[true, true, true, true, true, true, true, true, false, false] rfl rfl (any_of HT_.out (by kernel_rfl)) (fun _ _ _ h => h) (Or.inl ⟨by rfl, ?_⟩) ?_ ?_; rotate_left; (intro w'; go_simp; with_reducible rfl); rotate_left; (simp only [Act.put, List.setIfInBounds_toArray, List.set_cons_zero, List.set_cons_succ, i64_w, i32_w]; rfl)
                refine one_ (i := 8) (N := some 35) #[true, true, true, true, true, true, true, true, true, false] rfl rfl (one_of HT_.out (by kernel_rfl)) (by decide) (fun K hK => ?_)
                refine goes_ Tryz.func219 (by kernel_rfl) rfl #[.int .u64 (IntKind.u64.wrap ((IntKind.u64.wrap (40 * (rd t311 0))) + (rd t311 1)))] (by rfl) rfl rfl (by (try simp only [List.map_toArray, List.map_cons, List.map_nil]); first | done | rfl | (simp only [List.length_drop, List.length_take]; rfl)) ?_
                with_reducible refine (der_seven.calls k1 (IntKind.u64.wrap ((IntKind.u64.wrap (40 * (rd t311 0))) + (rd t311 1))) t318 _ A12.out).mono ?_
                rintro e w15 ⟨v319, rfl, ho0, hb⟩
                have HS0_ := (hb.cell (World.block_lt_of_cell? _ _ (hHeld.1))).trans (hHeld.1)
                have HS1_ := (hb.cell (World.block_lt_of_cell? _ _ (hHeld.2))).trans (hHeld.2)
                refine ⟨_, rfl, ?_⟩
                have n0_ := Aside0.mk (Kd.R_below (by (with_reducible repeat (first | apply Kd.R_alloc | apply Kd.R_drewN | apply Kd.R_drew)); exact HO_4.out) hb)
                have n1_ := Aside0.mk (Kd.R_below (by (with_reducible repeat (first | apply Kd.R_alloc | apply Kd.R_drewN | apply Kd.R_drew)); exact HO_18.out) hb)
                have n2_ := Aside0.mk (Kd.R_lower ho0 (below_size (by repeat (first | (with_reducible first | exact HB.out | apply below_alloc | apply pw_below_drewN | apply below_drew1) | exact HB.out))))
                have n3_ := Aside0.mk (below_step (by repeat (first | (with_reducible first | exact HB.out | apply below_alloc | apply pw_below_drewN | apply below_drew1) | exact HB.out)) hb)
                clear HO_4
                clear HO_18
                clear HB
                have HO_4 := n0_
                have HO_18 := n1_
                have HO320 := n2_
                have HB := n3_
                clear n0_ n1_ n2_ n3_
                (try clear hb)
                (try clear hb2)
                (try clear hk)
                (try clear hi)
                (try clear ho0)
                refine hK.out _ _ ⟨HS0_, HS1_⟩ (fun hHeld => ?_)
                clear hK K
                refine norm_ (a' := ?_) ?_ ?_; rotate_left; (show Act.put _ (some 35) _ = _; simp only [Act.put, List.setIfInBounds_toArray, List.set_cons_zero, List.set_cons_succ, i64_w, i32_w]; rfl)
                refine pure_ (i := 9) (N := some 8) (v := ?_) (a' := ?_) #[true, true, true, true, true, true, true, true, true, true] rfl rfl (any_of HT_.out (by kernel_rfl)) (fun _ _ _ h => h) (Or.inl ⟨by rfl, ?_⟩) ?_ ?_; rotate_left; (intro w'; go_simp; with_reducible rfl); rotate_left; (simp only [Act.put, List.setIfInBounds_toArray, List.set_cons_zero, List.set_cons_succ, i64_w, i32_w]; rfl)
                refine done_ (done_of HT_.out (by kernel_rfl)) ?_
                have q16 : (2 : Int) ≤ ((t311.length : Int) : Int) := of_decide_eq_true (by first | (with_reducible assumption) | assumption)
                obtain ⟨i016, hi016, _, hsz16, _⟩ := info_parts info278
                have hroom16 : t311.length ≤ co5 := (Kd.R_reads' HO_4.out).2.1
                have hC16 : Kd.C (Kd.int .u64) _ (some ad316) t311.length t311 := (Kd.R_reads' HO_4.out).2.2
                have hcut16 := cut_from (P := Tryz.prog) 277 278 .i64 Tryz.underlying277 hi016 1 hsz16 (some ad316) t311.length co5 2 (by omega) q16
                have hr16 := Kd.C_drop (m := (2 : Int).toNat) (c := co5) hC16 (by omega) hroom16
                obtain ⟨A16, hA16⟩ : ∃ A1, A1 = (if co5 = (2 : Int).toNat then (some ad316) else ((some ad316) : Option Addr).map (·.add ((2 : Int).toNat * 1))) := ⟨_, rfl⟩
                obtain ⟨c16, hc16⟩ : ∃ c1, c1 = co5 - (2 : Int).toNat := ⟨_, rfl⟩
                have hy16 : y321.length = t311.length - (2 : Int).toNat := (by rw [Ny321.out, List.length_drop] <;> omega)
                rw [show (t311).drop (2 : Int).toNat = y321 from Ny321.out.symm] at hr16
                replace hr16 : Kd.C (Kd.int .u64) _ A16 y321.length y321 := (by rw [hA16]; exact hr16)
                rw [← hy16, ← hA16, ← hc16] at hcut16
                have HDR : Aside0 (∀ W' : World, Kd.C (Kd.int .u64) W' (some ad316) t311.length t311 → Kd.C (Kd.int .u64) W' A16 y321.length y321) := ⟨fun W' hC_ => by
                  have h_ := Kd.C_drop (m := (2 : Int).toNat) (c := co5) hC_ (by omega) hroom16
                  rw [show (t311).drop (2 : Int).toNat = y321 from Ny321.out.symm] at h_
                  rw [hA16]; exact h_⟩
                have HR324 := Aside0.mk hr16
                have HC324 := Aside0.mk (show y321.length ≤ c16 from by rw [hy16, hc16]; exact Nat.sub_le_sub_right hroom16 _)
                clear hr16 hC16 hroom16 hi016 hsz16 hc16
                have KY16 := Aside0.mk hy16
                have KA16 := Aside0.mk hA16
                clear hy16 hA16
                have KL16 := Aside0.mk (show 2 ≤ t311.length from by omega)
                replace q16 := eq_true q16
                try go_wp2
                go_loopg [8, 39] k1 (fun kq v8 v39 w' => ∃ (x8_2 : List Int) (x39_2 : Int), v39 = .int .i64 x39_2 ∧ Aside0 (der_PutOid.l1 kq x8_2 y321 (y321.length : Int) x39_2 = some (r1, r2)) ∧ Aside0 (kq ≤ k1) ∧ Aside0 (Kd.R (Kd.int .u8) 5 w' w.heap.size (fun _ => True) v8 x8_2) ∧ Aside0 (Below w.heap.size w w') ∧ Aside0 (Kd.R (Kd.int .u64) 278 w' w.heap.size (fun _ => True) (.slice (some ad316) t311.length co5) t311))
                case atStart => exact ⟨(t318), (0), (by first | rfl | (simp; done) | (simp [*]; done)), H', ⟨Nat.le_refl _⟩, ⟨by (with_reducible repeat (first | apply Kd.R_alloc | apply Kd.R_drewN | apply Kd.R_drew)); exact HO320.out⟩, ⟨by repeat (first | (with_reducible first | exact HB.out | apply below_alloc | apply pw_below_drewN | apply below_drew1) | exact HB.out)⟩, ⟨by (with_reducible repeat (first | apply Kd.R_alloc | apply Kd.R_drewN | apply Kd.R_drew)); exact Kd.R_mono HO_4.out (fun _ _ => trivial)⟩⟩
                case round =>
                  clear H'
                  try clear c1
                  try clear q1
                  try clear c2
                  try clear p2
                  try clear c3
                  try clear p3
                  try clear q3
                  try clear hx3
                  try clear qi3
                  try clear c6
                  try clear c6b0
                  try clear p6
                  try clear c7
                  try clear c7b0
                  try clear c8
                  try clear c8b0
                  try clear c9
                  try clear c9b0
                  try clear c10
                  try clear c10b0
                  try clear c10b1
                  try clear c11
                  try clear c11b0
                  try clear c11b1
                  try clear c13
                  try clear c13b0
                  try clear c13b1
                  try clear c16
                  try clear q16
                  try clear hx315_0
                  try clear hx316_0
                  try clear hx317_0
                  try clear p2
                  try clear p315
                  try clear p316
                  try clear p317
                  try clear q16
                  try clear q315
                  try clear q316
                  try clear q317
                  obtain ⟨x8_2, x39_2, rfl, HA, HK2, HO_8, HB, HO_4⟩ := hrel
                  cases gk with
                  | zero => exact absurd HA.out (by simp [der_PutOid.l1])
                  | succ k2 =>
                    have H := HA.out
                    clear HA
                    simp only [der_PutOid.l1] at H
                    by_cases c17 : x39_2 < (y321.length : Int)
                    · rw [if_pos c17] at H
                      have c17b0 : decide (x39_2 < (y321.length : Int)) = true := decide_eq_true c17
                      clear c17
                      by_cases c18 : 0 ≤ x39_2
                      · rw [if_pos c18] at H
                        have c18b0 : decide (0 ≤ x39_2) = true := decide_eq_true c18
                        clear c18
                        by_cases c19 : x39_2 < (y321.length : Int)
                        · rw [if_pos c19] at H
                          have c19b0 : decide (x39_2 < (y321.length : Int)) = true := decide_eq_true c19
                          clear c19
                          replace H := Option.bind_eq_some_iff.mp H
                          obtain ⟨t326, A200, H⟩ := H
                          replace H : (if x8_2.length + t326.length < 140737488355328 then (der_PutOid.l1 k2 (x8_2 ++ t326) y321 (y321.length : Int) (wrap64 (x39_2 + 1))) else (none)) = some (r1, r2) := H
                          have A20 := Aside0.mk A200
                          clear A200
                          by_cases c21 : x8_2.length + t326.length < 140737488355328
                          · rw [if_pos c21] at H
                            have LMc21 := Aside0.mk c21
                            clear c21
                            obtain ⟨y329, hy329⟩ : ∃ y_ : List Int, y_ = (x8_2 ++ t326) := ⟨_, rfl⟩
                            replace H : (der_PutOid.l1 k2 y329 y321 (y321.length : Int) (wrap64 (x39_2 + 1))) = some (r1, r2) := by first | (rw [hy329]; with_reducible exact H) | (have H2_ := (Option.bind_some _ _).symm.trans H; rw [hy329]; with_reducible exact H2_) | (have H2_ := (Option.bind_some _ _).symm.trans H; with_reducible exact H2_) | with_reducible exact H | (rw [hy329]; exact H) | exact H
                            have Ny329 := Aside0.mk hy329
                            clear hy329
                            have H' := Aside0.mk H
                            clear H
                            have p325 : 0 ≤ (x39_2 : Int) := of_decide_eq_true (by first | (with_reducible assumption) | assumption)
                            have q325 : x39_2 < (y321.length : Int) := of_decide_eq_true (by first | (with_reducible assumption) | assumption)
                            obtain ⟨ad325, e325, hx325_0⟩ := Kd.at_int (HDR.out _ (Kd.R_reads' HO_4.out).2.2) x39_2 p325 q325
                            cases e325
                            replace p325 := eq_true p325
                            replace q325 := eq_true q325
                            go_wp2_with (first | ((with_reducible refine gate_callee (f := 219) rfl ?_); refine goesL_ (some 45) rfl rfl Tryz.func219 (by kernel_rfl) rfl #[.int .u64 (rd y321 x39_2)] rfl (by (try simp only [List.map_toArray, List.map_cons, List.map_nil]); first | done | rfl | (simp only [List.length_drop, List.length_take]; rfl)) ?_; (with_reducible refine (der_seven.calls k2 (rd y321 x39_2) t326 _ A20.out).mono ?_); rintro e w22 ⟨v327, rfl, ho0, hb⟩; refine ⟨_, rfl, ?_⟩; have n0_ := Aside0.mk (Kd.R_elder' (by (with_reducible repeat (first | apply Kd.R_alloc | apply Kd.R_drewN | apply Kd.R_drew)); exact HO_8.out) (Kd.R_base ho0) hb); have n1_ := Aside0.mk (Kd.R_lower (Kd.R_new' ho0 (Kd.R_lt (by (with_reducible repeat (first | apply Kd.R_alloc | apply Kd.R_drewN | apply Kd.R_drew)); exact HO_8.out))) (below_size (by repeat (first | (with_reducible first | exact HB.out | apply below_alloc | apply pw_below_drewN | apply below_drew1) | exact HB.out)))); have n2_ := Aside0.mk (below_step (by repeat (first | (with_reducible first | exact HB.out | apply below_alloc | apply pw_below_drewN | apply below_drew1) | exact HB.out)) hb); have n9_ := Aside0.mk (Kd.R_below (by (with_reducible repeat (first | apply Kd.R_alloc | apply Kd.R_drewN | apply Kd.R_drew)); exact HO_4.out) hb); clear HO_4; have HO_4 := n9_; clear n9_; clear HO_8; clear HB; have HO_8 := n0_; have HO328 := n1_; have HB := n2_; clear n0_ n1_ n2_; (try clear hb); (try clear hb2); (try clear hk); (try clear hi); (try clear ho0); obtain ⟨Ao24, co24, eo24⟩ := Kd.R_slice HO328.out; subst eo24) | ((with_reducible refine gate_builtin (b := .append) (xs := #[.tmp 43, .tmp 45]) rfl ?_); at_builtin; refine Kd.R_append_rows (Kd.int .u8) (w0 := w) w.heap.size rfl (.tmp 43) (.tmp 45) 22 5 (.int .u8 0) 1 rfl Tryz.underlying22 info5 rfl (by decide) (by omega) u8 x8_2 t326 _ _ _ (fun k_ => some k_ ≠ (.slice Ao24 t326.length co24 : Value).ownBlock) (fun _ => False) rfl rfl ?aO ?aR (fun _ _ h => h) (fun _ h => h.elim) ?aF ?aB ?aS ?aL ?_; (case aR => repeat (first | exact (Kd.R_reads' HO328.out).2.2 | (with_reducible refine Kd.C_alloc ?_ _) | (with_reducible refine Kd.C_drewN ?_ _) | (with_reducible refine Kd.C_drew ?_))); (case aB => exact (by repeat (first | (with_reducible first | exact HB.out | apply below_alloc | apply pw_below_drewN | apply below_drew1) | exact HB.out))); (case aF => exact (fun k_ hk => Kd.fresh' (Kd.R_lt (by (with_reducible repeat (first | apply Kd.R_alloc | apply Kd.R_drewN | apply Kd.R_drew)); exact HO328.out)) k_ hk)); (case aO => exact (by (with_reducible repeat (first | apply Kd.R_alloc | apply Kd.R_drewN | apply Kd.R_drew)); exact Kd.R_mono HO_8.out (fun _ hk => hk.2))); (case aS => exact (below_size (by repeat (first | (with_reducible first | exact HB.out | apply below_alloc | apply pw_below_drewN | apply below_drew1) | exact HB.out)))); (case aL => have := LMc21.out; omega); intro v330 w23 ho hb hg hat; rw [← Ny329.out] at ho; have n9_ := Aside0.mk (Kd.R_mono (Kd.R_grown (Kd.R_apart' (by (with_reducible repeat (first | apply Kd.R_alloc | apply Kd.R_drewN | apply Kd.R_drew)); exact HO_4.out) (Kd.R_typed (by (with_reducible repeat (first | apply Kd.R_alloc | apply Kd.R_drewN | apply Kd.R_drew)); exact Kd.R_mono HO_8.out (fun _ hk => hk.2))) (by decide)) hg (fun _ hk => hk.2)) (fun _ _ => trivial)); clear HO_4; have HO_4 := n9_; clear n9_; have n0_ := Aside0.mk (Kd.R_after (ok := (fun _ => True)) (by (with_reducible repeat (first | apply Kd.R_alloc | apply Kd.R_drewN | apply Kd.R_drew)); exact HO328.out) hg hat); have n1_ := Aside0.mk (hb); have n2_ := Aside0.mk (ho); clear HO328; clear HB; clear HO_8; have HO328 := n0_; have HB := n1_; have HO331 := n2_; clear n0_ n1_ n2_; clear ho hb hg hat))
                            go_roundg k2
                            case measure => have := HK1.out; have := HK2.out; omega
                            case rel => exact ⟨(y329), (wrap64 (x39_2 + 1)), (by first | rfl | (simp; done) | (simp [*]; done)), H', ⟨by have := HK1.out; have := HK2.out; omega⟩, ⟨by (with_reducible repeat (first | apply Kd.R_alloc | apply Kd.R_drewN | apply Kd.R_drew)); exact Kd.R_mono HO331.out (fun _ hk => trivial)⟩, ⟨by repeat (first | (with_reducible first | exact HB.out | apply below_alloc | apply pw_below_drewN | apply below_drew1) | exact HB.out)⟩, ⟨by (with_reducible repeat (first | apply Kd.R_alloc | apply Kd.R_drewN | apply Kd.R_drew)); exact HO_4.out⟩⟩
                          · rw [if_neg c21] at H
                            exact absurd H (by simp)
                        · rw [if_neg c19] at H
                          exact absurd H (by simp)
                      · rw [if_neg c18] at H
                        exact absurd H (by simp)
                    · rw [if_neg c17] at H
                      have c17b0 : decide (x39_2 < (y321.length : Int)) = false := decide_eq_false c17
                      clear c17
                      simp only [Option.some.injEq, Prod.mk.injEq] at H
                      obtain ⟨rfl, rfl⟩ := H
                      go_wp2
                      go_ret2
                      exact ⟨_, by first | rfl | (simp [errW_none, errW_some] <;> rfl) | (simp [*, errW_none, errW_some] <;> rfl), by (with_reducible repeat (first | apply Kd.R_alloc | apply Kd.R_drewN | apply Kd.R_drew)); exact HO_8.out, by repeat (first | (with_reducible first | exact HB.out | apply below_alloc | apply pw_below_drewN | apply below_drew1) | exact HB.out)⟩
              · rw [if_neg c13] at H
                exact absurd H (by simp)
            · rw [if_neg c11] at H
              exact absurd H (by simp)
          · rw [if_neg c10] at H
            exact absurd H (by simp)
  · replace c3 := Bool.eq_false_iff.mpr c3
    subst c3
    have H1 : (some (([] : List Int), 6)) = some (r1, r2) := by rw [if_neg (show ¬ (false = true) by decide)] at H; exact H
    clear H
    have H := H1
    clear H1
    simp only [Option.some.injEq, Prod.mk.injEq] at H
    obtain ⟨rfl, rfl⟩ := H
    go_enter Tryz.func199, Tryz.ntmps199
    go_wp2_with (first | ((with_reducible refine gate_callee (f := 238) rfl ?_); refine goesL_ (some 13) rfl rfl Tryz.func238 (by kernel_rfl) rfl #[.string a0] rfl (by (try simp only [List.map_toArray, List.map_cons, List.map_nil]); first | done | rfl | (simp only [List.length_drop, List.length_take]; rfl)) ?_; (with_reducible refine (der_arcs.calls a0 t311 false _ A2.out).mono ?_); rintro e w25 ⟨v313, rfl, ho0, hb⟩; refine ⟨_, rfl, ?_⟩; have n0_ := Aside0.mk (Kd.R_lower ho0 (below_size (by repeat (first | (with_reducible first | exact HB.out | apply below_alloc | apply pw_below_drewN | apply below_drew1) | exact HB.out)))); have n1_ := Aside0.mk (below_step (by repeat (first | (with_reducible first | exact HB.out | apply below_alloc | apply pw_below_drewN | apply below_drew1) | exact HB.out)) hb); clear HB; have HO314 := n0_; have HB := n1_; clear n0_ n1_; (try clear hb); (try clear hb2); (try clear hk); (try clear hi); (try clear ho0)))
    go_ret2
    exact ⟨_, by first | rfl | (simp [errW_none, errW_some] <;> rfl) | (simp [*, errW_none, errW_some] <;> rfl), by first | exact Kd.R_nil _ _ _ _ _ | exact Kd.N_nil _ _ _ _ _ | exact Kd.V_nil _ _ _ _ _ | exact Kd.Q_nil _ _ _ _ _ | exact Kd.S_nil _ _ _ _ _, by repeat (first | (with_reducible first | exact HB.out | apply below_alloc | apply pw_below_drewN | apply below_drew1) | exact HB.out)⟩
end Go.Proofs.YtkioddjjfifadaaGreatDoor.P
namespace Go.Proofs.YtkioddjjfifadaaGreatDoor.P
open Go.RowKit Go.Proofs.YtkioddjjfifadaaGreatDoorW.PrintWords Go.Proofs.YtkioddjjfifadaaGreatDoorW.PrintLast Go.Proofs.YtkioddjjfifadaaGreatDoorW.PrintMore
attribute [local go_sem] max2_int min2_int max_two min_two max_three min_three max_four min_four   -- for this text's walks alone
set_option linter.unusedVariables false
set_option linter.unusedSimpArgs false
mutual
def chirographref04_arcs.l0 : Nat → ByteArray → List Int → Int → Int → Option (List Int × Bool)
  | 0, _, _, _, _ => none
  | k + 1, x0, x4, x5, x6 => if x6 ≤ (x0.size : Int) then (if x6 < (x0.size : Int) then (if 0 ≤ x6 then (chirographref04_arcs.j1 k x0 x4 x5 x6 ((bt x0 x6) != 46)) else (none)) else (chirographref04_arcs.j1 k x0 x4 x5 x6 false)) else (if (x4.length : Int) ≥ 2 then (if 0 < (x4.length : Int) then (if (rd x4 0) ≤ 2 then (if (rd x4 0) = 2 then (some (x4, true)) else (if 1 < (x4.length : Int) then (some (x4, decide ((rd x4 1) < 40))) else (none))) else (some (x4, false))) else (none)) else (some (x4, false)))
def chirographref04_arcs.j1 : Nat → ByteArray → List Int → Int → Int → Bool → Option (List Int × Bool)
  | 0, _, _, _, _, _ => none
  | k + 1, x0, x4, x5, x6, x24 => if x24 = true then (if 0 ≤ x6 then (if x6 < (x0.size : Int) then (if (bt x0 x6) < 48 then (some (([] : List Int), false)) else (if (bt x0 x6) > 57 then (some (([] : List Int), false)) else (chirographref04_arcs.l0 k x0 x4 x5 (wrap64 (x6 + 1))))) else (none)) else (none)) else (if x6 = x5 then (chirographref04_arcs.j2 k x0 x4 x5 x6 true) else (if 0 ≤ x5 then (if x5 < (x0.size : Int) then (if (bt x0 x5) = 48 then (chirographref04_arcs.j2 k x0 x4 x5 x6 (decide (x6 > (wrap64 (x5 + 1))))) else (chirographref04_arcs.j2 k x0 x4 x5 x6 false)) else (none)) else (none)))
def chirographref04_arcs.j2 : Nat → ByteArray → List Int → Int → Int → Bool → Option (List Int × Bool)
  | 0, _, _, _, _, _ => none
  | k + 1, x0, x4, x5, x6, x49 => if x49 = true then (some (([] : List Int), false)) else (chirographref04_arcs.l1 k x0 x4 x6 0 x5)
def chirographref04_arcs.l1 : Nat → ByteArray → List Int → Int → Int → Int → Option (List Int × Bool)
  | 0, _, _, _, _, _ => none
  | k + 1, x0, x4, x6, x7, x8 => if x8 < x6 then (if 0 ≤ x8 then (if x8 < (x0.size : Int) then (if (wrap64 ((wrap64 (x7 * 10)) + (((bt x0 x8) - 48) % 256))) > 1099511627776 then (chirographref04_arcs.l1 k x0 x4 x6 1099511627776 (wrap64 (x8 + 1))) else (chirographref04_arcs.l1 k x0 x4 x6 (wrap64 ((wrap64 (x7 * 10)) + (((bt x0 x8) - 48) % 256))) (wrap64 (x8 + 1)))) else (none)) else (none)) else (if x4.length < 17592186044416 then (chirographref04_arcs.l0 k x0 (x4 ++ [x7]) (wrap64 (x6 + 1)) (wrap64 (x6 + 1))) else (none))
end
def chirographref04_arcs.f (k : Nat) (a0 : ByteArray) : Option (List Int × Bool) := chirographref04_arcs.l0 k a0 ([] : List Int) 0 0
end Go.Proofs.YtkioddjjfifadaaGreatDoor.P
namespace Go.Proofs.YtkioddjjfifadaaGreatDoor.P
open Go.RowKit Go.Proofs.YtkioddjjfifadaaGreatDoorW.PrintWords Go.Proofs.YtkioddjjfifadaaGreatDoorW.PrintLast Go.Proofs.YtkioddjjfifadaaGreatDoorW.PrintMore
attribute [local go_sem] max2_int min2_int max_two min_two max_three min_three max_four min_four   -- for this text's walks alone
set_option linter.unusedVariables false
set_option linter.unusedSimpArgs false
mutual
def chirographref04_PutOid.l0 : Nat → List Int → Int → Option (List Int × Int)
  | 0, _, _ => none
  | k + 1, x4, x6 => if x6 < (x4.length : Int) then (if 0 ≤ x6 then (if (rd x4 x6) > 2147483647 then (some (([] : List Int), 3)) else (chirographref04_PutOid.l0 k x4 (wrap64 (x6 + 1)))) else (none)) else (if 1 < (x4.length : Int) then (if 0 < (x4.length : Int) then (chirographref04_PutOid.l1 k (x4.set (1 : Int).toNat (wrap64 ((rd x4 1) + (wrap64 (40 * (rd x4 0)))))) ([] : List Int) 1) else (none)) else (none))
def chirographref04_PutOid.l1 : Nat → List Int → List Int → Int → Option (List Int × Int)
  | 0, _, _, _ => none
  | k + 1, x4, x7, x8 => if x8 < (x4.length : Int) then (if 0 ≤ x8 then (chirographref04_PutOid.l2 k x4 x7 x8 (([(Int.tmod (rd x4 x8) 128) % 256] : List Int)) (wrap64 (Int.tdiv (rd x4 x8) 128))) else (none)) else (some (x7, 0))
def chirographref04_PutOid.l2 : Nat → List Int → List Int → Int → List Int → Int → Option (List Int × Int)
  | 0, _, _, _, _, _ => none
  | k + 1, x4, x7, x8, x9, x10 => if x10 > 0 then ((some (([(wrap64 ((Int.tmod x10 128) + 128)) % 256] : List Int) : List Int)).bind fun y1009 => (if y1009.length + x9.length < 140737488355328 then (chirographref04_PutOid.l2 k x4 x7 x8 (y1009 ++ x9) (wrap64 (Int.tdiv x10 128))) else (none))) else (if x7.length + x9.length < 140737488355328 then (chirographref04_PutOid.l1 k x4 (x7 ++ x9) (wrap64 (x8 + 1))) else (none))
end
def chirographref04_PutOid.f (k : Nat) (a0 : ByteArray) : Option (List Int × Int) := (chirographref04_arcs.f k a0).bind fun bt996 => (if bt996.2 = true then (chirographref04_PutOid.l0 k bt996.1 0) else (some (([] : List Int), 6)))
end Go.Proofs.YtkioddjjfifadaaGreatDoor.P
namespace Go.Proofs.YtkioddjjfifadaaGreatDoor.P
open Go.RowKit Go.Proofs.YtkioddjjfifadaaGreatDoorW.PrintWords
theorem drop_rdI (l : List Int) (i : Int) (h0 : 0 ≤ i) (h1 : i < (l.length : Int)) : l.drop i.toNat = rd l i :: l.drop (i + 1).toNat := by
  have e : (i + 1).toNat = i.toNat + 1 := by omega
  rw [e, List.drop_eq_getElem_cons (by omega)]
  congr 1
  unfold rd
  rw [List.getD_eq_getElem?_getD, List.getElem?_eq_getElem (by omega), Option.getD_some]
theorem rd_memI (l : List Int) (i : Int) (h0 : 0 ≤ i) (h1 : i < (l.length : Int)) : rd l i ∈ l := by
  have h := drop_rdI l i h0 h1
  exact List.mem_of_mem_drop (h ▸ List.mem_cons_self)
end Go.Proofs.YtkioddjjfifadaaGreatDoor.P
namespace Go.Proofs.YtkioddjjfifadaaGreatDoor.P
open Go.RowKit Go.Proofs.YtkioddjjfifadaaGreatDoorW.PrintWords Go.Proofs.YtkioddjjfifadaaGreatDoorW.PrintLast Go.Proofs.YtkioddjjfifadaaGreatDoorW.PrintMore
attribute [local go_sem] max2_int min2_int max_two min_two max_three min_three max_four min_four   -- for this text's walks alone
set_option linter.unusedVariables false
set_option linter.unusedSimpArgs false
mutual
def chirographref04_tag.l0 : Nat → List Int → Int → Int → Int → Option (Int × Int × Int × Int)
  | 0, _, _, _, _ => none
  | k + 1, x0, x1, x8, x9 => if x9 < (x0.length : Int) then (if 0 ≤ x9 then (if (wrap64 ((wrap64 (x8 * 128)) + (wrap64 (Int.tmod (rd x0 x9) 128)))) > 268435455 then (chirographref04_tag.j1 k x0 x1 (wrap64 ((wrap64 (x8 * 128)) + (wrap64 (Int.tmod (rd x0 x9) 128)))) x9 true) else (if x9 = (wrap64 (x1 + 1)) then (chirographref04_tag.j1 k x0 x1 (wrap64 ((wrap64 (x8 * 128)) + (wrap64 (Int.tmod (rd x0 x9) 128)))) x9 ((rd x0 x9) == 128)) else (chirographref04_tag.j1 k x0 x1 (wrap64 ((wrap64 (x8 * 128)) + (wrap64 (Int.tmod (rd x0 x9) 128)))) x9 false))) else (none)) else (some (0, 0, 2, (x0.length : Int)))
def chirographref04_tag.j1 : Nat → List Int → Int → Int → Int → Bool → Option (Int × Int × Int × Int)
  | 0, _, _, _, _, _ => none
  | k + 1, x0, x1, x8, x9, x69 => if x69 = true then (some (0, 0, 30, x9)) else (if 0 ≤ x9 then (if x9 < (x0.length : Int) then (if (rd x0 x9) < 128 then (if x8 < 31 then (some (0, 0, 30, x9)) else (some (x8, wrap64 (x9 + 1), 0, 0))) else (chirographref04_tag.l0 k x0 x1 x8 (wrap64 (x9 + 1)))) else (none)) else (none))
end
def chirographref04_tag.f (k : Nat) (l0 : List Int) (a1 : Int) : Option (Int × Int × Int × Int) := if 0 ≤ a1 then (if a1 < (l0.length : Int) then (if (Int.tmod (rd l0 a1) 32) = 31 then (chirographref04_tag.l0 k l0 a1 0 (wrap64 (a1 + 1))) else (if (Int.tmod (rd l0 a1) 32) = 0 then (if (rd l0 a1) < 64 then (some (0, 0, 30, a1)) else (some (wrap64 (Int.tmod (rd l0 a1) 32), wrap64 (a1 + 1), 0, 0))) else (some (wrap64 (Int.tmod (rd l0 a1) 32), wrap64 (a1 + 1), 0, 0)))) else (none)) else (none)
theorem chirographref04_tag.mono_l : ∀ k, (∀ y0 y1 y2 y3, LeO (chirographref04_tag.l0 k y0 y1 y2 y3) (chirographref04_tag.l0 (k + 1) y0 y1 y2 y3)) ∧ (∀ y0 y1 y2 y3 y4, LeO (chirographref04_tag.j1 k y0 y1 y2 y3 y4) (chirographref04_tag.j1 (k + 1) y0 y1 y2 y3 y4))
  | 0 => ⟨fun _ _ _ _ r h => by simp [chirographref04_tag.l0] at h, fun _ _ _ _ _ r h => by simp [chirographref04_tag.j1] at h⟩
  | k + 1 => by
    obtain ⟨ih0, ih1⟩ := chirographref04_tag.mono_l k
    refine ⟨?_, ?_⟩
    · intro y0 y1 y2 y3
      unfold chirographref04_tag.l0
      repeat' first
      | (with_reducible exact ih0 _ _ _ _)
      | (with_reducible exact ih1 _ _ _ _ _)
      | (with_reducible exact LeO.refl _)
      | (with_reducible exact LeO.none _)
      | (with_reducible refine LeO.ite ?_ ?_)
      | (with_reducible refine LeO.bind ?_ (fun _ => ?_))
      | exact ih0 _ _ _ _
      | exact ih1 _ _ _ _ _
      | exact LeO.none _
      | refine LeO.ite ?_ ?_
      | refine LeO.bind ?_ (fun _ => ?_)
    · intro y0 y1 y2 y3 y4
      unfold chirographref04_tag.j1
      repeat' first
      | (with_reducible exact ih0 _ _ _ _)
      | (with_reducible exact ih1 _ _ _ _ _)
      | (with_reducible exact LeO.refl _)
      | (with_reducible exact LeO.none _)
      | (with_reducible refine LeO.ite ?_ ?_)
      | (with_reducible refine LeO.bind ?_ (fun _ => ?_))
      | exact ih0 _ _ _ _
      | exact ih1 _ _ _ _ _
      | exact LeO.none _
      | refine LeO.ite ?_ ?_
      | refine LeO.bind ?_ (fun _ => ?_)
theorem chirographref04_tag.mono : ∀ a0 a1 k, LeO (chirographref04_tag.f k a0 a1) (chirographref04_tag.f (k + 1) a0 a1) := by
  intro a0 a1 k
  obtain ⟨ih0, ih1⟩ := chirographref04_tag.mono_l k
  unfold chirographref04_tag.f
  repeat' first
      | (with_reducible exact ih0 _ _ _ _)
      | (with_reducible exact ih1 _ _ _ _ _)
      | (with_reducible exact LeO.refl _)
      | (with_reducible exact LeO.none _)
      | (with_reducible refine LeO.ite ?_ ?_)
      | (with_reducible refine LeO.bind ?_ (fun _ => ?_))
      | exact ih0 _ _ _ _
      | exact ih1 _ _ _ _ _
      | exact LeO.none _
      | refine LeO.ite ?_ ?_
      | refine LeO.bind ?_ (fun _ => ?_)
end Go.Proofs.YtkioddjjfifadaaGreatDoor.P
namespace Go.Proofs.YtkioddjjfifadaaGreatDoor.P
open Go.RowKit Go.Proofs.YtkioddjjfifadaaGreatDoorW.PrintWords Go.Proofs.YtkioddjjfifadaaGreatDoorW.PrintLast Go.Proofs.YtkioddjjfifadaaGreatDoorW.PrintMore
attribute [local go_sem] max2_int min2_int max_two min_two max_three min_three max_four min_four   -- for this text's walks alone
set_option linter.unusedVariables false
set_option linter.unusedSimpArgs false
mutual
def chirographref04_length.j0 : Nat → List Int → Int → Int → Int → Bool → Option (Int × Int × Int × Int)
  | 0, _, _, _, _, _ => none
  | k + 1, x0, x1, x8, x9, x30 => if x30 = true then (some (0, 0, 31, x1)) else (if x8 > 128 then (if (wrap64 ((wrap64 (x1 + 1)) + (wrap64 (x8 - 128)))) > (x0.length : Int) then (some (0, 0, 2, (x0.length : Int))) else (chirographref04_length.l0 k x0 x1 0 (wrap64 (x8 - 128)) (wrap64 (x1 + 1)))) else (if x8 > (wrap64 ((x0.length : Int) - x9)) then (some (0, 0, 31, x1)) else (some (x8, x9, 0, 0))))
def chirographref04_length.l0 : Nat → List Int → Int → Int → Int → Int → Option (Int × Int × Int × Int)
  | 0, _, _, _, _, _ => none
  | k + 1, x0, x1, x8, x10, x11 => if x11 ≤ (wrap64 (x1 + x10)) then (if 0 ≤ x11 then (if x11 < (x0.length : Int) then (if (wrap64 ((wrap64 (x8 * 256)) + (wrap64 (rd x0 x11)))) > 16777216 then (chirographref04_length.l0 k x0 x1 16777217 x10 (wrap64 (x11 + 1))) else (chirographref04_length.l0 k x0 x1 (wrap64 ((wrap64 (x8 * 256)) + (wrap64 (rd x0 x11)))) x10 (wrap64 (x11 + 1)))) else (none)) else (none)) else (if x8 < 128 then (chirographref04_length.j2 k x0 x1 x8 x10 true) else (if 0 ≤ (wrap64 (x1 + 1)) then (if (wrap64 (x1 + 1)) < (x0.length : Int) then (chirographref04_length.j2 k x0 x1 x8 x10 ((rd x0 (wrap64 (x1 + 1))) == 0)) else (none)) else (none)))
def chirographref04_length.j2 : Nat → List Int → Int → Int → Int → Bool → Option (Int × Int × Int × Int)
  | 0, _, _, _, _, _ => none
  | k + 1, x0, x1, x8, x10, x73 => if x73 = true then (some (0, 0, 31, x1)) else (if x8 > (wrap64 ((x0.length : Int) - (wrap64 ((wrap64 (x1 + 1)) + x10)))) then (some (0, 0, 31, x1)) else (some (x8, wrap64 ((wrap64 (x1 + 1)) + x10), 0, 0)))
end
def chirographref04_length.f (k : Nat) (l0 : List Int) (a1 : Int) : Option (Int × Int × Int × Int) := if a1 ≥ (l0.length : Int) then (some (0, 0, 2, (l0.length : Int))) else (if 0 ≤ a1 then (if a1 < (l0.length : Int) then (if (wrap64 (rd l0 a1)) = 128 then (chirographref04_length.j0 k l0 a1 (wrap64 (rd l0 a1)) (wrap64 (a1 + 1)) true) else (chirographref04_length.j0 k l0 a1 (wrap64 (rd l0 a1)) (wrap64 (a1 + 1)) ((wrap64 (rd l0 a1)) == 255))) else (none)) else (none))
theorem chirographref04_length.mono_l : ∀ k, (∀ y0 y1 y2 y3 y4, LeO (chirographref04_length.j0 k y0 y1 y2 y3 y4) (chirographref04_length.j0 (k + 1) y0 y1 y2 y3 y4)) ∧ (∀ y0 y1 y2 y3 y4, LeO (chirographref04_length.l0 k y0 y1 y2 y3 y4) (chirographref04_length.l0 (k + 1) y0 y1 y2 y3 y4)) ∧ (∀ y0 y1 y2 y3 y4, LeO (chirographref04_length.j2 k y0 y1 y2 y3 y4) (chirographref04_length.j2 (k + 1) y0 y1 y2 y3 y4))
  | 0 => ⟨fun _ _ _ _ _ r h => by simp [chirographref04_length.j0] at h, fun _ _ _ _ _ r h => by simp [chirographref04_length.l0] at h, fun _ _ _ _ _ r h => by simp [chirographref04_length.j2] at h⟩
  | k + 1 => by
    obtain ⟨ih0, ih1, ih2⟩ := chirographref04_length.mono_l k
    refine ⟨?_, ?_, ?_⟩
    · intro y0 y1 y2 y3 y4
      unfold chirographref04_length.j0
      repeat' first
      | (with_reducible exact ih0 _ _ _ _ _)
      | (with_reducible exact ih1 _ _ _ _ _)
      | (with_reducible exact ih2 _ _ _ _ _)
      | (with_reducible exact LeO.refl _)
      | (with_reducible exact LeO.none _)
      | (with_reducible refine LeO.ite ?_ ?_)
      | (with_reducible refine LeO.bind ?_ (fun _ => ?_))
      | exact ih0 _ _ _ _ _
      | exact ih1 _ _ _ _ _
      | exact ih2 _ _ _ _ _
      | exact LeO.none _
      | refine LeO.ite ?_ ?_
      | refine LeO.bind ?_ (fun _ => ?_)
    · intro y0 y1 y2 y3 y4
      unfold chirographref04_length.l0
      repeat' first
      | (with_reducible exact ih0 _ _ _ _ _)
      | (with_reducible exact ih1 _ _ _ _ _)
      | (with_reducible exact ih2 _ _ _ _ _)
      | (with_reducible exact LeO.refl _)
      | (with_reducible exact LeO.none _)
      | (with_reducible refine LeO.ite ?_ ?_)
      | (with_reducible refine LeO.bind ?_ (fun _ => ?_))
      | exact ih0 _ _ _ _ _
      | exact ih1 _ _ _ _ _
      | exact ih2 _ _ _ _ _
      | exact LeO.none _
      | refine LeO.ite ?_ ?_
      | refine LeO.bind ?_ (fun _ => ?_)
    · intro y0 y1 y2 y3 y4
      unfold chirographref04_length.j2
      repeat' first
      | (with_reducible exact ih0 _ _ _ _ _)
      | (with_reducible exact ih1 _ _ _ _ _)
      | (with_reducible exact ih2 _ _ _ _ _)
      | (with_reducible exact LeO.refl _)
      | (with_reducible exact LeO.none _)
      | (with_reducible refine LeO.ite ?_ ?_)
      | (with_reducible refine LeO.bind ?_ (fun _ => ?_))
      | exact ih0 _ _ _ _ _
      | exact ih1 _ _ _ _ _
      | exact ih2 _ _ _ _ _
      | exact LeO.none _
      | refine LeO.ite ?_ ?_
      | refine LeO.bind ?_ (fun _ => ?_)
theorem chirographref04_length.mono : ∀ a0 a1 k, LeO (chirographref04_length.f k a0 a1) (chirographref04_length.f (k + 1) a0 a1) := by
  intro a0 a1 k
  obtain ⟨ih0, ih1, ih2⟩ := chirographref04_length.mono_l k
  unfold chirographref04_length.f
  repeat' first
      | (with_reducible exact ih0 _ _ _ _ _)
      | (with_reducible exact ih1 _ _ _ _ _)
      | (with_reducible exact ih2 _ _ _ _ _)
      | (with_reducible exact LeO.refl _)
      | (with_reducible exact LeO.none _)
      | (with_reducible refine LeO.ite ?_ ?_)
      | (with_reducible refine LeO.bind ?_ (fun _ => ?_))
      | exact ih0 _ _ _ _ _
      | exact ih1 _ _ _ _ _
      | exact ih2 _ _ _ _ _
      | exact LeO.none _
      | refine LeO.ite ?_ ?_
      | refine LeO.bind ?_ (fun _ => ?_)
end Go.Proofs.YtkioddjjfifadaaGreatDoor.P
namespace Go.Proofs.YtkioddjjfifadaaGreatDoor.P
open Go.RowKit Go.Proofs.YtkioddjjfifadaaGreatDoorW.PrintWords Go.Proofs.YtkioddjjfifadaaGreatDoorW.PrintLast Go.Proofs.YtkioddjjfifadaaGreatDoorW.PrintMore
attribute [local go_sem] max2_int min2_int max_two min_two max_three min_three max_four min_four   -- for this text's walks alone
set_option linter.unusedVariables false
set_option linter.unusedSimpArgs false
def chirographref04_Split.l0 : Nat → List Int → List (S77) → Int → Option ((List (S77)) × Int × Int)
  | 0, _, _, _ => none
  | k + 1, x0, x5, x6 => if x6 < (x0.length : Int) then (if (x5.length : Int) ≥ 65536 then (some (([] : List (S77)), 4, x6)) else ((chirographref04_tag.f k x0 x6).bind fun bt843 => (if bt843.2.2.1 = 0 then ((chirographref04_length.f k x0 bt843.2.1).bind fun bt847 => (if bt847.2.2.1 = 0 then (if 0 ≤ x6 then ((some (([] : List Int) : List Int)).bind fun y853 => (if 0 ≤ bt847.2.1 then (if bt847.2.1 ≤ (wrap64 (bt847.2.1 + bt847.1)) then (if (wrap64 (bt847.2.1 + bt847.1)) ≤ (x0.length : Int) then ((some ((x0.take ((wrap64 (bt847.2.1 + bt847.1)) : Int).toNat).drop (bt847.2.1 : Int).toNat : List Int)).bind fun y856 => (if y853.length + y856.length < 140737488355328 then ((some (([] : List Int) : List Int)).bind fun y863 => (if x6 ≤ (wrap64 (bt847.2.1 + bt847.1)) then ((some ((x0.take ((wrap64 (bt847.2.1 + bt847.1)) : Int).toNat).drop (x6 : Int).toNat : List Int)).bind fun y866 => (if y863.length + y866.length < 140737488355328 then (if x5.length < 1954687338268 then (chirographref04_Split.l0 k x0 (x5 ++ [(⟨(Int.tdiv (rd x0 x6) 64) % 256, bt843.1, ((((Int.tdiv (rd x0 x6) 32) % 256) % 2) == 1), (y853 ++ y856), (y863 ++ y866)⟩ : S77)]) (wrap64 (bt847.2.1 + bt847.1))) else (none)) else (none))) else (none))) else (none))) else (none)) else (none)) else (none))) else (none)) else (some (([] : List (S77)), bt847.2.2.1, bt847.2.2.2)))) else (some (([] : List (S77)), bt843.2.2.1, bt843.2.2.2))))) else (some (x5, 0, (x0.length : Int)))
def chirographref04_Split.f (k : Nat) (l0 : List Int) : Option ((List (S77)) × Int × Int) := if (l0.length : Int) > 16777216 then (some (([] : List (S77)), 3, 0)) else (chirographref04_Split.l0 k l0 ([] : List (S77)) 0)
theorem chirographref04_Split.mono_l : ∀ k, (∀ y0 y1 y2, LeO (chirographref04_Split.l0 k y0 y1 y2) (chirographref04_Split.l0 (k + 1) y0 y1 y2))
  | 0 => fun _ _ _ r h => by simp [chirographref04_Split.l0] at h
  | k + 1 => by
    have ih0 := chirographref04_Split.mono_l k
    · intro y0 y1 y2
      unfold chirographref04_Split.l0
      repeat' first
      | (with_reducible exact ih0 _ _ _)
      | (with_reducible exact chirographref04_length.mono _ _ _)
      | (with_reducible exact chirographref04_tag.mono _ _ _)
      | (with_reducible exact LeO.refl _)
      | (with_reducible exact LeO.none _)
      | (with_reducible refine LeO.ite ?_ ?_)
      | (with_reducible refine LeO.bind ?_ (fun _ => ?_))
      | exact ih0 _ _ _
      | exact chirographref04_length.mono _ _ _
      | exact chirographref04_tag.mono _ _ _
      | exact LeO.none _
      | refine LeO.ite ?_ ?_
      | refine LeO.bind ?_ (fun _ => ?_)
theorem chirographref04_Split.mono : ∀ a0 k, LeO (chirographref04_Split.f k a0) (chirographref04_Split.f (k + 1) a0) := by
  intro a0 k
  have ih0 := chirographref04_Split.mono_l k
  unfold chirographref04_Split.f
  repeat' first
      | (with_reducible exact ih0 _ _ _)
      | (with_reducible exact chirographref04_length.mono _ _ _)
      | (with_reducible exact chirographref04_tag.mono _ _ _)
      | (with_reducible exact LeO.refl _)
      | (with_reducible exact LeO.none _)
      | (with_reducible refine LeO.ite ?_ ?_)
      | (with_reducible refine LeO.bind ?_ (fun _ => ?_))
      | exact ih0 _ _ _
      | exact chirographref04_length.mono _ _ _
      | exact chirographref04_tag.mono _ _ _
      | exact LeO.none _
      | refine LeO.ite ?_ ?_
      | refine LeO.bind ?_ (fun _ => ?_)
end Go.Proofs.YtkioddjjfifadaaGreatDoor.P
namespace Go.Proofs.YtkioddjjfifadaaGreatDoor.P
open Go.RowKit Go.Proofs.YtkioddjjfifadaaGreatDoorW.PrintWords Go.Proofs.YtkioddjjfifadaaGreatDoorW.PrintMore
def ByL (l : List Int) : Prop := ∀ c ∈ l, 0 ≤ c ∧ c ≤ 255
theorem tag_loop (x0 : List Int) (hl : Aside0 (x0.length ≤ 100000000)) (hb : ByL x0) (p : Int) (hp : 0 ≤ p) : ∀ (m k : Nat) (q v : Int), p < q → (x0.length : Int) - q ≤ m → 2 * m + 1 ≤ k → 0 ≤ v → v ≤ 268435455 → q ≤ (x0.length : Int) →
    ∃ t i e a, der_tag.l0 k x0 p v q = some (t, i, e, a) ∧ chirographref04_tag.l0 k x0 p v q = some (t, i, e, a) ∧ (e = 0 → q < i ∧ i ≤ (x0.length : Int) ∧ 0 ≤ t ∧ t ≤ 268435455)
  | 0, k, q, v, hq, hm, hk, v0, v1, hle => by
    obtain ⟨k1, rfl⟩ : ∃ k1, k = k1 + 1 := ⟨k - 1, by omega⟩
    refine ⟨0, 0, 2, (x0.length : Int), ?_, ?_, fun h => absurd h (by decide)⟩
    · rw [der_tag.l0, if_neg (by omega)]
    · rw [chirographref04_tag.l0, if_neg (by omega)]
  | m + 1, k, q, v, hq, hm, hk, v0, v1, hle => by
    obtain ⟨k1, rfl⟩ : ∃ k1, k = k1 + 2 := ⟨k - 2, by omega⟩
    by_cases hlt : q < (x0.length : Int)
    · have hl2 := hl.out
      obtain ⟨b0, b1⟩ := hb _ (rd_memI x0 q (by omega) hlt)
      obtain ⟨b, hbd⟩ : ∃ b, rd x0 q = b := ⟨_, rfl⟩
      rw [hbd] at b0 b1
      have e1 : Int.tmod b 128 = b % 128 := Int.tmod_eq_emod_of_nonneg b0
      have w1 : wrap64 (v * 128) = v * 128 := wb (by omega) (by omega)
      have w2 : wrap64 (b % 128) = b % 128 := wb (by omega) (by omega)
      have w3 : wrap64 (v * 128 + b % 128) = v * 128 + b % 128 := wb (by omega) (by omega)
      have w4 : wrap64 (p + 1) = p + 1 := wb (by omega) (by omega)
      have w5 : wrap64 (q + 1) = q + 1 := wb (by omega) (by omega)
      have hv : Go.bits .or .i64 (v * 128) (b % 128) = v * 128 + b % 128 := or7 v _ v0 (by omega) (by omega) (by omega)
      have ih := fun (h : v * 128 + b % 128 ≤ 268435455) => tag_loop x0 hl hb p hp m k1 (q + 1) (v * 128 + b % 128) (by omega) (by omega) (by omega) (by omega) h (by omega)
      have qp : 0 ≤ q := by omega
      have g31 : v * 128 + b % 128 < 31 ∨ ¬ v * 128 + b % 128 < 31 := by omega
      have err : ∀ {P : Prop}, (30 : Int) = 0 → P := fun h => absurd h (by decide)
      rw [der_tag.l0, chirographref04_tag.l0, if_pos hlt, if_pos hlt, if_pos qp, if_pos qp, hbd, and127b b b0 b1, e1, w1, w2, w3, w4, hv]
      clear w1 w2 w3 w4 hv e1 hm hk
      have dj : der_tag.j1 (k1 + 1) x0 p (v * 128 + b % 128) q true = some (0, 0, 30, q) := by rw [der_tag.j1, if_pos rfl]
      have rj : chirographref04_tag.j1 (k1 + 1) x0 p (v * 128 + b % 128) q true = some (0, 0, 30, q) := by rw [chirographref04_tag.j1, if_pos rfl]
      have fin : ¬ v * 128 + b % 128 > 268435455 → ∃ t i e a, (if b < 128 then der_tag.j1 (k1 + 1) x0 p (v * 128 + b % 128) q (decide (v * 128 + b % 128 < 31)) else der_tag.j1 (k1 + 1) x0 p (v * 128 + b % 128) q false) = some (t, i, e, a) ∧ chirographref04_tag.j1 (k1 + 1) x0 p (v * 128 + b % 128) q false = some (t, i, e, a) ∧ (e = 0 → q < i ∧ i ≤ (x0.length : Int) ∧ 0 ≤ t ∧ t ≤ 268435455) := fun hM => by
        rw [chirographref04_tag.j1, if_neg (show ¬ (false = true) by decide), if_pos qp, if_pos hlt, hbd]
        by_cases c : b < 128
        · rw [if_pos c, if_pos c]
          rcases g31 with g | g
          · rw [decide_eq_true g, dj, if_pos g]
            exact ⟨_, _, _, _, rfl, rfl, err⟩
          · rw [decide_eq_false g, if_neg g, der_tag.j1, if_neg (show ¬ (false = true) by decide), if_pos qp, if_pos hlt, hbd, if_pos c, w5]
            exact ⟨_, _, _, _, rfl, rfl, fun _ => by omega⟩
        · rw [if_neg c, if_neg c, der_tag.j1, if_neg (show ¬ (false = true) by decide), if_pos qp, if_pos hlt, hbd, if_neg c, w5]
          obtain ⟨t, i, e, a, h1, h2, h3⟩ := ih (by omega)
          exact ⟨t, i, e, a, h1, h2, fun h => by have := h3 h; omega⟩
      by_cases cM : v * 128 + b % 128 > 268435455
      · simp only [if_pos cM]
        rw [rj]
        by_cases cq : q = p + 1
        · rw [if_pos cq]
          by_cases c8 : b = 128
          · rw [if_pos c8, dj]
            exact ⟨_, _, _, _, rfl, rfl, err⟩
          · rw [if_neg c8, dj]
            exact ⟨_, _, _, _, rfl, rfl, err⟩
        · rw [if_neg cq, dj]
          exact ⟨_, _, _, _, rfl, rfl, err⟩
      · simp only [if_neg cM]
        by_cases cq : q = p + 1
        · rw [if_pos cq, if_pos cq]
          by_cases c8 : b = 128
          · rw [if_pos c8, dj, beq_iff_eq.mpr c8, rj]
            exact ⟨_, _, _, _, rfl, rfl, err⟩
          · rw [if_neg c8, beq_eq_false_iff_ne.mpr c8]
            exact fin cM
        · rw [if_neg cq, if_neg cq]
          exact fin cM
    · refine ⟨0, 0, 2, (x0.length : Int), ?_, ?_, fun h => absurd h (by decide)⟩
      · rw [der_tag.l0, if_neg hlt]
      · rw [chirographref04_tag.l0, if_neg hlt]
theorem tmod32 (b : Int) (h0 : 0 ≤ b) (h1 : b ≤ 255) : Go.bits .and .u8 b 31 = b % 32 := by
  obtain ⟨n, rfl⟩ : ∃ n : Nat, b = (n : Int) := ⟨b.toNat, by omega⟩
  have key : ∀ m : Fin 256, Go.bits .and .u8 (m.val : Int) 31 = (m.val : Int) % 32 := by decide +kernel
  exact key ⟨n, by omega⟩
/-- A head's tag: the same answer. -/
theorem tag_both (x0 : List Int) (hl : x0.length ≤ 100000000) (hb : ByL x0) (p : Int) (h0 : 0 ≤ p) (h1 : p < (x0.length : Int)) (k : Nat) (hk : 2 * x0.length + 3 ≤ k) :
    ∃ t i e a, der_tag.f k x0 p = some (t, i, e, a) ∧ chirographref04_tag.f k x0 p = some (t, i, e, a) ∧ (e = 0 → p < i ∧ i ≤ (x0.length : Int) ∧ 0 ≤ t ∧ t ≤ 268435455) := by
  obtain ⟨b0, b1⟩ := hb _ (rd_memI x0 p h0 h1)
  obtain ⟨b, hbd⟩ : ∃ b, rd x0 p = b := ⟨_, rfl⟩
  rw [hbd] at b0 b1
  have e1 : Int.tmod b 32 = b % 32 := Int.tmod_eq_emod_of_nonneg b0
  have w1 : wrap64 (b % 32) = b % 32 := wb (by omega) (by omega)
  have w2 : wrap64 (p + 1) = p + 1 := wb (by omega) (by omega)
  unfold der_tag.f chirographref04_tag.f
  rw [if_pos h0, if_pos h0, if_pos h1, if_pos h1, hbd, tmod32 b b0 b1, e1, w1, w2]
  clear w1 w2 e1
  by_cases c : b % 32 = 31
  · rw [if_neg (by omega), if_pos c]
    obtain ⟨t, i, e, a, g1, g2, g3⟩ := tag_loop x0 ⟨hl⟩ hb p h0 (x0.length) k (p + 1) 0 (by omega) (by omega) (by omega) (Int.le_refl _) (by decide) (by omega)
    exact ⟨t, i, e, a, g1, g2, fun h => by have := g3 h; omega⟩
  · rw [if_pos (by omega), if_neg c]
    by_cases c0 : b % 32 = 0
    · rw [if_pos c0, if_pos c0]
      by_cases c1 : b < 64
      · by_cases c2 : b / 64 = 0
        · rw [if_pos c2, if_pos c1]
          exact ⟨_, _, _, _, rfl, rfl, fun h => absurd h (by decide)⟩
        · omega
      · rw [if_neg (by omega), if_neg c1]
        exact ⟨_, _, _, _, rfl, rfl, fun _ => by omega⟩
    · rw [if_neg c0, if_neg c0]
      exact ⟨_, _, _, _, rfl, rfl, fun _ => by omega⟩
end Go.Proofs.YtkioddjjfifadaaGreatDoor.P
namespace Go.Proofs.YtkioddjjfifadaaGreatDoor.P
open Go.RowKit Go.Proofs.YtkioddjjfifadaaGreatDoorW.PrintWords Go.Proofs.YtkioddjjfifadaaGreatDoorW.PrintMore
/-- A length's bytes, reckoned; capped. -/
def valF : Int → List Int → Int
  | v, [] => v
  | v, b :: r => valF (min (v * 256 + b) 16777217) r
theorem valF_rng : ∀ (l : List Int) (v : Int), ByL l → 0 ≤ v → v ≤ 16777217 → 0 ≤ valF v l ∧ valF v l ≤ 16777217
  | [], v, _, h0, h1 => ⟨h0, h1⟩
  | b :: r, v, h, h0, h1 => by
    have hb := h b List.mem_cons_self
    rw [valF]
    exact valF_rng r _ (fun c hc => h c (List.mem_cons_of_mem _ hc)) (by omega) (by omega)
theorem dl_loop (x0 : List Int) (a i m : Int) (y : List Int) (hy : ByL y) (hyl : y.length ≤ 1000) (r : Int × Int × Int × Int) (K : Nat) : ∀ (s k : Nat) (j v : Int), 0 ≤ j → (y.length : Int) - j = s → s + 1 + K ≤ k → 0 ≤ v → v ≤ 16777217 →
    (∀ k', K ≤ k' → (if 0 ≤ i then (if i < (x0.length : Int) then (if (rd x0 i) = 0 then (der_length.j2 k' x0 a (valF v (y.drop j.toNat)) i m true) else (der_length.j2 k' x0 a (valF v (y.drop j.toNat)) i m (decide (valF v (y.drop j.toNat) < 128)))) else none) else none) = some r) →
    der_length.l0 k x0 a v i m y (y.length : Int) j = some r
  | 0, k, j, v, h0, hs, hk, v0, v1, hr => by
    obtain ⟨k1, rfl⟩ : ∃ k1, k = k1 + 1 := ⟨k - 1, by omega⟩
    rw [List.drop_eq_nil_of_le (by omega)] at hr
    rw [der_length.l0, if_neg (by omega)]
    exact hr k1 (by omega)
  | s + 1, k, j, v, h0, hs, hk, v0, v1, hr => by
    obtain ⟨k1, rfl⟩ : ∃ k1, k = k1 + 1 := ⟨k - 1, by omega⟩
    obtain ⟨b0, b1⟩ := hy _ (rd_memI y j h0 (by omega))
    rw [drop_rdI y j h0 (by omega)] at hr
    obtain ⟨b, hbd⟩ : ∃ b, rd y j = b := ⟨_, rfl⟩
    rw [hbd] at b0 b1 hr
    rw [valF] at hr
    have hm : mn (v * 256 + b) 16777217 = min (v * 256 + b) 16777217 := by unfold mn; split <;> omega
    have w5 : wrap64 (j + 1) = j + 1 := wb (by omega) (by omega)
    rw [der_length.l0, if_pos (by omega), if_pos h0, if_pos (by omega), hbd, wb (n := b) (by omega) (by omega), wb (n := v * 256) (by omega) (by omega), or8 v b v0 (by omega) b0 (by omega), hm, w5]
    clear w5 hm
    exact dl_loop x0 a i m y hy hyl r K s k1 (j + 1) _ (by omega) (by omega) (by omega) (by omega) (by omega) hr
theorem rl_loop (x0 : List Int) (hl : Aside0 (x0.length ≤ 100000000)) (hb : ByL x0) (a m : Int) (ha : 0 ≤ a) (hm : 1 ≤ m) (hm2 : m ≤ 127) (hle : a + m < (x0.length : Int)) (r : Int × Int × Int × Int) (K : Nat) : ∀ (s k : Nat) (j v : Int), a < j → a + m + 1 - j = s → s + 1 + K ≤ k → 0 ≤ v → v ≤ 16777217 →
    (∀ k', K ≤ k' → (if valF v ((x0.take (a + m + 1).toNat).drop j.toNat) < 128 then (chirographref04_length.j2 k' x0 a (valF v ((x0.take (a + m + 1).toNat).drop j.toNat)) m true) else (if 0 ≤ (wrap64 (a + 1)) then (if (wrap64 (a + 1)) < (x0.length : Int) then (chirographref04_length.j2 k' x0 a (valF v ((x0.take (a + m + 1).toNat).drop j.toNat)) m ((rd x0 (wrap64 (a + 1))) == 0)) else (none)) else (none))) = some r) →
    chirographref04_length.l0 k x0 a v m j = some r
  | 0, k, j, v, hj, hs, hk, v0, v1, hr => by
    obtain ⟨k1, rfl⟩ : ∃ k1, k = k1 + 1 := ⟨k - 1, by omega⟩
    have hl2 := hl.out
    have e : (x0.take (a + m + 1).toNat).drop j.toNat = [] := List.drop_eq_nil_of_le (by rw [List.length_take]; omega)
    rw [e] at hr
    rw [chirographref04_length.l0, wb (n := a + m) (by omega) (by omega), if_neg (by omega)]
    exact hr k1 (by omega)
  | s + 1, k, j, v, hj, hs, hk, v0, v1, hr => by
    obtain ⟨k1, rfl⟩ : ∃ k1, k = k1 + 1 := ⟨k - 1, by omega⟩
    have hl2 := hl.out
    obtain ⟨b0, b1⟩ := hb _ (rd_memI x0 j (by omega) (by omega))
    have e : (x0.take (a + m + 1).toNat).drop j.toNat = rd x0 j :: (x0.take (a + m + 1).toNat).drop (j + 1).toNat := by
      have h1 := drop_rdI (x0.take (a + m + 1).toNat) j (by omega) (by rw [List.length_take]; omega)
      rw [h1]
      congr 1
      unfold rd
      rw [List.getD_eq_getElem?_getD, List.getD_eq_getElem?_getD, List.getElem?_take_of_lt (by omega)]
    rw [e] at hr
    obtain ⟨b, hbd⟩ : ∃ b, rd x0 j = b := ⟨_, rfl⟩
    rw [hbd] at b0 b1 hr
    rw [valF] at hr
    have w5 : wrap64 (j + 1) = j + 1 := wb (by omega) (by omega)
    rw [chirographref04_length.l0, wb (n := a + m) (by omega) (by omega), if_pos (by omega), if_pos (by omega), if_pos (by omega), hbd, wb (n := b) (by omega) (by omega), wb (n := v * 256) (by omega) (by omega), wb (n := v * 256 + b) (by omega) (by omega), w5]
    clear w5 e
    by_cases c : v * 256 + b > 16777216
    · rw [if_pos c]
      rw [show min (v * 256 + b) 16777217 = 16777217 by omega] at hr
      exact rl_loop x0 hl hb a m ha hm hm2 hle r K s k1 (j + 1) _ (by omega) (by omega) (by omega) (by decide) (by decide) hr
    · rw [if_neg c]
      rw [show min (v * 256 + b) 16777217 = v * 256 + b by omega] at hr
      exact rl_loop x0 hl hb a m ha hm hm2 hle r K s k1 (j + 1) _ (by omega) (by omega) (by omega) (by omega) (by omega) hr
/-- A head's length: the same answer. -/
theorem length_both (x0 : List Int) (hl : x0.length ≤ 100000000) (hb : ByL x0) (a : Int) (h0 : 0 ≤ a) (h1 : a ≤ (x0.length : Int)) (k : Nat) (hk : 400 ≤ k) :
    ∃ n i e t, der_length.f k x0 a = some (n, i, e, t) ∧ chirographref04_length.f k x0 a = some (n, i, e, t) ∧ (e = 0 → a < i ∧ 0 ≤ n ∧ i + n ≤ (x0.length : Int)) := by
  obtain ⟨k1, rfl⟩ : ∃ k1, k = k1 + 1 := ⟨k - 1, by omega⟩
  have err : ∀ {P : Prop}, (31 : Int) = 0 → P := fun h => absurd h (by decide)
  have err2 : ∀ {P : Prop}, (2 : Int) = 0 → P := fun h => absurd h (by decide)
  unfold der_length.f chirographref04_length.f
  by_cases c : a = (x0.length : Int)
  · rw [if_pos c, if_pos (by omega)]
    exact ⟨_, _, _, _, congrArg (fun z => some (0, 0, 2, z)) c, rfl, err2⟩
  · obtain ⟨b0, b1⟩ := hb _ (rd_memI x0 a h0 (by omega))
    obtain ⟨b, hbd⟩ : ∃ b, rd x0 a = b := ⟨_, rfl⟩
    rw [hbd] at b0 b1
    have w0 : wrap64 b = b := wb (by omega) (by omega)
    have w1 : wrap64 (a + 1) = a + 1 := wb (by omega) (by omega)
    have w2 : wrap64 ((x0.length : Int) - (a + 1)) = (x0.length : Int) - (a + 1) := wb (by omega) (by omega)
    have w3 : wrap64 (b - 128) = b - 128 := wb (by omega) (by omega)
    have hge : ¬ a ≥ (x0.length : Int) := by omega
    have hlt : a < (x0.length : Int) := by omega
    simp only [if_neg c, if_neg hge, if_pos h0, if_pos hlt, hbd, w0, w1, and127i b b0 b1]
    clear w0
    by_cases cs : b ≥ 128
    · rw [if_pos cs]
      by_cases c8 : b = 128
      · rw [if_pos c8, if_pos (by omega), der_length.j0, if_pos rfl, chirographref04_length.j0, if_pos rfl]
        exact ⟨_, _, _, _, rfl, rfl, err⟩
      · rw [if_neg c8, if_neg (by omega), show b % 128 = b - 128 by omega]
        by_cases c5 : b = 255
        · rw [c5, show ((255 : Int) - 128 == 127) = true by decide, show ((255 : Int) == 255) = true by decide, der_length.j0, if_pos rfl, chirographref04_length.j0, if_pos rfl]
          exact ⟨_, _, _, _, rfl, rfl, err⟩
        · rw [beq_eq_false_iff_ne.mpr (show b - 128 ≠ 127 by omega), beq_eq_false_iff_ne.mpr c5, der_length.j0, if_neg (show ¬ (false = true) by decide), chirographref04_length.j0, if_neg (show ¬ (false = true) by decide), if_pos (show b > 128 by omega), w2, w1, w3]
          have w4 : wrap64 (a + 1 + (b - 128)) = a + 1 + (b - 128) := wb (by omega) (by omega)
          rw [w4]
          by_cases cl : b - 128 > (x0.length : Int) - (a + 1)
          · rw [if_pos cl, if_pos (show a + 1 + (b - 128) > (x0.length : Int) by omega)]
            exact ⟨_, _, _, _, rfl, rfl, err2⟩
          · rw [if_neg cl, if_neg (show ¬ a + 1 + (b - 128) > (x0.length : Int) by omega), if_pos (by omega), if_pos (by omega), if_pos (by omega), Option.bind_some]
            obtain ⟨m, hm⟩ : ∃ m, m = b - 128 := ⟨_, rfl⟩
            rw [← hm]
            have hm1 : 1 ≤ m ∧ m ≤ 126 ∧ a + 1 + m ≤ (x0.length : Int) := by omega
            obtain ⟨Y, hY⟩ : ∃ Y, (x0.take (a + 1 + m).toNat).drop (a + 1).toNat = Y := ⟨_, rfl⟩
            have hYl : Y.length = m.toNat := by rw [← hY, List.length_drop, List.length_take]; omega
            have hYb : ByL Y := fun z hz => hb z (List.mem_of_mem_take (List.mem_of_mem_drop (hY ▸ hz)))
            obtain ⟨v0, v1⟩ := valF_rng Y 0 hYb (Int.le_refl _) (by decide)
            obtain ⟨V, hV⟩ : ∃ V, valF 0 Y = V := ⟨_, rfl⟩
            rw [hV] at v0 v1
            rw [hY]
            clear w2 w3 w4 c5 c8 cs cl hm
            have main : ∀ (B1 B2 : Bool) (R : Int × Int × Int × Int), True := fun _ _ _ => trivial
            have goal2 : ∀ R : Int × Int × Int × Int, (∀ k', 1 ≤ k' → (if 0 ≤ a + 1 then (if a + 1 < (x0.length : Int) then (if (rd x0 (a + 1)) = 0 then (der_length.j2 k' x0 a V (a + 1) m true) else (der_length.j2 k' x0 a V (a + 1) m (decide (V < 128)))) else none) else none) = some R) → (∀ k', 1 ≤ k' → (if V < 128 then (chirographref04_length.j2 k' x0 a V m true) else (if 0 ≤ (wrap64 (a + 1)) then (if (wrap64 (a + 1)) < (x0.length : Int) then (chirographref04_length.j2 k' x0 a V m ((rd x0 (wrap64 (a + 1))) == 0)) else (none)) else (none))) = some R) →
                der_length.l0 k1 x0 a 0 (a + 1) m Y (Y.length : Int) 0 = some R ∧ chirographref04_length.l0 k1 x0 a 0 m (a + 1) = some R := fun R g1 g2 => by
              refine ⟨dl_loop x0 a (a + 1) m Y hYb (by omega) R 1 Y.length k1 0 0 (Int.le_refl _) (by omega) (by omega) (Int.le_refl _) (by decide) (fun k' hk' => ?_), rl_loop x0 ⟨hl⟩ hb a m h0 hm1.1 (by omega) (by omega) R 1 m.toNat k1 (a + 1) 0 (by omega) (by omega) (by omega) (Int.le_refl _) (by decide) (fun k' hk' => ?_)⟩
              · rw [show (0 : Int).toNat = 0 from rfl, List.drop_zero, hV]
                exact g1 k' hk'
              · rw [show a + m + 1 = a + 1 + m by omega, hY, hV]
                exact g2 k' hk'
            have wA : wrap64 (a + 1) = a + 1 := w1
            have hA0 : 0 ≤ a + 1 := by omega
            have hA1 : a + 1 < (x0.length : Int) := by omega
            by_cases cz : rd x0 (a + 1) = 0
            · obtain ⟨q1, q2⟩ := goal2 (0, 0, 31, a) (fun k' hk' => by
                obtain ⟨k2, rfl⟩ : ∃ k2, k' = k2 + 1 := ⟨k' - 1, by omega⟩
                rw [if_pos hA0, if_pos hA1, if_pos cz, der_length.j2, if_pos rfl]) (fun k' hk' => by
                obtain ⟨k2, rfl⟩ : ∃ k2, k' = k2 + 1 := ⟨k' - 1, by omega⟩
                rw [wA, cz, show ((0 : Int) == 0) = true from rfl, if_pos hA0, if_pos hA1, chirographref04_length.j2, if_pos rfl]
                split <;> rfl)
              exact ⟨_, _, _, _, q1, q2, err⟩
            · by_cases cv : V < 128
              · obtain ⟨q1, q2⟩ := goal2 (0, 0, 31, a) (fun k' hk' => by
                  obtain ⟨k2, rfl⟩ : ∃ k2, k' = k2 + 1 := ⟨k' - 1, by omega⟩
                  rw [if_pos hA0, if_pos hA1, if_neg cz, decide_eq_true cv, der_length.j2, if_pos rfl]) (fun k' hk' => by
                  obtain ⟨k2, rfl⟩ : ∃ k2, k' = k2 + 1 := ⟨k' - 1, by omega⟩
                  rw [if_pos cv, chirographref04_length.j2, if_pos rfl])
                exact ⟨_, _, _, _, q1, q2, err⟩
              · have wB : wrap64 (a + 1 + m) = a + 1 + m := wb (by omega) (by omega)
                have wC : wrap64 ((x0.length : Int) - (a + 1 + m)) = (x0.length : Int) - (a + 1 + m) := wb (by omega) (by omega)
                by_cases cb : V > (x0.length : Int) - (a + 1 + m)
                · obtain ⟨q1, q2⟩ := goal2 (0, 0, 31, a) (fun k' hk' => by
                    obtain ⟨k2, rfl⟩ : ∃ k2, k' = k2 + 1 := ⟨k' - 1, by omega⟩
                    rw [if_pos hA0, if_pos hA1, if_neg cz, decide_eq_false cv, der_length.j2, if_neg (show ¬ (false = true) by decide), wB, wC, if_pos cb]) (fun k' hk' => by
                    obtain ⟨k2, rfl⟩ : ∃ k2, k' = k2 + 1 := ⟨k' - 1, by omega⟩
                    rw [if_neg cv, wA, if_pos hA0, if_pos hA1, beq_eq_false_iff_ne.mpr cz, chirographref04_length.j2, if_neg (show ¬ (false = true) by decide), wA, wB, wC, if_pos cb])
                  exact ⟨_, _, _, _, q1, q2, err⟩
                · obtain ⟨q1, q2⟩ := goal2 (V, a + 1 + m, 0, 0) (fun k' hk' => by
                    obtain ⟨k2, rfl⟩ : ∃ k2, k' = k2 + 1 := ⟨k' - 1, by omega⟩
                    rw [if_pos hA0, if_pos hA1, if_neg cz, decide_eq_false cv, der_length.j2, if_neg (show ¬ (false = true) by decide), wB, wC, if_neg cb]) (fun k' hk' => by
                    obtain ⟨k2, rfl⟩ : ∃ k2, k' = k2 + 1 := ⟨k' - 1, by omega⟩
                    rw [if_neg cv, wA, if_pos hA0, if_pos hA1, beq_eq_false_iff_ne.mpr cz, chirographref04_length.j2, if_neg (show ¬ (false = true) by decide), wA, wB, wC, if_neg cb])
                  exact ⟨_, _, _, _, q1, q2, fun _ => by omega⟩
    · have n1 : ¬ b = 128 := by omega
      have n2 : ¬ b > 128 := by omega
      rw [beq_eq_false_iff_ne.mpr (show b ≠ 255 by omega)]
      by_cases cb : b > (x0.length : Int) - (a + 1)
      · simp only [if_neg cs, if_neg n1, if_neg n2, w2, if_pos cb, chirographref04_length.j0, if_neg (show ¬ (false = true) by decide)]
        exact ⟨_, _, _, _, rfl, rfl, err⟩
      · simp only [if_neg cs, if_neg n1, if_neg n2, w2, if_neg cb, chirographref04_length.j0, if_neg (show ¬ (false = true) by decide)]
        exact ⟨_, _, _, _, rfl, rfl, fun _ => by omega⟩
end Go.Proofs.YtkioddjjfifadaaGreatDoor.P
namespace Go.Proofs.YtkioddjjfifadaaGreatDoor.P
open Go.RowKit Go.Proofs.YtkioddjjfifadaaGreatDoorW.PrintWords Go.Proofs.YtkioddjjfifadaaGreatDoorW.PrintMore
theorem clone_any (a : List Int) (h : a.length ≤ 100000000) : bytes_Clone.f a = some a := by
  unfold bytes_Clone.f
  rw [if_pos (by omega)]
/-- The class and the construction bit of a head's first byte, two ways. -/
theorem head_bits (b : Int) (h0 : 0 ≤ b) (h1 : b ≤ 255) : wrap64 (b / 64) = (Int.tdiv b 64) % 256 ∧ ((Go.bits .and .u8 b 32) != 0) = ((((Int.tdiv b 32) % 256) % 2) == 1) := by
  have k0 : ∀ m : Fin 256, ((Go.bits .and .u8 (m.val : Int) 32) != 0) = ((((Int.tdiv (m.val : Int) 32) % 256) % 2) == 1) := by decide +kernel
  obtain ⟨m, rfl⟩ : ∃ m : Nat, b = (m : Int) := ⟨b.toNat, by omega⟩
  refine ⟨?_, k0 ⟨m, by omega⟩⟩
  rw [wb (by omega) (by omega), Int.tdiv_eq_ediv_of_nonneg (by omega)]
  omega
/-- What an element that Split made is like. -/
def OkT (n : Nat) (x : S77) : Prop := ByL x.f3 ∧ x.f3.length ≤ n ∧ 0 ≤ x.f0 ∧ x.f0 ≤ 3
set_option maxRecDepth 20000 in
theorem split_alike (x0 : List Int) (hl : Aside0 (x0.length ≤ 16777216)) (hb : ByL x0) : ∀ (m k : Nat) (q : Int) (acc : List S77), 0 ≤ q → q ≤ (x0.length : Int) → (x0.length : Int) - q ≤ m → m + 1 + (2 * x0.length + 500) ≤ k → acc.length ≤ 65536 →
    ∃ L e a, der_Split.l0 k x0 acc q = some (L, e, a) ∧ chirographref04_Split.l0 k x0 acc q = some (L, e, a) ∧ (e ≠ 0 → L = []) ∧ ((∀ x ∈ acc, OkT x0.length x) → ∀ x ∈ L, OkT x0.length x) := by
  intro m
  induction m with
  | zero =>
    intro k q acc h0 h1 hm hk ha
    obtain ⟨k1, rfl⟩ : ∃ k1, k = k1 + 1 := ⟨k - 1, by omega⟩
    have n : ¬ q < (x0.length : Int) := by omega
    rw [der_Split.l0, chirographref04_Split.l0, if_neg n, if_neg n]
    exact ⟨_, _, _, rfl, rfl, fun h => absurd rfl h, fun h => h⟩
  | succ m IH =>
    intro k q acc h0 h1 hm hk ha
    obtain ⟨k1, rfl⟩ : ∃ k1, k = k1 + 1 := ⟨k - 1, by omega⟩
    have hl2 := hl.out
    rw [der_Split.l0, chirographref04_Split.l0]
    by_cases c : q < (x0.length : Int)
    · rw [if_pos c, if_pos c]
      by_cases cf : acc.length = 65536
      · rw [if_pos (show (acc.length : Int) = 65536 by omega), if_pos (show (acc.length : Int) ≥ 65536 by omega)]
        exact ⟨_, _, _, rfl, rfl, fun _ => rfl, fun _ x hx => by cases hx⟩
      · rw [if_neg (show ¬ (acc.length : Int) = 65536 by omega), if_neg (show ¬ (acc.length : Int) ≥ 65536 by omega)]
        obtain ⟨t, i, e, a, d1, r1, p1⟩ := tag_both x0 (by omega) hb q h0 c k1 (by omega)
        rw [d1, r1, Option.bind_some, Option.bind_some]
        dsimp only
        by_cases ce : e = 0
        · rw [if_pos ce, if_pos ce]
          obtain ⟨i0, i1, t0, t1⟩ := p1 ce
          obtain ⟨n, j, e2, a2, d2, r2, p2⟩ := length_both x0 (by omega) hb i (by omega) i1 k1 (by omega)
          rw [d2, r2, Option.bind_some, Option.bind_some]
          dsimp only
          by_cases ce2 : e2 = 0
          · rw [if_pos ce2, if_pos ce2]
            obtain ⟨j0, n0, jn⟩ := p2 ce2
            obtain ⟨b0, b1⟩ := hb _ (rd_memI x0 q h0 c)
            obtain ⟨hb1, hb2⟩ := head_bits _ b0 b1
            have j1 : 0 ≤ j := by omega
            have e0 : 0 ≤ j + n := by omega
            have e3 : j ≤ j + n := by omega
            have e4 : q ≤ j + n := by omega
            have e5 : acc.length < 1954687338268 := by omega
            have len1 : ((x0.take (j + n).toNat).drop j.toNat).length ≤ 100000000 := by rw [List.length_drop, List.length_take]; omega
            have len2 : ((x0.take (j + n).toNat).drop q.toNat).length ≤ 100000000 := by rw [List.length_drop, List.length_take]; omega
            have c1 := clone_any _ len1
            have c2 := clone_any _ len2
            have l1 : ([] : List Int).length + ((x0.take (j + n).toNat).drop j.toNat).length < 140737488355328 := by rw [List.length_nil]; omega
            have l2 : ([] : List Int).length + ((x0.take (j + n).toNat).drop q.toNat).length < 140737488355328 := by rw [List.length_nil]; omega
            have ih := fun (acc' : List S77) (h : acc'.length ≤ 65536) => IH k1 (j + n) acc' (by omega) jn (by omega) (by omega) h
            have la : ∀ v : S77, (acc ++ [v]).length ≤ 65536 := fun v => by rw [List.length_append, List.length_singleton]; omega
            have w1 : wrap64 (j + n) = j + n := wb (by omega) (by omega)
            simp only [w1, c1, c2, hb1, hb2, if_pos h0, if_pos j1, if_pos e3, if_pos jn, if_pos e4, if_pos e5, if_pos l1, if_pos l2, Option.bind_some, List.nil_append]
            obtain ⟨L, e9, a9, g1, g2, g3, g4⟩ := ih _ (la _)
            refine ⟨L, e9, a9, g1, g2, g3, fun h => g4 fun x hx => ?_⟩
            rcases List.mem_append.1 hx with hx | hx
            · exact h x hx
            · obtain rfl := List.mem_singleton.1 hx
              refine ⟨fun z hz => hb z (List.mem_of_mem_take (List.mem_of_mem_drop hz)), ?_, ?_, ?_⟩
              · show ((x0.take (j + n).toNat).drop j.toNat).length ≤ _
                rw [List.length_drop, List.length_take]
                omega
              · show 0 ≤ (Int.tdiv (rd x0 q) 64) % 256
                exact Int.emod_nonneg _ (by decide)
              · show (Int.tdiv (rd x0 q) 64) % 256 ≤ 3
                rw [Int.tdiv_eq_ediv_of_nonneg b0]
                omega
          · rw [if_neg ce2, if_neg ce2]
            exact ⟨_, _, _, rfl, rfl, fun _ => rfl, fun _ x hx => by cases hx⟩
        · rw [if_neg ce, if_neg ce]
          exact ⟨_, _, _, rfl, rfl, fun _ => rfl, fun _ x hx => by cases hx⟩
    · rw [if_neg c, if_neg c]
      exact ⟨_, _, _, rfl, rfl, fun h => absurd rfl h, fun h => h⟩
set_option maxRecDepth 20000 in
theorem split_both (x0 : List Int) (hb : ByL x0) (k : Nat) (hk : 3 * x0.length + 600 ≤ k) :
    ∃ L e a, der_Split.f k x0 = some (L, e, a) ∧ chirographref04_Split.f k x0 = some (L, e, a) ∧ (e ≠ 0 → L = []) ∧ (∀ x ∈ L, OkT x0.length x) := by
  unfold der_Split.f chirographref04_Split.f
  by_cases c : (x0.length : Int) > 16777216
  · rw [if_pos c, if_pos c]
    exact ⟨_, _, _, rfl, rfl, fun _ => rfl, fun x hx => by cases hx⟩
  · rw [if_neg c, if_neg c]
    obtain ⟨L, e, a, g1, g2, g3, g4⟩ := split_alike x0 ⟨by omega⟩ hb x0.length k 0 [] (Int.le_refl _) (by omega) (by omega) (by omega) (by decide)
    exact ⟨L, e, a, g1, g2, g3, g4 fun x hx => by cases hx⟩
end Go.Proofs.YtkioddjjfifadaaGreatDoor.P
namespace Go.Proofs.YtkioddjjfifadaaGreatDoor.P
open Go.RowKit Go.Proofs.YtkioddjjfifadaaGreatDoorW.PrintWords Go.Proofs.YtkioddjjfifadaaGreatDoorW.PrintMore
theorem or7u (v d : Int) (h0 : 0 ≤ v) (h1 : v ≤ 1099511627776) (d0 : 0 ≤ d) (d1 : d < 128) : Go.bits .or .u64 (v * 128) d = v * 128 + d := by
  have hb := (bits_nat .u64 63 (by decide) (fun n h₀ h₁ => by rw [IntKind.wrap_u64]; omega) (v.toNat * 2 ^ 7) d.toNat (by omega) (by omega)).2
  rw [← Nat.shiftLeft_eq, ← Nat.shiftLeft_add_eq_or_of_lt (by omega), Nat.shiftLeft_eq] at hb
  rw [show ((v.toNat * 2 ^ 7 : Nat) : Int) = v * 128 by omega, show (d.toNat : Int) = d by omega, show ((v.toNat * 2 ^ 7 + d.toNat : Nat) : Int) = v * 128 + d by omega] at hb
  exact hb
abbrev T (l : List UInt8) : ByteArray := ⟨l.toArray⟩
theorem T_app (a b : List UInt8) : T a ++ T b = T (a ++ b) := by
  apply ByteArray.ext
  simp [T]
theorem T_size (a : List UInt8) : (T a).size = a.length := by simp [T, ByteArray.size]
theorem itoa_at (x : Int) (h0 : 0 ≤ x) (h1 : x ≤ 9223372036854775807) : strconv_Itoa.f x = some (T (Lib.itoa x)) ∧ (Lib.itoa x).length ≤ 21 := by
  unfold strconv_Itoa.f
  rw [if_pos ⟨by omega, h1⟩]
  exact ⟨rfl, Lib.itoa_length_le x (by omega) h1⟩
theorem itoa_digit (d : Int) (h0 : 0 ≤ d) (h1 : d < 10) : Lib.itoa d = [UInt8.ofNat (48 + d.toNat)] := by
  unfold Lib.itoa
  rw [if_neg (by omega), Lib.decDigits, dif_pos (by omega)]
end Go.Proofs.YtkioddjjfifadaaGreatDoor.P
namespace Go.Proofs.YtkioddjjfifadaaGreatDoor.P
open Go.RowKit Go.Proofs.YtkioddjjfifadaaGreatDoorW.PrintWords Go.Proofs.YtkioddjjfifadaaGreatDoorW.PrintLast Go.Proofs.YtkioddjjfifadaaGreatDoorW.PrintMore
attribute [local go_sem] max2_int min2_int max_two min_two max_three min_three max_four min_four   -- for this text's walks alone
set_option linter.unusedVariables false
set_option linter.unusedSimpArgs false
def chirographref06_digits.f : Nat → Int → Option (ByteArray)
  | 0, _ => none
  | k + 1, a0 => if a0 < 0 then (if a0 ≤ (-10) then ((chirographref06_digits.f k (wrap64 (Int.tdiv a0 10))).bind fun t1550 => ((chirographref06_digits.f k (wrap64 (-(Int.tmod a0 10)))).bind fun t1551 => (if t1550.size + t1551.size ≤ 9223372036854775807 then (some (t1550 ++ t1551)) else (none)))) else ((chirographref06_digits.f k (wrap64 (-a0))).bind fun t1552 => (if 1 + t1552.size ≤ 9223372036854775807 then (some ((⟨#[45]⟩ : ByteArray) ++ t1552)) else (none)))) else (if a0 ≥ 10 then ((chirographref06_digits.f k (wrap64 (Int.tdiv a0 10))).bind fun t1553 => ((chirographref06_digits.f k (Int.tmod a0 10)).bind fun t1554 => (if t1553.size + t1554.size ≤ 9223372036854775807 then (some (t1553 ++ t1554)) else (none)))) else (some (strOfNums (([(wrap64 (48 + a0)) % 256] : List Int)))))
end Go.Proofs.YtkioddjjfifadaaGreatDoor.P
namespace Go.Proofs.YtkioddjjfifadaaGreatDoor.P
open Go.RowKit Go.Proofs.YtkioddjjfifadaaGreatDoorW.PrintWords Go.Proofs.YtkioddjjfifadaaGreatDoorW.PrintLast Go.Proofs.YtkioddjjfifadaaGreatDoorW.PrintMore
attribute [local go_sem] max2_int min2_int max_two min_two max_three min_three max_four min_four   -- for this text's walks alone
set_option linter.unusedVariables false
set_option linter.unusedSimpArgs false
def chirographref04_Decimal.l0 : Nat → Int → ByteArray → Option (ByteArray)
  | 0, _, _ => none
  | k + 1, x0, x3 => if x0 > 9 then ((some (([(wrap64 (48 + (Int.tmod x0 10))) % 256] : List Int) : List Int)).bind fun y889 => (if (strOfNums y889).size + x3.size ≤ 9223372036854775807 then (chirographref04_Decimal.l0 k (wrap64 (Int.tdiv x0 10)) ((strOfNums y889) ++ x3)) else (none))) else ((some (([(wrap64 (48 + x0)) % 256] : List Int) : List Int)).bind fun y892 => (if (strOfNums y892).size + x3.size ≤ 9223372036854775807 then (some ((strOfNums y892) ++ x3)) else (none)))
def chirographref04_Decimal.f (k : Nat) (a0 : Int) : Option (ByteArray) := chirographref04_Decimal.l0 k a0 (⟨#[]⟩ : ByteArray)
theorem chirographref04_Decimal.mono_l : ∀ k, (∀ y0 y1, LeO (chirographref04_Decimal.l0 k y0 y1) (chirographref04_Decimal.l0 (k + 1) y0 y1))
  | 0 => fun _ _ r h => by simp [chirographref04_Decimal.l0] at h
  | k + 1 => by
    have ih0 := chirographref04_Decimal.mono_l k
    · intro y0 y1
      unfold chirographref04_Decimal.l0
      repeat' first
      | (with_reducible exact ih0 _ _)
      | (with_reducible exact LeO.refl _)
      | (with_reducible exact LeO.none _)
      | (with_reducible refine LeO.ite ?_ ?_)
      | (with_reducible refine LeO.bind ?_ (fun _ => ?_))
      | exact ih0 _ _
      | exact LeO.none _
      | refine LeO.ite ?_ ?_
      | refine LeO.bind ?_ (fun _ => ?_)
theorem chirographref04_Decimal.mono : ∀ a0 k, LeO (chirographref04_Decimal.f k a0) (chirographref04_Decimal.f (k + 1) a0) := by
  intro a0 k
  have ih0 := chirographref04_Decimal.mono_l k
  unfold chirographref04_Decimal.f
  repeat' first
      | (with_reducible exact ih0 _ _)
      | (with_reducible exact LeO.refl _)
      | (with_reducible exact LeO.none _)
      | (with_reducible refine LeO.ite ?_ ?_)
      | (with_reducible refine LeO.bind ?_ (fun _ => ?_))
      | exact ih0 _ _
      | exact LeO.none _
      | refine LeO.ite ?_ ?_
      | refine LeO.bind ?_ (fun _ => ?_)
end Go.Proofs.YtkioddjjfifadaaGreatDoor.P
namespace Go.Proofs.YtkioddjjfifadaaGreatDoor.P
open Go.RowKit Go.Proofs.YtkioddjjfifadaaGreatDoorW.PrintWords
theorem ba_mk_append (a b : List UInt8) : (⟨a.toArray⟩ : ByteArray) ++ (⟨b.toArray⟩ : ByteArray) = ⟨(a ++ b).toArray⟩ := by
  apply ByteArray.ext
  simp [ByteArray.data_append]
theorem w64 {n : Int} (h0 : -9223372036854775808 ≤ n) (h1 : n ≤ 9223372036854775807) : wrap64 n = n := by unfold wrap64; omega
theorem one_digit {u : Nat} (h : u < 10) : strOfNums [(wrap64 (48 + (u : Int))) % 256] = ⟨(Lib.decDigits u).toArray⟩ := by
  rw [Lib.decDigits_one h, w64 (by omega) (by omega)]
  unfold strOfNums
  simp only [List.map_cons, List.map_nil]
  have : ((48 + (u : Int)) % 256).toNat = 48 + u := by omega
  rw [this]
theorem dec_len : ∀ (k u : Nat), u < 10 ^ k → 0 < k → (Lib.decDigits u).length ≤ k
  | 0, _, _, h => absurd h (Nat.lt_irrefl 0)
  | k + 1, u, h, _ => by
    by_cases h10 : u < 10
    · rw [Lib.decDigits_one h10]; simp
    · rw [Nat.pow_succ] at h
      have hk : 0 < k := by
        rcases Nat.eq_zero_or_pos k with rfl | hk
        · simp at h; omega
        · exact hk
      rw [Lib.decDigits, dif_neg h10, List.length_append, List.length_singleton]
      have := dec_len k (u / 10) (by omega) hk
      omega
theorem decimal_loop : ∀ (k u : Nat) (acc : ByteArray), k ≤ 100000 → u ≤ 9223372036854775807 → u < 10 ^ k → 0 < k → acc.size + k ≤ 1000000 → chirographref04_Decimal.l0 k (u : Int) acc = some ((⟨(Lib.decDigits u).toArray⟩ : ByteArray) ++ acc)
  | 0, _, _, _, _, _, h, _ => absurd h (Nat.lt_irrefl 0)
  | k + 1, u, acc, hk1, hu, h, _, ha => by
    rw [chirographref04_Decimal.l0]
    by_cases h10 : u < 10
    · rw [if_neg (by omega)]
      simp only [Option.bind_some]
      rw [one_digit h10]
      have l1 := dec_len (k + 1) u h (by omega)
      rw [if_pos (by show (Lib.decDigits u).toArray.size + acc.size ≤ _; rw [List.size_toArray]; omega)]
    · rw [if_pos (by omega)]
      have h' := h
      rw [Nat.pow_succ] at h'
      have hk : 0 < k := by
        rcases Nat.eq_zero_or_pos k with rfl | hk
        · simp at h'; omega
        · exact hk
      have e1 : wrap64 ((u : Int).tdiv 10) = ((u / 10 : Nat) : Int) := by
        rw [Int.tdiv_eq_ediv_of_nonneg (by omega)]
        unfold wrap64
        omega
      have e2 : (u : Int).tmod 10 = ((u % 10 : Nat) : Int) := by
        rw [Int.tmod_eq_emod_of_nonneg (by omega)]
        omega
      simp only [Option.bind_some]
      rw [e1, e2, one_digit (by omega : u % 10 < 10)]
      have l2 : (Lib.decDigits (u % 10)).length = 1 := by rw [Lib.decDigits_one (by omega : u % 10 < 10)]; rfl
      rw [if_pos (by show (Lib.decDigits (u % 10)).toArray.size + acc.size ≤ _; rw [List.size_toArray]; omega)]
      rw [decimal_loop k (u / 10) _ (by omega) (by omega) (by omega) hk (by rw [ByteArray.size_append]; show (Lib.decDigits (u % 10)).toArray.size + acc.size + k ≤ _; rw [List.size_toArray]; omega), ← ByteArray.append_assoc, ba_mk_append (Lib.decDigits (u / 10)) (Lib.decDigits (u % 10))]
      conv => rhs; rw [Lib.decDigits, dif_neg h10]
      rw [Lib.decDigits_one (by omega : u % 10 < 10)]
theorem decimal_itoa (k : Nat) (h0 : 30 ≤ k) (h1 : k ≤ 100000) (u : Nat) (hu : u ≤ 9223372036854775807) : chirographref04_Decimal.f k (u : Int) = some ⟨(Lib.itoa (u : Int)).toArray⟩ := by
  have hp' : 10 ^ 29 ≤ 10 ^ k := Nat.pow_le_pow_right (by omega) (by omega)
  have hc : (10 : Nat) ^ 29 = 100000000000000000000000000000 := by decide
  rw [hc] at hp'
  unfold chirographref04_Decimal.f Lib.itoa
  rw [decimal_loop k u _ h1 hu (by omega) (by omega) (by show 0 + k ≤ _; omega), if_neg (by omega)]
  simp
  exact ByteArray.append_empty
end Go.Proofs.YtkioddjjfifadaaGreatDoor.P
namespace Go.Proofs.YtkioddjjfifadaaGreatDoor.P
open Go.RowKit Go.Proofs.YtkioddjjfifadaaGreatDoorW.PrintWords Go.Proofs.YtkioddjjfifadaaGreatDoorW.PrintLast Go.Proofs.YtkioddjjfifadaaGreatDoorW.PrintMore
attribute [local go_sem] max2_int min2_int max_two min_two max_three min_three max_four min_four   -- for this text's walks alone
set_option linter.unusedVariables false
set_option linter.unusedSimpArgs false
mutual
def chirographref04_Oid.j0 : Nat → List Int → Bool → Option (ByteArray × Int)
  | 0, _, _ => none
  | k + 1, x0, x19 => if x19 = true then (some ((⟨#[]⟩ : ByteArray), 6)) else (chirographref04_Oid.l0 k x0 0)
def chirographref04_Oid.l0 : Nat → List Int → Int → Option (ByteArray × Int)
  | 0, _, _ => none
  | k + 1, x0, x4 => if x4 < (x0.length : Int) then (if 0 ≤ x4 then (if (rd x0 x4) = 128 then (if x4 = 0 then (some ((⟨#[]⟩ : ByteArray), 6)) else (if 0 ≤ (wrap64 (x4 - 1)) then (if (wrap64 (x4 - 1)) < (x0.length : Int) then (if (rd x0 (wrap64 (x4 - 1))) < 128 then (some ((⟨#[]⟩ : ByteArray), 6)) else (chirographref04_Oid.l0 k x0 (wrap64 (x4 + 1)))) else (none)) else (none))) else (chirographref04_Oid.l0 k x0 (wrap64 (x4 + 1)))) else (none)) else (chirographref04_Oid.l1 k x0 (⟨#[]⟩ : ByteArray) 0 0)
def chirographref04_Oid.l1 : Nat → List Int → ByteArray → Int → Int → Option (ByteArray × Int)
  | 0, _, _, _, _ => none
  | k + 1, x0, x5, x6, x7 => if x7 < (x0.length : Int) then (if 0 ≤ x7 then (if (wrap64 ((wrap64 (x6 * 128)) + (wrap64 (Int.tmod (rd x0 x7) 128)))) > 1099511627776 then (chirographref04_Oid.j3 k x0 x5 1099511627776 x7) else (chirographref04_Oid.j3 k x0 x5 (wrap64 ((wrap64 (x6 * 128)) + (wrap64 (Int.tmod (rd x0 x7) 128)))) x7)) else (none)) else (some (x5, 0))
def chirographref04_Oid.j3 : Nat → List Int → ByteArray → Int → Int → Option (ByteArray × Int)
  | 0, _, _, _, _ => none
  | k + 1, x0, x5, x6, x7 => if 0 ≤ x7 then (if x7 < (x0.length : Int) then (if (rd x0 x7) ≥ 128 then (chirographref04_Oid.l1 k x0 x5 x6 (wrap64 (x7 + 1))) else (if x5.toList = ([] : List UInt8) then (if x6 ≥ 80 then (if (wrap64 (x6 - 80)) > 2147483647 then (some ((⟨#[]⟩ : ByteArray), 3)) else (if 1 + 1 ≤ 9223372036854775807 then ((chirographref04_Decimal.f k (wrap64 (x6 - 80))).bind fun t900 => (if 2 + t900.size ≤ 9223372036854775807 then (chirographref04_Oid.l1 k x0 (((⟨#[50]⟩ : ByteArray) ++ (⟨#[46]⟩ : ByteArray)) ++ t900) 0 (wrap64 (x7 + 1))) else (none))) else (none))) else (if x6 ≥ 40 then (if (wrap64 (x6 - 40)) > 2147483647 then (some ((⟨#[]⟩ : ByteArray), 3)) else (if 1 + 1 ≤ 9223372036854775807 then ((chirographref04_Decimal.f k (wrap64 (x6 - 40))).bind fun t901 => (if 2 + t901.size ≤ 9223372036854775807 then (chirographref04_Oid.l1 k x0 (((⟨#[49]⟩ : ByteArray) ++ (⟨#[46]⟩ : ByteArray)) ++ t901) 0 (wrap64 (x7 + 1))) else (none))) else (none))) else (if x6 > 2147483647 then (some ((⟨#[]⟩ : ByteArray), 3)) else (if 1 + 1 ≤ 9223372036854775807 then ((chirographref04_Decimal.f k x6).bind fun t902 => (if 2 + t902.size ≤ 9223372036854775807 then (chirographref04_Oid.l1 k x0 (((⟨#[48]⟩ : ByteArray) ++ (⟨#[46]⟩ : ByteArray)) ++ t902) 0 (wrap64 (x7 + 1))) else (none))) else (none))))) else (if x6 > 2147483647 then (some ((⟨#[]⟩ : ByteArray), 3)) else (if x5.size + 1 ≤ 9223372036854775807 then ((chirographref04_Decimal.f k x6).bind fun t903 => (if (x5 ++ (⟨#[46]⟩ : ByteArray)).size + t903.size ≤ 9223372036854775807 then (chirographref04_Oid.l1 k x0 ((x5 ++ (⟨#[46]⟩ : ByteArray)) ++ t903) 0 (wrap64 (x7 + 1))) else (none))) else (none))))) else (none)) else (none)
end
def chirographref04_Oid.f (k : Nat) (l0 : List Int) : Option (ByteArray × Int) := if (l0.length : Int) = 0 then (chirographref04_Oid.j0 k l0 true) else (if 0 ≤ (wrap64 ((l0.length : Int) - 1)) then (if (wrap64 ((l0.length : Int) - 1)) < (l0.length : Int) then (chirographref04_Oid.j0 k l0 (decide ((rd l0 (wrap64 ((l0.length : Int) - 1))) ≥ 128))) else (none)) else (none))
end Go.Proofs.YtkioddjjfifadaaGreatDoor.P
