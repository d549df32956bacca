/- What the proof of NameBuilds needs of: Pxf125, Pxf65, Lb1, Hr0, Hb0, Hm0, Lt4, Shm, Hb1, Pxf214. -/
import Derived.Laws.RangeString
import Derived.Lib.TrimUEq
import Derived.Deep.LoopGhost
import Derived.Deep.DeepBigQuietO
import Derived.Laws.BytesArg
import Derived.Lib.BytesEntry
import Derived.Lib.Bytealg
import Derived.Deep.MidRow
import Derived.Sort.Walk0
import Derived.Shelf.SlGeneric
import Derived.Shelf.SlLaysF
import Derived.Ground.SlsfProg
import Derived.Test.YtkioddjjfifadaaGreatDoorProg
import Derived.Shelf.SlSortCmp.NoneTotal
import Derived.Test.YtkioddjjfifadaaGreatDoorNb2
import Derived.Test.YtkioddjjfifadaaGreatDoorNb3
set_option linter.unusedVariables false
set_option linter.unusedSimpArgs false
namespace Go.Proofs.YtkioddjjfifadaaGreatDoor.P
open Go.RowKit Go.Proofs.YtkioddjjfifadaaGreatDoorW.PrintWords Go.Proofs.YtkioddjjfifadaaGreatDoorW.PrintLast Go.Proofs.YtkioddjjfifadaaGreatDoorW.PrintMore
attribute [local go_sem] max2_int min2_int max_two min_two max_three min_three max_four min_four   -- for this text's walks alone
set_option linter.unusedVariables false
set_option linter.unusedSimpArgs false
mutual
def chirographref04_arcs.l0 : Nat → ByteArray → List Int → Int → Int → Option (List Int × Bool)
  | 0, _, _, _, _ => none
  | k + 1, x0, x4, x5, x6 => if x6 ≤ (x0.size : Int) then (if x6 < (x0.size : Int) then (if 0 ≤ x6 then (chirographref04_arcs.j1 k x0 x4 x5 x6 ((bt x0 x6) != 46)) else (none)) else (chirographref04_arcs.j1 k x0 x4 x5 x6 false)) else (if (x4.length : Int) ≥ 2 then (if 0 < (x4.length : Int) then (if (rd x4 0) ≤ 2 then (if (rd x4 0) = 2 then (some (x4, true)) else (if 1 < (x4.length : Int) then (some (x4, decide ((rd x4 1) < 40))) else (none))) else (some (x4, false))) else (none)) else (some (x4, false)))
def chirographref04_arcs.j1 : Nat → ByteArray → List Int → Int → Int → Bool → Option (List Int × Bool)
  | 0, _, _, _, _, _ => none
  | k + 1, x0, x4, x5, x6, x24 => if x24 = true then (if 0 ≤ x6 then (if x6 < (x0.size : Int) then (if (bt x0 x6) < 48 then (some (([] : List Int), false)) else (if (bt x0 x6) > 57 then (some (([] : List Int), false)) else (chirographref04_arcs.l0 k x0 x4 x5 (wrap64 (x6 + 1))))) else (none)) else (none)) else (if x6 = x5 then (chirographref04_arcs.j2 k x0 x4 x5 x6 true) else (if 0 ≤ x5 then (if x5 < (x0.size : Int) then (if (bt x0 x5) = 48 then (chirographref04_arcs.j2 k x0 x4 x5 x6 (decide (x6 > (wrap64 (x5 + 1))))) else (chirographref04_arcs.j2 k x0 x4 x5 x6 false)) else (none)) else (none)))
def chirographref04_arcs.j2 : Nat → ByteArray → List Int → Int → Int → Bool → Option (List Int × Bool)
  | 0, _, _, _, _, _ => none
  | k + 1, x0, x4, x5, x6, x49 => if x49 = true then (some (([] : List Int), false)) else (chirographref04_arcs.l1 k x0 x4 x6 0 x5)
def chirographref04_arcs.l1 : Nat → ByteArray → List Int → Int → Int → Int → Option (List Int × Bool)
  | 0, _, _, _, _, _ => none
  | k + 1, x0, x4, x6, x7, x8 => if x8 < x6 then (if 0 ≤ x8 then (if x8 < (x0.size : Int) then (if (wrap64 ((wrap64 (x7 * 10)) + (((bt x0 x8) - 48) % 256))) > 1099511627776 then (chirographref04_arcs.l1 k x0 x4 x6 1099511627776 (wrap64 (x8 + 1))) else (chirographref04_arcs.l1 k x0 x4 x6 (wrap64 ((wrap64 (x7 * 10)) + (((bt x0 x8) - 48) % 256))) (wrap64 (x8 + 1)))) else (none)) else (none)) else (if x4.length < 17592186044416 then (chirographref04_arcs.l0 k x0 (x4 ++ [x7]) (wrap64 (x6 + 1)) (wrap64 (x6 + 1))) else (none))
end
def chirographref04_arcs.f (k : Nat) (a0 : ByteArray) : Option (List Int × Bool) := chirographref04_arcs.l0 k a0 ([] : List Int) 0 0
theorem chirographref04_arcs.mono_l : ∀ k, (∀ y0 y1 y2 y3, LeO (chirographref04_arcs.l0 k y0 y1 y2 y3) (chirographref04_arcs.l0 (k + 1) y0 y1 y2 y3)) ∧ (∀ y0 y1 y2 y3 y4, LeO (chirographref04_arcs.j1 k y0 y1 y2 y3 y4) (chirographref04_arcs.j1 (k + 1) y0 y1 y2 y3 y4)) ∧ (∀ y0 y1 y2 y3 y4, LeO (chirographref04_arcs.j2 k y0 y1 y2 y3 y4) (chirographref04_arcs.j2 (k + 1) y0 y1 y2 y3 y4)) ∧ (∀ y0 y1 y2 y3 y4, LeO (chirographref04_arcs.l1 k y0 y1 y2 y3 y4) (chirographref04_arcs.l1 (k + 1) y0 y1 y2 y3 y4))
  | 0 => ⟨fun _ _ _ _ r h => by simp [chirographref04_arcs.l0] at h, fun _ _ _ _ _ r h => by simp [chirographref04_arcs.j1] at h, fun _ _ _ _ _ r h => by simp [chirographref04_arcs.j2] at h, fun _ _ _ _ _ r h => by simp [chirographref04_arcs.l1] at h⟩
  | k + 1 => by
    obtain ⟨ih0, ih1, ih2, ih3⟩ := chirographref04_arcs.mono_l k
    refine ⟨?_, ?_, ?_, ?_⟩
    · intro y0 y1 y2 y3
      unfold chirographref04_arcs.l0
      repeat' first
      | (with_reducible exact ih0 _ _ _ _)
      | (with_reducible exact ih1 _ _ _ _ _)
      | (with_reducible exact ih2 _ _ _ _ _)
      | (with_reducible exact ih3 _ _ _ _ _)
      | (with_reducible exact LeO.refl _)
      | (with_reducible exact LeO.none _)
      | (with_reducible refine LeO.ite ?_ ?_)
      | (with_reducible refine LeO.bind ?_ (fun _ => ?_))
      | exact ih0 _ _ _ _
      | exact ih1 _ _ _ _ _
      | exact ih2 _ _ _ _ _
      | exact ih3 _ _ _ _ _
      | exact LeO.none _
      | refine LeO.ite ?_ ?_
      | refine LeO.bind ?_ (fun _ => ?_)
    · intro y0 y1 y2 y3 y4
      unfold chirographref04_arcs.j1
      repeat' first
      | (with_reducible exact ih0 _ _ _ _)
      | (with_reducible exact ih1 _ _ _ _ _)
      | (with_reducible exact ih2 _ _ _ _ _)
      | (with_reducible exact ih3 _ _ _ _ _)
      | (with_reducible exact LeO.refl _)
      | (with_reducible exact LeO.none _)
      | (with_reducible refine LeO.ite ?_ ?_)
      | (with_reducible refine LeO.bind ?_ (fun _ => ?_))
      | exact ih0 _ _ _ _
      | exact ih1 _ _ _ _ _
      | exact ih2 _ _ _ _ _
      | exact ih3 _ _ _ _ _
      | exact LeO.none _
      | refine LeO.ite ?_ ?_
      | refine LeO.bind ?_ (fun _ => ?_)
    · intro y0 y1 y2 y3 y4
      unfold chirographref04_arcs.j2
      repeat' first
      | (with_reducible exact ih0 _ _ _ _)
      | (with_reducible exact ih1 _ _ _ _ _)
      | (with_reducible exact ih2 _ _ _ _ _)
      | (with_reducible exact ih3 _ _ _ _ _)
      | (with_reducible exact LeO.refl _)
      | (with_reducible exact LeO.none _)
      | (with_reducible refine LeO.ite ?_ ?_)
      | (with_reducible refine LeO.bind ?_ (fun _ => ?_))
      | exact ih0 _ _ _ _
      | exact ih1 _ _ _ _ _
      | exact ih2 _ _ _ _ _
      | exact ih3 _ _ _ _ _
      | exact LeO.none _
      | refine LeO.ite ?_ ?_
      | refine LeO.bind ?_ (fun _ => ?_)
    · intro y0 y1 y2 y3 y4
      unfold chirographref04_arcs.l1
      repeat' first
      | (with_reducible exact ih0 _ _ _ _)
      | (with_reducible exact ih1 _ _ _ _ _)
      | (with_reducible exact ih2 _ _ _ _ _)
      | (with_reducible exact ih3 _ _ _ _ _)
      | (with_reducible exact LeO.refl _)
      | (with_reducible exact LeO.none _)
      | (with_reducible refine LeO.ite ?_ ?_)
      | (with_reducible refine LeO.bind ?_ (fun _ => ?_))
      | exact ih0 _ _ _ _
      | exact ih1 _ _ _ _ _
      | exact ih2 _ _ _ _ _
      | exact ih3 _ _ _ _ _
      | exact LeO.none _
      | refine LeO.ite ?_ ?_
      | refine LeO.bind ?_ (fun _ => ?_)
set_option maxHeartbeats 8000000 in
set_option maxRecDepth 100000 in
theorem chirographref04_arcs.calls (k : Nat) (a0 : ByteArray) (r1 : List Int) (r2 : Bool) (w : World) (h : chirographref04_arcs.f k a0 = some (r1, r2)) :
    Calls Tryz.prog 125 #[.string a0] w fun e w' => ∃ v0_ : Value, e = .returned (.tuple #[v0_, .bool r2]) ∧ Kd.R (Kd.int .i64) 3 w' w.heap.size (fun _ => True) v0_ r1 ∧ Below w.heap.size w w' := by
  have HB := Aside0.mk (Below.refl w.heap.size w)
  have H : (chirographref04_arcs.l0 k a0 ([] : List Int) 0 0) = some (r1, r2) := h
  clear h
  have H' := Aside0.mk H
  clear H
  go_enter Tryz.func125, Tryz.ntmps125
  go_wp2
  repeat (go_quiet (fail); try go_wp2)
  go_loopg [4, 5, 6] k (fun kq v4 v5 v6 w' => ∃ (x4_1 : List Int) (x5_1 : Int) (x6_1 : Int), v5 = .int .i64 x5_1 ∧ v6 = .int .i64 x6_1 ∧ Aside0 (chirographref04_arcs.l0 kq a0 x4_1 x5_1 x6_1 = some (r1, r2)) ∧ Aside0 (kq ≤ k) ∧ Aside0 (Kd.R (Kd.int .i64) 3 w' w.heap.size (fun _ => True) v4 x4_1) ∧ Aside0 (Below w.heap.size w w'))
  case atStart => exact ⟨(([] : List Int)), (0), (0), (by first | rfl | (simp; done) | (simp [*]; done)), (by first | rfl | (simp; done) | (simp [*]; done)), H', ⟨Nat.le_refl _⟩, ⟨by first | exact Kd.R_nil _ _ _ _ _ | exact Kd.N_nil _ _ _ _ _ | exact Kd.V_nil _ _ _ _ _ | exact Kd.Q_nil _ _ _ _ _ | exact Kd.S_nil _ _ _ _ _⟩, ⟨bU HB.out⟩⟩
  case round =>
    clear H'
    try clear c1
    obtain ⟨x4_1, x5_1, x6_1, rfl, rfl, HA, HK1, HO_4, HB⟩ := hrel
    cases gk with
    | zero => exact absurd HA.out (by simp [chirographref04_arcs.l0])
    | succ k1 =>
      have H := HA.out
      clear HA
      simp only [chirographref04_arcs.l0] at H
      by_cases c2 : x6_1 ≤ (a0.size : Int)
      rotate_left
      · rw [if_neg c2] at H
        have c2b0 : decide (x6_1 ≤ (a0.size : Int)) = false := decide_eq_false c2
        clear c2
        by_cases c28 : (x4_1.length : Int) ≥ 2
        rotate_left
        · rw [if_neg c28] at H
          have c28b0 : decide (2 ≤ (x4_1.length : Int)) = false := decide_eq_false c28
          have c28b1 : decide (2 ≤ x4_1.length) = false := decide_eq_false (by omega)
          clear c28
          simp only [Option.some.injEq, Prod.mk.injEq] at H
          obtain ⟨rfl, rfl⟩ := H
          obtain ⟨Ao36, co36, eo36⟩ := Kd.R_slice HO_4.out
          subst eo36
          go_wp2
          repeat (go_quiet (fail); try go_wp2)
          go_ret2
          exact ⟨_, by first | rfl | (simp [errW_none, errW_some] <;> rfl) | (simp [*, errW_none, errW_some] <;> rfl), by (with_reducible repeat (first | apply Kd.R_alloc | apply Kd.R_drewN | apply Kd.R_drew)); exact HO_4.out, bU HB.out⟩
        rw [if_pos c28] at H
        have c28b0 : decide (2 ≤ (x4_1.length : Int)) = true := decide_eq_true c28
        have c28b1 : decide (2 ≤ x4_1.length) = true := decide_eq_true (by omega)
        clear c28
        by_cases c29 : 0 < (x4_1.length : Int)
        rotate_left
        · rw [if_neg c29] at H
          exact absurd H (by simp)
        rw [if_pos c29] at H
        have c29b0 : decide (0 < (x4_1.length : Int)) = true := decide_eq_true c29
        have c29b1 : decide (0 < x4_1.length) = true := decide_eq_true (by omega)
        clear c29
        by_cases c30 : (rd x4_1 0) ≤ 2
        rotate_left
        · rw [if_neg c30] at H
          have c30b0 : decide ((rd x4_1 0) ≤ 2) = false := decide_eq_false c30
          clear c30
          simp only [Option.some.injEq, Prod.mk.injEq] at H
          obtain ⟨rfl, rfl⟩ := H
          obtain ⟨Ao35, co35, eo35⟩ := Kd.R_slice HO_4.out
          subst eo35
          have p990 : 0 ≤ (0 : Int) := (by omega)
          have q990 : 0 < (x4_1.length : Int) := of_decide_eq_true (by first | (with_reducible assumption) | assumption)
          obtain ⟨ad990, e990, hx990_0⟩ := Kd.at_int (Kd.R_reads' HO_4.out).2.2 0 p990 q990
          cases e990
          have qi990 : (0 < x4_1.length) = True := eq_true (by omega)
          (try rw [show ((0 : Int)).toNat = 0 from rfl] at hx990_0)
          (try rw [Addr.add_zero'] at hx990_0)
          replace p990 := eq_true p990
          replace q990 := eq_true q990
          go_wp2
          repeat (go_quiet (fail); try go_wp2)
          go_ret2
          exact ⟨_, by first | rfl | (simp [errW_none, errW_some] <;> rfl) | (simp [*, errW_none, errW_some] <;> rfl), by (with_reducible repeat (first | apply Kd.R_alloc | apply Kd.R_drewN | apply Kd.R_drew)); exact HO_4.out, bU HB.out⟩
        rw [if_pos c30] at H
        have c30b0 : decide ((rd x4_1 0) ≤ 2) = true := decide_eq_true c30
        clear c30
        by_cases c31 : (rd x4_1 0) = 2
        · rw [if_pos c31] at H
          have c31b0 : ((rd x4_1 0) == 2) = true := beq_iff_eq.mpr c31
          have c31b1 : ((rd x4_1 0) != 2) = false := bne_eq_false_iff_eq.mpr c31
          clear c31
          simp only [Option.some.injEq, Prod.mk.injEq] at H
          obtain ⟨rfl, rfl⟩ := H
          obtain ⟨Ao32, co32, eo32⟩ := Kd.R_slice HO_4.out
          subst eo32
          have p990 : 0 ≤ (0 : Int) := (by omega)
          have q990 : 0 < (x4_1.length : Int) := of_decide_eq_true (by first | (with_reducible assumption) | assumption)
          obtain ⟨ad990, e990, hx990_0⟩ := Kd.at_int (Kd.R_reads' HO_4.out).2.2 0 p990 q990
          cases e990
          have qi990 : (0 < x4_1.length) = True := eq_true (by omega)
          (try rw [show ((0 : Int)).toNat = 0 from rfl] at hx990_0)
          (try rw [Addr.add_zero'] at hx990_0)
          replace p990 := eq_true p990
          replace q990 := eq_true q990
          have p991 : 0 ≤ (0 : Int) := (by omega)
          have q991 : 0 < (x4_1.length : Int) := of_decide_eq_true (by first | (with_reducible assumption) | assumption)
          obtain ⟨ad991, e991, hx991_0⟩ := Kd.at_int (Kd.R_reads' HO_4.out).2.2 0 p991 q991
          obtain rfl : ad990 = ad991 := (by injection e991)
          have qi991 : (0 < x4_1.length) = True := eq_true (by omega)
          (try rw [show ((0 : Int)).toNat = 0 from rfl] at hx991_0)
          (try rw [Addr.add_zero'] at hx991_0)
          replace p991 := eq_true p991
          replace q991 := eq_true q991
          go_wp2
          repeat (go_quiet (fail); try go_wp2)
          go_ret2
          exact ⟨_, by first | rfl | (simp [errW_none, errW_some] <;> rfl) | (simp [*, errW_none, errW_some] <;> rfl), by (with_reducible repeat (first | apply Kd.R_alloc | apply Kd.R_drewN | apply Kd.R_drew)); exact HO_4.out, bU HB.out⟩
        rw [if_neg c31] at H
        have c31b0 : ((rd x4_1 0) == 2) = false := beq_eq_false_iff_ne.mpr c31
        have c31b1 : ((rd x4_1 0) != 2) = true := bne_iff_ne.mpr c31
        by_cases c33 : 1 < (x4_1.length : Int)
        rotate_left
        · rw [if_neg c33] at H
          exact absurd H (by simp)
        rw [if_pos c33] at H
        have c33b0 : decide (1 < (x4_1.length : Int)) = true := decide_eq_true c33
        have c33b1 : decide (1 < x4_1.length) = true := decide_eq_true (by omega)
        clear c33
        simp only [Option.some.injEq, Prod.mk.injEq] at H
        obtain ⟨rfl, rfl⟩ := H
        obtain ⟨Ao34, co34, eo34⟩ := Kd.R_slice HO_4.out
        subst eo34
        have p990 : 0 ≤ (0 : Int) := (by omega)
        have q990 : 0 < (x4_1.length : Int) := of_decide_eq_true (by first | (with_reducible assumption) | assumption)
        obtain ⟨ad990, e990, hx990_0⟩ := Kd.at_int (Kd.R_reads' HO_4.out).2.2 0 p990 q990
        cases e990
        have qi990 : (0 < x4_1.length) = True := eq_true (by omega)
        (try rw [show ((0 : Int)).toNat = 0 from rfl] at hx990_0)
        (try rw [Addr.add_zero'] at hx990_0)
        replace p990 := eq_true p990
        replace q990 := eq_true q990
        have p991 : 0 ≤ (0 : Int) := (by omega)
        have q991 : 0 < (x4_1.length : Int) := of_decide_eq_true (by first | (with_reducible assumption) | assumption)
        obtain ⟨ad991, e991, hx991_0⟩ := Kd.at_int (Kd.R_reads' HO_4.out).2.2 0 p991 q991
        obtain rfl : ad990 = ad991 := (by injection e991)
        have qi991 : (0 < x4_1.length) = True := eq_true (by omega)
        (try rw [show ((0 : Int)).toNat = 0 from rfl] at hx991_0)
        (try rw [Addr.add_zero'] at hx991_0)
        replace p991 := eq_true p991
        replace q991 := eq_true q991
        have p992 : 0 ≤ (1 : Int) := (by omega)
        have q992 : 1 < (x4_1.length : Int) := of_decide_eq_true (by first | (with_reducible assumption) | assumption)
        obtain ⟨ad992, e992, hx992_0⟩ := Kd.at_int (Kd.R_reads' HO_4.out).2.2 1 p992 q992
        obtain rfl : ad990 = ad992 := (by injection e992)
        (try simp only [show (1 : Int).toNat = 1 from rfl, Nat.reduceMul, Nat.reduceEqDiff, Go.Addr.add, ↓reduceIte] at hx992_0)
        have qi992 : (1 < x4_1.length) = True := eq_true (by omega)
        (try rw [show ((1 : Int)).toNat = 1 from rfl] at hx992_0)
        replace p992 := eq_true p992
        replace q992 := eq_true q992
        go_wp2
        repeat (go_quiet (fail); try go_wp2)
        go_ret2
        exact ⟨_, by first | rfl | (simp [errW_none, errW_some] <;> rfl) | (simp [*, errW_none, errW_some] <;> rfl), by (with_reducible repeat (first | apply Kd.R_alloc | apply Kd.R_drewN | apply Kd.R_drew)); exact HO_4.out, bU HB.out⟩
      rw [if_pos c2] at H
      have c2b0 : decide (x6_1 ≤ (a0.size : Int)) = true := decide_eq_true c2
      clear c2
      have HC3 := Aside0.mk H
      clear H
      go_upto_region 6 with (fail)
      repeat (go_quiet (fail); go_upto_region 6 with (fail))
      go_cut [24] (fun v24 wc => ∃ (kq : Nat) (x24_2 : Bool), v24 = .bool x24_2 ∧ Aside0 (chirographref04_arcs.j1 kq a0 x4_1 x5_1 x6_1 x24_2 = some (r1, r2)) ∧ Aside0 (kq ≤ k1) ∧ Aside0 (Kd.R (Kd.int .i64) 3 wc w.heap.size (fun _ => True) u4 x4_1) ∧ Aside0 (Below w.heap.size w wc))
      case first =>
        have H := HC3.out
        clear HC3
        by_cases c4 : x6_1 < (a0.size : Int)
        rotate_left
        · rw [if_neg c4] at H
          have c4b0 : decide (x6_1 < (a0.size : Int)) = false := decide_eq_false c4
          clear c4
          (first | rw [c4b0] | (simp only [i64_w, i32_w]; rw [c4b0]) | skip)
          have H' := Aside0.mk H
          clear H
          go_wp2
          repeat (go_quiet (fail); try go_wp2)
          go_meet
          case rel => exact ⟨_, (false), (by first | rfl | (simp; done) | (simp [*]; done)), H', ⟨by have := HK1.out; first | omega | exact Nat.le_refl _⟩, ⟨Kd.R_u HO_4.out⟩, ⟨bU HB.out⟩⟩
        rw [if_pos c4] at H
        have c4b0 : decide (x6_1 < (a0.size : Int)) = true := decide_eq_true c4
        clear c4
        (first | rw [c4b0] | (simp only [i64_w, i32_w]; rw [c4b0]) | skip)
        by_cases c5 : 0 ≤ x6_1
        rotate_left
        · rw [if_neg c5] at H
          exact absurd H (by simp)
        rw [if_pos c5] at H
        have c5b0 : decide (0 ≤ x6_1) = true := decide_eq_true c5
        clear c5
        have H' := Aside0.mk H
        clear H
        have p6 : 0 ≤ (x6_1 : Int) := of_decide_eq_true (by first | (with_reducible assumption) | assumption)
        have q6 : x6_1 < (a0.size : Int) := of_decide_eq_true (by first | (with_reducible assumption) | assumption)
        have hx6 := bt_at a0 x6_1
        replace p6 := eq_true p6
        replace q6 := eq_true q6
        go_wp2
        repeat (go_quiet (fail); try go_wp2)
        go_meet
        case rel => exact ⟨_, (((bt a0 x6_1) != 46)), (by first | rfl | (simp; done) | (simp [*]; done)), H', ⟨by have := HK1.out; first | omega | exact Nat.le_refl _⟩, ⟨Kd.R_u HO_4.out⟩, ⟨bU HB.out⟩⟩
      clear HC3
      try clear c1
      try clear c2
      try clear c2b0
      try clear p2
      try clear c4
      try clear c4b0
      try clear c5
      try clear c5b0
      try clear p6
      try clear q6
      try clear hx6
      try clear p6
      try clear q6
      obtain ⟨kq, x24_2, rfl, HA, HJ2, HO_4, HB⟩ := hcut
      cases kq with
      | zero => exact absurd HA.out (by simp [chirographref04_arcs.j1])
      | succ kj2 =>
        have H := HA.out
        clear HA
        simp only [chirographref04_arcs.j1] at H
        by_cases c7 : x24_2 = true
        · subst c7
          have H1 : (if 0 ≤ x6_1 then (if x6_1 < (a0.size : Int) then (if (bt a0 x6_1) < 48 then (some (([] : List Int), false)) else (if (bt a0 x6_1) > 57 then (some (([] : List Int), false)) else (chirographref04_arcs.l0 kj2 a0 x4_1 x5_1 (wrap64 (x6_1 + 1))))) else (none)) else (none)) = some (r1, r2) := by rw [if_pos rfl] at H; exact H
          clear H
          have H := H1
          clear H1
          by_cases c8 : 0 ≤ x6_1
          rotate_left
          · rw [if_neg c8] at H
            exact absurd H (by simp)
          rw [if_pos c8] at H
          have c8b0 : decide (0 ≤ x6_1) = true := decide_eq_true c8
          clear c8
          by_cases c9 : x6_1 < (a0.size : Int)
          rotate_left
          · rw [if_neg c9] at H
            exact absurd H (by simp)
          rw [if_pos c9] at H
          have c9b0 : decide (x6_1 < (a0.size : Int)) = true := decide_eq_true c9
          clear c9
          by_cases c11 : (bt a0 x6_1) < 48
          · rw [if_pos c11] at H
            have c11b0 : decide ((bt a0 x6_1) < 48) = true := decide_eq_true c11
            clear c11
            simp only [Option.some.injEq, Prod.mk.injEq] at H
            obtain ⟨rfl, rfl⟩ := H
            have p10 : 0 ≤ (x6_1 : Int) := of_decide_eq_true (by first | (with_reducible assumption) | assumption)
            have q10 : x6_1 < (a0.size : Int) := of_decide_eq_true (by first | (with_reducible assumption) | assumption)
            have hx10 := bt_at a0 x6_1
            replace p10 := eq_true p10
            replace q10 := eq_true q10
            go_wp2
            repeat (go_quiet (fail); try go_wp2)
            go_ret2
            exact ⟨_, by first | rfl | (simp [errW_none, errW_some] <;> rfl) | (simp [*, errW_none, errW_some] <;> rfl), by first | exact Kd.R_nil _ _ _ _ _ | exact Kd.N_nil _ _ _ _ _ | exact Kd.V_nil _ _ _ _ _ | exact Kd.Q_nil _ _ _ _ _ | exact Kd.S_nil _ _ _ _ _, bU HB.out⟩
          rw [if_neg c11] at H
          have c11b0 : decide ((bt a0 x6_1) < 48) = false := decide_eq_false c11
          clear c11
          by_cases c13 : (bt a0 x6_1) > 57
          · rw [if_pos c13] at H
            have c13b0 : decide (57 < (bt a0 x6_1)) = true := decide_eq_true c13
            clear c13
            simp only [Option.some.injEq, Prod.mk.injEq] at H
            obtain ⟨rfl, rfl⟩ := H
            have p10 : 0 ≤ (x6_1 : Int) := of_decide_eq_true (by first | (with_reducible assumption) | assumption)
            have q10 : x6_1 < (a0.size : Int) := of_decide_eq_true (by first | (with_reducible assumption) | assumption)
            have hx10 := bt_at a0 x6_1
            replace p10 := eq_true p10
            replace q10 := eq_true q10
            have p12 : 0 ≤ (x6_1 : Int) := of_decide_eq_true (by first | (with_reducible assumption) | assumption)
            have q12 : x6_1 < (a0.size : Int) := of_decide_eq_true (by first | (with_reducible assumption) | assumption)
            have hx12 := bt_at a0 x6_1
            replace p12 := eq_true p12
            replace q12 := eq_true q12
            go_wp2
            repeat (go_quiet (fail); try go_wp2)
            go_ret2
            exact ⟨_, by first | rfl | (simp [errW_none, errW_some] <;> rfl) | (simp [*, errW_none, errW_some] <;> rfl), by first | exact Kd.R_nil _ _ _ _ _ | exact Kd.N_nil _ _ _ _ _ | exact Kd.V_nil _ _ _ _ _ | exact Kd.Q_nil _ _ _ _ _ | exact Kd.S_nil _ _ _ _ _, bU HB.out⟩
          rw [if_neg c13] at H
          have c13b0 : decide (57 < (bt a0 x6_1)) = false := decide_eq_false c13
          clear c13
          have H' := Aside0.mk H
          clear H
          have p10 : 0 ≤ (x6_1 : Int) := of_decide_eq_true (by first | (with_reducible assumption) | assumption)
          have q10 : x6_1 < (a0.size : Int) := of_decide_eq_true (by first | (with_reducible assumption) | assumption)
          have hx10 := bt_at a0 x6_1
          replace p10 := eq_true p10
          replace q10 := eq_true q10
          have p12 : 0 ≤ (x6_1 : Int) := of_decide_eq_true (by first | (with_reducible assumption) | assumption)
          have q12 : x6_1 < (a0.size : Int) := of_decide_eq_true (by first | (with_reducible assumption) | assumption)
          have hx12 := bt_at a0 x6_1
          replace p12 := eq_true p12
          replace q12 := eq_true q12
          go_wp2
          repeat (go_quiet (fail); try go_wp2)
          go_roundg kj2
          case measure => have := HK1.out; have := HJ2.out; omega
          case rel => exact ⟨(x4_1), (x5_1), (wrap64 (x6_1 + 1)), (by first | rfl | (simp; done) | (simp [*]; done)), (by first | rfl | (simp; done) | (simp [*]; done)), H', ⟨by have := HK1.out; have := HJ2.out; omega⟩, ⟨Kd.R_u HO_4.out⟩, ⟨bU HB.out⟩⟩
        replace c7 := Bool.eq_false_iff.mpr c7
        subst c7
        have H1 : (if x6_1 = x5_1 then (chirographref04_arcs.j2 kj2 a0 x4_1 x5_1 x6_1 true) else (if 0 ≤ x5_1 then (if x5_1 < (a0.size : Int) then (if (bt a0 x5_1) = 48 then (chirographref04_arcs.j2 kj2 a0 x4_1 x5_1 x6_1 (decide (x6_1 > (wrap64 (x5_1 + 1))))) else (chirographref04_arcs.j2 kj2 a0 x4_1 x5_1 x6_1 false)) else (none)) else (none))) = some (r1, r2) := by rw [if_neg (show ¬ (false = true) by decide)] at H; exact H
        clear H
        have H := H1
        clear H1
        have HC14 := Aside0.mk H
        clear H
        go_upto_region 9 with (fail)
        repeat (go_quiet (fail); go_upto_region 9 with (fail))
        go_cut [49] (fun v49 wc => ∃ (kq : Nat) (x49_13 : Bool), v49 = .bool x49_13 ∧ Aside0 (chirographref04_arcs.j2 kq a0 x4_1 x5_1 x6_1 x49_13 = some (r1, r2)) ∧ Aside0 (kq ≤ kj2) ∧ Aside0 (Kd.R (Kd.int .i64) 3 wc w.heap.size (fun _ => True) u4 x4_1) ∧ Aside0 (Below w.heap.size w wc))
        case first =>
          have H := HC14.out
          clear HC14
          by_cases c15 : x6_1 = x5_1
          · rw [if_pos c15] at H
            have c15b0 : (x6_1 == x5_1) = true := beq_iff_eq.mpr c15
            have c15b1 : (x6_1 != x5_1) = false := bne_eq_false_iff_eq.mpr c15
            clear c15
            (first | rw [c15b0] | (simp only [i64_w, i32_w]; rw [c15b0]) | skip)
            have H' := Aside0.mk H
            clear H
            go_wp2
            repeat (go_quiet (fail); try go_wp2)
            go_meet
            case rel => exact ⟨_, (true), (by first | rfl | (simp; done) | (simp [*]; done)), H', ⟨by have := HK1.out; have := HJ2.out; first | omega | exact Nat.le_refl _⟩, ⟨Kd.R_u HO_4.out⟩, ⟨bU HB.out⟩⟩
          rw [if_neg c15] at H
          have c15b0 : (x6_1 == x5_1) = false := beq_eq_false_iff_ne.mpr c15
          have c15b1 : (x6_1 != x5_1) = true := bne_iff_ne.mpr c15
          (first | rw [c15b0] | (simp only [i64_w, i32_w]; rw [c15b0]) | skip)
          by_cases c16 : 0 ≤ x5_1
          rotate_left
          · rw [if_neg c16] at H
            exact absurd H (by simp)
          rw [if_pos c16] at H
          have c16b0 : decide (0 ≤ x5_1) = true := decide_eq_true c16
          clear c16
          by_cases c17 : x5_1 < (a0.size : Int)
          rotate_left
          · rw [if_neg c17] at H
            exact absurd H (by simp)
          rw [if_pos c17] at H
          have c17b0 : decide (x5_1 < (a0.size : Int)) = true := decide_eq_true c17
          clear c17
          by_cases c19 : (bt a0 x5_1) = 48
          rotate_left
          · rw [if_neg c19] at H
            have c19b0 : ((bt a0 x5_1) == 48) = false := beq_eq_false_iff_ne.mpr c19
            have c19b1 : ((bt a0 x5_1) != 48) = true := bne_iff_ne.mpr c19
            have H' := Aside0.mk H
            clear H
            have p18 : 0 ≤ (x5_1 : Int) := of_decide_eq_true (by first | (with_reducible assumption) | assumption)
            have q18 : x5_1 < (a0.size : Int) := of_decide_eq_true (by first | (with_reducible assumption) | assumption)
            have hx18 := bt_at a0 x5_1
            replace p18 := eq_true p18
            replace q18 := eq_true q18
            go_wp2
            repeat (go_quiet (fail); try go_wp2)
            go_meet
            case rel => exact ⟨_, (false), (by first | rfl | (simp; done) | (simp [*]; done)), H', ⟨by have := HK1.out; have := HJ2.out; first | omega | exact Nat.le_refl _⟩, ⟨Kd.R_u HO_4.out⟩, ⟨bU HB.out⟩⟩
          rw [if_pos c19] at H
          have c19b0 : ((bt a0 x5_1) == 48) = true := beq_iff_eq.mpr c19
          have c19b1 : ((bt a0 x5_1) != 48) = false := bne_eq_false_iff_eq.mpr c19
          clear c19
          have H' := Aside0.mk H
          clear H
          have p18 : 0 ≤ (x5_1 : Int) := of_decide_eq_true (by first | (with_reducible assumption) | assumption)
          have q18 : x5_1 < (a0.size : Int) := of_decide_eq_true (by first | (with_reducible assumption) | assumption)
          have hx18 := bt_at a0 x5_1
          replace p18 := eq_true p18
          replace q18 := eq_true q18
          go_wp2
          repeat (go_quiet (fail); try go_wp2)
          go_meet
          case rel => exact ⟨_, (decide (x6_1 > (wrap64 (x5_1 + 1)))), (by first | rfl | (simp; done) | (simp [*]; done)), H', ⟨by have := HK1.out; have := HJ2.out; first | omega | exact Nat.le_refl _⟩, ⟨Kd.R_u HO_4.out⟩, ⟨bU HB.out⟩⟩
        clear HC14
        try clear c1
        try clear p1
        try clear q1
        try clear hx1
        try clear c2
        try clear c2b0
        try clear p2
        try clear c4
        try clear c4b0
        try clear c5
        try clear c5b0
        try clear p6
        try clear q6
        try clear hx6
        try clear c7
        try clear c8
        try clear c8b0
        try clear c9
        try clear c9b0
        try clear p10
        try clear q10
        try clear hx10
        try clear c11
        try clear c11b0
        try clear c12
        try clear p12
        try clear q12
        try clear hx12
        try clear c13
        try clear c13b0
        try clear c15
        try clear c15b0
        try clear c15b1
        try clear c16
        try clear c16b0
        try clear c17
        try clear c17b0
        try clear p18
        try clear q18
        try clear hx18
        try clear c19
        try clear c19b0
        try clear c19b1
        try clear p10
        try clear p12
        try clear p18
        try clear p2
        try clear p6
        try clear q10
        try clear q12
        try clear q18
        try clear q6
        obtain ⟨kq, x49_13, rfl, HA, HJ13, HO_4, HB⟩ := hcut
        cases kq with
        | zero => exact absurd HA.out (by simp [chirographref04_arcs.j2])
        | succ kj13 =>
          have H := HA.out
          clear HA
          simp only [chirographref04_arcs.j2] at H
          by_cases c20 : x49_13 = true
          · subst c20
            have H1 : (some (([] : List Int), false)) = some (r1, r2) := by rw [if_pos rfl] at H; exact H
            clear H
            have H := H1
            clear H1
            simp only [Option.some.injEq, Prod.mk.injEq] at H
            obtain ⟨rfl, rfl⟩ := H
            go_wp2
            repeat (go_quiet (fail); try go_wp2)
            go_ret2
            exact ⟨_, by first | rfl | (simp [errW_none, errW_some] <;> rfl) | (simp [*, errW_none, errW_some] <;> rfl), by first | exact Kd.R_nil _ _ _ _ _ | exact Kd.N_nil _ _ _ _ _ | exact Kd.V_nil _ _ _ _ _ | exact Kd.Q_nil _ _ _ _ _ | exact Kd.S_nil _ _ _ _ _, bU HB.out⟩
          replace c20 := Bool.eq_false_iff.mpr c20
          subst c20
          have H1 : (chirographref04_arcs.l1 kj13 a0 x4_1 x6_1 0 x5_1) = some (r1, r2) := by rw [if_neg (show ¬ (false = true) by decide)] at H; exact H
          clear H
          have H := H1
          clear H1
          have H' := Aside0.mk H
          clear H
          go_wp2
          repeat (go_quiet (fail); try go_wp2)
          go_loopg [7, 8] kj13 (fun kq v7 v8 w' => ∃ (x7_4 : Int) (x8_4 : Int), v7 = .int .i64 x7_4 ∧ v8 = .int .i64 x8_4 ∧ Aside0 (chirographref04_arcs.l1 kq a0 x4_1 x6_1 x7_4 x8_4 = some (r1, r2)) ∧ Aside0 (kq ≤ kj13) ∧ Aside0 (Kd.R (Kd.int .i64) 3 w' w.heap.size (fun _ => True) u4 x4_1) ∧ Aside0 (Below w.heap.size w w'))
          case atStart => exact ⟨(0), (x5_1), (by first | rfl | (simp; done) | (simp [*]; done)), (by first | rfl | (simp; done) | (simp [*]; done)), H', ⟨Nat.le_refl _⟩, ⟨Kd.R_u HO_4.out⟩, ⟨bU HB.out⟩⟩
          case round =>
            clear H'
            try clear c1
            try clear p1
            try clear q1
            try clear hx1
            try clear c2
            try clear c2b0
            try clear p2
            try clear c4
            try clear c4b0
            try clear c5
            try clear c5b0
            try clear p6
            try clear q6
            try clear hx6
            try clear c7
            try clear c8
            try clear c8b0
            try clear c9
            try clear c9b0
            try clear p10
            try clear q10
            try clear hx10
            try clear c11
            try clear c11b0
            try clear c12
            try clear p12
            try clear q12
            try clear hx12
            try clear c13
            try clear c13b0
            try clear c15
            try clear c15b0
            try clear c15b1
            try clear c16
            try clear c16b0
            try clear c17
            try clear c17b0
            try clear p18
            try clear q18
            try clear hx18
            try clear c19
            try clear c19b0
            try clear c19b1
            try clear c20
            try clear p1
            try clear p10
            try clear p12
            try clear p18
            try clear p2
            try clear p6
            try clear q1
            try clear q10
            try clear q12
            try clear q18
            try clear q6
            obtain ⟨x7_4, x8_4, rfl, rfl, HA, HK4, HO_4, HB⟩ := hrel
            cases gk with
            | zero => exact absurd HA.out (by simp [chirographref04_arcs.l1])
            | succ k4 =>
              have H := HA.out
              clear HA
              simp only [chirographref04_arcs.l1] at H
              by_cases c21 : x8_4 < x6_1
              rotate_left
              · rw [if_neg c21] at H
                have c21b0 : decide (x8_4 < x6_1) = false := decide_eq_false c21
                clear c21
                by_cases c26 : x4_1.length < 17592186044416
                rotate_left
                · rw [if_neg c26] at H
                  exact absurd H (by simp)
                rw [if_pos c26] at H
                have LMc26 := Aside0.mk c26
                clear c26
                obtain ⟨y993, hy993⟩ : ∃ y_ : List Int, y_ = (x4_1 ++ [x7_4]) := ⟨_, rfl⟩
                replace H : (chirographref04_arcs.l0 k4 a0 y993 (wrap64 (x6_1 + 1)) (wrap64 (x6_1 + 1))) = some (r1, r2) := by first | (rw [hy993]; with_reducible exact H) | (have H2_ := (Option.bind_some _ _).symm.trans H; rw [hy993]; with_reducible exact H2_) | (have H2_ := (Option.bind_some _ _).symm.trans H; with_reducible exact H2_) | with_reducible exact H | (rw [hy993]; exact H) | exact H
                have Ny993 := Aside0.mk hy993
                clear hy993
                have H' := Aside0.mk H
                clear H
                go_wp2_with (first | ((with_reducible refine gate_builtin (b := .append) (xs := #[.tmp 66, .tmp 68]) rfl ?_); at_builtin; refine Kd.R_append (Kd.int .i64) (w0 := w) w.heap.size rfl (.tmp 66) (.tmp 68) 31 3 (.int .i64 0) 8 rfl Tryz.underlying31 info3 rfl (by decide) (by omega) u4 x4_1 x7_4 [.int .i64 x7_4] (fun _ => True) (fun _ => False) rfl rfl ?aP (fun _ hk => hk.elim) ?aF ?aO ?aB ?aS ?aL ?_; (case aP => exact rfl); (case aB => exact (bU HB.out)); (case aF => exact (fun _ _ => trivial)); (case aO => exact (Kd.R_u HO_4.out)); (case aS => exact (below_size (bU HB.out))); (case aL => have := LMc26.out; omega); intro v994 w27 ho hb hg hat; rw [← Ny993.out] at ho; have n0_ := Aside0.mk (hb); have n1_ := Aside0.mk (ho); clear HB; clear HO_4; have HB := n0_; have HO995 := n1_; clear n0_ n1_; clear ho hb hg hat))
                repeat (go_quiet (first | ((with_reducible refine gate_builtin (b := .append) (xs := #[.tmp 66, .tmp 68]) rfl ?_); at_builtin; refine Kd.R_append (Kd.int .i64) (w0 := w) w.heap.size rfl (.tmp 66) (.tmp 68) 31 3 (.int .i64 0) 8 rfl Tryz.underlying31 info3 rfl (by decide) (by omega) u4 x4_1 x7_4 [.int .i64 x7_4] (fun _ => True) (fun _ => False) rfl rfl ?aP (fun _ hk => hk.elim) ?aF ?aO ?aB ?aS ?aL ?_; (case aP => exact rfl); (case aB => exact (bU HB.out)); (case aF => exact (fun _ _ => trivial)); (case aO => exact (Kd.R_u HO_4.out)); (case aS => exact (below_size (bU HB.out))); (case aL => have := LMc26.out; omega); intro v994 w27 ho hb hg hat; rw [← Ny993.out] at ho; have n0_ := Aside0.mk (hb); have n1_ := Aside0.mk (ho); clear HB; clear HO_4; have HB := n0_; have HO995 := n1_; clear n0_ n1_; clear ho hb hg hat)); try go_wp2_with (first | ((with_reducible refine gate_builtin (b := .append) (xs := #[.tmp 66, .tmp 68]) rfl ?_); at_builtin; refine Kd.R_append (Kd.int .i64) (w0 := w) w.heap.size rfl (.tmp 66) (.tmp 68) 31 3 (.int .i64 0) 8 rfl Tryz.underlying31 info3 rfl (by decide) (by omega) u4 x4_1 x7_4 [.int .i64 x7_4] (fun _ => True) (fun _ => False) rfl rfl ?aP (fun _ hk => hk.elim) ?aF ?aO ?aB ?aS ?aL ?_; (case aP => exact rfl); (case aB => exact (bU HB.out)); (case aF => exact (fun _ _ => trivial)); (case aO => exact (Kd.R_u HO_4.out)); (case aS => exact (below_size (bU HB.out))); (case aL => have := LMc26.out; omega); intro v994 w27 ho hb hg hat; rw [← Ny993.out] at ho; have n0_ := Aside0.mk (hb); have n1_ := Aside0.mk (ho); clear HB; clear HO_4; have HB := n0_; have HO995 := n1_; clear n0_ n1_; clear ho hb hg hat)))
                go_roundg k4
                case measure => have := HK1.out; have := HJ2.out; have := HJ13.out; have := HK4.out; omega
                case rel => exact ⟨(y993), (wrap64 (x6_1 + 1)), (wrap64 (x6_1 + 1)), (by first | rfl | (simp; done) | (simp [*]; done)), (by first | rfl | (simp; done) | (simp [*]; done)), H', ⟨by have := HK1.out; have := HJ2.out; have := HJ13.out; have := HK4.out; omega⟩, ⟨Kd.R_u HO995.out⟩, ⟨bU HB.out⟩⟩
              rw [if_pos c21] at H
              have c21b0 : decide (x8_4 < x6_1) = true := decide_eq_true c21
              clear c21
              by_cases c22 : 0 ≤ x8_4
              rotate_left
              · rw [if_neg c22] at H
                exact absurd H (by simp)
              rw [if_pos c22] at H
              have c22b0 : decide (0 ≤ x8_4) = true := decide_eq_true c22
              clear c22
              by_cases c23 : x8_4 < (a0.size : Int)
              rotate_left
              · rw [if_neg c23] at H
                exact absurd H (by simp)
              rw [if_pos c23] at H
              have c23b0 : decide (x8_4 < (a0.size : Int)) = true := decide_eq_true c23
              clear c23
              by_cases c25 : (wrap64 ((wrap64 (x7_4 * 10)) + (((bt a0 x8_4) - 48) % 256))) > 1099511627776
              rotate_left
              · rw [if_neg c25] at H
                have c25b0 : decide (1099511627776 < (wrap64 ((wrap64 (x7_4 * 10)) + (((bt a0 x8_4) - 48) % 256)))) = false := decide_eq_false c25
                clear c25
                have H' := Aside0.mk H
                clear H
                have p24 : 0 ≤ (x8_4 : Int) := of_decide_eq_true (by first | (with_reducible assumption) | assumption)
                have q24 : x8_4 < (a0.size : Int) := of_decide_eq_true (by first | (with_reducible assumption) | assumption)
                have hx24 := bt_at a0 x8_4
                replace p24 := eq_true p24
                replace q24 := eq_true q24
                go_wp2
                repeat (go_quiet (fail); try go_wp2)
                go_roundg k4
                case measure => have := HK1.out; have := HJ2.out; have := HJ13.out; have := HK4.out; omega
                case rel => exact ⟨(wrap64 ((wrap64 (x7_4 * 10)) + (((bt a0 x8_4) - 48) % 256))), (wrap64 (x8_4 + 1)), (by first | rfl | (simp; done) | (simp [*]; done)), (by first | rfl | (simp; done) | (simp [*]; done)), H', ⟨by have := HK1.out; have := HJ2.out; have := HJ13.out; have := HK4.out; omega⟩, ⟨Kd.R_u HO_4.out⟩, ⟨bU HB.out⟩⟩
              rw [if_pos c25] at H
              have c25b0 : decide (1099511627776 < (wrap64 ((wrap64 (x7_4 * 10)) + (((bt a0 x8_4) - 48) % 256)))) = true := decide_eq_true c25
              clear c25
              have H' := Aside0.mk H
              clear H
              have p24 : 0 ≤ (x8_4 : Int) := of_decide_eq_true (by first | (with_reducible assumption) | assumption)
              have q24 : x8_4 < (a0.size : Int) := of_decide_eq_true (by first | (with_reducible assumption) | assumption)
              have hx24 := bt_at a0 x8_4
              replace p24 := eq_true p24
              replace q24 := eq_true q24
              go_wp2
              repeat (go_quiet (fail); try go_wp2)
              go_roundg k4
              case measure => have := HK1.out; have := HJ2.out; have := HJ13.out; have := HK4.out; omega
              case rel => exact ⟨(1099511627776), (wrap64 (x8_4 + 1)), (by first | rfl | (simp; done) | (simp [*]; done)), (by first | rfl | (simp; done) | (simp [*]; done)), H', ⟨by have := HK1.out; have := HJ2.out; have := HJ13.out; have := HK4.out; omega⟩, ⟨Kd.R_u HO_4.out⟩, ⟨bU HB.out⟩⟩
end Go.Proofs.YtkioddjjfifadaaGreatDoor.P
namespace Go.Proofs.YtkioddjjfifadaaGreatDoor.P
open Go.RowKit Go.Proofs.YtkioddjjfifadaaGreatDoorW.PrintWords Go.Proofs.YtkioddjjfifadaaGreatDoorW.PrintLast Go.Proofs.YtkioddjjfifadaaGreatDoorW.PrintMore
attribute [local go_sem] max2_int min2_int max_two min_two max_three min_three max_four min_four   -- for this text's walks alone
set_option linter.unusedVariables false
set_option linter.unusedSimpArgs false
mutual
def chirographref04_PutOid.l0 : Nat → List Int → Int → Option (List Int × Int)
  | 0, _, _ => none
  | k + 1, x4, x6 => if x6 < (x4.length : Int) then (if 0 ≤ x6 then (if (rd x4 x6) > 2147483647 then (some (([] : List Int), 3)) else (chirographref04_PutOid.l0 k x4 (wrap64 (x6 + 1)))) else (none)) else (if 1 < (x4.length : Int) then (if 0 < (x4.length : Int) then (chirographref04_PutOid.l1 k (x4.set (1 : Int).toNat (wrap64 ((rd x4 1) + (wrap64 (40 * (rd x4 0)))))) ([] : List Int) 1) else (none)) else (none))
def chirographref04_PutOid.l1 : Nat → List Int → List Int → Int → Option (List Int × Int)
  | 0, _, _, _ => none
  | k + 1, x4, x7, x8 => if x8 < (x4.length : Int) then (if 0 ≤ x8 then (chirographref04_PutOid.l2 k x4 x7 x8 (([(Int.tmod (rd x4 x8) 128) % 256] : List Int)) (wrap64 (Int.tdiv (rd x4 x8) 128))) else (none)) else (some (x7, 0))
def chirographref04_PutOid.l2 : Nat → List Int → List Int → Int → List Int → Int → Option (List Int × Int)
  | 0, _, _, _, _, _ => none
  | k + 1, x4, x7, x8, x9, x10 => if x10 > 0 then ((some (([(wrap64 ((Int.tmod x10 128) + 128)) % 256] : List Int) : List Int)).bind fun y1009 => (if y1009.length + x9.length < 140737488355328 then (chirographref04_PutOid.l2 k x4 x7 x8 (y1009 ++ x9) (wrap64 (Int.tdiv x10 128))) else (none))) else (if x7.length + x9.length < 140737488355328 then (chirographref04_PutOid.l1 k x4 (x7 ++ x9) (wrap64 (x8 + 1))) else (none))
end
def chirographref04_PutOid.f (k : Nat) (a0 : ByteArray) : Option (List Int × Int) := (chirographref04_arcs.f k a0).bind fun bt996 => (if bt996.2 = true then (chirographref04_PutOid.l0 k bt996.1 0) else (some (([] : List Int), 6)))
def chirographref04_PutOid.T9 : Bool × List (List Nat × List Nat) := (true, [([], []), ([], []), ([1], [1]), ([2], [2]), ([], []), ([4], [4]), ([5], [5]), ([6], [6]), ([3, 7], [3, 7]), ([0, 0, 1, 2, 3, 4, 5, 6, 7, 8], [0]), ([9, 8, 0, 1, 2, 3, 4, 5, 6, 7, 8], [8, 9])])
def chirographref04_PutOid.B9 : List Nat := [0, 0, 2, 6, 0, 16, 48, 112, 254, 511, 1023]
theorem chirographref04_PutOid.tab9 : rtab .any (opsOf Tryz.f65 9) = chirographref04_PutOid.T9 := by kernel_rfl
theorem chirographref04_PutOid.bits9 : waitsOk chirographref04_PutOid.T9.2 chirographref04_PutOid.B9 = true := by kernel_rfl
set_option maxHeartbeats 8000000 in
set_option maxRecDepth 100000 in
theorem chirographref04_PutOid.calls (k : Nat) (a0 : ByteArray) (r1 : List Int) (r2 : Int) (w : World) (h : chirographref04_PutOid.f k a0 = some (r1, r2)) :
    Calls Tryz.prog 65 #[.string a0] w fun e w' => ∃ v0_ : Value, e = .returned (.tuple #[v0_, .int .i64 r2]) ∧ Kd.R (Kd.int .u8) 5 w' w.heap.size (fun _ => True) v0_ r1 ∧ Below w.heap.size w w' := by
  have HB := Aside0.mk (Below.refl w.heap.size w)
  have H : ((chirographref04_arcs.f k a0).bind fun bt996 => (if bt996.2 = true then (chirographref04_PutOid.l0 k bt996.1 0) else (some (([] : List Int), 6)))) = some (r1, r2) := h
  clear h
  replace H := Option.bind_eq_some_iff.mp H
  obtain ⟨⟨t996, t997⟩, A20, H⟩ := H
  replace H : (if t997 = true then (chirographref04_PutOid.l0 k t996 0) else (some (([] : List Int), 6))) = some (r1, r2) := H
  have A2 := Aside0.mk A20
  clear A20
  by_cases c3 : t997 = true
  rotate_left
  · replace c3 := Bool.eq_false_iff.mpr c3
    subst c3
    have H1 : (some (([] : List Int), 6)) = some (r1, r2) := by rw [if_neg (show ¬ (false = true) by decide)] at H; exact H
    clear H
    have H := H1
    clear H1
    simp only [Option.some.injEq, Prod.mk.injEq] at H
    obtain ⟨rfl, rfl⟩ := H
    go_enter Tryz.func65, Tryz.ntmps65
    go_wp2_with (first | ((with_reducible refine gate_callee (f := 125) rfl ?_); refine goesL_ (some 13) rfl rfl Tryz.func125 (by kernel_rfl) rfl #[.string a0] rfl (by (try simp only [List.map_toArray, List.map_cons, List.map_nil]); first | done | rfl | (simp only [List.length_drop, List.length_take]; rfl)) ?_; (with_reducible refine (chirographref04_arcs.calls k a0 t996 false _ A2.out).mono ?_); rintro e w29 ⟨v998, rfl, ho0, hb⟩; refine ⟨_, rfl, ?_⟩; have n0_ := Aside0.mk (Kd.R_lower ho0 (below_size (bU HB.out))); have n1_ := Aside0.mk (below_step (bU HB.out) hb); clear HB; have HO999 := n0_; have HB := n1_; clear n0_ n1_; (try clear hb); (try clear hb2); (try clear hk); (try clear hi); (try clear ho0)))
    go_ret2
    exact ⟨_, by first | rfl | (simp [errW_none, errW_some] <;> rfl) | (simp [*, errW_none, errW_some] <;> rfl), by first | exact Kd.R_nil _ _ _ _ _ | exact Kd.N_nil _ _ _ _ _ | exact Kd.V_nil _ _ _ _ _ | exact Kd.Q_nil _ _ _ _ _ | exact Kd.S_nil _ _ _ _ _, bU HB.out⟩
  subst c3
  have H1 : (chirographref04_PutOid.l0 k t996 0) = some (r1, r2) := by rw [if_pos rfl] at H; exact H
  clear H
  have H := H1
  clear H1
  have H' := Aside0.mk H
  clear H
  go_enter Tryz.func65, Tryz.ntmps65
  go_wp2_with (first | ((with_reducible refine gate_callee (f := 125) rfl ?_); refine goesL_ (some 13) rfl rfl Tryz.func125 (by kernel_rfl) rfl #[.string a0] rfl (by (try simp only [List.map_toArray, List.map_cons, List.map_nil]); first | done | rfl | (simp only [List.length_drop, List.length_take]; rfl)) ?_; (with_reducible refine (chirographref04_arcs.calls k a0 t996 true _ A2.out).mono ?_); rintro e w4 ⟨v998, rfl, ho0, hb⟩; refine ⟨_, rfl, ?_⟩; have n0_ := Aside0.mk (Kd.R_lower ho0 (below_size (bU HB.out))); have n1_ := Aside0.mk (below_step (bU HB.out) hb); clear HB; have HO999 := n0_; have HB := n1_; clear n0_ n1_; (try clear hb); (try clear hb2); (try clear hk); (try clear hi); (try clear ho0)))
  go_loopg [6] k (fun kq v6 w' => ∃ (x6_1 : Int), v6 = .int .i64 x6_1 ∧ Aside0 (chirographref04_PutOid.l0 kq t996 x6_1 = some (r1, r2)) ∧ Aside0 (kq ≤ k) ∧ Aside0 (Kd.R (Kd.int .i64) 3 w' w.heap.size (fun _ => True) v998 t996) ∧ Aside0 (Below w.heap.size w w'))
  case atStart => exact ⟨(0), (by first | rfl | (simp; done) | (simp [*]; done)), H', ⟨Nat.le_refl _⟩, ⟨Kd.R_u HO999.out⟩, ⟨bU HB.out⟩⟩
  case round =>
    clear H'
    try clear c1
    try clear p2
    try clear c3
    obtain ⟨x6_1, rfl, HA, HK1, HO_4, HB⟩ := hrel
    cases gk with
    | zero => exact absurd HA.out (by simp [chirographref04_PutOid.l0])
    | succ k1 =>
      have H := HA.out
      clear HA
      simp only [chirographref04_PutOid.l0] at H
      by_cases c5 : x6_1 < (t996.length : Int)
      · rw [if_pos c5] at H
        have c5b0 : decide (x6_1 < (t996.length : Int)) = true := decide_eq_true c5
        clear c5
        by_cases c6 : 0 ≤ x6_1
        rotate_left
        · rw [if_neg c6] at H
          exact absurd H (by simp)
        rw [if_pos c6] at H
        have c6b0 : decide (0 ≤ x6_1) = true := decide_eq_true c6
        clear c6
        by_cases c7 : (rd t996 x6_1) > 2147483647
        · rw [if_pos c7] at H
          have c7b0 : decide (2147483647 < (rd t996 x6_1)) = true := decide_eq_true c7
          clear c7
          simp only [Option.some.injEq, Prod.mk.injEq] at H
          obtain ⟨rfl, rfl⟩ := H
          obtain ⟨Ao8, co8, eo8⟩ := Kd.R_slice HO_4.out
          subst eo8
          have p1000 : 0 ≤ (x6_1 : Int) := of_decide_eq_true (by first | (with_reducible assumption) | assumption)
          have q1000 : x6_1 < (t996.length : Int) := of_decide_eq_true (by first | (with_reducible assumption) | assumption)
          obtain ⟨ad1000, e1000, hx1000_0⟩ := Kd.at_int (Kd.R_reads' HO_4.out).2.2 x6_1 p1000 q1000
          cases e1000
          replace p1000 := eq_true p1000
          replace q1000 := eq_true q1000
          go_wp2
          go_ret2
          exact ⟨_, by first | rfl | (simp [errW_none, errW_some] <;> rfl) | (simp [*, errW_none, errW_some] <;> rfl), by first | exact Kd.R_nil _ _ _ _ _ | exact Kd.N_nil _ _ _ _ _ | exact Kd.V_nil _ _ _ _ _ | exact Kd.Q_nil _ _ _ _ _ | exact Kd.S_nil _ _ _ _ _, bU HB.out⟩
        rw [if_neg c7] at H
        have c7b0 : decide (2147483647 < (rd t996 x6_1)) = false := decide_eq_false c7
        clear c7
        have H' := Aside0.mk H
        clear H
        obtain ⟨Ao9, co9, eo9⟩ := Kd.R_slice HO_4.out
        subst eo9
        have p1000 : 0 ≤ (x6_1 : Int) := of_decide_eq_true (by first | (with_reducible assumption) | assumption)
        have q1000 : x6_1 < (t996.length : Int) := of_decide_eq_true (by first | (with_reducible assumption) | assumption)
        obtain ⟨ad1000, e1000, hx1000_0⟩ := Kd.at_int (Kd.R_reads' HO_4.out).2.2 x6_1 p1000 q1000
        cases e1000
        replace p1000 := eq_true p1000
        replace q1000 := eq_true q1000
        go_wp2
        go_roundg k1
        case measure => have := HK1.out; omega
        case rel => exact ⟨(wrap64 (x6_1 + 1)), (by first | rfl | (simp; done) | (simp [*]; done)), H', ⟨by have := HK1.out; omega⟩, ⟨Kd.R_u HO_4.out⟩, ⟨bU HB.out⟩⟩
      rw [if_neg c5] at H
      have c5b0 : decide (x6_1 < (t996.length : Int)) = false := decide_eq_false c5
      clear c5
      by_cases c10 : 1 < (t996.length : Int)
      rotate_left
      · rw [if_neg c10] at H
        exact absurd H (by simp)
      rw [if_pos c10] at H
      have c10b0 : decide (1 < (t996.length : Int)) = true := decide_eq_true c10
      have c10b1 : decide (1 < t996.length) = true := decide_eq_true (by omega)
      clear c10
      by_cases c11 : 0 < (t996.length : Int)
      rotate_left
      · rw [if_neg c11] at H
        exact absurd H (by simp)
      rw [if_pos c11] at H
      have c11b0 : decide (0 < (t996.length : Int)) = true := decide_eq_true c11
      have c11b1 : decide (0 < t996.length) = true := decide_eq_true (by omega)
      clear c11
      obtain ⟨y1003, hy1003⟩ : ∃ y_ : List Int, y_ = (t996.set (1 : Int).toNat (wrap64 ((rd t996 1) + (wrap64 (40 * (rd t996 0)))))) := ⟨_, rfl⟩
      replace H : (chirographref04_PutOid.l1 k1 y1003 ([] : List Int) 1) = some (r1, r2) := by first | (rw [hy1003]; with_reducible exact H) | (have H2_ := (Option.bind_some _ _).symm.trans H; rw [hy1003]; with_reducible exact H2_) | (have H2_ := (Option.bind_some _ _).symm.trans H; with_reducible exact H2_) | with_reducible exact H | (rw [hy1003]; exact H) | exact H
      have Ny1003 := Aside0.mk hy1003
      clear hy1003
      have H' := Aside0.mk H
      clear H
      obtain ⟨Ao13, co13, eo13⟩ := Kd.R_slice HO_4.out
      subst eo13
      try go_wp2
      have n0_ := Aside0.mk (Kd.R_drew HO_4.out)
      have n1_ := Aside0.mk (below_drew1 HB.out)
      clear HO_4
      clear HB
      have HO_4 := n0_
      have HB := n1_
      clear n0_ n1_
      have p1001 : 0 ≤ (1 : Int) := (by omega)
      have q1001 : 1 < (t996.length : Int) := of_decide_eq_true (by first | (with_reducible assumption) | assumption)
      obtain ⟨ad1001, e1001, hx1001_0⟩ := Kd.at_int (Kd.R_reads' HO_4.out).2.2 1 p1001 q1001
      cases e1001
      (try simp only [show (1 : Int).toNat = 1 from rfl, Nat.reduceMul, Nat.reduceEqDiff, Go.Addr.add, ↓reduceIte] at hx1001_0)
      have qi1001 : (1 < t996.length) = True := eq_true (by omega)
      (try rw [show ((1 : Int)).toNat = 1 from rfl] at hx1001_0)
      replace p1001 := eq_true p1001
      replace q1001 := eq_true q1001
      have p1002 : 0 ≤ (0 : Int) := (by omega)
      have q1002 : 0 < (t996.length : Int) := of_decide_eq_true (by first | (with_reducible assumption) | assumption)
      obtain ⟨ad1002, e1002, hx1002_0⟩ := Kd.at_int (Kd.R_reads' HO_4.out).2.2 0 p1002 q1002
      obtain rfl : ad1001 = ad1002 := (by injection e1002)
      have qi1002 : (0 < t996.length) = True := eq_true (by omega)
      (try rw [show ((0 : Int)).toNat = 0 from rfl] at hx1002_0)
      (try rw [Addr.add_zero'] at hx1002_0)
      replace p1002 := eq_true p1002
      replace q1002 := eq_true q1002
      have p12 : 0 ≤ (1 : Int) := (by omega)
      have q12 : (1 : Int) < ((t996.length : Int) : Int) := of_decide_eq_true (by first | (with_reducible assumption) | assumption)
      have qi12 : (1 < t996.length) = True := eq_true (by omega)
      obtain ⟨go12, co12, eo12, gb12, gl12, cl12, HG12⟩ := Kd.R_form HO_4.out (by omega)
      (first | cases eo12 | (injection eo12 with ea_ en_ ec_; (first | subst ea_ | (injection ea_ with ea_; subst ea_)); subst ec_; clear en_))
      have GB12 := Aside0.mk gb12
      have GG12 := Aside0.mk HG12
      clear gb12 gl12 HG12
      (first | simp only [add_plain] at hx1001_0 | skip)
      (first | simp only [add_plain] at hx1002_0 | skip)
      obtain ⟨hx12_0, hf12_0⟩ := Kd.R_celln 0 HO_4.out (1 : Int) p12 q12
      (try rw [show ((1 : Int)).toNat = 1 from rfl] at hx12_0)
      (try simp only [Nat.reduceMul, Nat.zero_mul, Nat.zero_add, Nat.reduceAdd] at hx12_0)
      (try rw [show ((1 : Int)).toNat = 1 from rfl] at hf12_0)
      (try simp only [Nat.reduceMul, Nat.zero_mul, Nat.zero_add, Nat.reduceAdd] at hf12_0)
      replace p12 := eq_true p12
      replace q12 := eq_true q12
      have HP15 := Kd.R_putn HO_4.out (1 : Int) (wrap64 ((rd t996 1) + (wrap64 (40 * (rd t996 0)))))
      rw [← Ny1003.out] at HP15
      have HQ15 := Aside0.mk HP15
      clear HP15
      refine start_ (n := 11) (S := fun w' => w'.cell? ⟨go12, 1, none⟩ = some (.int .i64 (rd t996 1)) ∧ w'.cell? ⟨go12, 0, none⟩ = some (.int .i64 (rd t996 0))) (ds := [10]) #[false, false, false, false, false, false, false, false, false, false, false] (by kernel_rfl) rfl rfl ⟨hx1001_0, hx1002_0⟩ (fun hHeld => ?_); refine with_tabW chirographref04_PutOid.tab9 chirographref04_PutOid.bits9 (fun HT_ HW_ => ?_)
      generalize wr.drew = w14 at HO_4 HB GG12 HQ15 hf12_0 hx1001_0 hx1002_0 hx12_0 hHeld ⊢
      refine pure_ (i := 0) (N := some 29) (v := ?_) (a' := ?_) #[true, false, false, false, false, false, false, false, false, false, false] rfl rfl (any_of HT_.out (by kernel_rfl)) (fun _ _ _ h => h) (Or.inl ⟨by rfl, ?_⟩) ?_ ?_; rotate_left; (intro w'; go_simp; with_reducible rfl); rotate_left; (simp only [Act.put, List.setIfInBounds_toArray, List.set_cons_zero, List.set_cons_succ, i64_w, i32_w]; rfl)
      refine pure_ (i := 1) (N := some 30) (v := ?_) (a' := ?_) #[true, true, false, false, false, false, false, false, false, false, false] rfl rfl (any_of HT_.out (by kernel_rfl)) (fun _ _ _ h => h) (Or.inl ⟨by rfl, ?_⟩) ?_ ?_; rotate_left; (intro w'; go_simp; with_reducible rfl); rotate_left; (simp only [Act.put, List.setIfInBounds_toArray, List.set_cons_zero, List.set_cons_succ, i64_w, i32_w]; rfl)
      refine pure_ (i := 2) (N := some 31) (v := ?_) (a' := ?_) #[true, true, true, false, false, false, false, false, false, false, false] rfl rfl (any_of HT_.out (by kernel_rfl)) (fun _ _ _ h => h) (Or.inl ⟨by rfl, ?_⟩) ?_ ?_; rotate_left; (intro w'; go_simp; with_reducible rfl); rotate_left; (simp only [Act.put, List.setIfInBounds_toArray, List.set_cons_zero, List.set_cons_succ, i64_w, i32_w]; rfl)
      refine pure_ (i := 4) (N := some 33) (v := ?_) (a' := ?_) #[true, true, true, false, true, false, false, false, false, false, false] rfl rfl (any_of HT_.out (by kernel_rfl)) (fun _ _ _ h => h) (Or.inl ⟨by rfl, ?_⟩) ?_ ?_; rotate_left; (intro w'; go_simp; with_reducible rfl); rotate_left; (simp only [Act.put, List.setIfInBounds_toArray, List.set_cons_zero, List.set_cons_succ, i64_w, i32_w]; rfl)
      refine pure_ (i := 5) (N := some 34) (v := ?_) (a' := ?_) #[true, true, true, false, true, true, false, false, false, false, false] rfl rfl (any_of HT_.out (by kernel_rfl)) (fun _ _ _ h => h) (Or.inl ⟨by rfl, ?_⟩) ?_ ?_; rotate_left; (intro w'; go_simp; with_reducible rfl); rotate_left; (simp only [Act.put, List.setIfInBounds_toArray, List.set_cons_zero, List.set_cons_succ, i64_w, i32_w]; rfl)
      refine take_ (i := 3) (N := some 32) (v := ?_) (a' := ?_) #[true, true, true, true, true, true, false, false, false, false, false] rfl rfl (take_ofW HT_.out HW_.out (by kernel_rfl)) (fun _ _ _ h => h) (Or.inl ⟨by rfl, ?_⟩) hHeld ?_ ?_; rotate_left; (rintro w' ⟨s0, s1⟩; go_simp; with_reducible rfl); rotate_left; (simp only [Act.put, List.setIfInBounds_toArray, List.set_cons_zero, List.set_cons_succ, i64_w, i32_w]; rfl)
      refine take_ (i := 6) (N := some 35) (v := ?_) (a' := ?_) #[true, true, true, true, true, true, true, false, false, false, false] rfl rfl (take_ofW HT_.out HW_.out (by kernel_rfl)) (fun _ _ _ h => h) (Or.inl ⟨by rfl, ?_⟩) hHeld ?_ ?_; rotate_left; (rintro w' ⟨s0, s1⟩; go_simp; with_reducible rfl); rotate_left; (simp only [Act.put, List.setIfInBounds_toArray, List.set_cons_zero, List.set_cons_succ, i64_w, i32_w]; rfl)
      refine pure_ (i := 7) (N := some 36) (v := ?_) (a' := ?_) #[true, true, true, true, true, true, true, true, false, false, false] rfl rfl (any_of HT_.out (by kernel_rfl)) (fun _ _ _ h => h) (Or.inl ⟨by rfl, ?_⟩) ?_ ?_; rotate_left; (intro w'; go_simp; with_reducible rfl); rotate_left; (simp only [Act.put, List.setIfInBounds_toArray, List.set_cons_zero, List.set_cons_succ, i64_w, i32_w]; rfl)
      refine pure_ (i := 8) (N := some 37) (v := ?_) (a' := ?_) #[true, true, true, true, true, true, true, true, true, false, false] rfl rfl (any_of HT_.out (by kernel_rfl)) (fun _ _ _ h => h) (Or.inl ⟨by rfl, ?_⟩) ?_ ?_; rotate_left; (intro w'; go_simp; with_reducible rfl); rotate_left; (simp only [Act.put, List.setIfInBounds_toArray, List.set_cons_zero, List.set_cons_succ, i64_w, i32_w]; rfl)
      refine pure_ (i := 9) (N := some 38) (v := ?_) (a' := ?_) #[true, true, true, true, true, true, true, true, true, true, false] rfl rfl (any_of HT_.out (by kernel_rfl)) (fun _ _ _ h => h) (Or.inl ⟨by rfl, ?_⟩) ?_ ?_; rotate_left; (intro w'; go_simp; with_reducible rfl); rotate_left; (simp only [Act.put, List.setIfInBounds_toArray, List.set_cons_zero, List.set_cons_succ, i64_w, i32_w]; rfl)
      refine last_ (i := 10) (N := none) #[true, true, true, true, true, true, true, true, true, true, true] rfl rfl (one_of HT_.out (by kernel_rfl)) (by decide) (fun K hK => ?_)
      refine skip_ (w1 := ?_) (by rfl) rfl ?_ ?_; rotate_left; (go_simp; rfl)
      refine hK.out _ _ ?_
      clear hK K
      refine done_ (done_of HT_.out (by kernel_rfl)) ?_
      try go_wp2
      go_loopg [7, 8] k1 (fun kq v7 v8 w' => ∃ (x7_2 : List Int) (x8_2 : Int), v8 = .int .i64 x8_2 ∧ Aside0 (chirographref04_PutOid.l1 kq y1003 x7_2 x8_2 = some (r1, r2)) ∧ Aside0 (kq ≤ k1) ∧ Aside0 (Kd.R (Kd.int .i64) 3 w' w.heap.size (fun _ => True) (.slice (some ⟨go12, 0, none⟩) t996.length co13) y1003) ∧ Aside0 (Kd.R (Kd.int .u8) 5 w' w.heap.size (fun _ => True) v7 x7_2) ∧ Aside0 (Below w.heap.size w w'))
      case atStart => exact ⟨(([] : List Int)), (1), (by first | rfl | (simp; done) | (simp [*]; done)), H', ⟨Nat.le_refl _⟩, ⟨by (with_reducible repeat (first | apply Kd.R_alloc | apply Kd.R_drewN | apply Kd.R_drew)); exact HQ15.out⟩, ⟨by first | exact Kd.R_nil _ _ _ _ _ | exact Kd.N_nil _ _ _ _ _ | exact Kd.V_nil _ _ _ _ _ | exact Kd.Q_nil _ _ _ _ _ | exact Kd.S_nil _ _ _ _ _⟩, ⟨by repeat (first | (with_reducible first | exact HB.out | apply below_alloc | apply pw_below_drewN | apply below_drew1 | refine below_set ?_ GB12.out) | exact HB.out)⟩⟩
      case round =>
        clear H'
        try clear c1
        try clear p1
        try clear q1
        try clear hx1
        try clear qi1
        try clear hf1
        try clear p2
        try clear c3
        try clear c5
        try clear c5b0
        try clear c6
        try clear c6b0
        try clear p6
        try clear c7
        try clear c7b0
        try clear c10
        try clear c10b0
        try clear c10b1
        try clear p10
        try clear q10
        try clear hx10
        try clear qi10
        try clear c11
        try clear c11b0
        try clear c11b1
        try clear c12
        try clear p12
        try clear q12
        try clear hx12
        try clear qi12
        try clear hf12
        try clear hx1000_0
        try clear hx1001_0
        try clear hx1002_0
        try clear hx12_0
        try clear p1000
        try clear p1001
        try clear p1002
        try clear p12
        try clear p2
        try clear q1000
        try clear q1001
        try clear q1002
        try clear q12
        obtain ⟨x7_2, x8_2, rfl, HA, HK2, HO_4, HO_7, HB⟩ := hrel
        have hl4_2 := (Kd.R_reads' HO_4.out).1
        rw [hl4_2] at HO_4
        (try simp only [hl4_2])
        (try simp only [hl4_2] at HO_7)
        cases gk with
        | zero => exact absurd HA.out (by simp [chirographref04_PutOid.l1])
        | succ k2 =>
          have H := HA.out
          clear HA
          simp only [chirographref04_PutOid.l1] at H
          by_cases c16 : x8_2 < (y1003.length : Int)
          rotate_left
          · rw [if_neg c16] at H
            have c16b0 : decide (x8_2 < (y1003.length : Int)) = false := decide_eq_false c16
            clear c16
            simp only [Option.some.injEq, Prod.mk.injEq] at H
            obtain ⟨rfl, rfl⟩ := H
            go_wp2
            go_ret2
            exact ⟨_, by first | rfl | (simp [errW_none, errW_some] <;> rfl) | (simp [*, errW_none, errW_some] <;> rfl), by (with_reducible repeat (first | apply Kd.R_alloc | apply Kd.R_drewN | apply Kd.R_drew)); exact HO_7.out, bU HB.out⟩
          rw [if_pos c16] at H
          have c16b0 : decide (x8_2 < (y1003.length : Int)) = true := decide_eq_true c16
          clear c16
          by_cases c17 : 0 ≤ x8_2
          rotate_left
          · rw [if_neg c17] at H
            exact absurd H (by simp)
          rw [if_pos c17] at H
          have c17b0 : decide (0 ≤ x8_2) = true := decide_eq_true c17
          clear c17
          obtain ⟨y1005, hy1005⟩ : ∃ y_ : List Int, y_ = (([(Int.tmod (rd y1003 x8_2) 128) % 256] : List Int)) := ⟨_, rfl⟩
          replace H : (chirographref04_PutOid.l2 k2 y1003 x7_2 x8_2 y1005 (wrap64 (Int.tdiv (rd y1003 x8_2) 128))) = some (r1, r2) := by first | (rw [hy1005]; with_reducible exact H) | (have H2_ := (Option.bind_some _ _).symm.trans H; rw [hy1005]; with_reducible exact H2_) | (have H2_ := (Option.bind_some _ _).symm.trans H; with_reducible exact H2_) | with_reducible exact H | (rw [hy1005]; exact H) | exact H
          have Ny1005 := Aside0.mk hy1005
          clear hy1005
          have H' := Aside0.mk H
          clear H
          have p1004 : 0 ≤ (x8_2 : Int) := of_decide_eq_true (by first | (with_reducible assumption) | assumption)
          have q1004 : x8_2 < (y1003.length : Int) := of_decide_eq_true (by first | (with_reducible assumption) | assumption)
          obtain ⟨ad1004, e1004, hx1004_0⟩ := Kd.at_int (Kd.R_reads' HO_4.out).2.2 x8_2 p1004 q1004
          obtain rfl : (⟨go12, 0, none⟩ : Addr) = ad1004 := (by injection e1004)
          (first | simp only [add_plain] at hx1004_0 | simp only [add_at] at hx1004_0 | simp only [Addr.add, Nat.zero_add] at hx1004_0 | skip)
          replace p1004 := eq_true p1004
          replace q1004 := eq_true q1004
          go_wp2_with (first | ((with_reducible refine gate_dst (N := 51) rfl ?_); refine Kd.R_lit (Kd.int .u8) _ 5 ?hg (N := 51) ?hd (xs := ([(Int.tmod (rd y1003 x8_2) 128) % 256] : List Int)) (inner := [.int .u8 ((Int.tmod (rd y1003 x8_2) 128) % 256)]) (ok := fun _ => True) (okp := fun _ => True) ?hr ?hp (fun _ hk => hk) trivial (Below.refl _ _) (Nat.le_refl _) (by simp) ?_; (case hd => rfl); (case hg => rfl); (case hr => first | (go_simp; done) | (go_simp; rfl)); (case hp => exact (Reps.one (show Kd.M (Kd.int .u8) _ _ _ ((Int.tmod (rd y1003 x8_2) 128) % 256) [.int .u8 ((Int.tmod (rd y1003 x8_2) 128) % 256)] from rfl) (Reps.none _ _))); intro v1006 w18 ho19 hb hg_ hnew_; clear hg_ hnew_; (first | rw [← Ny1005.out] at ho19 | (simp only [Int.reduceToNat] at ho19; rw [← Ny1005.out] at ho19)); have n0_ := Aside0.mk (Kd.R_below (Kd.R_u HO_4.out) hb); have n1_ := Aside0.mk (Kd.R_elder' (Kd.R_u HO_7.out) (Kd.R_base ho19) hb); have n2_ := Aside0.mk (Kd.R_lower (Kd.R_new' ho19 (Kd.R_lt (Kd.R_u HO_7.out))) (below_size (bU HB.out))); have n3_ := Aside0.mk (below_step (bU HB.out) hb); clear HO_4; clear HO_7; clear HB; have HO_4 := n0_; have HO_7 := n1_; have HO1007 := n2_; have HB := n3_; clear n0_ n1_ n2_ n3_; clear hb ho19; have p1008 : 0 ≤ (x8_2 : Int) := of_decide_eq_true (by first | (with_reducible assumption) | assumption); have q1008 : x8_2 < (y1003.length : Int) := of_decide_eq_true (by first | (with_reducible assumption) | assumption); obtain ⟨ad1008, e1008, hx1008_0⟩ := Kd.at_int (Kd.R_reads' HO_4.out).2.2 x8_2 p1008 q1008; obtain rfl : (⟨go12, 0, none⟩ : Addr) = ad1008 := (by injection e1008); (first | simp only [add_plain] at hx1008_0 | simp only [add_at] at hx1008_0 | simp only [Addr.add, Nat.zero_add] at hx1008_0 | skip); replace p1008 := eq_true p1008; replace q1008 := eq_true q1008))
          go_loopg [9, 10] k2 (fun kq v9 v10 w' => ∃ (x9_3 : List Int) (x10_3 : Int), v10 = .int .i64 x10_3 ∧ Aside0 (chirographref04_PutOid.l2 kq y1003 x7_2 x8_2 x9_3 x10_3 = some (r1, r2)) ∧ Aside0 (kq ≤ k2) ∧ Aside0 (Kd.R (Kd.int .i64) 3 w' w.heap.size (fun _ => True) (.slice (some ⟨go12, 0, none⟩) y1003.length co13) y1003) ∧ Aside0 (Kd.R (Kd.int .u8) 5 w' w.heap.size (fun k_ => some k_ ≠ (v9 : Value).ownBlock) u7 x7_2) ∧ Aside0 (Kd.R (Kd.int .u8) 5 w' w.heap.size (fun k_ => some k_ ≠ (u7 : Value).ownBlock) v9 x9_3) ∧ Aside0 (Below w.heap.size w w'))
          case atStart => exact ⟨(y1005), (wrap64 (Int.tdiv (rd y1003 x8_2) 128)), (by first | rfl | (simp; done) | (simp [*]; done)), H', ⟨Nat.le_refl _⟩, ⟨by (try simp only [hl4_2]); (with_reducible repeat (first | apply Kd.R_alloc | apply Kd.R_drewN | apply Kd.R_drew)); exact HO_4.out⟩, ⟨by (try simp only [hl4_2]); (with_reducible repeat (first | apply Kd.R_alloc | apply Kd.R_drewN | apply Kd.R_drew)); exact Kd.R_mono HO_7.out (fun _ hk => hk.2)⟩, ⟨by (try simp only [hl4_2]); (with_reducible repeat (first | apply Kd.R_alloc | apply Kd.R_drewN | apply Kd.R_drew)); exact Kd.R_mono HO1007.out (fun _ hk => hk.2)⟩, ⟨bU HB.out⟩⟩
          case round =>
            clear H'
            try clear c1
            try clear p1
            try clear q1
            try clear hx1
            try clear qi1
            try clear hf1
            try clear p2
            try clear c3
            try clear c5
            try clear c5b0
            try clear c6
            try clear c6b0
            try clear p6
            try clear c7
            try clear c7b0
            try clear c10
            try clear c10b0
            try clear c10b1
            try clear p10
            try clear q10
            try clear hx10
            try clear qi10
            try clear c11
            try clear c11b0
            try clear c11b1
            try clear c12
            try clear p12
            try clear q12
            try clear hx12
            try clear qi12
            try clear hf12
            try clear c16
            try clear c16b0
            try clear c17
            try clear c17b0
            try clear hx1000_0
            try clear hx1001_0
            try clear hx1002_0
            try clear hx1004_0
            try clear hx1008_0
            try clear hx12_0
            try clear p1
            try clear p10
            try clear p1000
            try clear p1001
            try clear p1002
            try clear p1004
            try clear p1008
            try clear p12
            try clear p2
            try clear p6
            try clear q1
            try clear q10
            try clear q1000
            try clear q1001
            try clear q1002
            try clear q1004
            try clear q1008
            try clear q12
            obtain ⟨x9_3, x10_3, rfl, HA, HK3, HO_4, HO_7, HO_9, HB⟩ := hrel
            cases gk with
            | zero => exact absurd HA.out (by simp [chirographref04_PutOid.l2])
            | succ k3 =>
              have H := HA.out
              clear HA
              simp only [chirographref04_PutOid.l2] at H
              by_cases c20 : x10_3 > 0
              rotate_left
              · rw [if_neg c20] at H
                have c20b0 : decide (0 < x10_3) = false := decide_eq_false c20
                clear c20
                by_cases c26 : x7_2.length + x9_3.length < 140737488355328
                rotate_left
                · rw [if_neg c26] at H
                  exact absurd H (by simp)
                rw [if_pos c26] at H
                have LMc26 := Aside0.mk c26
                clear c26
                obtain ⟨y1015, hy1015⟩ : ∃ y_ : List Int, y_ = (x7_2 ++ x9_3) := ⟨_, rfl⟩
                replace H : (chirographref04_PutOid.l1 k3 y1003 y1015 (wrap64 (x8_2 + 1))) = some (r1, r2) := by first | (rw [hy1015]; with_reducible exact H) | (have H2_ := (Option.bind_some _ _).symm.trans H; rw [hy1015]; with_reducible exact H2_) | (have H2_ := (Option.bind_some _ _).symm.trans H; with_reducible exact H2_) | with_reducible exact H | (rw [hy1015]; exact H) | exact H
                have Ny1015 := Aside0.mk hy1015
                clear hy1015
                have H' := Aside0.mk H
                clear H
                obtain ⟨Ao28, co28, eo28⟩ := Kd.R_slice HO_9.out
                subst eo28
                go_wp2_with (first | ((with_reducible refine gate_builtin (b := .append) (xs := #[.tmp 68, .tmp 69]) rfl ?_); at_builtin; refine Kd.R_append_rows (Kd.int .u8) (w0 := w) w.heap.size rfl (.tmp 68) (.tmp 69) 22 5 (.int .u8 0) 1 rfl Tryz.underlying22 info5 rfl (by decide) (by omega) u7 x7_2 x9_3 _ _ _ (fun k_ => some k_ ≠ (.slice Ao28 x9_3.length co28 : Value).ownBlock) (fun _ => False) rfl rfl ?aO ?aR (fun _ _ h => h) (fun _ h => h.elim) ?aF ?aB ?aS ?aL ?_; (case aR => exact Kd.C_u (Kd.R_reads' HO_9.out).2.2); (case aB => exact (bU HB.out)); (case aF => exact (fun k_ hk => Kd.fresh' (Kd.R_lt (Kd.R_u HO_9.out)) k_ hk)); (case aO => exact (Kd.R_u HO_7.out)); (case aS => exact (below_size (bU HB.out))); (case aL => have := LMc26.out; omega); intro v1016 w27 ho hb hg hat; rw [← Ny1015.out] at ho; have n0_ := Aside0.mk (Kd.R_over' (Kd.R_u HO_4.out) (Kd.R_typed (Kd.R_u HO_7.out)) (by decide) hg); have n1_ := Aside0.mk (Kd.R_after (ok := (fun _ => True)) (Kd.R_u (Kd.R_mono HO_9.out (fun _ hk => ⟨trivial, hk⟩))) hg hat); have n2_ := Aside0.mk (hb); have n3_ := Aside0.mk (ho); clear HO_4; clear HO_9; clear HB; clear HO_7; have HO_4 := n0_; have HO_9 := n1_; have HB := n2_; have HO1017 := n3_; clear n0_ n1_ n2_ n3_; clear ho hb hg hat))
                (try simp only [← hl4_2])
                go_roundg k3
                case measure => have := HK1.out; have := HK2.out; have := HK3.out; omega
                case rel => exact ⟨(y1015), (wrap64 (x8_2 + 1)), (by first | rfl | (simp; done) | (simp [*]; done)), H', ⟨by have := HK1.out; have := HK2.out; have := HK3.out; omega⟩, ⟨by (try simp only [hl4_2]); (with_reducible repeat (first | apply Kd.R_alloc | apply Kd.R_drewN | apply Kd.R_drew)); exact HO_4.out⟩, ⟨by (try simp only [hl4_2]); (with_reducible repeat (first | apply Kd.R_alloc | apply Kd.R_drewN | apply Kd.R_drew)); exact Kd.R_mono HO1017.out (fun _ hk => trivial)⟩, ⟨bU HB.out⟩⟩
              rw [if_pos c20] at H
              have c20b0 : decide (0 < x10_3) = true := decide_eq_true c20
              clear c20
              obtain ⟨y1009, hy1009⟩ : ∃ y_ : List Int, y_ = (([(wrap64 ((Int.tmod x10_3 128) + 128)) % 256] : List Int)) := ⟨_, rfl⟩
              replace H : (if y1009.length + x9_3.length < 140737488355328 then (chirographref04_PutOid.l2 k3 y1003 x7_2 x8_2 (y1009 ++ x9_3) (wrap64 (Int.tdiv x10_3 128))) else (none)) = some (r1, r2) := by first | (rw [hy1009]; with_reducible exact H) | (have H2_ := (Option.bind_some _ _).symm.trans H; rw [hy1009]; with_reducible exact H2_) | (have H2_ := (Option.bind_some _ _).symm.trans H; with_reducible exact H2_) | with_reducible exact H | (rw [hy1009]; exact H) | exact H
              have Ny1009 := Aside0.mk hy1009
              clear hy1009
              by_cases c21 : y1009.length + x9_3.length < 140737488355328
              rotate_left
              · rw [if_neg c21] at H
                exact absurd H (by simp)
              rw [if_pos c21] at H
              have LMc21 := Aside0.mk c21
              clear c21
              obtain ⟨y1012, hy1012⟩ : ∃ y_ : List Int, y_ = (y1009 ++ x9_3) := ⟨_, rfl⟩
              replace H : (chirographref04_PutOid.l2 k3 y1003 x7_2 x8_2 y1012 (wrap64 (Int.tdiv x10_3 128))) = some (r1, r2) := by first | (rw [hy1012]; with_reducible exact H) | (have H2_ := (Option.bind_some _ _).symm.trans H; rw [hy1012]; with_reducible exact H2_) | (have H2_ := (Option.bind_some _ _).symm.trans H; with_reducible exact H2_) | with_reducible exact H | (rw [hy1012]; exact H) | exact H
              have Ny1012 := Aside0.mk hy1012
              clear hy1012
              have H' := Aside0.mk H
              clear H
              go_wp2_with (first | ((with_reducible refine gate_dst (N := 65) rfl ?_); refine Kd.R_lit (Kd.int .u8) _ 5 ?hg (N := 65) ?hd (xs := ([(wrap64 ((Int.tmod x10_3 128) + 128)) % 256] : List Int)) (inner := [.int .u8 ((wrap64 ((Int.tmod x10_3 128) + 128)) % 256)]) (ok := fun _ => True) (okp := fun _ => True) ?hr ?hp (fun _ hk => hk) trivial (Below.refl _ _) (Nat.le_refl _) (by simp) ?_; (case hd => rfl); (case hg => rfl); (case hr => first | (go_simp; done) | (go_simp; rfl)); (case hp => exact (Reps.one (show Kd.M (Kd.int .u8) _ _ _ ((wrap64 ((Int.tmod x10_3 128) + 128)) % 256) [.int .u8 ((wrap64 ((Int.tmod x10_3 128) + 128)) % 256)] from rfl) (Reps.none _ _))); intro v1010 w22 ho23 hb hg_ hnew_; clear hg_ hnew_; (first | rw [← Ny1009.out] at ho23 | (simp only [Int.reduceToNat] at ho23; rw [← Ny1009.out] at ho23)); have n0_ := Aside0.mk (Kd.R_below (Kd.R_u HO_4.out) hb); have n1_ := Aside0.mk (Kd.R_elder' (Kd.R_u HO_7.out) (Kd.R_base ho23) hb); have n2_ := Aside0.mk (Kd.R_elder' (Kd.R_u HO_9.out) (Kd.R_base ho23) hb); have n3_ := Aside0.mk (Kd.R_lower (Kd.R_new' (Kd.R_new' ho23 (Kd.R_lt (Kd.R_u HO_7.out))) (Kd.R_lt (Kd.R_u HO_9.out))) (below_size (bU HB.out))); have n4_ := Aside0.mk (below_step (bU HB.out) hb); clear HO_4; clear HO_7; clear HO_9; clear HB; have HO_4 := n0_; have HO_7 := n1_; have HO_9 := n2_; have HO1011 := n3_; have HB := n4_; clear n0_ n1_ n2_ n3_ n4_; clear hb ho23; obtain ⟨Ao25, co25, eo25⟩ := Kd.R_slice HO_9.out; subst eo25) | ((with_reducible refine gate_builtin (b := .append) (xs := #[.tmp 65, .tmp 66]) rfl ?_); at_builtin; refine Kd.R_append_rows (Kd.int .u8) (w0 := w) w.heap.size rfl (.tmp 65) (.tmp 66) 22 5 (.int .u8 0) 1 rfl Tryz.underlying22 info5 rfl (by decide) (by omega) v1010 y1009 x9_3 _ _ _ (fun k_ => some k_ ≠ (u7 : Value).ownBlock ∧ some k_ ≠ (.slice Ao25 x9_3.length co25 : Value).ownBlock) (fun _ => False) rfl rfl ?aO ?aR (fun _ _ h => h) (fun _ h => h.elim) ?aF ?aB ?aS ?aL ?_; (case aR => exact Kd.C_u (Kd.R_reads' HO_9.out).2.2); (case aB => exact (bU HB.out)); (case aF => exact (fun k_ hk => ⟨Kd.fresh' (Kd.R_lt (Kd.R_u HO_7.out)) k_ hk, Kd.fresh' (Kd.R_lt (Kd.R_u HO_9.out)) k_ hk⟩)); (case aO => exact (Kd.R_u (Kd.R_mono HO1011.out (fun _ hk => ⟨hk.1.2, hk.2⟩)))); (case aS => exact (below_size (bU HB.out))); (case aL => have := LMc21.out; omega); intro v1013 w24 ho hb hg hat; rw [← Ny1012.out] at ho; have n0_ := Aside0.mk (Kd.R_over' (Kd.R_u HO_4.out) (Kd.R_typed (Kd.R_u HO1011.out)) (by decide) hg); have n1_ := Aside0.mk (Kd.R_after (ok := (fun k_ => some k_ ≠ (.slice Ao25 x9_3.length co25 : Value).ownBlock)) (Kd.R_u HO_7.out) hg hat); have n2_ := Aside0.mk (Kd.R_after (ok := (fun k_ => some k_ ≠ (u7 : Value).ownBlock)) (Kd.R_u HO_9.out) hg hat); have n3_ := Aside0.mk (hb); have n4_ := Aside0.mk (ho); clear HO_4; clear HO_7; clear HO_9; clear HB; clear HO1011; have HO_4 := n0_; have HO_7 := n1_; have HO_9 := n2_; have HB := n3_; have HO1014 := n4_; clear n0_ n1_ n2_ n3_ n4_; clear ho hb hg hat))
              go_roundg k3
              case measure => have := HK1.out; have := HK2.out; have := HK3.out; omega
              case rel => exact ⟨(y1012), (wrap64 (Int.tdiv x10_3 128)), (by first | rfl | (simp; done) | (simp [*]; done)), H', ⟨by have := HK1.out; have := HK2.out; have := HK3.out; omega⟩, ⟨by (try simp only [hl4_2]); (with_reducible repeat (first | apply Kd.R_alloc | apply Kd.R_drewN | apply Kd.R_drew)); exact HO_4.out⟩, ⟨by (try simp only [hl4_2]); (with_reducible repeat (first | apply Kd.R_alloc | apply Kd.R_drewN | apply Kd.R_drew)); exact Kd.R_mono HO_7.out (fun _ hk => hk.2)⟩, ⟨by (try simp only [hl4_2]); (with_reducible repeat (first | apply Kd.R_alloc | apply Kd.R_drewN | apply Kd.R_drew)); exact Kd.R_mono HO1014.out (fun _ hk => hk.1)⟩, ⟨bU HB.out⟩⟩
end Go.Proofs.YtkioddjjfifadaaGreatDoor.P
namespace Go.Proofs.YtkioddjjfifadaaGreatDoor.P
open Go.RowKit Go.Proofs.YtkioddjjfifadaaGreatDoorW.PrintWords
theorem bt_at (s : ByteArray) (p : Nat) (h : p < s.size) : bt s (p : Int) = ((s[p]'h).toNat : Int) := by
  unfold bt
  rw [dif_pos (by simpa using h)]
  rfl
theorem bt_rg (s : ByteArray) (p : Int) : 0 ≤ bt s p ∧ bt s p ≤ 255 := bt_range s p
/-- What is decoded at a place. -/
theorem dec_at (s : ByteArray) (p : Nat) (h : p < s.size) : (bt s (p : Int) < 128 → ((Utf8.decode s p).1 : Int) = bt s (p : Int) ∧ (Utf8.decode s p).2 = 1) ∧ (128 ≤ bt s (p : Int) → 128 ≤ ((Utf8.decode s p).1 : Int)) := by
  have hb := bt_at s p h
  refine ⟨fun hl => ?_, fun hg => ?_⟩
  · rw [decode_ascii s p h (by omega)]
    exact ⟨hb.symm, rfl⟩
  have e : s.get! p = s[p]'h := by
    simp [ByteArray.get!, getElem!_pos, h]
    rfl
  rw [Lib.decode_at, e]
  have hq : 128 ≤ (s[p]'h).toNat := by omega
  generalize (s[p]'h).toNat = b0 at *
  generalize s.size - p = n
  unfold Lib.decodeN
  rw [if_neg (by omega)]
  repeat' split
  all_goals (try simp only)
  all_goals omega
theorem bt_dot (s : ByteArray) : bt (s ++ (⟨#[46]⟩ : ByteArray)) (s.size : Int) = 46 := by
  have h : s.size < (s ++ (⟨#[46]⟩ : ByteArray)).size := by rw [ByteArray.size_append]; exact Nat.lt_succ_self _
  rw [bt_at _ _ h, ByteArray.getElem_append_right (Nat.le_refl _)]
  simp
  rfl
theorem bt_left (s t : ByteArray) (p : Nat) (h : p < s.size) : bt (s ++ t) (p : Int) = bt s (p : Int) := by
  have h2 : p < (s ++ t).size := by rw [ByteArray.size_append]; omega
  rw [bt_at _ _ h2, bt_at _ _ h, ByteArray.getElem_append_left h]
/-- A number's value, capped. -/
def valB (s : ByteArray) (i : Nat) : Nat → Int
  | 0 => 0
  | m + 1 => min (10 * valB s i m + (bt s ((i + m : Nat) : Int) - 48)) 1099511627776
theorem valB_rng (s : ByteArray) (i : Nat) : ∀ m, (∀ j, j < m → 48 ≤ bt s ((i + j : Nat) : Int)) → 0 ≤ valB s i m ∧ valB s i m ≤ 1099511627776
  | 0, _ => by simp [valB]
  | m + 1, h => by
    have ih := valB_rng s i m (fun j hj => h j (by omega))
    have := h m (by omega)
    rw [valB]
    omega
def endR (l : List Int) : List Int × Bool :=
  if (l.length : Int) ≥ 2 then (if rd l 0 ≤ 2 then (if rd l 0 = 2 then (l, true) else (l, decide (rd l 1 < 40))) else (l, false)) else (l, false)
theorem ra_l1 (s : ByteArray) (hs : s.size ≤ 1000000) (l : List Int) (hl : l.length ≤ 1000001) (i p : Nat) (hp : p ≤ s.size) (r : List Int × Bool) (K : Nat)
    (hd : ∀ j, i ≤ j → j < p → 48 ≤ bt s (j : Int) ∧ bt s (j : Int) ≤ 57)
    (hr : ∀ k', K ≤ k' → chirographref04_arcs.l0 k' s (l ++ [valB s i (p - i)]) ((p : Int) + 1) ((p : Int) + 1) = some r) : ∀ (m k q : Nat), i ≤ q → q + m = p → m + 1 + K ≤ k →
    chirographref04_arcs.l1 k s l (p : Int) (valB s i (q - i)) (q : Int) = some r
  | 0, k, q, hq, hm, hk => by
    obtain ⟨k1, rfl⟩ : ∃ k1, k = k1 + 1 := ⟨k - 1, by omega⟩
    obtain rfl : q = p := by omega
    rw [chirographref04_arcs.l1, if_neg (by omega), if_pos (by omega), wb (by omega) (by omega)]
    exact hr k1 (by omega)
  | m + 1, k, q, hq, hm, hk => by
    obtain ⟨k1, rfl⟩ : ∃ k1, k = k1 + 1 := ⟨k - 1, by omega⟩
    obtain ⟨d0, d1⟩ := hd q hq (by omega)
    obtain ⟨v0, v1⟩ := valB_rng s i (q - i) (fun j hj => (hd (i + j) (by omega) (by omega)).1)
    have ih := ra_l1 s hs l hl i p hp r K hd hr m k1 (q + 1) (by omega) (by omega) (by omega)
    have e : q + 1 - i = (q - i) + 1 := by omega
    rw [e, valB, show i + (q - i) = q by omega] at ih
    rw [chirographref04_arcs.l1, if_pos (by omega), if_pos (by omega), if_pos (by omega), show (bt s (q : Int) - 48) % 256 = bt s (q : Int) - 48 by omega, wb (n := valB s i (q - i) * 10) (by omega) (by omega), wb (n := valB s i (q - i) * 10 + (bt s (q : Int) - 48)) (by omega) (by omega), wb (n := (q : Int) + 1) (by omega) (by omega)]
    rw [show ((q + 1 : Nat) : Int) = (q : Int) + 1 by omega] at ih
    by_cases c : valB s i (q - i) * 10 + (bt s (q : Int) - 48) > 1099511627776
    · rw [if_pos c]
      rw [show min (10 * valB s i (q - i) + (bt s (q : Int) - 48)) 1099511627776 = 1099511627776 by omega] at ih
      exact ih
    · rw [if_neg c]
      rw [show min (10 * valB s i (q - i) + (bt s (q : Int) - 48)) 1099511627776 = valB s i (q - i) * 10 + (bt s (q : Int) - 48) by omega] at ih
      exact ih
theorem up {α : Type} {F : Nat → Option α} (hm : ∀ k, LeO (F k) (F (k + 1))) {K k' : Nat} (h : K ≤ k') {r : α} (e : F K = some r) : F k' = some r := by
  induction h with
  | refl => exact e
  | step _ ih => exact hm _ _ ih
def Agree (r : List Int × Bool) : Option (List Int) → Prop
  | none => r.2 = false
  | some l => r = endR l
theorem arcs_main (s : ByteArray) (hs : s.size ≤ 1000000) : ∀ (m i p : Nat) (l : List Int) (f k : Nat), s.size + 1 - p = m → i ≤ p → p ≤ s.size + 1 → (p = s.size + 1 → i = p) → l.length ≤ p → m < f → 10 * m + (p - i) + 10 ≤ k →
    (∀ j, i ≤ j → j < p → 48 ≤ bt s (j : Int) ∧ bt s (j : Int) ≤ 57) →
    ∃ r, chirographref04_arcs.l0 k s l (i : Int) (p : Int) = some r ∧ (bt s (i : Int) = 48 ∧ i + 1 < p → r.2 = false) ∧ (¬ (bt s (i : Int) = 48 ∧ i + 1 < p) → Agree r (arcsGo (s ++ ⟨#[46]⟩) f p l (valB s i (p - i)) (min ((p - i : Nat) : Int) 20)))
  | 0, i, p, l, f, k, hm, hip, hp, he, hl, hf, hk, hd => by
    obtain ⟨k1, rfl⟩ : ∃ k1, k = k1 + 1 := ⟨k - 1, by omega⟩
    obtain ⟨f1, rfl⟩ : ∃ f1, f = f1 + 1 := ⟨f - 1, by omega⟩
    have hpe : p = s.size + 1 := by omega
    have hie := he hpe
    have hS : (s ++ (⟨#[46]⟩ : ByteArray)).size = s.size + 1 := ByteArray.size_append ..
    rw [chirographref04_arcs.l0, if_neg (by omega)]
    refine ⟨endR l, ?_, fun h => by omega, fun _ => ?_⟩
    · unfold endR
      by_cases c : (l.length : Int) ≥ 2
      · rw [if_pos c, if_pos c, if_pos (by omega)]
        by_cases d1 : rd l 0 ≤ 2
        · rw [if_pos d1, if_pos d1]
          by_cases d2 : rd l 0 = 2
          · rw [if_pos d2, if_pos d2]
          · rw [if_neg d2, if_neg d2, if_pos (by omega)]
        · rw [if_neg d1, if_neg d1]
      · rw [if_neg c, if_neg c]
    · rw [arcsGo, if_neg (by omega)]
      exact rfl
  | m + 1, i, p, l, f, k, hm, hip, hp, he, hl, hf, hk, hd => by
    obtain ⟨k1, rfl⟩ : ∃ k1, k = k1 + 4 := ⟨k - 4, by omega⟩
    obtain ⟨f1, rfl⟩ : ∃ f1, f = f1 + 1 := ⟨f - 1, by omega⟩
    have hS : (s ++ (⟨#[46]⟩ : ByteArray)).size = s.size + 1 := ByteArray.size_append ..
    have hps : p < (s ++ (⟨#[46]⟩ : ByteArray)).size := by omega
    obtain ⟨dl, dh⟩ := dec_at (s ++ (⟨#[46]⟩ : ByteArray)) p hps
    obtain ⟨b0, b1⟩ := bt_rg s (p : Int)
    have hsplit : chirographref04_arcs.l0 (k1 + 4) s l (i : Int) (p : Int) = chirographref04_arcs.j1 (k1 + 3) s l (i : Int) (p : Int) (bt (s ++ (⟨#[46]⟩ : ByteArray)) (p : Int) != 46) := by
      rw [chirographref04_arcs.l0, if_pos (by omega)]
      by_cases c : p < s.size
      · rw [if_pos (by omega), if_pos (by omega), bt_left s _ p c]
      · obtain rfl : p = s.size := by omega
        rw [if_neg (by omega), bt_dot]
        rfl
    rw [hsplit]
    rw [arcsGo, if_pos hps]
    by_cases c46 : bt (s ++ (⟨#[46]⟩ : ByteArray)) (p : Int) = 46
    · obtain ⟨d1, d2⟩ := dl (by omega)
      rw [d1, d2, c46]
      have ef : (((46 : Int) != 46) = true) = False := by decide
      rw [chirographref04_arcs.j1, if_neg (by rw [ef]; exact id)]
      have hend : i < p → ∃ r, chirographref04_arcs.l1 (k1 + 1) s l (p : Int) 0 (i : Int) = some r ∧ Agree r (arcsGo (s ++ ⟨#[46]⟩) f1 (p + 1) (l ++ [valB s i (p - i)]) 0 0) := fun hlt => by
        have hps2 : p ≤ s.size := by omega
        obtain ⟨r, h1, _, h3⟩ := arcs_main s hs m (p + 1) (p + 1) (l ++ [valB s i (p - i)]) f1 (10 * m + 10) (by omega) (Nat.le_refl _) (by omega) (fun _ => rfl) (by rw [List.length_append]; simp only [List.length_cons, List.length_nil]; omega) (by omega) (by omega) (fun j h1 h2 => by omega)
        refine ⟨r, ?_, ?_⟩
        · have := ra_l1 s hs l (by omega) i p hps2 r (10 * m + 10) hd (fun k' hk' => ?_) (p - i) (k1 + 1) i (Nat.le_refl _) (by omega) (by omega)
          · rw [Nat.sub_self] at this
            exact this
          · have e := up (F := fun k => chirographref04_arcs.l0 k s (l ++ [valB s i (p - i)]) ((p + 1 : Nat) : Int) ((p + 1 : Nat) : Int)) (fun k => (chirographref04_arcs.mono_l k).1 _ _ _ _) hk' h1
            rw [show ((p + 1 : Nat) : Int) = (p : Int) + 1 by omega] at e
            exact e
        · have := h3 (by omega)
          rw [Nat.sub_self] at this
          exact this
      by_cases hpi : p = i
      · subst hpi
        rw [if_pos rfl, chirographref04_arcs.j2, if_pos rfl]
        refine ⟨_, rfl, fun _ => rfl, fun _ => ?_⟩
        rw [Nat.sub_self, if_neg (fun h => by have := h.2; omega), if_pos (by omega)]
        exact rfl
      · rw [if_neg (by omega), if_pos (by omega), if_pos (by omega)]
        by_cases c48 : bt s (i : Int) = 48
        · rw [if_pos c48, wb (by omega) (by omega)]
          by_cases cl : i + 1 < p
          · rw [decide_eq_true (show (p : Int) > (i : Int) + 1 by omega), chirographref04_arcs.j2, if_pos rfl]
            exact ⟨_, rfl, fun _ => rfl, fun h => absurd ⟨c48, cl⟩ h⟩
          · rw [decide_eq_false (show ¬ (p : Int) > (i : Int) + 1 by omega), chirographref04_arcs.j2, if_neg (by decide)]
            obtain ⟨r, h1, h2⟩ := hend (by omega)
            refine ⟨r, h1, fun h => absurd h.2 cl, fun _ => ?_⟩
            rw [if_pos ⟨rfl, by omega⟩]
            exact h2
        · rw [if_neg c48, chirographref04_arcs.j2, if_neg (by decide)]
          obtain ⟨r, h1, h2⟩ := hend (by omega)
          refine ⟨r, h1, fun h => absurd h.1 c48, fun _ => ?_⟩
          rw [if_pos ⟨rfl, by omega⟩]
          exact h2
    · have hlt : p < s.size := by
        by_cases c : p < s.size
        · exact c
        · obtain rfl : p = s.size := by omega
          exact absurd (bt_dot s) c46
      have hbl := bt_left s (⟨#[46]⟩ : ByteArray) p hlt
      rw [hbl] at c46 dl dh ⊢
      have et : ((bt s (p : Int) != 46) = true) := bne_iff_ne.mpr c46
      rw [chirographref04_arcs.j1, if_pos et, if_pos (by omega), if_pos (by omega)]
      by_cases c0 : bt s (p : Int) < 48
      · obtain ⟨d1, d2⟩ := dl (by omega)
        rw [if_pos c0, d1, if_neg (fun h => c46 h.1), if_pos (Or.inl c0)]
        exact ⟨_, rfl, fun _ => rfl, fun _ => rfl⟩
      · rw [if_neg c0]
        by_cases c1 : bt s (p : Int) > 57
        · rw [if_pos c1]
          have hC : 57 < ((Utf8.decode (s ++ (⟨#[46]⟩ : ByteArray)) p).1 : Int) := by
            by_cases c2 : bt s (p : Int) < 128
            · rw [(dl c2).1]; exact c1
            · have := dh (by omega)
              omega
          rw [if_neg (by omega), if_pos (Or.inr (Or.inl hC))]
          exact ⟨_, rfl, fun _ => rfl, fun _ => rfl⟩
        · obtain ⟨d1, d2⟩ := dl (by omega)
          rw [if_neg c1, d1, d2, if_neg (fun h => c46 h.1), wb (by omega) (by omega)]
          obtain ⟨r, h1, h2, h3⟩ := arcs_main s hs m i (p + 1) l f1 (k1 + 2) (by omega) (by omega) (by omega) (fun h => by omega) (by omega) (by omega) (by omega) (fun j g1 g2 => by
            by_cases hj : j < p
            · exact hd j g1 hj
            · obtain rfl : j = p := by omega
              exact ⟨by omega, by omega⟩)
          refine ⟨r, h1, fun h => h2 ⟨h.1, by omega⟩, fun h => ?_⟩
          have e1 : p + 1 - i = (p - i) + 1 := by omega
          by_cases cn : p - i = 1 ∧ bt s (i : Int) = 48
          · have hv : valB s i (p - i) = 0 := by
              rw [cn.1, valB, valB]
              show min (10 * 0 + (bt s ((i + 0 : Nat) : Int) - 48)) 1099511627776 = 0
              rw [Nat.add_zero, cn.2]
              rfl
            rw [if_pos (Or.inr (Or.inr ⟨by omega, hv⟩))]
            exact h2 ⟨cn.2, by omega⟩
          · have hnot : ¬ (bt s (p : Int) < 48 ∨ 57 < bt s (p : Int) ∨ (min ((p - i : Nat) : Int) 20 = 1 ∧ valB s i (p - i) = 0)) := by
              rintro (h | h | ⟨g1, g2⟩)
              · omega
              · omega
              · have : p - i = 1 := by omega
                rw [this, valB, valB] at g2
                have g3 : min (10 * 0 + (bt s ((i + 0 : Nat) : Int) - 48)) 1099511627776 = 0 := g2
                rw [Nat.add_zero] at g3
                exact cn ⟨this, by omega⟩
            rw [if_neg hnot]
            have := h3 (fun g => by
              by_cases hh : i + 1 < p
              · exact h ⟨g.1, hh⟩
              · exact cn ⟨by omega, g.1⟩)
            rw [e1, valB, show i + (p - i) = p by omega] at this
            rw [show min (min ((p - i : Nat) : Int) 20 + 1) 20 = min ((p - i + 1 : Nat) : Int) 20 by omega]
            exact this
theorem arcsGo_rng (S : ByteArray) : ∀ (f pos : Nat) (l : List Int) (v n : Int) (r : List Int), arcsGo S f pos l v n = some r → (∀ x ∈ l, 0 ≤ x ∧ x ≤ 1099511627776) → 0 ≤ v → v ≤ 1099511627776 → (∀ x ∈ r, 0 ≤ x ∧ x ≤ 1099511627776) ∧ r.length ≤ l.length + f
  | 0, pos, l, v, n, r, h, _, _, _ => by simp [arcsGo] at h
  | f + 1, pos, l, v, n, r, h, hl, h0, h1 => by
    rw [arcsGo] at h
    split at h
    · split at h
      · obtain ⟨g1, g2⟩ := arcsGo_rng S f _ _ _ _ r h (fun x hx => by
          rcases List.mem_append.1 hx with hx | hx
          · exact hl x hx
          · obtain rfl := List.mem_singleton.1 hx
            exact ⟨h0, h1⟩) (by decide) (by decide)
        refine ⟨g1, ?_⟩
        rw [List.length_append] at g2
        simp only [List.length_cons, List.length_nil] at g2
        omega
      · split at h
        · cases h
        · rename_i hn
          obtain ⟨g1, g2⟩ := arcsGo_rng S f _ _ _ _ r h hl (by omega) (by omega)
          exact ⟨g1, by omega⟩
    · obtain rfl := Option.some.inj h
      exact ⟨hl, by omega⟩
def bigA (x : Int) : Bool := decide (x > 2147483647)
/-- An identifier's bytes. -/
def oidS (a : ByteArray) : List Int × Int :=
  match arcsGo (a ++ ⟨#[46]⟩) (a.size + 2) 0 [] 0 0 with
  | none => ([], 6)
  | some l => if (arcsEnd l).2 = true then (if l.any bigA = true then ([], 3) else (sev (40 * rd l 0 + rd l 1) ++ ((l.drop 2).map sev).flatten, 0)) else ([], 6)
theorem end_facts {l : List Int} (h : (arcsEnd l).2 = true) : 2 ≤ l.length ∧ rd l 0 ≤ 2 ∧ (rd l 0 < 2 → rd l 1 < 40) := by
  unfold arcsEnd at h
  by_cases c0 : (l.length : Int) < 2
  · rw [if_pos c0] at h
    cases h
  rw [if_neg c0] at h
  by_cases c1 : 2 < rd l 0
  · rw [if_pos c1] at h
    cases h
  rw [if_neg c1] at h
  refine ⟨by omega, by omega, fun c2 => ?_⟩
  rw [if_pos c2] at h
  by_cases c3 : 40 ≤ rd l 1
  rotate_left
  · omega
  rw [if_pos c3] at h
  cases h
theorem end_true {l : List Int} (h : (arcsEnd l).2 = true) : arcsEnd l = (l, true) ∧ endR l = (l, true) ∧ 2 ≤ l.length := by
  obtain ⟨h1, h2, h3⟩ := end_facts h
  refine ⟨?_, ?_, h1⟩
  rotate_left
  · unfold endR
    rw [if_pos (by omega), if_pos h2]
    by_cases c2 : rd l 0 < 2
    rotate_left
    · rw [if_pos (by omega)]
    rw [if_neg (by omega), decide_eq_true (h3 c2)]
  unfold arcsEnd
  rw [if_neg (by omega), if_neg (by omega)]
  by_cases c2 : rd l 0 < 2
  rotate_left
  · rw [if_neg c2]
  have := h3 c2
  rw [if_pos c2, if_neg (by omega)]
theorem end_false {l : List Int} (h : (arcsEnd l).2 = false) : (endR l).2 = false := by
  unfold arcsEnd at *
  unfold endR
  by_cases c0 : (l.length : Int) < 2
  · rw [if_neg (by omega)]
  rw [if_neg c0] at h
  rw [if_pos (by omega)]
  by_cases c1 : 2 < rd l 0
  · rw [if_neg (by omega)]
  rw [if_neg c1] at h
  rw [if_pos (by omega)]
  by_cases c2 : rd l 0 < 2
  rotate_left
  · rw [if_neg c2] at h
    cases h
  rw [if_pos c2] at h
  rw [if_neg (by omega)]
  by_cases c3 : 40 ≤ rd l 1
  · exact decide_eq_false (by omega)
  rw [if_neg c3] at h
  cases h
theorem drop_rdI (l : List Int) (i : Int) (h0 : 0 ≤ i) (h1 : i < (l.length : Int)) : l.drop i.toNat = rd l i :: l.drop (i + 1).toNat := by
  have e : (i + 1).toNat = i.toNat + 1 := by omega
  rw [e, List.drop_eq_getElem_cons (by omega)]
  congr 1
  unfold rd
  rw [List.getD_eq_getElem?_getD, List.getElem?_eq_getElem (by omega), Option.getD_some]
theorem rd_memI (l : List Int) (i : Int) (h0 : 0 ≤ i) (h1 : i < (l.length : Int)) : rd l i ∈ l := by
  have h := drop_rdI l i h0 h1
  exact List.mem_of_mem_drop (h ▸ List.mem_cons_self)
theorem do_l1 (y : List Int) (hy : y.length ≤ 1000002) (hb : ∀ x ∈ y, 0 ≤ x ∧ x ≤ 2147483647) : ∀ (m k : Nat) (i : Int) (acc : List Int), 0 ≤ i → (y.length : Int) - i = m → m + 20 ≤ k → acc.length + 10 * m < 140737488355328 →
    der_PutOid.l1 k acc y (y.length : Int) i = some (acc ++ ((y.drop i.toNat).map sev).flatten, 0)
  | 0, k, i, acc, h0, hm, hk, ha => by
    obtain ⟨k1, rfl⟩ : ∃ k1, k = k1 + 1 := ⟨k - 1, by omega⟩
    rw [der_PutOid.l1, if_neg (by omega), List.drop_eq_nil_of_le (by omega)]
    simp
  | m + 1, k, i, acc, h0, hm, hk, ha => by
    obtain ⟨k1, rfl⟩ : ∃ k1, k = k1 + 1 := ⟨k - 1, by omega⟩
    obtain ⟨b0, b1⟩ := hb _ (rd_memI y i h0 (by omega))
    have hs := sev_len (rd y i)
    have ih := do_l1 y hy hb m k1 (i + 1) (acc ++ sev (rd y i)) (by omega) (by omega) (by omega) (by rw [List.length_append]; omega)
    rw [der_PutOid.l1, if_pos (by omega), if_pos h0, if_pos (by omega), der_sev k1 _ b0 (by omega) (by omega), Option.bind_some, if_pos (by omega), wb (by omega) (by omega), ih, drop_rdI y i h0 (by omega), List.map_cons, List.flatten_cons, List.append_assoc]
theorem do_l0 (l : List Int) (hl2 : 2 ≤ l.length) (hl : l.length ≤ 1000002) (hb : ∀ x ∈ l, 0 ≤ x ∧ x ≤ 1099511627776) : ∀ (m k : Nat) (i : Int), 0 ≤ i → (l.length : Int) - i = m → m + l.length + 30 ≤ k → ((l.drop i.toNat).any bigA = false → ∀ x ∈ l, x ≤ 2147483647) →
    der_PutOid.l0 k l l (l.length : Int) i = some (if (l.drop i.toNat).any bigA = true then ([], 3) else (sev (40 * rd l 0 + rd l 1) ++ ((l.drop 2).map sev).flatten, 0))
  | 0, k, i, h0, hm, hk, hA => by
    obtain ⟨k1, rfl⟩ : ∃ k1, k = k1 + 1 := ⟨k - 1, by omega⟩
    rw [List.drop_eq_nil_of_le (by omega)] at hA ⊢
    have hA' := hA rfl
    have m0 := rd_memI l 0 (Int.le_refl _) (by omega)
    have m1 := rd_memI l 1 (by decide) (by omega)
    have h00 := hb _ m0
    have h10 := hb _ m1
    have h01 := hA' _ m0
    have h11 := hA' _ m1
    have e1 : IntKind.u64.wrap (40 * rd l 0) = 40 * rd l 0 := by rw [IntKind.wrap_u64]; omega
    have e2 : IntKind.u64.wrap (40 * rd l 0 + rd l 1) = 40 * rd l 0 + rd l 1 := by rw [IntKind.wrap_u64]; omega
    have hs := sev_len (40 * rd l 0 + rd l 1)
    rw [der_PutOid.l0, if_neg (by omega), if_pos (by omega), if_pos (by omega), e1, e2, der_sev k1 _ (by omega) (by omega) (by omega), Option.bind_some, if_pos (by omega), Option.bind_some]
    rw [do_l1 (l.drop 2) (by rw [List.length_drop]; omega) (fun x hx => ⟨(hb x (List.mem_of_mem_drop hx)).1, hA' x (List.mem_of_mem_drop hx)⟩) (l.drop 2).length k1 0 _ (Int.le_refl _) (by omega) (by rw [List.length_drop]; omega) (by rw [List.length_drop]; omega)]
    rfl
  | m + 1, k, i, h0, hm, hk, hA => by
    obtain ⟨k1, rfl⟩ : ∃ k1, k = k1 + 1 := ⟨k - 1, by omega⟩
    have hd := drop_rdI l i h0 (by omega)
    rw [hd, List.any_cons] at hA ⊢
    rw [der_PutOid.l0, if_pos (by omega), if_pos h0, if_pos (by omega)]
    by_cases c : rd l i > 2147483647
    · have e : bigA (rd l i) = true := decide_eq_true c
      rw [if_pos c, e, Bool.true_or, if_pos rfl]
    · have e : bigA (rd l i) = false := decide_eq_false c
      rw [e, Bool.false_or] at hA ⊢
      rw [if_neg c, wb (by omega) (by omega)]
      exact do_l0 l hl2 hl hb m k1 (i + 1) (by omega) (by omega) (by omega) hA
/-- der.PutOid: what it lays. -/
theorem der_oid (k : Nat) (a : ByteArray) (ha : a.size ≤ 1000000) (hk : 2 * a.size + 50 ≤ k) : der_PutOid.f k a = some (oidS a) := by
  unfold der_PutOid.f der_arcs.f oidS
  rw [if_pos (by omega), Option.bind_some]
  cases e : arcsGo (a ++ (⟨#[46]⟩ : ByteArray)) (a.size + 2) 0 [] 0 0 with
  | none => exact if_neg (by decide)
  | some l =>
    obtain ⟨g1, g2⟩ := arcsGo_rng _ _ _ _ _ _ _ e (fun x hx => by cases hx) (by decide) (by decide)
    simp only [List.length_nil] at g2
    show (if (arcsEnd l).2 = true then _ else _) = some (if (arcsEnd l).2 = true then _ else _)
    by_cases c : (arcsEnd l).2 = true
    rotate_left
    · rw [if_neg c, if_neg c]
    obtain ⟨e1, _, e3⟩ := end_true c
    rw [if_pos c, if_pos c]
    show der_PutOid.l0 k (arcsEnd l).1 (arcsEnd l).1 (((arcsEnd l).1.length : Nat) : Int) 0 = _
    rw [e1]
    have := do_l0 l e3 (by omega) g1 l.length k 0 (Int.le_refl _) (by omega) (by omega) (fun h x hx => by
      rw [show (0 : Int).toNat = 0 from rfl, List.drop_zero] at h
      have := List.any_eq_false.1 h x hx
      unfold bigA at this
      rw [decide_eq_true_eq] at this
      omega)
    rw [show (0 : Int).toNat = 0 from rfl, List.drop_zero] at this
    exact this
theorem ro_l2 (x4 acc : List Int) (i : Int) (r : List Int × Int) (K : Nat) : ∀ (f k : Nat) (x : Int) (y : List Int), 0 ≤ x → x < 128 ^ f → x ≤ 1000000000000 → y.length + f ≤ 50 → acc.length ≤ 140000000000000 → K + f < k →
    (∀ k', K ≤ k' → chirographref04_PutOid.l1 k' x4 (acc ++ sevLoop f x y) (wrap64 (i + 1)) = some r) → chirographref04_PutOid.l2 k x4 acc i y x = some r
  | 0, k, x, y, h0, h1, hx, hy, ha, hk, hr => by
    obtain ⟨k1, rfl⟩ : ∃ k1, k = k1 + 1 := ⟨k - 1, by omega⟩
    rw [Int.pow_zero] at h1
    rw [chirographref04_PutOid.l2, if_neg (by omega), if_pos (by omega)]
    exact hr k1 (by omega)
  | f + 1, k, x, y, h0, h1, hx, hy, ha, hk, hr => by
    obtain ⟨k1, rfl⟩ : ∃ k1, k = k1 + 1 := ⟨k - 1, by omega⟩
    rw [chirographref04_PutOid.l2]
    by_cases c : x > 0
    · obtain ⟨g0, g1⟩ := pow_step h0 h1
      have e1 : Int.tdiv x 128 = x / 128 := Int.tdiv_eq_ediv_of_nonneg (by omega)
      have e2 : Int.tmod x 128 = x % 128 := Int.tmod_eq_emod_of_nonneg (by omega)
      rw [if_pos c, Option.bind_some, if_pos (by simp only [List.length_cons, List.length_nil]; omega), e1, e2, wb (n := x % 128 + 128) (by omega) (by omega), wb (n := x / 128) (by omega) (by omega), show (x % 128 + 128) % 256 = 128 + x % 128 by omega]
      refine ro_l2 x4 acc i r K f k1 _ _ g0 g1 (by omega) (by simp only [List.length_append, List.length_cons, List.length_nil]; omega) ha (by omega) (fun k' hk' => ?_)
      have := hr k' hk'
      rw [sevLoop, if_pos c] at this
      exact this
    · rw [if_neg c, if_pos (by omega)]
      have := hr k1 (by omega)
      rw [sevLoop, if_neg c] at this
      exact this
theorem ro_l1 (x4 : List Int) (hl : x4.length ≤ 1000002) (hb : ∀ x ∈ x4, 0 ≤ x ∧ x ≤ 1000000000000) : ∀ (m k : Nat) (i : Int) (acc : List Int), 0 ≤ i → (x4.length : Int) - i = m → 12 * m + 5 ≤ k → acc.length + 10 * m ≤ 140000000000000 →
    chirographref04_PutOid.l1 k x4 acc i = some (acc ++ ((x4.drop i.toNat).map sev).flatten, 0)
  | 0, k, i, acc, h0, hm, hk, ha => by
    obtain ⟨k1, rfl⟩ : ∃ k1, k = k1 + 1 := ⟨k - 1, by omega⟩
    rw [chirographref04_PutOid.l1, if_neg (by omega), List.drop_eq_nil_of_le (by omega)]
    simp
  | m + 1, k, i, acc, h0, hm, hk, ha => by
    obtain ⟨k1, rfl⟩ : ∃ k1, k = k1 + 1 := ⟨k - 1, by omega⟩
    obtain ⟨b0, b1⟩ := hb _ (rd_memI x4 i h0 (by omega))
    have hs := sev_len (rd x4 i)
    have e1 : Int.tdiv (rd x4 i) 128 = rd x4 i / 128 := Int.tdiv_eq_ediv_of_nonneg (by omega)
    have e2 : Int.tmod (rd x4 i) 128 = rd x4 i % 128 := Int.tmod_eq_emod_of_nonneg (by omega)
    rw [chirographref04_PutOid.l1, if_pos (by omega), if_pos h0, e1, e2, wb (n := rd x4 i / 128) (by omega) (by omega), show rd x4 i % 128 % 256 = rd x4 i % 128 by omega]
    refine ro_l2 x4 acc i _ (12 * m + 5) 9 k1 _ _ (by omega) (by rw [show (128 : Int) ^ 9 = 9223372036854775808 by decide]; omega) (by omega) (by simp) (by omega) (by omega) (fun k' hk' => ?_)
    rw [wb (by omega) (by omega)]
    have ih := ro_l1 x4 hl hb m k' (i + 1) (acc ++ sev (rd x4 i)) (by omega) (by omega) hk' (by rw [List.length_append]; omega)
    rw [drop_rdI x4 i h0 (by omega), List.map_cons, List.flatten_cons, ← List.append_assoc]
    exact ih
theorem ro_l0 (l : List Int) (hl2 : 2 ≤ l.length) (hl : l.length ≤ 1000002) (hb : ∀ x ∈ l, 0 ≤ x ∧ x ≤ 1099511627776) : ∀ (m k : Nat) (i : Int), 0 ≤ i → (l.length : Int) - i = m → m + 12 * l.length + 30 ≤ k → ((l.drop i.toNat).any bigA = false → ∀ x ∈ l, x ≤ 2147483647) →
    chirographref04_PutOid.l0 k l i = some (if (l.drop i.toNat).any bigA = true then ([], 3) else (sev (40 * rd l 0 + rd l 1) ++ ((l.drop 2).map sev).flatten, 0))
  | 0, k, i, h0, hm, hk, hA => by
    obtain ⟨k1, rfl⟩ : ∃ k1, k = k1 + 1 := ⟨k - 1, by omega⟩
    rw [List.drop_eq_nil_of_le (by omega)] at hA ⊢
    have hA' := hA rfl
    match l, hl2, hl, hb, hm, hk, hA' with
    | a :: b :: r, hl2, hl, hb, hm, hk, hA' =>
      have h00 := hb a (by simp)
      have h10 := hb b (by simp)
      have h01 := hA' a (by simp)
      have h11 := hA' b (by simp)
      have r0 : rd (a :: b :: r) 0 = a := rfl
      have r1 : rd (a :: b :: r) 1 = b := rfl
      simp only [List.length_cons] at hl hk hm
      rw [chirographref04_PutOid.l0, if_neg (by simp only [List.length_cons]; omega), if_pos (by simp only [List.length_cons]; omega), if_pos (by simp only [List.length_cons]; omega), r0, r1, wb (n := 40 * a) (by omega) (by omega), wb (n := b + 40 * a) (by omega) (by omega)]
      have := ro_l1 ((a :: b :: r).set (1 : Int).toNat (b + 40 * a)) (by rw [List.length_set]; simp only [List.length_cons]; omega) (fun x hx => by
        rcases List.mem_or_eq_of_mem_set hx with hx | rfl
        · have := hb x hx
          have := hA' x hx
          omega
        · omega) (r.length + 1) k1 1 [] (by decide) (by rw [List.length_set]; simp only [List.length_cons]; omega) (by omega) (by simp only [List.length_nil]; omega)
      rw [this, show b + 40 * a = 40 * a + b by omega]
      rfl
  | m + 1, k, i, h0, hm, hk, hA => by
    obtain ⟨k1, rfl⟩ : ∃ k1, k = k1 + 1 := ⟨k - 1, by omega⟩
    have hd := drop_rdI l i h0 (by omega)
    rw [hd, List.any_cons] at hA ⊢
    rw [chirographref04_PutOid.l0, if_pos (by omega), if_pos h0]
    by_cases c : rd l i > 2147483647
    · have e : bigA (rd l i) = true := decide_eq_true c
      rw [if_pos c, e, Bool.true_or, if_pos rfl]
    · have e : bigA (rd l i) = false := decide_eq_false c
      rw [e, Bool.false_or] at hA ⊢
      rw [if_neg c, wb (by omega) (by omega)]
      exact ro_l0 l hl2 hl hb m k1 (i + 1) (by omega) (by omega) (by omega) hA
/-- chirographref04.PutOid: it lays the same. -/
theorem ref_oid (k : Nat) (a : ByteArray) (ha : a.size ≤ 1000000) (hk : 14 * a.size + 100 ≤ k) : chirographref04_PutOid.f k a = some (oidS a) := by
  obtain ⟨r, h1, _, h3⟩ := arcs_main a ha (a.size + 1) 0 0 [] (a.size + 2) k (by omega) (Nat.le_refl _) (by omega) (fun h => by omega) (by simp) (by omega) (by omega) (fun j h1 h2 => by omega)
  have h4 : Agree r (arcsGo (a ++ ⟨#[46]⟩) (a.size + 2) 0 [] 0 0) := h3 (by omega)
  unfold chirographref04_PutOid.f chirographref04_arcs.f oidS
  rw [show chirographref04_arcs.l0 k a [] 0 0 = some r from h1, Option.bind_some]
  cases e : arcsGo (a ++ (⟨#[46]⟩ : ByteArray)) (a.size + 2) 0 [] 0 0 with
  | none =>
    rw [e] at h4
    have h5 : r.2 = false := h4
    rw [h5]
    exact if_neg (by decide)
  | some l =>
    rw [e] at h4
    have h5 : r = endR l := h4
    obtain ⟨g1, g2⟩ := arcsGo_rng _ _ _ _ _ _ _ e (fun x hx => by cases hx) (by decide) (by decide)
    simp only [List.length_nil] at g2
    show _ = some (if (arcsEnd l).2 = true then _ else _)
    by_cases c : (arcsEnd l).2 = true
    rotate_left
    · have h6 := end_false (by simpa using c)
      rw [if_neg c, h5, h6, if_neg (by decide)]
    obtain ⟨_, e2, e3⟩ := end_true c
    rw [if_pos c, h5, e2, if_pos rfl]
    have := ro_l0 l e3 (by omega) g1 l.length k 0 (Int.le_refl _) (by omega) (by omega) (fun h x hx => by
      rw [show (0 : Int).toNat = 0 from rfl, List.drop_zero] at h
      have := List.any_eq_false.1 h x hx
      unfold bigA at this
      rw [decide_eq_true_eq] at this
      omega)
    rw [show (0 : Int).toNat = 0 from rfl, List.drop_zero] at this
    exact this
theorem oidS_bytes (a : ByteArray) : ∀ y ∈ (oidS a).1, 0 ≤ y ∧ y ≤ 255 := by
  unfold oidS
  cases arcsGo (a ++ (⟨#[46]⟩ : ByteArray)) (a.size + 2) 0 [] 0 0 with
  | none => intro y hy; cases hy
  | some l =>
    show ∀ y ∈ (if (arcsEnd l).2 = true then _ else _ : List Int × Int).1, _
    split
    rotate_left
    · intro y hy; cases hy
    split
    · intro y hy; cases hy
    intro y hy
    rcases List.mem_append.1 hy with hy | hy
    · exact sev_bytes _ y hy
    obtain ⟨z, hz, hy⟩ := List.mem_flatten.1 hy
    obtain ⟨q, _, rfl⟩ := List.mem_map.1 hz
    exact sev_bytes _ y hy
end Go.Proofs.YtkioddjjfifadaaGreatDoor.P
namespace Go.Proofs.YtkioddjjfifadaaGreatDoor.P
open Go.RowKit Go.Proofs.YtkioddjjfifadaaGreatDoorW.PrintWords Go.Proofs.YtkioddjjfifadaaGreatDoorW.PrintLast Go.Proofs.YtkioddjjfifadaaGreatDoorW.PrintMore
/-- What cells lead to, in a world that came before. -/
def kOld {α : Type} (d : Kd α) (W0 : World) : Kd α where
  sz := d.sz
  E := []
  K := fun _ x cs => d.K W0 x cs
  M := fun _ _ _ x cs => d.K W0 x cs
  K_len := fun h => d.K_len h
  K_one := fun h => d.K_one h
  K_below := fun _ h => h
  K_of_M := fun h => h
  M_mono := fun _ h => h
  M_bound := fun h => h
  M_move := fun _ h => h
  M_lower := fun _ h => h
theorem kOld_C {α : Type} {d : Kd α} {W0 w : World} {A : Option Addr} {n : Nat} {xs : List α} (h : (kOld d W0).C w A n xs) (hb : Below W0.heap.size W0 w) : d.C w A n xs := by
  unfold Kd.C at h ⊢
  exact h.imp_ (Below.refl _ _) (fun _ _ hp => d.K_below hb hp)
abbrev kBs (W0 : World) : Kd (List Int) := kOld (Kd.slice 5 (Kd.int .u8)) W0
theorem own_block {α : Type} {d : Kd α} {e base : Nat} {ok : Nat → Prop} {w : World} {v : Value} {xs : List α} (h : d.R e w base ok v xs) (hn : 0 < xs.length) : ∃ g c, v = .slice (some ⟨g, 0, none⟩) xs.length c ∧ base ≤ g := by
  obtain ⟨inner, ho⟩ := Kd.R_own h
  rcases ho.2 with ⟨_, hz⟩ | ⟨g, cap, cur, rfl, hg, _⟩
  rotate_left
  · exact ⟨g, cap, rfl, hg⟩
  omega
theorem old_at {W0 W : World} {A : Option Addr} {cap base : Nat} {ok : Nat → Prop} {xs : List (List Int)} (h : (kBs W0).R 22 W base ok (.slice A xs.length cap) xs) (k : Nat) (hk : k < xs.length) :
    ∃ ad Ak ck, A = some ad ∧ W.cell? (ad.add k) = some (.slice Ak (xs.getD k []).length ck) ∧ (xs.getD k []).length ≤ ck ∧ (Kd.int .u8).C W0 Ak (xs.getD k []).length (xs.getD k []) := by
  obtain ⟨A', c', e, _, hC⟩ := Kd.R_reads h
  cases e
  obtain ⟨ad, cs, e, _, hK, hc⟩ := Kd.C_get hC [] (k : Int) (by omega) (by omega)
  rw [Int.toNat_natCast] at hK
  obtain ⟨Ak, ck, rfl, hl, hg⟩ := hK
  refine ⟨ad, Ak, ck, e, ?_, hl, hg⟩
  have := hc 0 _ rfl
  rw [Int.toNat_natCast] at this
  simpa [kOld, Kd.slice] using this
section
variable {P : Program} {ops : Array Oper} {o : Oper} {a : Act} {Q : Exit → Act → World → Prop} {Kc : Act → World → Prop} {α : Type}
theorem R_store_step (d : Kd α) {w0 W : World} (base : Nat) (hw : Region.wanted o (yielded ops a.tmps) = true) (hN : o.dst = none) (t : TypeId) (p x : Operand) (ho : o.op = .store t p x) (e : TypeId) {g n cap o' : Nat} (i : Int) (j : Nat) (xs : List α) (x' : α) (u : Value) (seg c : List Value) (ok okp : Nat → Prop)
    (haddr : a.eval p = .pointer (some ⟨g, o', none⟩)) (hoff : o' = i.toNat * d.sz + j) (hx : a.eval x = u) (hu : u.cells.toList = seg) (ht : (P.info? t).map (·.size) = some seg.length) (h1 : ∀ q ∈ seg, q.oneCell' = true)
    (HO : d.R e W base ok (.slice (some ⟨g, 0, none⟩) n cap) xs) (h0 : 0 ≤ i) (hi : i < n) (hcl : c.length = d.sz) (hcc : ∀ j u, c[j]? = some u → W.cell? ⟨g, i.toNat * d.sz + j, none⟩ = some u)
    (hj : j + seg.length ≤ d.sz) (hM : d.M W base okp x' (c.take j ++ seg ++ c.drop (j + seg.length))) (hokp : ∀ k, okp k → ok k ∧ k ≠ g) (HB : Below base w0 W)
    (h : ∀ w1, d.R e w1 base ok (.slice (some ⟨g, 0, none⟩) n cap) (xs.set i.toNat x') → Below base w0 w1 → W.grownBy w1 (some g) → Kc a w1) :
    if Region.wanted o (yielded ops a.tmps) = true then Oper.wp P o a W Kc Q else Kc (a.put none undef) W := by
  rw [if_pos hw]
  subst hoff
  obtain ⟨hrow, hg⟩ := Kd.R_seg HO i h0 hi hcl hcc hj hM hokp
  have hbg : base ≤ g := Kd.R_base HO g (by simp [Value.ownBlock])
  have hnx : n = xs.length := (Kd.R_reads' HO).1
  obtain ⟨_, inner, hown, hr⟩ := HO
  have hil : i.toNat < n := by omega
  have hB : Below base w0 (W.setCells g (i.toNat * d.sz + j) seg) := HB.trans ⟨hg.os, hg.tape, hg.output, hg.size, fun k hk => by
    have hlt : k < W.heap.size ∨ W.heap.size ≤ k := Nat.lt_or_ge _ _
    rcases hlt with hlt | hge
    · exact hg.block k hlt (fun he => by injection he with he; omega)
    · exact setCells_far seg _ k (by omega)⟩
  have hrun : (Instr.storeAt t (.pointer (some ⟨g, i.toNat * d.sz + j, none⟩)) u).run P W = .ok () (W.setCells g (i.toNat * d.sz + j) seg) := by
    rcases hown.2 with ⟨hv, _⟩ | ⟨g', cap', cur, hv, hb, hh, hnc, hcm, hcs, _⟩
    · cases hv
    injection hv with ha _ hc
    injection ha with ha
    injection ha with hg'
    subst hg'; subst hc
    refine run_store_run t u seg hh hu ht ?_ h1
    have h2 : i.toNat * d.sz + d.sz ≤ n * d.sz := by rw [← Nat.succ_mul]; exact Nat.mul_le_mul_right _ hil
    have h3 : n * d.sz ≤ cap * d.sz := Nat.mul_le_mul_right _ (by omega)
    omega
  unfold Oper.wp execOp
  simp only [ho, haddr, hx, Sem.run_bind, Sem.run_pure, Result.andThen_ok, hrun]
  show Kc (a.put o.dst undef) _
  rw [hN]
  exact h _ hrow hB hg
end
/-- One byte string less than another, as Go's strings are held. -/
def ltL (a b : List Int) : Bool := Op.bytesLess (strOfNums a).toList (strOfNums b).toList
def bub : Nat → List (List Int) → List (List Int)
  | 0, l => l
  | k + 1, l => if ltL (l.getD (k + 1) []) (l.getD k []) = true then bub k ((l.set (k + 1) (l.getD k [])).set k (l.getD (k + 1) [])) else l
def insL (out : List (List Int)) (x : List Int) : List (List Int) := bub out.length (out ++ [x])
def sortedL (l : List (List Int)) : List (List Int) := l.foldl insL []
def chirographref07_sorted.f (l : List (List Int)) : Option (List (List Int)) := if l.length ≤ 1000000 then some (sortedL l) else none
def chirographref07_sorted.T9 : Bool × List (List Nat × List Nat) := (true, [([], []), ([], []), ([], []), ([], []), ([3], [3]), ([], []), ([], []), ([6], [6]), ([5, 7], [5, 7]), ([8], [8]), ([], []), ([], []), ([10, 11], [10, 11]), ([12], [12]), ([0, 1, 0, 1, 5, 6, 7, 8, 9, 13], [0, 1]), ([14, 9, 0, 1, 5, 6, 7, 8, 9, 13], [9, 14]), ([2, 4, 0, 1, 2, 3, 4, 5, 6, 7, 8, 9, 10, 11, 12, 13, 14, 15], [2, 4]), ([16, 13, 15, 0, 1, 2, 3, 4, 5, 6, 7, 8, 9, 10, 11, 12, 13, 14, 15], [13, 16])])
def chirographref07_sorted.B9 : List Nat := [0, 0, 0, 0, 8, 0, 0, 64, 224, 480, 0, 0, 3072, 7168, 16355, 32739, 65535, 131071]
theorem chirographref07_sorted.tab9 : rtab .any (opsOf Tryz.f85 9) = chirographref07_sorted.T9 := by kernel_rfl
theorem chirographref07_sorted.bits9 : waitsOk chirographref07_sorted.T9.2 chirographref07_sorted.B9 = true := by kernel_rfl
set_option maxRecDepth 100000 in
set_option maxHeartbeats 4000000 in
theorem chirographref07_sorted.calls (A0 : Option Addr) (c0 : Nat) (l0 : List (List Int)) (r : List (List Int)) (w : World) (hr0 : Kd.C (Kd.slice 5 (Kd.int .u8)) w A0 l0.length l0) (hc0 : l0.length ≤ c0) (h : chirographref07_sorted.f l0 = some r) :
    Calls Tryz.prog 85 #[.slice A0 l0.length c0] w fun e w' => ∃ v, e = .returned v ∧ (kBs w).R 22 w' w.heap.size (fun _ => True) v r ∧ Below w.heap.size w w' := by
  have HR := Aside0.mk hr0
  have HC := Aside0.mk hc0
  clear hr0 hc0
  unfold chirographref07_sorted.f at h
  split at h
  case isFalse => cases h
  case isTrue hlen =>
  obtain rfl := Option.some.inj h
  have HLEN := Aside0.mk hlen
  clear h hlen
  have mixed : Tryz.prog.follows .mixedOrders = true := by kernel_rfl
  go_enter Tryz.func85, Tryz.ntmps85
  go_wp2_with fail
  go_loopg [3, 4] (l0.length + 1) (fun kq v3 v4 w' => ∃ (i : Nat) (out : List (List Int)), v4 = .int .i64 (i : Int) ∧ Aside0 (i ≤ l0.length ∧ l0.length < kq + i ∧ out.length = i ∧ l0.length ≤ 1000000) ∧ Aside0 (sortedL l0 = (l0.drop i).foldl insL out) ∧ Aside0 ((kBs w).R 22 w' w.heap.size (fun _ => True) v3 out) ∧ Aside0 (Below w.heap.size w w'))
  case atStart => exact ⟨0, [], rfl, ⟨⟨Nat.zero_le _, by omega, rfl, HLEN.out⟩⟩, ⟨rfl⟩, ⟨Kd.R_nil _ _ _ _ _⟩, ⟨Below.refl _ _⟩⟩
  case round =>
    obtain ⟨i, out, rfl, HI, HS, HO, HB⟩ := hrel
    cases gk with
    | zero => exact absurd HI.out (by omega)
    | succ g1 =>
      obtain ⟨Ao, co, hu⟩ := Kd.R_slice HO.out
      subst hu
      by_cases hi : i < l0.length
      rotate_left
      · have d1 : decide ((i : Int) < (l0.length : Int)) = false := decide_eq_false (by omega)
        have hie : i = l0.length := by have := HI.out; omega
        have HS1 : sortedL l0 = out := by rw [HS.out, hie, List.drop_length]; rfl
        go_wp2_with fail
        go_ret
        exact ⟨_, rfl, by rw [HS1]; exact HO.out, HB.out⟩
      have d1 : decide ((i : Int) < (l0.length : Int)) = true := decide_eq_true (by omega)
      have p1 : ((0 : Int) ≤ (i : Int)) = True := eq_true (by omega)
      have q1 : ((i : Int) < (l0.length : Int)) = True := eq_true (by omega)
      have hw3 : wrap64 ((i : Int) + 1) = ((i + 1 : Nat) : Int) := by unfold wrap64; have := HI.out; omega
      obtain ⟨ad0, cs, rfl, _, hK, hc⟩ := Kd.C_get HR.out [] (i : Int) (by omega) (by omega)
      rw [Int.toNat_natCast] at hK
      obtain ⟨Ai, ci, rfl, hl, hg⟩ := hK
      have x0 := hc 0 _ rfl
      rw [Int.toNat_natCast] at x0
      simp only [Kd.slice, Nat.mul_one, Nat.add_zero] at x0
      have HD : Aside0 (l0.drop i = l0.getD i [] :: l0.drop (i + 1)) := ⟨by rw [List.drop_eq_getElem_cons hi, List.getD_eq_getElem?_getD, List.getElem?_eq_getElem hi]; rfl⟩
      have gx := And.intro hl hg
      clear hc hl hg
      generalize l0.getD i [] = x at *
      have HS1 : Aside0 (sortedL l0 = (l0.drop (i + 1)).foldl insL (insL out x)) := ⟨by rw [HS.out, HD.out]; rfl⟩
      clear HS HD
      have y0 := (HB.out.cell (World.block_lt_of_cell? w _ x0)).trans x0
      have hw4 : wrap64 (out.length : Int) = (i : Int) := by unfold wrap64; have := HI.out; omega
      go_wp2_with ((with_reducible refine gate_builtin (b := .append) (xs := #[.tmp 12, .tmp 17]) rfl ?_); at_builtin; refine Kd.R_append (kBs w) (w0 := w) w.heap.size rfl (.tmp 12) (.tmp 17) 67 22 (.slice none 0 0) 24 rfl Tryz.underlying67 info22 rfl (Nat.zero_lt_succ 0 : (0 : Nat) < 1) (by omega) (.slice Ao out.length co) out x [.slice Ai x.length ci] (fun _ => True) (fun _ => False) rfl rfl ?aP (fun _ hk => hk.elim) ?aF ?aO ?aB ?aS ?aL ?_; (case aP => exact ⟨_, _, rfl, gx⟩); (case aF => exact (fun _ _ => trivial)); (case aO => exact HO.out); (case aB => exact HB.out); (case aS => exact (below_size HB.out)); (case aL => have := HI.out; omega); intro v5 w4 ho hb hgr hat; obtain ⟨g, c5, hu, -⟩ := own_block ho (by simp); subst hu; have HO1 := Aside0.mk ho; have HB1 := Aside0.mk hb; clear ho hb hgr hat HO HB x0 y0)
      go_loopg [5] (i + 2) (fun kq v5 w' => ∃ (m : Nat) (cur : List (List Int)), v5 = .int .i64 (m : Int) ∧ Aside0 (m < kq ∧ m ≤ i ∧ cur.length = i + 1 ∧ i ≤ 1000000) ∧ Aside0 (bub m cur = insL out x) ∧ Aside0 ((kBs w).R 22 w' w.heap.size (fun _ => True) (.slice (some ⟨g, 0, none⟩) (out ++ [x]).length c5) cur) ∧ Aside0 (Below w.heap.size w w'))
      case atStart => exact ⟨i, out ++ [x], congrArg (Value.int .i64) hw4, ⟨by have := HI.out; rw [List.length_append, List.length_singleton]; omega⟩, ⟨by unfold insL; rw [HI.out.2.2.1]⟩, HO1, HB1⟩
      case round =>
        clear HO1 HB1
        obtain ⟨m, cur, rfl, HM, HBu, HO2, HB2⟩ := hrel
        have hlen1 : (out ++ [x]).length = cur.length := by rw [List.length_append, List.length_singleton]; have := HI.out; have := HM.out; omega
        rw [hlen1] at HO2
        have hlen2 : out.length + 1 = cur.length := by have := HI.out; have := HM.out; omega
        cases gk with
        | zero => exact absurd HM.out (by omega)
        | succ g2 =>
          by_cases hm0 : 0 < m
          rotate_left
          · obtain rfl : m = 0 := by omega
            go_wp2_with fail
            go_big_quiet_o (fail)
            go_wp2_with fail
            rw [hlen2]
            go_roundg g1
            case measure => exact Nat.lt_succ_self _
            case rel => exact ⟨i + 1, cur, congrArg (Value.int .i64) (by first | exact hw3 | omega), ⟨by have := HM.out; have := HI.out; omega⟩, ⟨by have := HBu.out; rw [show cur = insL out x from this]; exact HS1.out⟩, ⟨Kd.R_drewN HO2.out nq⟩, ⟨pw_below_drewN HB2.out nq⟩⟩
          have dm : decide ((0 : Int) < (m : Int)) = true := decide_eq_true (by omega)
          obtain ⟨p, hmp⟩ : ∃ p, m = p + 1 := ⟨m - 1, by omega⟩
          have HMP := Aside0.mk hmp
          have hw5 : wrap64 ((m : Int) - 1) = (p : Int) := by unfold wrap64; have := HM.out; omega
          have pm : ((0 : Int) ≤ (m : Int)) = True := eq_true (by omega)
          have qm : ((m : Int) < (cur.length : Int)) = True := eq_true (by have := HM.out; omega)
          have pp : ((0 : Int) ≤ (p : Int)) = True := eq_true (by omega)
          have qp : ((p : Int) < (cur.length : Int)) = True := eq_true (by have := HM.out; omega)
          obtain ⟨ad, Am, cm, hA, hm1, gm⟩ := old_at HO2.out m (by have := HM.out; omega)
          obtain ⟨ad', Ap, cp, hA', hp1, gp⟩ := old_at HO2.out p (by have := HM.out; omega)
          rw [hA] at hA'
          cases hA'
          have HAD : Aside0 (ad = ⟨g, 0, none⟩) := ⟨(Option.some.inj hA).symm⟩
          have hA2 : (some ⟨g, 0, none⟩ : Option Addr) = some ad := hA
          have HBS : Aside0 (bub m cur = if ltL (cur.getD m []) (cur.getD p []) = true then bub p ((cur.set m (cur.getD p [])).set p (cur.getD m [])) else cur) := ⟨by rw [hmp]; rfl⟩
          clear hmp hA
          generalize cur.getD m [] = xm at *
          generalize cur.getD p [] = xp at *
          have hcvm : ∀ n, (convert 22 9 (.slice Am xm.length cm)).run Tryz.prog (wr.drewN n) = .ok (.string (strOfNums xm)) (wr.drewN n) := fun n => Kd.C_string (P := Tryz.prog) (A := Am) (c := cm) Tryz.underlying22 Tryz.underlying5 Tryz.underlying9 (Kd.C_drewN (Kd.C_below gm.2 HB2.out) n)
          have hcvp : ∀ n, (convert 22 9 (.slice Ap xp.length cp)).run Tryz.prog (wr.drewN n) = .ok (.string (strOfNums xp)) (wr.drewN n) := fun n => Kd.C_string (P := Tryz.prog) (A := Ap) (c := cp) Tryz.underlying22 Tryz.underlying5 Tryz.underlying9 (Kd.C_drewN (Kd.C_below gp.2 HB2.out) n)
          rw [hA2] at HO2
          rw [hA2, hlen2]
          by_cases hlt : ltL xm xp = true
          rotate_left
          · have hbl : Op.bytesLess (strOfNums xm).toList (strOfNums xp).toList = false := by simpa [ltL] using hlt
            go_wp2_with fail
            go_big_quiet_o (fail)
            go_wp2_with fail
            go_roundg g1
            case measure => exact Nat.lt_succ_self _
            case rel => exact ⟨i + 1, cur, congrArg (Value.int .i64) (by first | exact hw3 | omega), ⟨by have := HM.out; have := HI.out; omega⟩, ⟨by have := HBu.out; rw [HBS.out, if_neg hlt] at this; rw [this]; exact HS1.out⟩, ⟨Kd.R_drewN HO2.out nq⟩, ⟨pw_below_drewN HB2.out nq⟩⟩
          have hbl : Op.bytesLess (strOfNums xm).toList (strOfNums xp).toList = true := hlt
          go_wp2_with fail
          go_big_quiet_o (fail)
          have HOq := Aside0.mk (Kd.R_drewN HO2.out nq)
          have HBq := Aside0.mk (pw_below_drewN HB2.out nq)
          replace hm1 : (wr.drewN nq).cell? (ad.add m) = some (.slice Am xm.length cm) := hm1
          replace hp1 : (wr.drewN nq).cell? (ad.add p) = some (.slice Ap xp.length cp) := hp1
          clear hcvm hcvp HO2 HB2
          generalize wr.drewN nq = wq at *
          go_wp2_with fail
          refine start_ (n := 18) (S := fun w' => w'.cell? (ad.add m) = some (.slice Am xm.length cm) ∧ w'.cell? (ad.add p) = some (.slice Ap xp.length cp)) (ds := [15, 17]) #[false, false, false, false, false, false, false, false, false, false, false, false, false, false, false, false, false, false] (by kernel_rfl) rfl rfl ⟨hm1, hp1⟩ (fun hHeld => ?_); refine with_tabW chirographref07_sorted.tab9 chirographref07_sorted.bits9 (fun HT_ HW_ => ?_)
          have HB3 := Aside0.mk (below_drew HBq.out)
          have HO3 := Aside0.mk (Kd.R_drew HOq.out)
          have hm3 : wq.drew.cell? (ad.add m) = some (.slice Am xm.length cm) := hm1
          have hp3 : wq.drew.cell? (ad.add p) = some (.slice Ap xp.length cp) := hp1
          clear hm1 hp1 HBq HOq
          generalize wq.drew = w3 at *
          refine pure_ (i := 0) (N := some 40) (v := ?_) (a' := ?_) #[true, false, false, false, false, false, false, false, false, false, false, false, false, false, false, false, false, false] rfl rfl (any_of HT_.out (by kernel_rfl)) (fun _ _ _ h => h) (Or.inl ⟨by rfl, ?_⟩) ?_ ?_; rotate_left; (intro w'; go_simp; with_reducible rfl); rotate_left; (simp only [Act.put, List.setIfInBounds_toArray, List.set_cons_zero, List.set_cons_succ, i64_w, i32_w]; rfl)
          refine pure_ (i := 1) (N := some 41) (v := ?_) (a' := ?_) #[true, true, false, false, false, false, false, false, false, false, false, false, false, false, false, false, false, false] rfl rfl (any_of HT_.out (by kernel_rfl)) (fun _ _ _ h => h) (Or.inl ⟨by rfl, ?_⟩) ?_ ?_; rotate_left; (intro w'; go_simp; with_reducible rfl); rotate_left; (simp only [Act.put, List.setIfInBounds_toArray, List.set_cons_zero, List.set_cons_succ, i64_w, i32_w]; rfl)
          refine pure_ (i := 2) (N := some 42) (v := ?_) (a' := ?_) #[true, true, true, false, false, false, false, false, false, false, false, false, false, false, false, false, false, false] rfl rfl (any_of HT_.out (by kernel_rfl)) (fun _ _ _ h => h) (Or.inl ⟨by rfl, ?_⟩) ?_ ?_; rotate_left; (intro w'; go_simp; with_reducible rfl); rotate_left; (simp only [Act.put, List.setIfInBounds_toArray, List.set_cons_zero, List.set_cons_succ, i64_w, i32_w]; rfl)
          refine pure_ (i := 3) (N := some 43) (v := ?_) (a' := ?_) #[true, true, true, true, false, false, false, false, false, false, false, false, false, false, false, false, false, false] rfl rfl (any_of HT_.out (by kernel_rfl)) (fun _ _ _ h => h) (Or.inl ⟨by rfl, ?_⟩) ?_ ?_; rotate_left; (intro w'; go_simp; with_reducible rfl); rotate_left; (simp only [Act.put, List.setIfInBounds_toArray, List.set_cons_zero, List.set_cons_succ, i64_w, i32_w]; rfl)
          refine pure_ (i := 4) (N := some 44) (v := ?_) (a' := ?_) #[true, true, true, true, true, false, false, false, false, false, false, false, false, false, false, false, false, false] rfl rfl (any_of HT_.out (by kernel_rfl)) (fun _ _ _ h => h) (Or.inl ⟨by rfl, ?_⟩) ?_ ?_; rotate_left; (intro w'; go_simp; with_reducible rfl); rotate_left; (simp only [Act.put, List.setIfInBounds_toArray, List.set_cons_zero, List.set_cons_succ, i64_w, i32_w]; rfl)
          refine pure_ (i := 5) (N := some 45) (v := ?_) (a' := ?_) #[true, true, true, true, true, true, false, false, false, false, false, false, false, false, false, false, false, false] rfl rfl (any_of HT_.out (by kernel_rfl)) (fun _ _ _ h => h) (Or.inl ⟨by rfl, ?_⟩) ?_ ?_; rotate_left; (intro w'; go_simp; with_reducible rfl); rotate_left; (simp only [Act.put, List.setIfInBounds_toArray, List.set_cons_zero, List.set_cons_succ, i64_w, i32_w]; rfl)
          refine pure_ (i := 6) (N := some 46) (v := ?_) (a' := ?_) #[true, true, true, true, true, true, true, false, false, false, false, false, false, false, false, false, false, false] rfl rfl (any_of HT_.out (by kernel_rfl)) (fun _ _ _ h => h) (Or.inl ⟨by rfl, ?_⟩) ?_ ?_; rotate_left; (intro w'; go_simp; with_reducible rfl); rotate_left; (simp only [Act.put, List.setIfInBounds_toArray, List.set_cons_zero, List.set_cons_succ, i64_w, i32_w]; rfl)
          refine pure_ (i := 7) (N := some 47) (v := ?_) (a' := ?_) #[true, true, true, true, true, true, true, true, false, false, false, false, false, false, false, false, false, false] rfl rfl (any_of HT_.out (by kernel_rfl)) (fun _ _ _ h => h) (Or.inl ⟨by rfl, ?_⟩) ?_ ?_; rotate_left; (intro w'; go_simp; with_reducible rfl); rotate_left; (simp only [Act.put, List.setIfInBounds_toArray, List.set_cons_zero, List.set_cons_succ, i64_w, i32_w]; rfl)
          refine pure_ (i := 8) (N := some 48) (v := ?_) (a' := ?_) #[true, true, true, true, true, true, true, true, true, false, false, false, false, false, false, false, false, false] rfl rfl (any_of HT_.out (by kernel_rfl)) (fun _ _ _ h => h) (Or.inl ⟨by rfl, ?_⟩) ?_ ?_; rotate_left; (intro w'; go_simp; with_reducible rfl); rotate_left; (simp only [Act.put, List.setIfInBounds_toArray, List.set_cons_zero, List.set_cons_succ, i64_w, i32_w]; rfl)
          refine take_ (i := 9) (N := some 49) (v := ?_) (a' := ?_) #[true, true, true, true, true, true, true, true, true, true, false, false, false, false, false, false, false, false] rfl rfl (take_ofW HT_.out HW_.out (by kernel_rfl)) (fun _ _ _ h => h) (Or.inl ⟨by rfl, ?_⟩) hHeld ?_ ?_; rotate_left; (rintro w' ⟨s0, s1⟩; go_simp; with_reducible rfl); rotate_left; (simp only [Act.put, List.setIfInBounds_toArray, List.set_cons_zero, List.set_cons_succ, i64_w, i32_w]; rfl)
          refine pure_ (i := 10) (N := some 50) (v := ?_) (a' := ?_) #[true, true, true, true, true, true, true, true, true, true, true, false, false, false, false, false, false, false] rfl rfl (any_of HT_.out (by kernel_rfl)) (fun _ _ _ h => h) (Or.inl ⟨by rfl, ?_⟩) ?_ ?_; rotate_left; (intro w'; go_simp; with_reducible rfl); rotate_left; (simp only [Act.put, List.setIfInBounds_toArray, List.set_cons_zero, List.set_cons_succ, i64_w, i32_w]; rfl)
          refine pure_ (i := 11) (N := some 51) (v := ?_) (a' := ?_) #[true, true, true, true, true, true, true, true, true, true, true, true, false, false, false, false, false, false] rfl rfl (any_of HT_.out (by kernel_rfl)) (fun _ _ _ h => h) (Or.inl ⟨by rfl, ?_⟩) ?_ ?_; rotate_left; (intro w'; go_simp; with_reducible rfl); rotate_left; (simp only [Act.put, List.setIfInBounds_toArray, List.set_cons_zero, List.set_cons_succ, i64_w, i32_w]; rfl)
          refine pure_ (i := 12) (N := some 52) (v := ?_) (a' := ?_) #[true, true, true, true, true, true, true, true, true, true, true, true, true, false, false, false, false, false] rfl rfl (any_of HT_.out (by kernel_rfl)) (fun _ _ _ h => h) (Or.inl ⟨by rfl, ?_⟩) ?_ ?_; rotate_left; (intro w'; go_simp; with_reducible rfl); rotate_left; (simp only [Act.put, List.setIfInBounds_toArray, List.set_cons_zero, List.set_cons_succ, i64_w, i32_w]; rfl)
          refine take_ (i := 13) (N := some 53) (v := ?_) (a' := ?_) #[true, true, true, true, true, true, true, true, true, true, true, true, true, true, false, false, false, false] rfl rfl (take_ofW HT_.out HW_.out (by kernel_rfl)) (fun _ _ _ h => h) (Or.inl ⟨by rfl, ?_⟩) hHeld ?_ ?_; rotate_left; (rintro w' ⟨s0, s1⟩; go_simp; with_reducible rfl); rotate_left; (simp only [Act.put, List.setIfInBounds_toArray, List.set_cons_zero, List.set_cons_succ, i64_w, i32_w]; rfl)
          refine pure_ (i := 14) (N := some 54) (v := ?_) (a' := ?_) #[true, true, true, true, true, true, true, true, true, true, true, true, true, true, true, false, false, false] rfl rfl (any_of HT_.out (by kernel_rfl)) (fun _ _ _ h => h) (Or.inl ⟨by rfl, ?_⟩) ?_ ?_; rotate_left; (intro w'; go_simp; with_reducible rfl); rotate_left; (simp only [Act.put, List.setIfInBounds_toArray, List.set_cons_zero, List.set_cons_succ, i64_w, i32_w]; rfl)
          refine last_ (i := 15) (N := none) #[true, true, true, true, true, true, true, true, true, true, true, true, true, true, true, true, false, false] rfl rfl (one_of HT_.out (by kernel_rfl)) (by decide) (fun K hK => ?_)
          refine R_store_step (kBs w) (w0 := w) w.heap.size (by rfl) rfl 22 (.tmp 54) (.tmp 49) rfl 22 (g := g) (n := cur.length) (cap := c5) (o' := m) (m : Int) 0 (cur) xp (.slice Ap xp.length cp) [.slice Ap xp.length cp] [.slice Am xm.length cm] (fun _ => True) (fun _ => False) ?aA ?aF rfl rfl (by kernel_rfl) ?a1 (by have := HO3.out; rw [HAD.out] at this; exact this) (by omega) ?ai rfl ?ac (Nat.le_refl 1) ?aM (fun _ hk => hk.elim) HB3.out ?_
          case aA => show Value.pointer (some (ad.add m)) = _; rw [HAD.out, add_plain]
          case aF => show m = (m : Int).toNat * 1 + 0; omega
          case a1 => intro q hq; rw [List.mem_singleton.1 hq]; rfl
          case ai => have := HM.out; have := HMP.out; omega
          case ac =>
            intro jj uu hu
            obtain ⟨rfl, rfl⟩ : jj = 0 ∧ uu = .slice Am xm.length cm := by cases jj with | zero => exact ⟨rfl, (Option.some.inj hu).symm⟩ | succ z => cases hu
            rw [Int.toNat_natCast, show m * (kBs w).sz + 0 = m from Nat.mul_one _, ← add_plain, ← HAD.out]
            exact hm3
          case aM => exact ⟨_, _, rfl, gp⟩
          intro w4 ho hb hgr
          refine hK.out _ _ ?_
          clear hK K
          have HO4 := Aside0.mk ho
          have HB4 := Aside0.mk hb
          clear ho hb hgr
          obtain ⟨ad4, A4, c4, e4, hp4, _⟩ := old_at (A := some ⟨g, 0, none⟩) (cap := c5) (xs := cur.set (m : Int).toNat xp) (by rw [List.length_set]; exact HO4.out) p (by rw [List.length_set]; have := HM.out; have := HMP.out; omega)
          cases e4
          refine pure_ (i := 16) (N := some 55) (v := ?_) (a' := ?_) #[true, true, true, true, true, true, true, true, true, true, true, true, true, true, true, true, true, false] rfl rfl (any_of HT_.out (by kernel_rfl)) (fun _ _ _ h => h) (Or.inl ⟨by rfl, ?_⟩) ?_ ?_; rotate_left; (intro w'; go_simp; with_reducible rfl); rotate_left; (simp only [Act.put, List.setIfInBounds_toArray, List.set_cons_zero, List.set_cons_succ, i64_w, i32_w]; rfl)
          refine last_ (i := 17) (N := none) #[true, true, true, true, true, true, true, true, true, true, true, true, true, true, true, true, true, true] rfl rfl (one_of HT_.out (by kernel_rfl)) (by decide) (fun K hK => ?_)
          refine R_store_step (kBs w) (w0 := w) w.heap.size (by rfl) rfl 22 (.tmp 55) (.tmp 53) rfl 22 (g := g) (n := cur.length) (cap := c5) (o' := p) (p : Int) 0 (cur.set (m : Int).toNat xp) xm (.slice Am xm.length cm) [.slice Am xm.length cm] [.slice A4 ((cur.set (m : Int).toNat xp).getD p []).length c4] (fun _ => True) (fun _ => False) ?aA ?aF rfl rfl (by kernel_rfl) ?a1 HO4.out (by omega) ?ai rfl ?ac (Nat.le_refl 1) ?aM (fun _ hk => hk.elim) HB4.out ?_
          case aA => show Value.pointer (some (ad.add p)) = _; rw [HAD.out, add_plain]
          case aF => show p = (p : Int).toNat * 1 + 0; omega
          case a1 => intro q hq; rw [List.mem_singleton.1 hq]; rfl
          case ai => have := HM.out; have := HMP.out; omega
          case ac =>
            intro jj uu hu
            obtain ⟨rfl, rfl⟩ : jj = 0 ∧ uu = .slice A4 ((cur.set (m : Int).toNat xp).getD p []).length c4 := by cases jj with | zero => exact ⟨rfl, (Option.some.inj hu).symm⟩ | succ z => cases hu
            rw [Int.toNat_natCast, show p * (kBs w).sz + 0 = p from Nat.mul_one _, ← add_plain]
            exact hp4
          case aM => exact ⟨_, _, rfl, gm⟩
          intro w5 ho hb hgr
          refine hK.out _ _ ?_
          clear hK K
          have HO5 := Aside0.mk ho
          have HB5 := Aside0.mk hb
          clear ho hb hgr
          refine done_ (done_of HT_.out (by kernel_rfl)) ?_
          go_wp2_with fail
          rw [HAD.out, ← hlen2]
          go_roundg g2
          case measure => exact Nat.lt_succ_self _
          case rel => exact ⟨p, (cur.set (m : Int).toNat xp).set (p : Int).toNat xm, congrArg (Value.int .i64) (by first | exact hw5 | omega), ⟨by rw [List.length_set, List.length_set]; have := HM.out; have := HMP.out; omega⟩, ⟨by have := HBu.out; rw [HBS.out, if_pos hlt] at this; simpa using this⟩, ⟨by rw [hlen1]; exact HO5.out⟩, HB5⟩
end Go.Proofs.YtkioddjjfifadaaGreatDoor.P
set_option linter.unusedVariables false
namespace Go.Proofs.YtkioddjjfifadaaGreatDoor.P
open Go.RowKit Go.Proofs.YtkioddjjfifadaaGreatDoorW.PrintWords Go.Proofs.YtkioddjjfifadaaGreatDoorW.PrintLast Go.Proofs.YtkioddjjfifadaaGreatDoorW.PrintMore
theorem run_bytesSl {P : Program} {w : World} {A : Option Addr} {n c : Nat} {xs : List Int} (h : (Kd.int .u8).C w A n xs) : (Extern.Bytes.bytesOf (.slice A n c)).run P w = .ok ⟨(Lib.bytesOf xs).toArray⟩ w := by
  have hn : xs.length = n := h.1
  cases A with
  | none =>
    have : xs = [] := by
      rcases Nat.eq_zero_or_pos n with h0 | h0
      · exact List.eq_nil_of_length_eq_zero (hn.trans h0)
      obtain ⟨ad, e, _⟩ := h.2.2 h0
      cases e
    subst this
    rfl
  | some a =>
    have hr := Kd.reads_of_C (d := (0 : Int)) h
    have hl := Lib.run_loadBytesX (P := P) w xs a .empty (fun j x hj => by
      have hjl : j < xs.length := (List.getElem?_eq_some_iff.1 hj).1
      obtain ⟨ad, e, hc⟩ := hr.2.2 (by omega)
      cases e
      have h2 := hc j (by omega)
      rw [List.getD_eq_getElem?_getD, hj] at h2
      exact h2)
    rw [hn] at hl
    have he : (⟨ByteArray.empty.data ++ (Lib.bytesOf xs).toArray⟩ : ByteArray) = ⟨(Lib.bytesOf xs).toArray⟩ := by
      apply ByteArray.ext
      show (#[] : Array UInt8) ++ (Lib.bytesOf xs).toArray = (Lib.bytesOf xs).toArray
      simp
    rw [he] at hl
    exact hl
theorem run_compareSl {P : Program} {w : World} {A B : Option Addr} {n c m d : Nat} {xs ys : List Int} (h : (Kd.int .u8).C w A n xs) (h2 : (Kd.int .u8).C w B m ys) :
    (Extern.BytealgCompare.compare #[.slice A n c, .slice B m d]).run P w = .ok (.int .i64 (Lib.compareBytes (Lib.bytesOf xs) (Lib.bytesOf ys))) w := by
  change Sem.run P (do pure (goInt (Extern.BytealgCompare.cmp (← Extern.Bytes.bytesOf (.slice A n c)) (← Extern.Bytes.bytesOf (.slice B m d))))) w = _
  simp only [Sem.run_bind, run_bytesSl h, run_bytesSl h2, Sem.run_pure, Result.andThen]
  rw [Lib.cmp_eq]
  rfl
theorem bytes_Compare_calls (A B : Option Addr) (n c m d : Nat) (xs ys : List Int) (w : World) (h : (Kd.int .u8).C w A n xs) (h2 : (Kd.int .u8).C w B m ys) :
    Calls Tryz.prog 151 #[.slice A n c, .slice B m d] w fun e w' => e = .returned (.int .i64 (Lib.compareBytes (Lib.bytesOf xs) (Lib.bytesOf ys))) ∧ w' = w := by
  have h8 := @run_callFunc_extern Tryz.prog 202 _ Extern.BytealgCompare.compare Tryz.func202 (by kernel_rfl) (by kernel_rfl) (by kernel_rfl) (by kernel_rfl)
  have hr := run_compareSl (P := Tryz.prog) (c := c) (d := d) h h2
  clear h h2
  generalize Lib.compareBytes (Lib.bytesOf xs) (Lib.bytesOf ys) = R at *
  go_enter Tryz.func151, Tryz.ntmps151
  go_wp2
  go_ret
  exact ⟨rfl, rfl⟩
theorem long_calls (A : Option Addr) (n c : Nat) (w : World) : Calls Tryz.prog 148 #[.slice A n c] w fun e w' => e = .returned (.bool (decide (64 < (n : Int)))) ∧ w' = w := by
  go_enter Tryz.func148, Tryz.ntmps148
  go_wp2
  go_ret
  exact ⟨rfl, rfl⟩
def longL (l : List (List S64)) : Bool := l.any fun s => decide (64 < (s.length : Int))
def IdxPost (l : List (List S64)) (w : World) (e : Ending) (w' : World) : Prop := ∃ i : Int, e = .returned (.int .i64 i) ∧ decide (0 ≤ i) = longL l ∧ w' = w
theorem longL_take (l : List (List S64)) (j : Nat) (hj : j < l.length) : longL (l.take (j + 1)) = (longL (l.take j) || decide (64 < ((rd_L5 l (j : Int)).length : Int))) := by
  unfold longL
  rw [List.take_succ_eq_append_getElem hj, List.any_append]
  congr 1
  simp only [List.any_cons, List.any_nil, Bool.or_false]
  have : rd_L5 l (j : Int) = l[j] := by
    show l.getD (j : Int).toNat [] = l[j]
    rw [Int.toNat_natCast, List.getD_eq_getElem?_getD, List.getElem?_eq_getElem hj]; rfl
  rw [this]
set_option maxRecDepth 100000 in
set_option maxHeartbeats 4000000 in
theorem index_long (A0 : Option Addr) (c0 : Nat) (l0 : List (List S64)) (w : World) (hr0 : Kd.C (Kd.slice 64 k64) w A0 l0.length l0) (hl : l0.length < 4611686018427387904) :
    Calls Tryz.prog 198 #[.slice A0 l0.length c0, .func (.func 148) #[] #[]] w (IdxPost l0 w) := by
  have HR0 := Aside0.mk hr0
  have HL := Aside0.mk hl
  clear hr0 hl
  go_enter Tryz.func198, Tryz.ntmps198
  go_wp2
  go_loopg [8] (l0.length + 1) (fun kq v8 w' => ∃ (j : Nat), v8 = .int .i64 (j : Int) ∧ Aside0 (j ≤ l0.length ∧ l0.length < kq + j) ∧ Aside0 (longL (l0.take j) = false) ∧ w' = w)
  case atStart => exact ⟨0, rfl, ⟨⟨Nat.zero_le _, by omega⟩⟩, ⟨rfl⟩, rfl⟩
  case round =>
    obtain ⟨j, rfl, HJ, HF, rfl⟩ := hrel
    cases gk with
    | zero => exact absurd HJ.out (by omega)
    | succ g1 =>
      by_cases hj : j < l0.length
      rotate_left
      · have c1 : decide ((j : Int) < (l0.length : Int)) = false := decide_eq_false (by omega)
        go_wp2
        go_ret
        refine ⟨_, rfl, ?_, rfl⟩
        have := HF.out
        rw [List.take_of_length_le (by omega)] at this
        rw [this]
        rfl
      have c1 : decide ((j : Int) < (l0.length : Int)) = true := decide_eq_true (by omega)
      have p1 : ((0 : Int) ≤ (j : Int)) = True := eq_true (by omega)
      have q1 : ((j : Int) < (l0.length : Int)) = True := eq_true (by omega)
      obtain ⟨ad, A1, c1', rfl, hx, hl1, hC1⟩ := at_L5 HR0.out (j : Int) (by omega) (by omega)
      rw [Int.toNat_natCast] at hx
      have HS := Aside0.mk (longL_take l0 j hj)
      have hw3 : wrap64 ((j : Int) + 1) = ((j + 1 : Nat) : Int) := by unfold wrap64; have := HL.out; omega
      clear hl1 hC1
      obtain ⟨n1, hn1⟩ : ∃ n1, (rd_L5 l0 (j : Int)).length = n1 := ⟨_, rfl⟩
      rw [hn1] at hx
      have HN := Aside0.mk hn1
      clear hn1
      by_cases hb : 64 < (n1 : Int)
      rotate_left
      · have hd : decide (64 < (n1 : Int)) = false := decide_eq_false hb
        have HB : Aside0 (longL (l0.take (j + 1)) = false) := ⟨by rw [HS.out, HF.out, HN.out, hd]; rfl⟩
        have ARM : ∀ W : World, Calls Tryz.prog 148 #[.slice A1 n1 c1'] W fun e w' => e = .returned (.bool false) ∧ w' = W := fun W => hd ▸ long_calls A1 n1 c1' W
        clear hd hb
        go_wp2_with ((with_reducible refine (ARM _).mono ?_); rintro e w4 ⟨rfl, rfl⟩)
        go_roundg g1
        case measure => exact Nat.lt_succ_self _
        case rel => exact ⟨j + 1, congrArg (Value.int .i64) hw3, ⟨by have := HJ.out; omega⟩, HB, rfl⟩
      have hd : decide (64 < (n1 : Int)) = true := decide_eq_true hb
      have HB : Aside0 (longL (l0.take (j + 1)) = true) := ⟨by rw [HS.out, HF.out, HN.out, hd]; rfl⟩
      have ARM : ∀ W : World, Calls Tryz.prog 148 #[.slice A1 n1 c1'] W fun e w' => e = .returned (.bool true) ∧ w' = W := fun W => hd ▸ long_calls A1 n1 c1' W
      clear hd hb
      go_wp2_with ((with_reducible refine (ARM _).mono ?_); rintro e w4 ⟨rfl, rfl⟩)
      go_ret
      refine ⟨_, rfl, ?_, rfl⟩
      have h1 : longL l0 = true := by
        have := HB.out
        unfold longL at this ⊢
        rw [List.any_eq_true] at this ⊢
        obtain ⟨x, hx, hp⟩ := this
        exact ⟨x, List.mem_of_mem_take hx, hp⟩
      rw [h1]
      exact decide_eq_true (by omega)
def slices_ContainsFunc.f (l : List (List S64)) : Option Bool := if l.length < 4611686018427387904 then some (longL l) else none
theorem contains_long (A0 : Option Addr) (c0 : Nat) (l0 : List (List S64)) (r : Bool) (w : World) (hr0 : Kd.C (Kd.slice 64 k64) w A0 l0.length l0) (h : slices_ContainsFunc.f l0 = some r) :
    Calls Tryz.prog 147 #[.slice A0 l0.length c0, .func (.func 148) #[] #[]] w fun e w' => e = .returned (.bool r) ∧ w' = w := by
  unfold slices_ContainsFunc.f at h
  split at h
  case isFalse => cases h
  case isTrue hl =>
  have HR := Aside0.mk (Option.some.inj h)
  have HC := Aside0.mk hr0
  have HL := Aside0.mk hl
  clear h hl hr0
  go_enter Tryz.func147, Tryz.ntmps147
  go_wp2_with fail
  refine (index_long A0 c0 l0 _ HC.out HL.out).mono ?_
  rintro e w4 ⟨i, rfl, hi, rfl⟩
  rw [HR.out] at hi
  go_wp2_with fail
  go_ret
  exact ⟨by first | rfl | (rw [hi]), rfl⟩
end Go.Proofs.YtkioddjjfifadaaGreatDoor.P
namespace Go.Proofs.YtkioddjjfifadaaGreatDoor.P
open Go.RowKit Go.Proofs.YtkioddjjfifadaaGreatDoorW.PrintWords Go.Proofs.YtkioddjjfifadaaGreatDoorW.PrintLast Go.Proofs.YtkioddjjfifadaaGreatDoorW.PrintMore
def sortB (xs : List ByteArray) : List ByteArray := ((xs.map fun b => b.data.toList).mergeSort fun x y => decide (x ≤ y)).map fun l => ⟨l.toArray⟩
theorem sortB_len (xs : List ByteArray) : (sortB xs).length = xs.length := by simp [sortB]
def slices_Sort.f (xs : List ByteArray) : Option (List ByteArray) := if xs.length < 4611686018427387904 then some (sortB xs) else none
theorem sort_own (w0 : World) (v : Value) (xs r : List ByteArray) (w : World) (hR : Kd.string.R 9 w w0.heap.size (fun _ => True) v xs) (h0 : Below w0.heap.size w0 w) (h : slices_Sort.f xs = some r) :
    Calls Tryz.prog 161 #[v] w fun e w' => e = .returned (.tuple #[]) ∧ Kd.string.R 9 w' w0.heap.size (fun _ => True) v r ∧ Below w0.heap.size w0 w' := by
  unfold slices_Sort.f at h
  split at h
  case isFalse => cases h
  case isTrue hl =>
  obtain rfl := Option.some.inj h
  have ho := Kd.own_of_R hR
  rcases ho.2 with ⟨rfl, hn⟩ | ⟨g, cap, cur, rfl, hg, hh, hnc, hcm, hsz, htk⟩
  · have hx : xs = [] := List.eq_nil_of_length_eq_zero hn
    subst hx
    refine (Tryz.slices_Sort_string_none none 0 w).mono ?_
    rintro e w' ⟨rfl, rfl⟩
    have hnil : sortB [] = [] := List.eq_nil_of_length_eq_zero (sortB_len [])
    rw [hnil]
    exact ⟨rfl, hR, h0⟩
  have hcur : ∀ j, j < xs.length → cur[j]? = some (Value.string (xs[j]!)) := fun j hj => by
    have h1 : (cur.toList.take (xs.length * 1))[j]? = (encs Value.string xs)[j]? := by rw [htk]
    rw [List.getElem?_take_of_lt (by omega)] at h1
    rw [← Array.getElem?_toList, h1]
    simp [encs, List.getElem?_eq_getElem hj, getElem!_pos xs j hj]
  have hlt : g < w.heap.size := blk_lt hh
  have hH : Go.Sort.Holds Go.Proofs.encStr w g 0 (xs.map fun b => b.data.toList).toArray := fun j hj => by
    have hj' : j < xs.length := by simpa using hj
    refine ⟨?_, blk_frozen hh _⟩
    rw [Nat.zero_add]
    refine (blk_cell hh j).trans ?_
    rw [hcur j hj']
    simp [hj']
  refine (show Calls Tryz.prog 161 #[.slice (some ⟨g, 0, none⟩) xs.length cap] w _ from ?_)
  have hc := Tryz.slices_Sort_string g 0 cap (xs.map fun b => b.data.toList) w hH hlt (by simpa using hl)
  rw [List.length_map] at hc
  refine hc.mono ?_
  rintro e w' ⟨rfl, n, os, rfl⟩
  generalize hss : (((xs.map fun b => b.data.toList).mergeSort fun x y => decide (x ≤ y)) : List (List UInt8)) = ss
  have hsl : ss.length = xs.length := by rw [← hss]; simp
  have hsb : sortB xs = ss.map fun l => ⟨l.toArray⟩ := by rw [← hss]; rfl
  rw [hsb]
  have hgr : w.grownBy (Go.Sort.grow (Go.Sort.putRow Go.Proofs.encStr (Go.Sort.ahead w n) g 0 ss.toArray) os) (some g) := by
    refine ⟨rfl, rfl, rfl, ?_, fun k hk hne => ?_⟩
    · show w.heap.size ≤ ((Go.Sort.putRow Go.Proofs.encStr (Go.Sort.ahead w n) g 0 ss.toArray).heap ++ os).size
      rw [Array.size_append, Go.Sort.size_putRow]
      exact Nat.le_add_right _ _
    show ((Go.Sort.putRow Go.Proofs.encStr (Go.Sort.ahead w n) g 0 ss.toArray).heap ++ os)[k]? = _
    rw [Array.getElem?_append_left (by rw [Go.Sort.size_putRow]; exact hk)]
    show (w.heap.modify g _)[k]? = _
    rw [Array.getElem?_modify, if_neg (fun e => hne (by rw [e]))]
  refine ⟨rfl, Kd.R_of_own ⟨by simp [encs], Or.inr ⟨g, cap, Go.Sort.putCells Go.Proofs.encStr 0 ss.toArray cur, by rw [List.length_map, hsl], hg, ?_, by rw [List.length_map, hsl]; exact hnc, hcm, by simp [Go.Sort.putCells]; simpa using hsz, ?_⟩⟩ (fun _ _ => trivial), pw_below_grown h0 _ h0.size hgr (fun k hk => by injection hk with hk; omega)⟩
  · show ((Go.Sort.putRow Go.Proofs.encStr (Go.Sort.ahead w n) g 0 ss.toArray).heap ++ os)[g]? = _
    rw [Array.getElem?_append_left (by rw [Go.Sort.size_putRow]; exact hlt)]
    show (w.heap.modify g _)[g]? = _
    rw [Array.getElem?_modify, if_pos rfl, hh]
    rfl
  rw [List.length_map, Nat.mul_one]
  apply List.ext_getElem?
  intro j
  by_cases hj : j < ss.length
  rotate_left
  · rw [List.getElem?_eq_none (by rw [List.length_take]; omega), List.getElem?_eq_none (by simp [encs]; omega)]
  rw [List.getElem?_take_of_lt hj, Array.getElem?_toList]
  have hcl : j < cur.size := by omega
  simp [Go.Sort.putCells, hcl, hj, encs]
def strings_Join.f (xs : List ByteArray) (sep : ByteArray) : Option ByteArray :=
  if xs.length ≤ 140737488355328 ∧ (Lib.join (xs.map (·.data.toList)) sep.data.toList).length ≤ 140737488355328 then some ⟨(Lib.join (xs.map (·.data.toList)) sep.data.toList).toArray⟩ else none
theorem strings_Join.calls (A0 : Option Addr) (c0 : Nat) (l0 : List ByteArray) (a1 : ByteArray) (r : ByteArray) (w : World) (hr0 : Kd.C Kd.string w A0 l0.length l0) (hc0 : l0.length ≤ c0) (h : strings_Join.f l0 a1 = some r) :
    Calls Tryz.prog 88 #[.slice A0 l0.length c0, .string a1] w fun e w' => e = .returned (.string r) ∧ Below w.heap.size w w' := by
  unfold strings_Join.f at h
  split at h
  case isFalse => cases h
  case isTrue hl =>
  obtain rfl := Option.some.inj h
  cases l0 with
  | nil =>
    refine (Tryz.strings_Join_none A0 c0 a1 w).mono ?_
    rintro e w' ⟨rfl, rfl⟩
    exact ⟨rfl, Below.refl _ _⟩
  | cons x xs =>
    obtain ⟨ad, rfl, hcell⟩ := hr0.2.2 (by simp)
    have hc1 : ∀ (j : Nat) y, (x :: xs)[j]? = some y → w.cell? (ad.add j) = some (.string y) := fun j y hy => by
      obtain ⟨c, _, hK, hu⟩ := hcell j y hy
      have hK' : c = [Value.string y] := hK
      subst hK'
      have := hu 0 _ rfl
      simpa [Kd.string, Kd.scalar] using this
    obtain ⟨b, o, spot⟩ := ad
    have h0 := hc1 0 x rfl
    have hspot : spot = none := by simpa [Addr.add] using World.cell?_spot h0
    subst hspot
    refine (Tryz.strings_Join b o c0 (x :: xs) a1 w (fun j y hy => by have := hc1 j y hy; rwa [Go.Addr.add_mid] at this) (World.block_lt_of_cell? w _ h0) hl.1 hc0 hl.2).mono ?_
    rintro e w' ⟨rfl, hb⟩
    exact ⟨rfl, hb⟩
end Go.Proofs.YtkioddjjfifadaaGreatDoor.P
namespace Go.Proofs.YtkioddjjfifadaaGreatDoor.P
open Go.RowKit Go.Proofs.YtkioddjjfifadaaGreatDoorW.PrintWords
def un (y : List Int) : List UInt8 := (strOfNums y).data.toList
theorem ltL_un (a b : List Int) : ltL a b = decide (un a < un b) := by
  unfold ltL un
  rw [bytesLess_eq, Lib.toList_data, Lib.toList_data]
/-- Insert from the right. -/
def insR : List (List Int) → List Int → List (List Int)
  | [], x => [x]
  | a :: A, x => if ltL x a = true then insR A x ++ [a] else A.reverse ++ [a, x]
theorem getD_mid {α : Type} (A B : List α) (x d : α) (k : Nat) (h : k = A.length) : (A ++ x :: B).getD k d = x := by
  subst h
  rw [List.getD_eq_getElem?_getD, List.getElem?_append_right (Nat.le_refl _), Nat.sub_self]
  rfl
theorem set_mid {α : Type} (A B : List α) (x y : α) (k : Nat) (h : k = A.length) : (A ++ x :: B).set k y = A ++ y :: B := by
  subst h
  rw [List.set_append_right _ _ (Nat.le_refl _), Nat.sub_self]
  rfl
theorem bub_insR : ∀ (A : List (List Int)) (x : List Int) (B : List (List Int)), bub A.length (A.reverse ++ x :: B) = insR A x ++ B
  | [], x, B => rfl
  | a :: A, x, B => by
    have e1 : ((a :: A).reverse ++ x :: B).getD (A.length + 1) [] = x := getD_mid _ _ _ _ _ (by simp)
    have e2 : ((a :: A).reverse ++ x :: B).getD A.length [] = a := by
      rw [List.reverse_cons, List.append_assoc]
      exact getD_mid _ _ _ _ _ (by simp)
    have e3 : (((a :: A).reverse ++ x :: B).set (A.length + 1) a).set A.length x = A.reverse ++ x :: (a :: B) := by
      rw [set_mid _ _ _ _ _ (by simp), List.reverse_cons, List.append_assoc]
      exact set_mid _ _ _ _ _ (by simp)
    show bub (A.length + 1) _ = _
    rw [bub, e1, e2, e3]
    unfold insR
    by_cases h : ltL x a = true
    · rw [if_pos h, if_pos h, bub_insR A x (a :: B), List.append_assoc]
      rfl
    · rw [if_neg h, if_neg h, List.reverse_cons, List.append_assoc, List.append_assoc]
      rfl
theorem insL_insR (out : List (List Int)) (x : List Int) : insL out x = insR out.reverse x := by
  have := bub_insR out.reverse x []
  rw [List.length_reverse, List.reverse_reverse, List.append_nil] at this
  exact this
abbrev leU (a b : List Int) : Prop := un a ≤ un b
theorem insR_perm : ∀ (A : List (List Int)) (x : List Int), (insR A x).Perm (x :: A)
  | [], x => List.Perm.refl _
  | a :: A, x => by
    unfold insR
    split
    · refine (List.perm_append_comm).trans ?_
      exact ((insR_perm A x).cons a).trans (List.Perm.swap x a A)
    · have h1 : (A.reverse ++ [a, x]).Perm ([a, x] ++ A.reverse) := List.perm_append_comm
      refine h1.trans ?_
      refine (List.Perm.swap x a _).trans ?_
      exact ((List.reverse_perm A).cons a).cons x
theorem insR_sorted : ∀ (A : List (List Int)) (x : List Int), A.reverse.Pairwise leU → (insR A x).Pairwise leU
  | [], x, _ => List.pairwise_singleton _ _
  | a :: A, x, h => by
    rw [List.reverse_cons, List.pairwise_append] at h
    obtain ⟨h1, _, h3⟩ := h
    have h3' : ∀ u ∈ A.reverse, leU u a := fun u hu => h3 u hu a (List.mem_singleton.2 rfl)
    unfold insR
    split
    · rename_i hlt
      rw [ltL_un, decide_eq_true_eq] at hlt
      rw [List.pairwise_append]
      refine ⟨insR_sorted A x h1, List.pairwise_singleton _ _, fun u hu v hv => ?_⟩
      rw [List.mem_singleton.1 hv]
      have hm := (insR_perm A x).mem_iff.1 hu
      rcases List.mem_cons.1 hm with rfl | hm
      · exact List.le_of_lt hlt
      · exact h3' u (List.mem_reverse.2 hm)
    · rename_i hlt
      rw [ltL_un, decide_eq_true_eq, List.not_lt] at hlt
      rw [List.pairwise_append]
      refine ⟨h1, ?_, fun u hu v hv => ?_⟩
      · rw [List.pairwise_cons]
        exact ⟨fun v hv => by rw [List.mem_singleton.1 hv]; exact hlt, List.pairwise_singleton _ _⟩
      · rcases List.mem_cons.1 hv with rfl | hv
        · exact h3' u hu
        · rw [List.mem_singleton.1 hv]
          exact List.le_trans (h3' u hu) hlt
theorem foldl_ins (l : List (List Int)) : ∀ (out : List (List Int)), out.Pairwise leU → (l.foldl insL out).Pairwise leU ∧ (l.foldl insL out).Perm (out ++ l) := by
  induction l with
  | nil => intro out h; exact ⟨h, by rw [List.append_nil]; exact List.Perm.refl _⟩
  | cons x l ih =>
    intro out h
    have hs : (insL out x).Pairwise leU := by rw [insL_insR]; exact insR_sorted _ _ (by rw [List.reverse_reverse]; exact h)
    obtain ⟨h1, h2⟩ := ih (insL out x) hs
    refine ⟨h1, h2.trans ?_⟩
    have hp : (insL out x).Perm (x :: out) := by rw [insL_insR]; exact (insR_perm _ _).trans ((List.reverse_perm out).cons x)
    refine (hp.append_right l).trans ?_
    exact (List.perm_middle).symm
end Go.Proofs.YtkioddjjfifadaaGreatDoor.P
namespace Go.Proofs
open Go.Shelf
def Tryz.laysSF_ren : Go.Shelf.Ren := ⟨fun | 6 => 150 | 15 => 201 | 14 => 200 | 28 => 247 | 29 => 248 | 20 => 239 | 21 => 240 | 22 => 241 | 23 => 242 | 24 => 243 | 25 => 244 | 26 => 245 | 27 => 246 | 46 => 280 | 47 => 281 | 48 => 282 | 49 => 283 | 50 => 284 | 57 => 303 | n => n, fun | 22 => 67 | 24 => 22 | 25 => 241 | 3 => 3 | 39 => 245 | 0 => 0 | 53 => 323 | 55 => 278 | 4 => 4 | 46 => 355 | 45 => 354 | 50 => 359 | 5 => 5 | 9 => 9 | 66 => 398 | 70 => 402 | 76 => 416 | 77 => 195 | n => n, fun | n => n⟩
theorem Tryz.laysSF : Go.Proofs.SlLaysF.n6 Tryz.prog Tryz.laysSF_ren := {
  mixed := by kernel_rfl
  f6 := ⟨Tryz.f150.name, by decide, Tryz.func150.trans (congrArg some (by kernel_rfl))⟩
  f14 := ⟨Tryz.f200.name, by decide, Tryz.func200.trans (congrArg some (by kernel_rfl))⟩
  f15 := Tryz.func201.trans (congrArg some (by kernel_rfl))
  f20 := ⟨Tryz.f239.name, by decide, Tryz.func239.trans (congrArg some (by kernel_rfl))⟩
  f21 := ⟨Tryz.f240.name, by decide, Tryz.func240.trans (congrArg some (by kernel_rfl))⟩
  f22 := ⟨Tryz.f241.name, by decide, Tryz.func241.trans (congrArg some (by kernel_rfl))⟩
  f23 := ⟨Tryz.f242.name, by decide, Tryz.func242.trans (congrArg some (by kernel_rfl))⟩
  f24 := ⟨Tryz.f243.name, by decide, Tryz.func243.trans (congrArg some (by kernel_rfl))⟩
  f25 := ⟨Tryz.f244.name, by decide, Tryz.func244.trans (congrArg some (by kernel_rfl))⟩
  f26 := ⟨Tryz.f245.name, by decide, Tryz.func245.trans (congrArg some (by kernel_rfl))⟩
  f27 := ⟨Tryz.f246.name, by decide, Tryz.func246.trans (congrArg some (by kernel_rfl))⟩
  f28 := Tryz.func247.trans (congrArg some (by kernel_rfl))
  f29 := Tryz.func248.trans (congrArg some (by kernel_rfl))
  f46 := ⟨Tryz.f280.name, by decide, Tryz.func280.trans (congrArg some (by kernel_rfl))⟩
  f47 := Tryz.func281.trans (congrArg some (by kernel_rfl))
  f48 := Tryz.func282.trans (congrArg some (by kernel_rfl))
  f49 := ⟨Tryz.f283.name, by decide, Tryz.func283.trans (congrArg some (by kernel_rfl))⟩
  f50 := ⟨Tryz.f284.name, by decide, Tryz.func284.trans (congrArg some (by kernel_rfl))⟩
  f57 := ⟨Tryz.f303.name, by decide, Tryz.func303.trans (congrArg some (by kernel_rfl))⟩
  t0 := Tryz.underlying0
  a0 := Tryz.isAgg0
  z0 := Tryz.sizeOf0
  v0 := Tryz.zeroValue0
  t3 := Tryz.underlying3
  a3 := Tryz.isAgg3
  z3 := Tryz.sizeOf3
  v3 := Tryz.zeroValue3
  t4 := Tryz.underlying4
  a4 := Tryz.isAgg4
  z4 := Tryz.sizeOf4
  v4 := Tryz.zeroValue4
  t5 := Tryz.underlying5
  a5 := Tryz.isAgg5
  z5 := Tryz.sizeOf5
  v5 := Tryz.zeroValue5
  t9 := Tryz.underlying9
  a9 := Tryz.isAgg9
  z9 := Tryz.sizeOf9
  v9 := Tryz.zeroValue9
  t22 := Tryz.underlying67
  a22 := Tryz.isAgg67
  z22 := Tryz.sizeOf67
  v22 := Tryz.zeroValue67
  a24 := Tryz.isAgg22
  z24 := Tryz.sizeOf22
  t25 := Tryz.underlying241
  a25 := Tryz.isAgg241
  z25 := Tryz.sizeOf241
  v25 := Tryz.zeroValue241
  t39 := Tryz.underlying245
  a39 := Tryz.isAgg245
  z39 := Tryz.sizeOf245
  v39 := Tryz.zeroValue245
  t45 := Tryz.underlying354
  a45 := Tryz.isAgg354
  z45 := Tryz.sizeOf354
  v45 := Tryz.zeroValue354
  t46 := Tryz.underlying355
  a46 := Tryz.isAgg355
  z46 := Tryz.sizeOf355
  v46 := Tryz.zeroValue355
  t50 := Tryz.underlying359
  a50 := Tryz.isAgg359
  z50 := Tryz.sizeOf359
  v50 := Tryz.zeroValue359
  t53 := Tryz.underlying323
  a53 := Tryz.isAgg323
  z53 := Tryz.sizeOf323
  v53 := Tryz.zeroValue323
  t55 := Tryz.underlying278
  a55 := Tryz.isAgg278
  z55 := Tryz.sizeOf278
  v55 := Tryz.zeroValue278
  t66 := Tryz.underlying398
  a66 := Tryz.isAgg398
  z66 := Tryz.sizeOf398
  v66 := Tryz.zeroValue398
  t70 := Tryz.underlying402
  a70 := Tryz.isAgg402
  z70 := Tryz.sizeOf402
  v70 := Tryz.zeroValue402
  t76 := Tryz.underlying416
  a76 := Tryz.isAgg416
  z76 := Tryz.sizeOf416
  v76 := Tryz.zeroValue416
  t77 := Tryz.underlying195
  a77 := Tryz.isAgg195
  z77 := Tryz.sizeOf195
  v77 := Tryz.zeroValue195 }
end Go.Proofs
set_option linter.unusedVariables false
namespace Go.Proofs.YtkioddjjfifadaaGreatDoor.P
open Go.RowKit Go.Sort Go.Lib Go.Proofs.YtkioddjjfifadaaGreatDoorW.PrintWords Go.Proofs.YtkioddjjfifadaaGreatDoorW.PrintLast Go.Proofs.YtkioddjjfifadaaGreatDoorW.PrintMore
theorem cmp_lt : ∀ a b : List UInt8, decide (Lib.compareBytes a b < 0) = decide (a < b)
  | [], [] => by simp [Lib.compareBytes]
  | [], _ :: _ => by simp [Lib.compareBytes]
  | _ :: _, [] => by simp [Lib.compareBytes]
  | a :: as_, b :: bs => by
    have ih := cmp_lt as_ bs
    unfold Lib.compareBytes
    by_cases h1 : a < b
    · rw [if_pos h1]
      simp [List.cons_lt_cons_iff, h1]
    · rw [if_neg h1]
      by_cases h2 : b < a
      · rw [if_pos h2]
        have : a ≠ b := fun e => by subst e; exact UInt8.lt_irrefl _ h2
        simp [List.cons_lt_cons_iff, h1, this]
      · rw [if_neg h2]
        have : a = b := UInt8.le_antisymm (UInt8.not_lt.1 h2) (UInt8.not_lt.1 h1)
        rw [ih]
        simp [List.cons_lt_cons_iff, h1, this]
abbrev byteOk (y : List Int) : Bool := y.all isByte
theorem un_inj : ∀ {a b : List Int}, byteOk a = true → byteOk b = true → un a = un b → a = b := by
  intro a b ha hb h
  have key : ∀ y : List Int, byteOk y = true → (un y).map (fun (c : UInt8) => (c.toNat : Int)) = y := by
    intro y hy
    unfold un strOfNums
    simp only [List.map_map]
    refine (List.map_congr_left (g := id) fun x hx => ?_).trans (List.map_id _)
    have := List.all_eq_true.1 hy x hx
    simp only [isByte, Bool.and_eq_true, decide_eq_true_eq] at this
    show ((UInt8.ofNat x.toNat).toNat : Int) = x
    rw [UInt8.toNat_ofNat']
    omega
  rw [← key a ha, ← key b hb, h]
theorem sortedL_perm (xs : List (List Int)) : (sortedL xs).Pairwise leU ∧ (sortedL xs).Perm xs := by
  have := foldl_ins xs [] List.Pairwise.nil
  rwa [List.nil_append] at this
/-- What is sorted is sortedL. -/
theorem sortedL_only {xs ys : List (List Int)} (hb : ∀ y ∈ xs, byteOk y = true) (hp : ys.Perm xs) (hs : ys.Pairwise leU) : ys = sortedL xs := by
  obtain ⟨h1, h2⟩ := sortedL_perm xs
  refine List.Perm.eq_of_pairwise (le := leU) (fun a b ha hb' h3 h4 => ?_) hs h1 (hp.trans h2.symm)
  exact un_inj (hb a (hp.mem_iff.1 ha)) (hb b (h2.mem_iff.1 hb')) (List.le_antisymm h3 h4)
def slices_SortFunc.f (xs : List (List Int)) : Option (List (List Int)) := if (xs.all byteOk = true ∧ xs.length ≤ 1000000) then some (sortedL xs) else none
theorem swo_cmp {n : Nat} (X : Fin n → List Int) : Go.Sort.SWO (ltOf fun i j => Lib.compareBytes (un (X i)) (un (X j))) where
  irrefl x := by unfold ltOf; rw [cmp_lt]; simp
  trans x y z h1 h2 := by
    unfold ltOf at *
    rw [cmp_lt, decide_eq_true_eq] at *
    exact List.lt_trans h1 h2
  ntrans x y z h1 h2 := by
    unfold ltOf at *
    rw [cmp_lt, decide_eq_false_iff_not, List.not_lt] at *
    exact List.le_trans h2 h1
theorem sortfunc_len {xs ys : List (List Int)} (h : slices_SortFunc.f xs = some ys) : xs.length = ys.length := by
  unfold slices_SortFunc.f at h
  split at h
  rotate_left
  · cases h
  rw [← Option.some.inj h]
  exact (sortedL_perm xs).2.length_eq.symm
theorem slices_ContainsFunc.calls (A0 : Option Addr) (c0 : Nat) (l0 : List (List S64)) (r : Bool) (w : World) (hr0 : Kd.C (Kd.slice 64 k64) w A0 l0.length l0) (hc0 : l0.length ≤ c0) (h : slices_ContainsFunc.f l0 = some r) :
    Calls Tryz.prog 147 #[.slice A0 l0.length c0, .func (.func 148) #[] #[]] w fun e w' => e = .returned (.bool r) ∧ Below w.heap.size w w' :=
  (contains_long A0 c0 l0 r w hr0 h).mono fun e w' ⟨h1, h2⟩ => ⟨h1, h2 ▸ Below.refl _ _⟩
theorem grownBy_sortW {α : Type} [Inhabited α] (enc : α → Value) {w : World} {g n : Nat} {os : Array Obj} (d : Array α) : w.grownBy (sortWorld enc w g 0 n d os) (some g) := by
  refine ⟨rfl, rfl, rfl, ?_, fun k hk hne => ?_⟩
  · show w.heap.size ≤ ((Go.Sort.putRow enc (Go.Sort.ahead w n) g 0 d).heap ++ os).size
    rw [Array.size_append, Go.Sort.size_putRow]
    exact Nat.le_add_right _ _
  show ((Go.Sort.putRow enc (Go.Sort.ahead w n) g 0 d).heap ++ os)[k]? = _
  rw [Array.getElem?_append_left (by rw [Go.Sort.size_putRow]; exact hk)]
  show (w.heap.modify g _)[k]? = _
  rw [Array.getElem?_modify, if_neg (fun e => hne (by rw [e]))]
theorem ex_all {α : Type} (d : Array α) {n : Nat} (h : d.size = n) : (d.extract 0 n).toList = d.toList := by subst h; simp
theorem sortfunc_own (w0 : World) (v : Value) (xs r : List (List Int)) (ok : Nat → Prop) (w : World) (hR : (Kd.slice 5 (Kd.int .u8)).R 22 w w0.heap.size ok v xs) (h0 : Below w0.heap.size w0 w) (h : slices_SortFunc.f xs = some r) :
    Calls Tryz.prog 150 #[v, .func (.func 151) #[] #[]] w fun e w' => e = .returned (.tuple #[]) ∧ (Kd.slice 5 (Kd.int .u8)).R 22 w' w0.heap.size ok v r ∧ w.grownBy w' v.ownBlock ∧ Below w0.heap.size w0 w' := by
  unfold slices_SortFunc.f at h
  split at h
  case isFalse => cases h
  case isTrue hl =>
  obtain rfl := Option.some.inj h
  have hbk : ∀ y ∈ xs, byteOk y = true := List.all_eq_true.1 hl.1
  obtain ⟨hok, inner, ho, hrep⟩ := hR
  have hz1 : (Kd.slice 5 (Kd.int IntKind.u8)).sz = 1 := rfl
  rcases ho.2 with ⟨rfl, hn⟩ | ⟨g, cap, cur, rfl, hg, hh, hnc, hcm, hsz, htk⟩
  · have hx : xs = [] := List.eq_nil_of_length_eq_zero hn
    subst hx
    refine (AnyF.slices_SortFunc_none (P := Tryz.prog) (ρ := Tryz.laysSF_ren) { Tryz.laysSF with } none 0 (.func (.func 151) #[] #[]) w).mono ?_
    rintro e w' ⟨rfl, rfl⟩
    exact ⟨rfl, ⟨hok, inner, ho, hrep⟩, ⟨rfl, rfl, rfl, Nat.le_refl _, fun _ _ _ => rfl⟩, h0⟩
  have hlt : g < w.heap.size := blk_lt hh
  rw [hz1] at htk
  rcases Nat.eq_zero_or_pos xs.length with hz | hpos
  · have hx : xs = [] := List.eq_nil_of_length_eq_zero hz
    subst hx
    refine (AnyF.slices_SortFunc_none (P := Tryz.prog) (ρ := Tryz.laysSF_ren) { Tryz.laysSF with } (some ⟨g, 0, none⟩) cap (.func (.func 151) #[] #[]) w).mono ?_
    rintro e w' ⟨rfl, rfl⟩
    exact ⟨rfl, ⟨hok, inner, ho, hrep⟩, ⟨rfl, rfl, rfl, Nat.le_refl _, fun _ _ _ => rfl⟩, h0⟩
  haveI : Inhabited (Fin xs.length) := ⟨⟨0, hpos⟩⟩
  have hil : inner.length = xs.length := by have := ho.1; rw [hz1] at this; omega
  let enc : Fin xs.length → Value := fun i => inner.getD i.val undef
  let X : Fin xs.length → List Int := fun i => xs.getD i.val []
  have hM : ∀ i : Fin xs.length, ∃ A c, enc i = .slice A (X i).length c ∧ (Kd.int .u8).R 5 w w0.heap.size (fun k => ok k ∧ k ≠ g) (enc i) (X i) := fun i => by
    have hxi : xs[i.val]? = some (X i) := by
      show _ = some (xs.getD i.val [])
      rw [List.getD_eq_getElem?_getD, List.getElem?_eq_getElem i.isLt]; rfl
    obtain ⟨vi, hvi, hRi⟩ := hrep.2 i.val _ hxi
    have hv : vi = enc i := by
      have h1 : ((inner.drop (i.val * 1)).take 1) = [vi] := hvi
      rw [Nat.mul_one, List.drop_eq_getElem_cons (by omega)] at h1
      have h2 := congrArg List.head? h1
      rw [List.take_succ_cons] at h2
      have h3 : inner[i.val] = vi := Option.some.inj h2
      show vi = inner.getD i.val undef
      rw [List.getD_eq_getElem?_getD, List.getElem?_eq_getElem (by omega), ← h3]; rfl
    rw [hv] at hRi
    obtain ⟨A, c, hA⟩ := Kd.R_slice hRi
    exact ⟨A, c, hA, Kd.R_mono hRi (fun k hk => ⟨hk.1, fun e => hk.2 (by rw [e]; rfl)⟩)⟩
  have h1 : OneCell enc := fun i => by
    obtain ⟨A, c, hA, _⟩ := hM i
    rw [hA]; rfl
  let d : Array (Fin xs.length) := Array.ofFn id
  have hdz : d.size = xs.length := by simp [d]
  have hdj : ∀ j (hj : j < xs.length), d[j]! = ⟨j, hj⟩ := fun j hj => by
    rw [getElem!_pos d j (by omega)]
    simp [d]
  have hH : Go.Sort.Holds enc w g 0 d := fun j hj => by
    have hj' : j < xs.length := by omega
    refine ⟨?_, blk_frozen hh _⟩
    rw [Nat.zero_add, hdj j hj']
    refine (blk_cell hh j).trans ?_
    have h2 : (cur.toList.take (xs.length * 1))[j]? = inner[j]? := by rw [htk]
    rw [List.getElem?_take_of_lt (by omega)] at h2
    rw [← Array.getElem?_toList, h2]
    show _ = some (inner.getD j undef)
    rw [List.getD_eq_getElem?_getD, List.getElem?_eq_getElem (by omega)]; rfl
  have eg : ∀ args w, (callFunc 151 args).run Tryz.prog w = .ok (.enter 151 args) w := enters_of Tryz.func151 (by kernel_rfl) rfl
  have hcmp : CmpLays1 Tryz.prog 151 #[] enc (fun i j => Lib.compareBytes (un (X i)) (un (X j))) g 0 d.size w := fun m os dk hs x y => by
    obtain ⟨A, c, hA, hRA⟩ := hM x
    obtain ⟨B, c2, hB, hRB⟩ := hM y
    have gx := Kd.R_grown hRA (grownBy_sortW enc (g := g) (n := m) (os := os) dk) (fun k hk e => hk.2 (by injection e))
    have gy := Kd.R_grown hRB (grownBy_sortW enc (g := g) (n := m) (os := os) dk) (fun k hk e => hk.2 (by injection e))
    rw [hA] at gx
    rw [hB] at gy
    show Calls Tryz.prog 151 #[enc x, enc y] _ _
    rw [hA, hB]
    refine (bytes_Compare_calls A B (X x).length c (X y).length c2 (X x) (X y) _ (Kd.R_reads' gx).2.2 (Kd.R_reads' gy).2.2).mono ?_
    rintro e w' ⟨rfl, rfl⟩
    exact ⟨rfl, 0, #[], by rw [Go.Sort.grow_empty]; rfl⟩
  have hsort := Any.slices_SortFunc Tryz.laysSF enc h1 (fun i j => Lib.compareBytes (un (X i)) (un (X j))) (swo_cmp X) 151 #[] g 0 cap d w eg hcmp hH hlt (by omega)
  rw [hdz] at hsort
  refine Calls.mono hsort ?_
  rintro e w' ⟨rfl, d', n, os, hp, hs, rfl⟩
  have hgr := grownBy_sortW enc (w := w) (g := g) (n := n) (os := os) d'
  have hd'z : d'.size = xs.length := by rw [hp.1, hdz]
  have hys : (d'.toList.map X) = sortedL xs := by
    refine sortedL_only hbk ?_ ?_
    rotate_left
    · rw [List.pairwise_map]
      rw [List.pairwise_iff_getElem]
      intro i j hi hj hij
      have h3 := hs i j (Nat.zero_le _) hij (by rw [Array.length_toList] at hj; omega)
      unfold ltOf at h3
      rw [cmp_lt, decide_eq_false_iff_not, List.not_lt] at h3
      rw [Array.length_toList] at hi hj
      rw [getElem!_pos d' i hi, getElem!_pos d' j hj] at h3
      simpa using h3
    have h2 := hp.2.2
    have e1 : (d'.extract 0 xs.length).toList = d'.toList := ex_all d' hd'z
    have e2 : (d.extract 0 xs.length).toList = d.toList := ex_all d hdz
    rw [e1, e2] at h2
    refine (h2.map X).trans ?_
    have e3 : d.toList.map X = xs := by
      apply List.ext_getElem?
      intro j
      by_cases hj : j < xs.length
      rotate_left
      · rw [List.getElem?_eq_none (by rw [List.length_map, Array.length_toList]; omega), List.getElem?_eq_none (by omega)]
      rw [List.getElem?_map, List.getElem?_eq_getElem (by rw [Array.length_toList]; omega), List.getElem?_eq_getElem hj]
      simp [d, X, List.getD_eq_getElem?_getD, List.getElem?_eq_getElem hj]
    rw [e3]
  have hml : (d'.toList.map enc).length = xs.length := by rw [List.length_map, Array.length_toList]; exact hd'z
  have hyl : (sortedL xs).length = xs.length := (sortedL_perm xs).2.length_eq
  refine ⟨rfl, ⟨hok, d'.toList.map enc, ⟨by rw [hml, hyl, hz1, Nat.mul_one], Or.inr ⟨g, cap, Go.Sort.putCells enc 0 d' cur, ?_, hg, ?_, by rw [hyl]; omega, hcm, by simp [Go.Sort.putCells]; simpa using hsz, ?_⟩⟩, ?_⟩, hgr, pw_below_grown h0 _ h0.size hgr (fun k hk => by injection hk with hk; omega)⟩
  · rw [hyl]
  · show ((Go.Sort.putRow enc (Go.Sort.ahead w n) g 0 d').heap ++ os)[g]? = _
    rw [Array.getElem?_append_left (by rw [Go.Sort.size_putRow]; exact hlt)]
    show (w.heap.modify g _)[g]? = _
    rw [Array.getElem?_modify, if_pos rfl, hh]
    rfl
  · rw [hyl, hz1, Nat.mul_one]
    have hcz : xs.length ≤ cur.size := by have := hsz; rw [hz1] at this; omega
    apply List.ext_getElem?
    intro j
    by_cases hj : j < d'.size
    rotate_left
    · rw [List.getElem?_eq_none (by rw [List.length_take]; omega), List.getElem?_eq_none (by simp; omega)]
    rw [List.getElem?_take_of_lt (by omega), Array.getElem?_toList]
    have hcl : j < cur.size := by omega
    simp [Go.Sort.putCells, hcl, hj]
  rw [← hys]
  refine ⟨by simp [Kd.slice], fun j p hj => ?_⟩
  rw [List.getElem?_map] at hj
  obtain ⟨i, hi, rfl⟩ := Option.map_eq_some_iff.1 hj
  obtain ⟨A, c, hA, hRi⟩ := hM i
  refine ⟨enc i, ?_, Kd.R_mono (Kd.R_grown hRi hgr (fun k hk e => hk.2 (by injection e))) (fun k hk => ⟨hk.1, fun e => hk.2 (by rw [show (Value.slice (some (⟨g, 0, none⟩ : Addr)) xs.length cap).ownBlock = some g from rfl] at e; injection e)⟩)⟩
  have hjl : j < d'.toList.length := (List.getElem?_eq_some_iff.1 hi).1
  show ((d'.toList.map enc).drop (j * 1)).take 1 = [enc i]
  rw [Nat.mul_one, List.drop_eq_getElem_cons (by rw [List.length_map]; exact hjl), List.take_succ_cons, List.take_zero]
  have := (List.getElem?_eq_some_iff.1 hi).2
  rw [List.getElem_map, this]
end Go.Proofs.YtkioddjjfifadaaGreatDoor.P
namespace Go.Proofs.YtkioddjjfifadaaGreatDoor.P
open Go.RowKit Go.Proofs.YtkioddjjfifadaaGreatDoorW.PrintWords Go.Proofs.YtkioddjjfifadaaGreatDoorW.PrintLast Go.Proofs.YtkioddjjfifadaaGreatDoorW.PrintMore
attribute [local go_sem] max2_int min2_int max_two min_two max_three min_three max_four min_four   -- for this text's walks alone
set_option linter.unusedVariables false
set_option linter.unusedSimpArgs false
mutual
def der_tag.l0 : Nat → List Int → Int → Int → Int → Option (Int × Int × Int × Int)
  | 0, _, _, _, _ => none
  | k + 1, x0, x1, x4, x5 => if x5 < (x0.length : Int) then (if 0 ≤ x5 then (if x5 = (wrap64 (x1 + 1)) then (if (rd x0 x5) = 128 then (der_tag.j1 k x0 x1 (Go.bits .or .i64 (wrap64 (x4 * 128)) (wrap64 (Go.bits .and .u8 (rd x0 x5) 127))) x5 true) else (if (Go.bits .or .i64 (wrap64 (x4 * 128)) (wrap64 (Go.bits .and .u8 (rd x0 x5) 127))) > 268435455 then (der_tag.j1 k x0 x1 (Go.bits .or .i64 (wrap64 (x4 * 128)) (wrap64 (Go.bits .and .u8 (rd x0 x5) 127))) x5 true) else (if (rd x0 x5) < 128 then (der_tag.j1 k x0 x1 (Go.bits .or .i64 (wrap64 (x4 * 128)) (wrap64 (Go.bits .and .u8 (rd x0 x5) 127))) x5 (decide ((Go.bits .or .i64 (wrap64 (x4 * 128)) (wrap64 (Go.bits .and .u8 (rd x0 x5) 127))) < 31))) else (der_tag.j1 k x0 x1 (Go.bits .or .i64 (wrap64 (x4 * 128)) (wrap64 (Go.bits .and .u8 (rd x0 x5) 127))) x5 false)))) else (if (Go.bits .or .i64 (wrap64 (x4 * 128)) (wrap64 (Go.bits .and .u8 (rd x0 x5) 127))) > 268435455 then (der_tag.j1 k x0 x1 (Go.bits .or .i64 (wrap64 (x4 * 128)) (wrap64 (Go.bits .and .u8 (rd x0 x5) 127))) x5 true) else (if (rd x0 x5) < 128 then (der_tag.j1 k x0 x1 (Go.bits .or .i64 (wrap64 (x4 * 128)) (wrap64 (Go.bits .and .u8 (rd x0 x5) 127))) x5 (decide ((Go.bits .or .i64 (wrap64 (x4 * 128)) (wrap64 (Go.bits .and .u8 (rd x0 x5) 127))) < 31))) else (der_tag.j1 k x0 x1 (Go.bits .or .i64 (wrap64 (x4 * 128)) (wrap64 (Go.bits .and .u8 (rd x0 x5) 127))) x5 false)))) else (none)) else (some (0, 0, 2, (x0.length : Int)))
def der_tag.j1 : Nat → List Int → Int → Int → Int → Bool → Option (Int × Int × Int × Int)
  | 0, _, _, _, _, _ => none
  | k + 1, x0, x1, x4, x5, x71 => if x71 = true then (some (0, 0, 30, x5)) else (if 0 ≤ x5 then (if x5 < (x0.length : Int) then (if (rd x0 x5) < 128 then (some (x4, wrap64 (x5 + 1), 0, 0)) else (der_tag.l0 k x0 x1 x4 (wrap64 (x5 + 1)))) else (none)) else (none))
end
def der_tag.f (k : Nat) (l0 : List Int) (a1 : Int) : Option (Int × Int × Int × Int) := if 0 ≤ a1 then (if a1 < (l0.length : Int) then (if (wrap64 (Go.bits .and .u8 (rd l0 a1) 31)) < 31 then (if (wrap64 (Go.bits .and .u8 (rd l0 a1) 31)) = 0 then (if ((rd l0 a1) / 64) = 0 then (some (0, 0, 30, a1)) else (some (wrap64 (Go.bits .and .u8 (rd l0 a1) 31), wrap64 (a1 + 1), 0, 0))) else (some (wrap64 (Go.bits .and .u8 (rd l0 a1) 31), wrap64 (a1 + 1), 0, 0))) else (der_tag.l0 k l0 a1 0 (wrap64 (a1 + 1)))) else (none)) else (none)
set_option maxHeartbeats 8000000 in
set_option maxRecDepth 100000 in
theorem der_tag.calls (k : Nat) (A0 : Option Addr) (c0 : Nat) (l0 : List Int) (a1 : Int) (r1 : Int) (r2 : Int) (r3 : Int) (r4 : Int) (w : World) (hr0 : Kd.C (Kd.int .u8) w A0 l0.length l0) (hc0 : l0.length ≤ c0) (h : der_tag.f k l0 a1 = some (r1, r2, r3, r4)) :
    Calls Tryz.prog 214 #[.slice A0 l0.length c0, .int .i64 a1] w fun e w' => e = .returned (.tuple #[.int .i64 r1, .int .i64 r2, .int .i64 r3, .int .i64 r4]) ∧ Drawn0 w w' := by
  have HR0 := Aside0.mk hr0
  have HC0 := Aside0.mk hc0
  clear hr0 hc0
  have H : (if 0 ≤ a1 then (if a1 < (l0.length : Int) then (if (wrap64 (Go.bits .and .u8 (rd l0 a1) 31)) < 31 then (if (wrap64 (Go.bits .and .u8 (rd l0 a1) 31)) = 0 then (if ((rd l0 a1) / 64) = 0 then (some (0, 0, 30, a1)) else (some (wrap64 (Go.bits .and .u8 (rd l0 a1) 31), wrap64 (a1 + 1), 0, 0))) else (some (wrap64 (Go.bits .and .u8 (rd l0 a1) 31), wrap64 (a1 + 1), 0, 0))) else (der_tag.l0 k l0 a1 0 (wrap64 (a1 + 1)))) else (none)) else (none)) = some (r1, r2, r3, r4) := h
  clear h
  by_cases c3 : 0 ≤ a1
  rotate_left
  · rw [if_neg c3] at H
    exact absurd H (by simp)
  rw [if_pos c3] at H
  have c3b0 : decide (0 ≤ a1) = true := decide_eq_true c3
  clear c3
  by_cases c4 : a1 < (l0.length : Int)
  rotate_left
  · rw [if_neg c4] at H
    exact absurd H (by simp)
  rw [if_pos c4] at H
  have c4b0 : decide (a1 < (l0.length : Int)) = true := decide_eq_true c4
  clear c4
  by_cases c5 : (wrap64 (Go.bits .and .u8 (rd l0 a1) 31)) < 31
  · rw [if_pos c5] at H
    have c5b0 : decide ((wrap64 (Go.bits .and .u8 (rd l0 a1) 31)) < 31) = true := decide_eq_true c5
    clear c5
    by_cases c6 : (wrap64 (Go.bits .and .u8 (rd l0 a1) 31)) = 0
    rotate_left
    · rw [if_neg c6] at H
      have c6b0 : ((wrap64 (Go.bits .and .u8 (rd l0 a1) 31)) == 0) = false := beq_eq_false_iff_ne.mpr c6
      have c6b1 : ((wrap64 (Go.bits .and .u8 (rd l0 a1) 31)) != 0) = true := bne_iff_ne.mpr c6
      simp only [Option.some.injEq, Prod.mk.injEq] at H
      obtain ⟨rfl, rfl, rfl, rfl⟩ := H
      have p109 : 0 ≤ (a1 : Int) := of_decide_eq_true (by first | (with_reducible assumption) | assumption)
      have q109 : a1 < (l0.length : Int) := of_decide_eq_true (by first | (with_reducible assumption) | assumption)
      obtain ⟨ad109, e109, hx109_0⟩ := Kd.at_int HR0.out a1 p109 q109
      cases e109
      replace p109 := eq_true p109
      replace q109 := eq_true q109
      go_enter Tryz.func214, Tryz.ntmps214
      go_wp2
      refine bodyPost_ret (results_list (rs := [.tmp 4, .tmp 5, .tmp 6, .tmp 7]) rfl (by simp) (.tmp (.tmp (.tmp (.tmp .nil))))) rfl ?_
      exact ⟨by first | rfl | (simp; done) | (simp [*]; done), by repeat (first | exact Drawn0.refl _ | apply Drawn0.step)⟩
    rw [if_pos c6] at H
    have c6b0 : ((wrap64 (Go.bits .and .u8 (rd l0 a1) 31)) == 0) = true := beq_iff_eq.mpr c6
    have c6b1 : ((wrap64 (Go.bits .and .u8 (rd l0 a1) 31)) != 0) = false := bne_eq_false_iff_eq.mpr c6
    clear c6
    by_cases c7 : ((rd l0 a1) / 64) = 0
    rotate_left
    · rw [if_neg c7] at H
      have c7b0 : (((rd l0 a1) / 64) == 0) = false := beq_eq_false_iff_ne.mpr c7
      have c7b1 : (((rd l0 a1) / 64) != 0) = true := bne_iff_ne.mpr c7
      simp only [Option.some.injEq, Prod.mk.injEq] at H
      obtain ⟨rfl, rfl, rfl, rfl⟩ := H
      have p109 : 0 ≤ (a1 : Int) := of_decide_eq_true (by first | (with_reducible assumption) | assumption)
      have q109 : a1 < (l0.length : Int) := of_decide_eq_true (by first | (with_reducible assumption) | assumption)
      obtain ⟨ad109, e109, hx109_0⟩ := Kd.at_int HR0.out a1 p109 q109
      cases e109
      replace p109 := eq_true p109
      replace q109 := eq_true q109
      have p110 : 0 ≤ (a1 : Int) := of_decide_eq_true (by first | (with_reducible assumption) | assumption)
      have q110 : a1 < (l0.length : Int) := of_decide_eq_true (by first | (with_reducible assumption) | assumption)
      obtain ⟨ad110, e110, hx110_0⟩ := Kd.at_int HR0.out a1 p110 q110
      obtain rfl : ad109 = ad110 := (by injection e110)
      replace p110 := eq_true p110
      replace q110 := eq_true q110
      go_enter Tryz.func214, Tryz.ntmps214
      go_wp2
      refine bodyPost_ret (results_list (rs := [.tmp 4, .tmp 5, .tmp 6, .tmp 7]) rfl (by simp) (.tmp (.tmp (.tmp (.tmp .nil))))) rfl ?_
      exact ⟨by first | rfl | (simp; done) | (simp [*]; done), by repeat (first | exact Drawn0.refl _ | apply Drawn0.step)⟩
    rw [if_pos c7] at H
    have c7b0 : (((rd l0 a1) / 64) == 0) = true := beq_iff_eq.mpr c7
    have c7b1 : (((rd l0 a1) / 64) != 0) = false := bne_eq_false_iff_eq.mpr c7
    clear c7
    simp only [Option.some.injEq, Prod.mk.injEq] at H
    obtain ⟨rfl, rfl, rfl, rfl⟩ := H
    have p109 : 0 ≤ (a1 : Int) := of_decide_eq_true (by first | (with_reducible assumption) | assumption)
    have q109 : a1 < (l0.length : Int) := of_decide_eq_true (by first | (with_reducible assumption) | assumption)
    obtain ⟨ad109, e109, hx109_0⟩ := Kd.at_int HR0.out a1 p109 q109
    cases e109
    replace p109 := eq_true p109
    replace q109 := eq_true q109
    have p110 : 0 ≤ (a1 : Int) := of_decide_eq_true (by first | (with_reducible assumption) | assumption)
    have q110 : a1 < (l0.length : Int) := of_decide_eq_true (by first | (with_reducible assumption) | assumption)
    obtain ⟨ad110, e110, hx110_0⟩ := Kd.at_int HR0.out a1 p110 q110
    obtain rfl : ad109 = ad110 := (by injection e110)
    replace p110 := eq_true p110
    replace q110 := eq_true q110
    go_enter Tryz.func214, Tryz.ntmps214
    go_wp2
    refine bodyPost_ret (results_list (rs := [.tmp 4, .tmp 5, .tmp 6, .tmp 7]) rfl (by simp) (.tmp (.tmp (.tmp (.tmp .nil))))) rfl ?_
    exact ⟨by first | rfl | (simp; done) | (simp [*]; done), by repeat (first | exact Drawn0.refl _ | apply Drawn0.step)⟩
  rw [if_neg c5] at H
  have c5b0 : decide ((wrap64 (Go.bits .and .u8 (rd l0 a1) 31)) < 31) = false := decide_eq_false c5
  clear c5
  have H' := Aside0.mk H
  clear H
  have p109 : 0 ≤ (a1 : Int) := of_decide_eq_true (by first | (with_reducible assumption) | assumption)
  have q109 : a1 < (l0.length : Int) := of_decide_eq_true (by first | (with_reducible assumption) | assumption)
  obtain ⟨ad109, e109, hx109_0⟩ := Kd.at_int HR0.out a1 p109 q109
  cases e109
  replace p109 := eq_true p109
  replace q109 := eq_true q109
  go_enter Tryz.func214, Tryz.ntmps214
  go_wp2
  go_loopg [4, 5] k (fun kq v4 v5 w' => ∃ (x4_1 : Int) (x5_1 : Int), v4 = .int .i64 x4_1 ∧ v5 = .int .i64 x5_1 ∧ Aside0 (der_tag.l0 kq l0 a1 x4_1 x5_1 = some (r1, r2, r3, r4)) ∧ Aside0 (kq ≤ k) ∧ Drawn0 w w')
  case atStart => exact ⟨(0), (wrap64 (a1 + 1)), (by first | rfl | (simp; done) | (simp [*]; done)), (by first | rfl | (simp; done) | (simp [*]; done)), H', ⟨Nat.le_refl _⟩, by repeat (first | exact Drawn0.refl _ | apply Drawn0.step)⟩
  case round =>
    clear H'
    try clear p1
    try clear q1
    try clear hx1
    try clear c2
    try clear p2
    try clear c3
    try clear c3b0
    try clear c4
    try clear c4b0
    try clear c5
    try clear c5b0
    try clear c6
    try clear c6b0
    try clear c6b1
    try clear p6
    try clear c7
    try clear c7b0
    try clear c7b1
    try clear hx109_0
    try clear hx110_0
    try clear p109
    try clear p110
    try clear q109
    try clear q110
    obtain ⟨x4_1, x5_1, rfl, rfl, HA, HK1, ⟨m1, rfl⟩⟩ := hrel
    cases gk with
    | zero => exact absurd HA.out (by simp [der_tag.l0])
    | succ k1 =>
      have H := HA.out
      clear HA
      simp only [der_tag.l0] at H
      by_cases c8 : x5_1 < (l0.length : Int)
      rotate_left
      · rw [if_neg c8] at H
        have c8b0 : decide (x5_1 < (l0.length : Int)) = false := decide_eq_false c8
        clear c8
        simp only [Option.some.injEq, Prod.mk.injEq] at H
        obtain ⟨rfl, rfl, rfl, rfl⟩ := H
        go_wp2
        refine bodyPost_ret (results_list (rs := [.tmp 4, .tmp 5, .tmp 6, .tmp 7]) rfl (by simp) (.tmp (.tmp (.tmp (.tmp .nil))))) rfl ?_
        exact ⟨by first | rfl | (simp; done) | (simp [*]; done), by repeat (first | exact Drawn0.refl _ | apply Drawn0.step)⟩
      rw [if_pos c8] at H
      have c8b0 : decide (x5_1 < (l0.length : Int)) = true := decide_eq_true c8
      clear c8
      by_cases c9 : 0 ≤ x5_1
      rotate_left
      · rw [if_neg c9] at H
        exact absurd H (by simp)
      rw [if_pos c9] at H
      have c9b0 : decide (0 ≤ x5_1) = true := decide_eq_true c9
      clear c9
      have HC10 := Aside0.mk H
      clear H
      have p111 : 0 ≤ (x5_1 : Int) := of_decide_eq_true (by first | (with_reducible assumption) | assumption)
      have q111 : x5_1 < (l0.length : Int) := of_decide_eq_true (by first | (with_reducible assumption) | assumption)
      obtain ⟨ad111, e111, hx111_0⟩ := Kd.at_int HR0.out x5_1 p111 q111
      obtain rfl : ad109 = ad111 := (by injection e111)
      replace p111 := eq_true p111
      replace q111 := eq_true q111
      go_upto_region 10 with (fail)
      go_cut [71] (fun v71 wc => ∃ (kq : Nat) (x71_9 : Bool), v71 = .bool x71_9 ∧ Aside0 (der_tag.j1 kq l0 a1 (Go.bits .or .i64 (wrap64 (x4_1 * 128)) (wrap64 (Go.bits .and .u8 (rd l0 x5_1) 127))) x5_1 x71_9 = some (r1, r2, r3, r4)) ∧ Aside0 (kq ≤ k1) ∧ Drawn0 w wc)
      case first =>
        have H := HC10.out
        clear HC10
        by_cases c11 : x5_1 = (wrap64 (a1 + 1))
        rotate_left
        · rw [if_neg c11] at H
          have c11b0 : (x5_1 == (wrap64 (a1 + 1))) = false := beq_eq_false_iff_ne.mpr c11
          have c11b1 : (x5_1 != (wrap64 (a1 + 1))) = true := bne_iff_ne.mpr c11
          (first | rw [c11b0] | (simp only [i64_w, i32_w]; rw [c11b0]) | skip)
          by_cases c15 : (Go.bits .or .i64 (wrap64 (x4_1 * 128)) (wrap64 (Go.bits .and .u8 (rd l0 x5_1) 127))) > 268435455
          · rw [if_pos c15] at H
            have c15b0 : decide (268435455 < (Go.bits .or .i64 (wrap64 (x4_1 * 128)) (wrap64 (Go.bits .and .u8 (rd l0 x5_1) 127)))) = true := decide_eq_true c15
            clear c15
            have H' := Aside0.mk H
            clear H
            go_wp2
            go_meet
            case rel => exact ⟨_, (true), (by first | rfl | (simp; done) | (simp [*]; done)), H', ⟨by have := HK1.out; first | omega | exact Nat.le_refl _⟩, by repeat (first | exact Drawn0.refl _ | apply Drawn0.step)⟩
          rw [if_neg c15] at H
          have c15b0 : decide (268435455 < (Go.bits .or .i64 (wrap64 (x4_1 * 128)) (wrap64 (Go.bits .and .u8 (rd l0 x5_1) 127)))) = false := decide_eq_false c15
          clear c15
          by_cases c16 : (rd l0 x5_1) < 128
          rotate_left
          · rw [if_neg c16] at H
            have c16b0 : decide ((rd l0 x5_1) < 128) = false := decide_eq_false c16
            clear c16
            have H' := Aside0.mk H
            clear H
            have p114 : 0 ≤ (x5_1 : Int) := of_decide_eq_true (by first | (with_reducible assumption) | assumption)
            have q114 : x5_1 < (l0.length : Int) := of_decide_eq_true (by first | (with_reducible assumption) | assumption)
            obtain ⟨ad114, e114, hx114_0⟩ := Kd.at_int HR0.out x5_1 p114 q114
            obtain rfl : ad109 = ad114 := (by injection e114)
            replace p114 := eq_true p114
            replace q114 := eq_true q114
            go_wp2
            go_meet
            case rel => exact ⟨_, (false), (by first | rfl | (simp; done) | (simp [*]; done)), H', ⟨by have := HK1.out; first | omega | exact Nat.le_refl _⟩, by repeat (first | exact Drawn0.refl _ | apply Drawn0.step)⟩
          rw [if_pos c16] at H
          have c16b0 : decide ((rd l0 x5_1) < 128) = true := decide_eq_true c16
          clear c16
          have H' := Aside0.mk H
          clear H
          have p114 : 0 ≤ (x5_1 : Int) := of_decide_eq_true (by first | (with_reducible assumption) | assumption)
          have q114 : x5_1 < (l0.length : Int) := of_decide_eq_true (by first | (with_reducible assumption) | assumption)
          obtain ⟨ad114, e114, hx114_0⟩ := Kd.at_int HR0.out x5_1 p114 q114
          obtain rfl : ad109 = ad114 := (by injection e114)
          replace p114 := eq_true p114
          replace q114 := eq_true q114
          go_wp2
          go_meet
          case rel => exact ⟨_, (decide ((Go.bits .or .i64 (wrap64 (x4_1 * 128)) (wrap64 (Go.bits .and .u8 (rd l0 x5_1) 127))) < 31)), (by first | rfl | (simp; done) | (simp [*]; done)), H', ⟨by have := HK1.out; first | omega | exact Nat.le_refl _⟩, by repeat (first | exact Drawn0.refl _ | apply Drawn0.step)⟩
        rw [if_pos c11] at H
        have c11b0 : (x5_1 == (wrap64 (a1 + 1))) = true := beq_iff_eq.mpr c11
        have c11b1 : (x5_1 != (wrap64 (a1 + 1))) = false := bne_eq_false_iff_eq.mpr c11
        clear c11
        (first | rw [c11b0] | (simp only [i64_w, i32_w]; rw [c11b0]) | skip)
        by_cases c12 : (rd l0 x5_1) = 128
        · rw [if_pos c12] at H
          have c12b0 : ((rd l0 x5_1) == 128) = true := beq_iff_eq.mpr c12
          have c12b1 : ((rd l0 x5_1) != 128) = false := bne_eq_false_iff_eq.mpr c12
          clear c12
          have H' := Aside0.mk H
          clear H
          have p112 : 0 ≤ (x5_1 : Int) := of_decide_eq_true (by first | (with_reducible assumption) | assumption)
          have q112 : x5_1 < (l0.length : Int) := of_decide_eq_true (by first | (with_reducible assumption) | assumption)
          obtain ⟨ad112, e112, hx112_0⟩ := Kd.at_int HR0.out x5_1 p112 q112
          obtain rfl : ad109 = ad112 := (by injection e112)
          replace p112 := eq_true p112
          replace q112 := eq_true q112
          go_wp2
          go_meet
          case rel => exact ⟨_, (true), (by first | rfl | (simp; done) | (simp [*]; done)), H', ⟨by have := HK1.out; first | omega | exact Nat.le_refl _⟩, by repeat (first | exact Drawn0.refl _ | apply Drawn0.step)⟩
        rw [if_neg c12] at H
        have c12b0 : ((rd l0 x5_1) == 128) = false := beq_eq_false_iff_ne.mpr c12
        have c12b1 : ((rd l0 x5_1) != 128) = true := bne_iff_ne.mpr c12
        by_cases c13 : (Go.bits .or .i64 (wrap64 (x4_1 * 128)) (wrap64 (Go.bits .and .u8 (rd l0 x5_1) 127))) > 268435455
        · rw [if_pos c13] at H
          have c13b0 : decide (268435455 < (Go.bits .or .i64 (wrap64 (x4_1 * 128)) (wrap64 (Go.bits .and .u8 (rd l0 x5_1) 127)))) = true := decide_eq_true c13
          clear c13
          have H' := Aside0.mk H
          clear H
          have p112 : 0 ≤ (x5_1 : Int) := of_decide_eq_true (by first | (with_reducible assumption) | assumption)
          have q112 : x5_1 < (l0.length : Int) := of_decide_eq_true (by first | (with_reducible assumption) | assumption)
          obtain ⟨ad112, e112, hx112_0⟩ := Kd.at_int HR0.out x5_1 p112 q112
          obtain rfl : ad109 = ad112 := (by injection e112)
          replace p112 := eq_true p112
          replace q112 := eq_true q112
          go_wp2
          go_meet
          case rel => exact ⟨_, (true), (by first | rfl | (simp; done) | (simp [*]; done)), H', ⟨by have := HK1.out; first | omega | exact Nat.le_refl _⟩, by repeat (first | exact Drawn0.refl _ | apply Drawn0.step)⟩
        rw [if_neg c13] at H
        have c13b0 : decide (268435455 < (Go.bits .or .i64 (wrap64 (x4_1 * 128)) (wrap64 (Go.bits .and .u8 (rd l0 x5_1) 127)))) = false := decide_eq_false c13
        clear c13
        by_cases c14 : (rd l0 x5_1) < 128
        rotate_left
        · rw [if_neg c14] at H
          have c14b0 : decide ((rd l0 x5_1) < 128) = false := decide_eq_false c14
          clear c14
          have H' := Aside0.mk H
          clear H
          have p112 : 0 ≤ (x5_1 : Int) := of_decide_eq_true (by first | (with_reducible assumption) | assumption)
          have q112 : x5_1 < (l0.length : Int) := of_decide_eq_true (by first | (with_reducible assumption) | assumption)
          obtain ⟨ad112, e112, hx112_0⟩ := Kd.at_int HR0.out x5_1 p112 q112
          obtain rfl : ad109 = ad112 := (by injection e112)
          replace p112 := eq_true p112
          replace q112 := eq_true q112
          have p113 : 0 ≤ (x5_1 : Int) := of_decide_eq_true (by first | (with_reducible assumption) | assumption)
          have q113 : x5_1 < (l0.length : Int) := of_decide_eq_true (by first | (with_reducible assumption) | assumption)
          obtain ⟨ad113, e113, hx113_0⟩ := Kd.at_int HR0.out x5_1 p113 q113
          obtain rfl : ad109 = ad113 := (by injection e113)
          replace p113 := eq_true p113
          replace q113 := eq_true q113
          go_wp2
          go_meet
          case rel => exact ⟨_, (false), (by first | rfl | (simp; done) | (simp [*]; done)), H', ⟨by have := HK1.out; first | omega | exact Nat.le_refl _⟩, by repeat (first | exact Drawn0.refl _ | apply Drawn0.step)⟩
        rw [if_pos c14] at H
        have c14b0 : decide ((rd l0 x5_1) < 128) = true := decide_eq_true c14
        clear c14
        have H' := Aside0.mk H
        clear H
        have p112 : 0 ≤ (x5_1 : Int) := of_decide_eq_true (by first | (with_reducible assumption) | assumption)
        have q112 : x5_1 < (l0.length : Int) := of_decide_eq_true (by first | (with_reducible assumption) | assumption)
        obtain ⟨ad112, e112, hx112_0⟩ := Kd.at_int HR0.out x5_1 p112 q112
        obtain rfl : ad109 = ad112 := (by injection e112)
        replace p112 := eq_true p112
        replace q112 := eq_true q112
        have p113 : 0 ≤ (x5_1 : Int) := of_decide_eq_true (by first | (with_reducible assumption) | assumption)
        have q113 : x5_1 < (l0.length : Int) := of_decide_eq_true (by first | (with_reducible assumption) | assumption)
        obtain ⟨ad113, e113, hx113_0⟩ := Kd.at_int HR0.out x5_1 p113 q113
        obtain rfl : ad109 = ad113 := (by injection e113)
        replace p113 := eq_true p113
        replace q113 := eq_true q113
        go_wp2
        go_meet
        case rel => exact ⟨_, (decide ((Go.bits .or .i64 (wrap64 (x4_1 * 128)) (wrap64 (Go.bits .and .u8 (rd l0 x5_1) 127))) < 31)), (by first | rfl | (simp; done) | (simp [*]; done)), H', ⟨by have := HK1.out; first | omega | exact Nat.le_refl _⟩, by repeat (first | exact Drawn0.refl _ | apply Drawn0.step)⟩
      clear HC10
      try clear c1
      try clear p1
      try clear q1
      try clear hx1
      try clear c2
      try clear p2
      try clear c3
      try clear c3b0
      try clear c4
      try clear c4b0
      try clear c5
      try clear c5b0
      try clear c6
      try clear c6b0
      try clear c6b1
      try clear p6
      try clear c7
      try clear c7b0
      try clear c7b1
      try clear c8
      try clear c8b0
      try clear c9
      try clear c9b0
      try clear p10
      try clear q10
      try clear hx10
      try clear c11
      try clear c11b0
      try clear c11b1
      try clear p11
      try clear q11
      try clear hx11
      try clear c12
      try clear c12b0
      try clear c12b1
      try clear c13
      try clear c13b0
      try clear c14
      try clear c14b0
      try clear c15
      try clear c15b0
      try clear c16
      try clear c16b0
      try clear hx109_0
      try clear hx110_0
      try clear hx111_0
      try clear hx112_0
      try clear hx113_0
      try clear hx114_0
      try clear p1
      try clear p109
      try clear p110
      try clear p111
      try clear p112
      try clear p113
      try clear p114
      try clear p2
      try clear p6
      try clear q1
      try clear q109
      try clear q110
      try clear q111
      try clear q112
      try clear q113
      try clear q114
      obtain ⟨kq, x71_9, rfl, HA, HJ9, ⟨mc9, rfl⟩⟩ := hcut
      cases kq with
      | zero => exact absurd HA.out (by simp [der_tag.j1])
      | succ kj9 =>
        have H := HA.out
        clear HA
        simp only [der_tag.j1] at H
        by_cases c17 : x71_9 = true
        · subst c17
          have H1 : (some (0, 0, 30, x5_1)) = some (r1, r2, r3, r4) := by rw [if_pos rfl] at H; exact H
          clear H
          have H := H1
          clear H1
          simp only [Option.some.injEq, Prod.mk.injEq] at H
          obtain ⟨rfl, rfl, rfl, rfl⟩ := H
          go_wp2
          refine bodyPost_ret (results_list (rs := [.tmp 4, .tmp 5, .tmp 6, .tmp 7]) rfl (by simp) (.tmp (.tmp (.tmp (.tmp .nil))))) rfl ?_
          exact ⟨by first | rfl | (simp; done) | (simp [*]; done), by repeat (first | exact Drawn0.refl _ | apply Drawn0.step)⟩
        replace c17 := Bool.eq_false_iff.mpr c17
        subst c17
        have H1 : (if 0 ≤ x5_1 then (if x5_1 < (l0.length : Int) then (if (rd l0 x5_1) < 128 then (some ((Go.bits .or .i64 (wrap64 (x4_1 * 128)) (wrap64 (Go.bits .and .u8 (rd l0 x5_1) 127))), wrap64 (x5_1 + 1), 0, 0)) else (der_tag.l0 kj9 l0 a1 (Go.bits .or .i64 (wrap64 (x4_1 * 128)) (wrap64 (Go.bits .and .u8 (rd l0 x5_1) 127))) (wrap64 (x5_1 + 1)))) else (none)) else (none)) = some (r1, r2, r3, r4) := by rw [if_neg (show ¬ (false = true) by decide)] at H; exact H
        clear H
        have H := H1
        clear H1
        by_cases c18 : 0 ≤ x5_1
        rotate_left
        · rw [if_neg c18] at H
          exact absurd H (by simp)
        rw [if_pos c18] at H
        have c18b0 : decide (0 ≤ x5_1) = true := decide_eq_true c18
        clear c18
        by_cases c19 : x5_1 < (l0.length : Int)
        rotate_left
        · rw [if_neg c19] at H
          exact absurd H (by simp)
        rw [if_pos c19] at H
        have c19b0 : decide (x5_1 < (l0.length : Int)) = true := decide_eq_true c19
        clear c19
        by_cases c20 : (rd l0 x5_1) < 128
        · rw [if_pos c20] at H
          have c20b0 : decide ((rd l0 x5_1) < 128) = true := decide_eq_true c20
          clear c20
          simp only [Option.some.injEq, Prod.mk.injEq] at H
          obtain ⟨rfl, rfl, rfl, rfl⟩ := H
          have p115 : 0 ≤ (x5_1 : Int) := of_decide_eq_true (by first | (with_reducible assumption) | assumption)
          have q115 : x5_1 < (l0.length : Int) := of_decide_eq_true (by first | (with_reducible assumption) | assumption)
          obtain ⟨ad115, e115, hx115_0⟩ := Kd.at_int HR0.out x5_1 p115 q115
          obtain rfl : ad109 = ad115 := (by injection e115)
          replace p115 := eq_true p115
          replace q115 := eq_true q115
          go_wp2
          refine bodyPost_ret (results_list (rs := [.tmp 4, .tmp 5, .tmp 6, .tmp 7]) rfl (by simp) (.tmp (.tmp (.tmp (.tmp .nil))))) rfl ?_
          exact ⟨by first | rfl | (simp; done) | (simp [*]; done), by repeat (first | exact Drawn0.refl _ | apply Drawn0.step)⟩
        rw [if_neg c20] at H
        have c20b0 : decide ((rd l0 x5_1) < 128) = false := decide_eq_false c20
        clear c20
        have H' := Aside0.mk H
        clear H
        have p115 : 0 ≤ (x5_1 : Int) := of_decide_eq_true (by first | (with_reducible assumption) | assumption)
        have q115 : x5_1 < (l0.length : Int) := of_decide_eq_true (by first | (with_reducible assumption) | assumption)
        obtain ⟨ad115, e115, hx115_0⟩ := Kd.at_int HR0.out x5_1 p115 q115
        obtain rfl : ad109 = ad115 := (by injection e115)
        replace p115 := eq_true p115
        replace q115 := eq_true q115
        go_wp2
        go_roundg kj9
        case measure => have := HK1.out; have := HJ9.out; omega
        case rel => exact ⟨((Go.bits .or .i64 (wrap64 (x4_1 * 128)) (wrap64 (Go.bits .and .u8 (rd l0 x5_1) 127)))), (wrap64 (x5_1 + 1)), (by first | rfl | (simp; done) | (simp [*]; done)), (by first | rfl | (simp; done) | (simp [*]; done)), H', ⟨by have := HK1.out; have := HJ9.out; omega⟩, by repeat (first | exact Drawn0.refl _ | apply Drawn0.step)⟩
end Go.Proofs.YtkioddjjfifadaaGreatDoor.P
