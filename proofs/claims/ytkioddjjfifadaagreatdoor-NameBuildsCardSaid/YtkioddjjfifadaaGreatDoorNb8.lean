/- What the proof of NameBuilds needs of: Pxf42, Pxf40, Lb4, Pxf205, Pxf250, Hu0. -/
import Derived.Lib.ValidAsc
import Derived.Lib.EndianBits
import Derived.Laws.BitsAllLaws
import Derived.Shelf.Unicode.ValidAny
import Derived.Test.YtkioddjjfifadaaGreatDoorNb2
import Derived.Test.YtkioddjjfifadaaGreatDoorNb3
import Derived.Test.YtkioddjjfifadaaGreatDoorNb4
import Derived.Test.YtkioddjjfifadaaGreatDoorNb7
set_option linter.unusedVariables false
set_option linter.unusedSimpArgs false
namespace Go.Proofs.YtkioddjjfifadaaGreatDoor.P
open Go.RowKit Go.Proofs.YtkioddjjfifadaaGreatDoorW.PrintWords Go.Proofs.YtkioddjjfifadaaGreatDoorW.PrintLast Go.Proofs.YtkioddjjfifadaaGreatDoorW.PrintMore
attribute [local go_sem] max2_int min2_int max_two min_two max_three min_three max_four min_four   -- for this text's walks alone
set_option linter.unusedVariables false
set_option linter.unusedSimpArgs false
mutual
def chirographref07_Build.l0 : Nat → List (List (S64)) → Int → Option (List Int × Int)
  | 0, _, _ => none
  | k + 1, x0, x4 => if x4 < (x0.length : Int) then (if 0 ≤ x4 then (if ((rd_L5 x0 x4).length : Int) > 64 then (some (([] : List Int), 4)) else (chirographref07_Build.l0 k x0 (wrap64 (x4 + 1)))) else (none)) else (chirographref07_Build.l1 k x0 ([] : List (List Int)) 0)
def chirographref07_Build.l1 : Nat → List (List (S64)) → List (List Int) → Int → Option (List Int × Int)
  | 0, _, _, _ => none
  | k + 1, x0, x5, x6 => if x6 < (x0.length : Int) then (if 0 ≤ x6 then (if ((rd_L5 x0 x6).length : Int) = 0 then (some (([] : List Int), 5)) else (chirographref07_Build.l2 k x0 x5 x6 ([] : List (List Int)) 0)) else (none)) else ((chirographref04_Put.f k 0 16 true x5).bind fun bt628 => (some (bt628.1, bt628.2)))
def chirographref07_Build.l2 : Nat → List (List (S64)) → List (List Int) → Int → List (List Int) → Int → Option (List Int × Int)
  | 0, _, _, _, _, _ => none
  | k + 1, x0, x5, x6, x7, x8 => if 0 ≤ x6 then (if x6 < (x0.length : Int) then (if x8 < ((rd_L5 x0 x6).length : Int) then (if 0 ≤ x8 then ((ref_lay.f k ((rd_T64 (rd_L5 x0 x6) x8).f0) ((rd_T64 (rd_L5 x0 x6) x8).f1) ((rd_T64 (rd_L5 x0 x6) x8).f2)).bind fun bt636 => (if bt636.2 = 0 then (if x7.length < 5864062014805 then (chirographref07_Build.l2 k x0 x5 x6 (x7 ++ [bt636.1]) (wrap64 (x8 + 1))) else (none)) else (some (([] : List Int), bt636.2)))) else (none)) else ((chirographref07_sorted.f x7).bind fun t643 => ((chirographref04_Put.f k 0 17 true t643).bind fun bt646 => (if bt646.2 = 0 then (if x5.length < 5864062014805 then (chirographref07_Build.l1 k x0 (x5 ++ [bt646.1]) (wrap64 (x6 + 1))) else (none)) else (some (([] : List Int), bt646.2)))))) else (none)) else (none)
end
def chirographref07_Build.f (k : Nat) (l0 : List (List (S64))) : Option (List Int × Int) := if (l0.length : Int) > 64 then (some (([] : List Int), 4)) else (chirographref07_Build.l0 k l0 0)
set_option maxHeartbeats 8000000 in
set_option maxRecDepth 100000 in
theorem chirographref07_Build.calls (k : Nat) (A0 : Option Addr) (c0 : Nat) (l0 : List (List (S64))) (r1 : List Int) (r2 : Int) (w : World) (hr0 : Kd.C (Kd.slice 64 k64) w A0 l0.length l0) (hc0 : l0.length ≤ c0) (h : chirographref07_Build.f k l0 = some (r1, r2)) :
    Calls Tryz.prog 42 #[.slice A0 l0.length c0] w fun e w' => ∃ v0_ : Value, e = .returned (.tuple #[v0_, .int .i64 r2]) ∧ Kd.R (Kd.int .u8) 5 w' w.heap.size (fun _ => True) v0_ r1 ∧ Below w.heap.size w w' := by
  have hu64 := Tryz.underlying64
  have HR0 := Aside0.mk hr0
  have HC0 := Aside0.mk hc0
  clear hr0 hc0
  have HB := Aside0.mk (Below.refl w.heap.size w)
  have H : (if (l0.length : Int) > 64 then (some (([] : List Int), 4)) else (chirographref07_Build.l0 k l0 0)) = some (r1, r2) := h
  clear h
  by_cases c2 : (l0.length : Int) > 64
  · rw [if_pos c2] at H
    have c2b0 : decide (64 < (l0.length : Int)) = true := decide_eq_true c2
    have c2b1 : decide (64 < l0.length) = true := decide_eq_true (by omega)
    clear c2
    simp only [Option.some.injEq, Prod.mk.injEq] at H
    obtain ⟨rfl, rfl⟩ := H
    go_enter Tryz.func42, Tryz.ntmps42
    go_wp2
    go_ret2
    exact ⟨_, by first | rfl | (simp [errW_none, errW_some] <;> rfl) | (simp [*, errW_none, errW_some] <;> rfl), by first | exact Kd.R_nil _ _ _ _ _ | exact Kd.N_nil _ _ _ _ _ | exact Kd.V_nil _ _ _ _ _ | exact Kd.Q_nil _ _ _ _ _ | exact Kd.S_nil _ _ _ _ _, by repeat (first | (with_reducible first | exact HB.out | apply below_alloc | apply pw_below_drewN | apply below_drew1) | exact HB.out)⟩
  rw [if_neg c2] at H
  have c2b0 : decide (64 < (l0.length : Int)) = false := decide_eq_false c2
  have c2b1 : decide (64 < l0.length) = false := decide_eq_false (by omega)
  clear c2
  have H' := Aside0.mk H
  clear H
  go_enter Tryz.func42, Tryz.ntmps42
  go_wp2
  go_loopg [4] k (fun kq v4 w' => ∃ (x4_1 : Int), v4 = .int .i64 x4_1 ∧ Aside0 (chirographref07_Build.l0 kq l0 x4_1 = some (r1, r2)) ∧ Aside0 (kq ≤ k) ∧ Aside0 (Below w.heap.size w w'))
  case atStart => exact ⟨(0), (by first | rfl | (simp; done) | (simp [*]; done)), H', ⟨Nat.le_refl _⟩, ⟨by repeat (first | (with_reducible first | exact HB.out | apply below_alloc | apply pw_below_drewN | apply below_drew1) | exact HB.out)⟩⟩
  case round =>
    clear H'
    try clear c2
    try clear c2b0
    try clear c2b1
    try clear p2
    obtain ⟨x4_1, rfl, HA, HK1, HB⟩ := hrel
    cases gk with
    | zero => exact absurd HA.out (by simp [chirographref07_Build.l0])
    | succ k1 =>
      have H := HA.out
      clear HA
      simp only [chirographref07_Build.l0] at H
      by_cases c3 : x4_1 < (l0.length : Int)
      · rw [if_pos c3] at H
        have c3b0 : decide (x4_1 < (l0.length : Int)) = true := decide_eq_true c3
        clear c3
        by_cases c4 : 0 ≤ x4_1
        rotate_left
        · rw [if_neg c4] at H
          exact absurd H (by simp)
        rw [if_pos c4] at H
        have c4b0 : decide (0 ≤ x4_1) = true := decide_eq_true c4
        clear c4
        by_cases c5 : ((rd_L5 l0 x4_1).length : Int) > 64
        · rw [if_pos c5] at H
          have c5b0 : decide (64 < ((rd_L5 l0 x4_1).length : Int)) = true := decide_eq_true c5
          have c5b1 : decide (64 < (rd_L5 l0 x4_1).length) = true := decide_eq_true (by omega)
          clear c5
          simp only [Option.some.injEq, Prod.mk.injEq] at H
          obtain ⟨rfl, rfl⟩ := H
          have p627 : 0 ≤ (x4_1 : Int) := of_decide_eq_true (by first | (with_reducible assumption) | assumption)
          have q627 : x4_1 < (l0.length : Int) := of_decide_eq_true (by first | (with_reducible assumption) | assumption)
          obtain ⟨ad627, A627_0, c627_0, e627, hx627_0, hl627_0, hi627_0⟩ := at_L5 HR0.out x4_1 p627 q627
          cases e627
          replace hx627_0 := (HB.out.cell (World.block_lt_of_cell? w _ hx627_0)).trans hx627_0
          have HR627_0 := Aside0.mk hi627_0
          have HC627_0 := Aside0.mk hl627_0
          clear hi627_0 hl627_0
          replace p627 := eq_true p627
          replace q627 := eq_true q627
          go_wp2
          go_ret2
          exact ⟨_, by first | rfl | (simp [errW_none, errW_some] <;> rfl) | (simp [*, errW_none, errW_some] <;> rfl), by first | exact Kd.R_nil _ _ _ _ _ | exact Kd.N_nil _ _ _ _ _ | exact Kd.V_nil _ _ _ _ _ | exact Kd.Q_nil _ _ _ _ _ | exact Kd.S_nil _ _ _ _ _, by repeat (first | (with_reducible first | exact HB.out | apply below_alloc | apply pw_below_drewN | apply below_drew1) | exact HB.out)⟩
        rw [if_neg c5] at H
        have c5b0 : decide (64 < ((rd_L5 l0 x4_1).length : Int)) = false := decide_eq_false c5
        have c5b1 : decide (64 < (rd_L5 l0 x4_1).length) = false := decide_eq_false (by omega)
        clear c5
        have H' := Aside0.mk H
        clear H
        have p627 : 0 ≤ (x4_1 : Int) := of_decide_eq_true (by first | (with_reducible assumption) | assumption)
        have q627 : x4_1 < (l0.length : Int) := of_decide_eq_true (by first | (with_reducible assumption) | assumption)
        obtain ⟨ad627, A627_0, c627_0, e627, hx627_0, hl627_0, hi627_0⟩ := at_L5 HR0.out x4_1 p627 q627
        cases e627
        replace hx627_0 := (HB.out.cell (World.block_lt_of_cell? w _ hx627_0)).trans hx627_0
        have HR627_0 := Aside0.mk hi627_0
        have HC627_0 := Aside0.mk hl627_0
        clear hi627_0 hl627_0
        replace p627 := eq_true p627
        replace q627 := eq_true q627
        go_wp2
        go_roundg k1
        case measure => have := HK1.out; omega
        case rel => exact ⟨(wrap64 (x4_1 + 1)), (by first | rfl | (simp; done) | (simp [*]; done)), H', ⟨by have := HK1.out; omega⟩, ⟨by repeat (first | (with_reducible first | exact HB.out | apply below_alloc | apply pw_below_drewN | apply below_drew1) | exact HB.out)⟩⟩
      rw [if_neg c3] at H
      have c3b0 : decide (x4_1 < (l0.length : Int)) = false := decide_eq_false c3
      clear c3
      have H' := Aside0.mk H
      clear H
      go_wp2
      go_loopg [5, 6] k1 (fun kq v5 v6 w' => ∃ (x5_2 : List (List Int)) (x6_2 : Int), v6 = .int .i64 x6_2 ∧ Aside0 (chirographref07_Build.l1 kq l0 x5_2 x6_2 = some (r1, r2)) ∧ Aside0 (kq ≤ k1) ∧ Aside0 (Kd.S (Kd.slice 5 (Kd.int .u8)) 22 w' w.heap.size (fun _ => True) v5 x5_2) ∧ Aside0 (Below w.heap.size w w'))
      case atStart => exact ⟨(([] : List (List Int))), (0), (by first | rfl | (simp; done) | (simp [*]; done)), H', ⟨Nat.le_refl _⟩, ⟨by first | exact Kd.S_nil _ _ _ _ _ | exact Kd.N_nil _ _ _ _ _ | exact Kd.V_nil _ _ _ _ _ | exact Kd.Q_nil _ _ _ _ _ | exact Kd.R_nil _ _ _ _ _⟩, ⟨by repeat (first | (with_reducible first | exact HB.out | apply below_alloc | apply pw_below_drewN | apply below_drew1) | exact HB.out)⟩⟩
      case round =>
        clear H'
        try clear c2
        try clear c2b0
        try clear c2b1
        try clear p2
        try clear c3
        try clear c3b0
        try clear c4
        try clear c4b0
        try clear c5
        try clear c5b0
        try clear c5b1
        try clear hx627_0
        try clear p2
        try clear p627
        try clear q627
        obtain ⟨x5_2, x6_2, rfl, HA, HK2, HO_5, HB⟩ := hrel
        cases gk with
        | zero => exact absurd HA.out (by simp [chirographref07_Build.l1])
        | succ k2 =>
          have H := HA.out
          clear HA
          simp only [chirographref07_Build.l1] at H
          by_cases c6 : x6_2 < (l0.length : Int)
          rotate_left
          · rw [if_neg c6] at H
            have c6b0 : decide (x6_2 < (l0.length : Int)) = false := decide_eq_false c6
            clear c6
            replace H := Option.bind_eq_some_iff.mp H
            obtain ⟨⟨t628, t629⟩, A340, H⟩ := H
            replace H : (some (t628, t629)) = some (r1, r2) := H
            have A34 := Aside0.mk A340
            clear A340
            simp only [Option.some.injEq, Prod.mk.injEq] at H
            obtain ⟨rfl, rfl⟩ := H
            obtain ⟨Ao35, co35, eo35⟩ := Kd.S_slice HO_5.out
            subst eo35
            go_wp2_with (first | ((with_reducible refine gate_callee (f := 66) rfl ?_); refine goesL_ (some 126) rfl rfl Tryz.func66 (by kernel_rfl) rfl #[.int .i64 0, .int .i64 16, .bool true, .slice Ao35 x5_2.length co35] rfl (by (try simp only [List.map_toArray, List.map_cons, List.map_nil]); first | done | rfl | (simp only [List.length_drop, List.length_take]; rfl)) ?_; (with_reducible refine (chirographref04_Put.calls k2 0 16 true _ _ x5_2 t628 t629 _ ?side1 ?side2 A34.out).mono ?_); (case side1 => repeat (first | exact (Kd.S_reads' HO_5.out).2.2 | (with_reducible refine Kd.C_alloc ?_ _) | (with_reducible refine Kd.C_drewN ?_ _) | (with_reducible refine Kd.C_drew ?_))); (case side2 => exact (Kd.S_reads' HO_5.out).2.1); rintro e w36 ⟨v630, rfl, ho0, hb⟩; refine ⟨_, rfl, ?_⟩; have n0_ := Aside0.mk (Kd.S_elder' (by (with_reducible repeat (first | apply Kd.S_alloc | apply Kd.S_drewN | apply Kd.S_drew)); exact HO_5.out) (Kd.R_base ho0) hb); have n1_ := Aside0.mk (Kd.R_lower ho0 (below_size (by repeat (first | (with_reducible first | exact HB.out | apply below_alloc | apply pw_below_drewN | apply below_drew1) | exact HB.out)))); have n2_ := Aside0.mk (below_step (by repeat (first | (with_reducible first | exact HB.out | apply below_alloc | apply pw_below_drewN | apply below_drew1) | exact HB.out)) hb); clear HO_5; clear HB; have HO_5 := n0_; have HO631 := n1_; have HB := n2_; clear n0_ n1_ n2_; (try clear hb); (try clear hb2); (try clear hk); (try clear hi); (try clear ho0)))
            go_ret2
            exact ⟨_, by first | rfl | (simp [errW_none, errW_some] <;> rfl) | (simp [*, errW_none, errW_some] <;> rfl), by (with_reducible repeat (first | apply Kd.R_alloc | apply Kd.R_drewN | apply Kd.R_drew)); exact HO631.out, by repeat (first | (with_reducible first | exact HB.out | apply below_alloc | apply pw_below_drewN | apply below_drew1) | exact HB.out)⟩
          rw [if_pos c6] at H
          have c6b0 : decide (x6_2 < (l0.length : Int)) = true := decide_eq_true c6
          clear c6
          by_cases c7 : 0 ≤ x6_2
          rotate_left
          · rw [if_neg c7] at H
            exact absurd H (by simp)
          rw [if_pos c7] at H
          have c7b0 : decide (0 ≤ x6_2) = true := decide_eq_true c7
          clear c7
          by_cases c8 : ((rd_L5 l0 x6_2).length : Int) = 0
          · rw [if_pos c8] at H
            have c8b0 : (((rd_L5 l0 x6_2).length : Int) == 0) = true := beq_iff_eq.mpr c8
            have c8b1 : (((rd_L5 l0 x6_2).length : Int) != 0) = false := bne_eq_false_iff_eq.mpr c8
            clear c8
            simp only [Option.some.injEq, Prod.mk.injEq] at H
            obtain ⟨rfl, rfl⟩ := H
            have p632 : 0 ≤ (x6_2 : Int) := of_decide_eq_true (by first | (with_reducible assumption) | assumption)
            have q632 : x6_2 < (l0.length : Int) := of_decide_eq_true (by first | (with_reducible assumption) | assumption)
            obtain ⟨ad632, A632_0, c632_0, e632, hx632_0, hl632_0, hi632_0⟩ := at_L5 HR0.out x6_2 p632 q632
            cases e632
            replace hx632_0 := (HB.out.cell (World.block_lt_of_cell? w _ hx632_0)).trans hx632_0
            have HR632_0 := Aside0.mk hi632_0
            have HC632_0 := Aside0.mk hl632_0
            clear hi632_0 hl632_0
            replace p632 := eq_true p632
            replace q632 := eq_true q632
            go_wp2
            go_ret2
            exact ⟨_, by first | rfl | (simp [errW_none, errW_some] <;> rfl) | (simp [*, errW_none, errW_some] <;> rfl), by first | exact Kd.R_nil _ _ _ _ _ | exact Kd.N_nil _ _ _ _ _ | exact Kd.V_nil _ _ _ _ _ | exact Kd.Q_nil _ _ _ _ _ | exact Kd.S_nil _ _ _ _ _, by repeat (first | (with_reducible first | exact HB.out | apply below_alloc | apply pw_below_drewN | apply below_drew1) | exact HB.out)⟩
          rw [if_neg c8] at H
          have c8b0 : (((rd_L5 l0 x6_2).length : Int) == 0) = false := beq_eq_false_iff_ne.mpr c8
          have c8b1 : (((rd_L5 l0 x6_2).length : Int) != 0) = true := bne_iff_ne.mpr c8
          have c8b2 : ¬ ((rd_L5 l0 x6_2) = []) := fun h_ => c8 (by rw [h_]; rfl)
          have H' := Aside0.mk H
          clear H
          have p632 : 0 ≤ (x6_2 : Int) := of_decide_eq_true (by first | (with_reducible assumption) | assumption)
          have q632 : x6_2 < (l0.length : Int) := of_decide_eq_true (by first | (with_reducible assumption) | assumption)
          obtain ⟨ad632, A632_0, c632_0, e632, hx632_0, hl632_0, hi632_0⟩ := at_L5 HR0.out x6_2 p632 q632
          cases e632
          replace hx632_0 := (HB.out.cell (World.block_lt_of_cell? w _ hx632_0)).trans hx632_0
          have HR632_0 := Aside0.mk hi632_0
          have HC632_0 := Aside0.mk hl632_0
          clear hi632_0 hl632_0
          replace p632 := eq_true p632
          replace q632 := eq_true q632
          go_wp2
          go_loopg [7, 8] k2 (fun kq v7 v8 w' => ∃ (x7_3 : List (List Int)) (x8_3 : Int), v8 = .int .i64 x8_3 ∧ Aside0 (chirographref07_Build.l2 kq l0 x5_2 x6_2 x7_3 x8_3 = some (r1, r2)) ∧ Aside0 (kq ≤ k2) ∧ Aside0 (Kd.S (Kd.slice 5 (Kd.int .u8)) 22 w' w.heap.size (fun k_ => some k_ ≠ (v7 : Value).ownBlock) u5 x5_2) ∧ Aside0 (Kd.S (Kd.slice 5 (Kd.int .u8)) 22 w' w.heap.size (fun k_ => some k_ ≠ (u5 : Value).ownBlock) v7 x7_3) ∧ Aside0 (Below w.heap.size w w'))
          case atStart => exact ⟨(([] : List (List Int))), (0), (by first | rfl | (simp; done) | (simp [*]; done)), H', ⟨Nat.le_refl _⟩, ⟨by (with_reducible repeat (first | apply Kd.S_alloc | apply Kd.S_drewN | apply Kd.S_drew)); exact Kd.S_mono HO_5.out (fun _ hk => (by simp [Value.ownBlock]))⟩, ⟨by first | exact Kd.S_nil _ _ _ _ _ | exact Kd.N_nil _ _ _ _ _ | exact Kd.V_nil _ _ _ _ _ | exact Kd.Q_nil _ _ _ _ _ | exact Kd.R_nil _ _ _ _ _⟩, ⟨by repeat (first | (with_reducible first | exact HB.out | apply below_alloc | apply pw_below_drewN | apply below_drew1) | exact HB.out)⟩⟩
          case round =>
            clear H'
            try clear c2
            try clear c2b0
            try clear c2b1
            try clear p2
            try clear c3
            try clear c3b0
            try clear c4
            try clear c4b0
            try clear c5
            try clear c5b0
            try clear c5b1
            try clear c6
            try clear c6b0
            try clear p6
            try clear q6
            try clear hx6
            try clear c7
            try clear c7b0
            try clear c8
            try clear c8b0
            try clear c8b1
            try clear c8b2
            try clear hx627_0
            try clear hx632_0
            try clear p2
            try clear p627
            try clear p632
            try clear q627
            try clear q632
            obtain ⟨x7_3, x8_3, rfl, HA, HK3, HO_5, HO_7, HB⟩ := hrel
            cases gk with
            | zero => exact absurd HA.out (by simp [chirographref07_Build.l2])
            | succ k3 =>
              have H := HA.out
              clear HA
              simp only [chirographref07_Build.l2] at H
              by_cases c9 : 0 ≤ x6_2
              rotate_left
              · rw [if_neg c9] at H
                exact absurd H (by simp)
              rw [if_pos c9] at H
              have c9b0 : decide (0 ≤ x6_2) = true := decide_eq_true c9
              clear c9
              by_cases c10 : x6_2 < (l0.length : Int)
              rotate_left
              · rw [if_neg c10] at H
                exact absurd H (by simp)
              rw [if_pos c10] at H
              have c10b0 : decide (x6_2 < (l0.length : Int)) = true := decide_eq_true c10
              clear c10
              by_cases c11 : x8_3 < ((rd_L5 l0 x6_2).length : Int)
              rotate_left
              · rw [if_neg c11] at H
                have c11b0 : decide (x8_3 < ((rd_L5 l0 x6_2).length : Int)) = false := decide_eq_false c11
                clear c11
                replace H := Option.bind_eq_some_iff.mp H
                obtain ⟨t643, A200, H⟩ := H
                replace H : ((chirographref04_Put.f k3 0 17 true t643).bind fun bt646 => (if bt646.2 = 0 then (if x5_2.length < 5864062014805 then (chirographref07_Build.l1 k3 l0 (x5_2 ++ [bt646.1]) (wrap64 (x6_2 + 1))) else (none)) else (some (([] : List Int), bt646.2)))) = some (r1, r2) := H
                have A20 := Aside0.mk A200
                clear A200
                replace H := Option.bind_eq_some_iff.mp H
                obtain ⟨⟨t646, t647⟩, A210, H⟩ := H
                replace H : (if t647 = 0 then (if x5_2.length < 5864062014805 then (chirographref07_Build.l1 k3 l0 (x5_2 ++ [t646]) (wrap64 (x6_2 + 1))) else (none)) else (some (([] : List Int), t647))) = some (r1, r2) := H
                have A21 := Aside0.mk A210
                clear A210
                by_cases c22 : t647 = 0
                rotate_left
                · rw [if_neg c22] at H
                  have c22b0 : (t647 == 0) = false := beq_eq_false_iff_ne.mpr c22
                  have c22b1 : (t647 != 0) = true := bne_iff_ne.mpr c22
                  simp only [Option.some.injEq, Prod.mk.injEq] at H
                  obtain ⟨rfl, rfl⟩ := H
                  have p633 : 0 ≤ (x6_2 : Int) := of_decide_eq_true (by first | (with_reducible assumption) | assumption)
                  have q633 : x6_2 < (l0.length : Int) := of_decide_eq_true (by first | (with_reducible assumption) | assumption)
                  obtain ⟨ad633, A633_0, c633_0, e633, hx633_0, hl633_0, hi633_0⟩ := at_L5 HR0.out x6_2 p633 q633
                  obtain rfl : ad632 = ad633 := (by injection e633)
                  replace hx633_0 := (HB.out.cell (World.block_lt_of_cell? w _ hx633_0)).trans hx633_0
                  have HR633_0 := Aside0.mk hi633_0
                  have HC633_0 := Aside0.mk hl633_0
                  clear hi633_0 hl633_0
                  replace p633 := eq_true p633
                  replace q633 := eq_true q633
                  obtain ⟨Ao30, co30, eo30⟩ := Kd.S_slice HO_7.out
                  subst eo30
                  go_wp2_with fail
                  refine (chirographref07_sorted.calls Ao30 co30 x7_3 t643 _ (Kd.S_reads' HO_7.out).2.2 (Kd.S_reads' HO_7.out).2.1 A20.out).mono ?_
                  rintro e w61 ⟨v, rfl, ho, hb⟩
                  obtain ⟨G, g, rfl⟩ := Kd.R_slice ho
                  have HG := Aside0.mk (kOld_C (Kd.R_reads' ho).2.2 hb)
                  have LG := Aside0.mk (Kd.R_reads' ho).2.1
                  have n0_ := Aside0.mk (Kd.S_below HO_5.out hb); have n2_ := Aside0.mk (below_step HB.out hb); clear HO_5 HO_7 HB ho hb; have HO_5 := n0_; have HB := n2_; clear n0_ n2_
                  go_wp2_with fail
                  refine (chirographref04_Put.calls k3 0 17 true G g t643 t646 t647 _ HG.out LG.out A21.out).mono ?_
                  rintro e w62 ⟨v, rfl, ho, hb⟩
                  obtain ⟨I, i_, rfl⟩ := Kd.R_slice ho
                  have n2_ := Aside0.mk (below_step HB.out hb); clear HO_5 HB ho hb HG LG; have HB := n2_; clear n2_
                  go_wp2_with fail
                  go_ret2
                  exact ⟨_, by first | rfl | (simp [errW_none, errW_some] <;> rfl) | (simp [*, errW_none, errW_some] <;> rfl), by first | exact Kd.R_nil _ _ _ _ _ | exact Kd.N_nil _ _ _ _ _ | exact Kd.V_nil _ _ _ _ _ | exact Kd.Q_nil _ _ _ _ _ | exact Kd.S_nil _ _ _ _ _, by repeat (first | (with_reducible first | exact HB.out | apply below_alloc | apply pw_below_drewN | apply below_drew1) | exact HB.out)⟩
                rw [if_pos c22] at H
                have c22b0 : (t647 == 0) = true := beq_iff_eq.mpr c22
                have c22b1 : (t647 != 0) = false := bne_eq_false_iff_eq.mpr c22
                clear c22
                by_cases c23 : x5_2.length < 5864062014805
                rotate_left
                · rw [if_neg c23] at H
                  exact absurd H (by simp)
                rw [if_pos c23] at H
                have LMc23 := Aside0.mk c23
                clear c23
                obtain ⟨y650, hy650⟩ : ∃ y_ : List (List Int), y_ = (x5_2 ++ [t646]) := ⟨_, rfl⟩
                replace H : (chirographref07_Build.l1 k3 l0 y650 (wrap64 (x6_2 + 1))) = some (r1, r2) := by first | (rw [hy650]; with_reducible exact H) | (have H2_ := (Option.bind_some _ _).symm.trans H; rw [hy650]; with_reducible exact H2_) | (have H2_ := (Option.bind_some _ _).symm.trans H; with_reducible exact H2_) | with_reducible exact H | (rw [hy650]; exact H) | exact H
                have Ny650 := Aside0.mk hy650
                clear hy650
                have H' := Aside0.mk H
                clear H
                have p633 : 0 ≤ (x6_2 : Int) := of_decide_eq_true (by first | (with_reducible assumption) | assumption)
                have q633 : x6_2 < (l0.length : Int) := of_decide_eq_true (by first | (with_reducible assumption) | assumption)
                obtain ⟨ad633, A633_0, c633_0, e633, hx633_0, hl633_0, hi633_0⟩ := at_L5 HR0.out x6_2 p633 q633
                obtain rfl : ad632 = ad633 := (by injection e633)
                replace hx633_0 := (HB.out.cell (World.block_lt_of_cell? w _ hx633_0)).trans hx633_0
                have HR633_0 := Aside0.mk hi633_0
                have HC633_0 := Aside0.mk hl633_0
                clear hi633_0 hl633_0
                replace p633 := eq_true p633
                replace q633 := eq_true q633
                obtain ⟨Ao24, co24, eo24⟩ := Kd.S_slice HO_7.out
                subst eo24
                go_wp2_with fail
                refine (chirographref07_sorted.calls Ao24 co24 x7_3 t643 _ (Kd.S_reads' HO_7.out).2.2 (Kd.S_reads' HO_7.out).2.1 A20.out).mono ?_
                rintro e w61 ⟨v, rfl, ho, hb⟩
                obtain ⟨G, g, rfl⟩ := Kd.R_slice ho
                have HG := Aside0.mk (kOld_C (Kd.R_reads' ho).2.2 hb)
                have LG := Aside0.mk (Kd.R_reads' ho).2.1
                have n0_ := Aside0.mk (Kd.S_below HO_5.out hb); have n2_ := Aside0.mk (below_step HB.out hb); clear HO_5 HO_7 HB ho hb; have HO_5 := n0_; have HB := n2_; clear n0_ n2_
                go_wp2_with fail
                refine (chirographref04_Put.calls k3 0 17 true G g t643 t646 t647 _ HG.out LG.out A21.out).mono ?_
                rintro e w62 ⟨v, rfl, ho, hb⟩
                obtain ⟨I, i_, rfl⟩ := Kd.R_slice ho
                have n0_ := Aside0.mk (Kd.S_elder' HO_5.out (Kd.R_base ho) hb); have n3_ := Aside0.mk (Kd.R_lower ho (below_size HB.out)); have n2_ := Aside0.mk (below_step HB.out hb); clear HO_5 HB ho hb HG LG; have HO_5 := n0_; have HB := n2_; have HO649 := n3_; clear n0_ n2_ n3_
                go_wp2_with ((with_reducible refine gate_builtin (b := .append) (xs := #[.tmp 121, .tmp 123]) rfl ?_); at_builtin; refine Kd.S_append (Kd.slice 5 (Kd.int .u8)) (w0 := w) w.heap.size rfl (.tmp 121) (.tmp 123) 67 22 (.slice none 0 0) 24 rfl Tryz.underlying67 info22 rfl (by decide) (by omega) u5 x5_2 t646 [.slice I t646.length i_] (fun _ => True) (fun k_ => some k_ = (.slice I t646.length i_ : Value).ownBlock) rfl rfl ?aP (fun k_ hk_ => ((Kd.R_mono (ok' := fun k_ => (fun _ => True) k_ ∧ some k_ ≠ (u5 : Value).ownBlock) (Kd.R_apart' HO649.out (Kd.S_typed HO_5.out) (by decide)) (fun k_ hk => ⟨trivial, hk.2⟩))).1 k_ hk_.symm) (fun _ _ => trivial) ?aO ?aB ?aS ?aL ?_; (case aP => exact Kd.M_row (Kd.R_mono (Kd.R_tight rfl HO649.out) (fun _ h_ => h_))); (case aB => exact (by repeat (first | (with_reducible first | exact HB.out | apply below_alloc | apply pw_below_drewN | apply below_drew1) | exact HB.out))); (case aO => exact (by (with_reducible repeat (first | apply Kd.S_alloc | apply Kd.S_drewN | apply Kd.S_drew)); exact Kd.S_mono HO_5.out (fun k_ hk => ⟨trivial, fun e_ => hk.2 e_⟩))); (case aS => exact below_size (by repeat (first | (with_reducible first | exact HB.out | apply below_alloc | apply pw_below_drewN | apply below_drew1) | exact HB.out))); (case aL => have := LMc23.out; omega); intro v651 w28 ho hb hg hat; rw [← Ny650.out] at ho; have n2_ := Aside0.mk (hb); have n3_ := Aside0.mk (ho); clear HB; clear HO_5; clear HO649; have HB := n2_; have HO652 := n3_; clear n2_ n3_; clear ho hb hg hat)
                go_roundg k3
                case measure => have := HK1.out; have := HK2.out; have := HK3.out; omega
                case rel => exact ⟨(y650), (wrap64 (x6_2 + 1)), (by first | rfl | (simp; done) | (simp [*]; done)), H', ⟨by have := HK1.out; have := HK2.out; have := HK3.out; omega⟩, ⟨by (with_reducible repeat (first | apply Kd.S_alloc | apply Kd.S_drewN | apply Kd.S_drew)); exact Kd.S_mono HO652.out (fun _ hk => trivial)⟩, ⟨by repeat (first | (with_reducible first | exact HB.out | apply below_alloc | apply pw_below_drewN | apply below_drew1) | exact HB.out)⟩⟩
              rw [if_pos c11] at H
              have c11b0 : decide (x8_3 < ((rd_L5 l0 x6_2).length : Int)) = true := decide_eq_true c11
              clear c11
              by_cases c12 : 0 ≤ x8_3
              rotate_left
              · rw [if_neg c12] at H
                exact absurd H (by simp)
              rw [if_pos c12] at H
              have c12b0 : decide (0 ≤ x8_3) = true := decide_eq_true c12
              clear c12
              replace H := Option.bind_eq_some_iff.mp H
              obtain ⟨⟨t636, t639⟩, A130, H⟩ := H
              replace H : (if t639 = 0 then (if x7_3.length < 5864062014805 then (chirographref07_Build.l2 k3 l0 x5_2 x6_2 (x7_3 ++ [t636]) (wrap64 (x8_3 + 1))) else (none)) else (some (([] : List Int), t639))) = some (r1, r2) := H
              have A13 := Aside0.mk A130
              clear A130
              by_cases c14 : t639 = 0
              · rw [if_pos c14] at H
                have c14b0 : (t639 == 0) = true := beq_iff_eq.mpr c14
                have c14b1 : (t639 != 0) = false := bne_eq_false_iff_eq.mpr c14
                subst c14
                by_cases c15 : x7_3.length < 5864062014805
                rotate_left
                · rw [if_neg c15] at H
                  exact absurd H (by simp)
                rw [if_pos c15] at H
                have LMc15 := Aside0.mk c15
                clear c15
                obtain ⟨y640, hy640⟩ : ∃ y_ : List (List Int), y_ = (x7_3 ++ [t636]) := ⟨_, rfl⟩
                replace H : (chirographref07_Build.l2 k3 l0 x5_2 x6_2 y640 (wrap64 (x8_3 + 1))) = some (r1, r2) := by first | (rw [hy640]; with_reducible exact H) | (have H2_ := (Option.bind_some _ _).symm.trans H; rw [hy640]; with_reducible exact H2_) | (have H2_ := (Option.bind_some _ _).symm.trans H; with_reducible exact H2_) | with_reducible exact H | (rw [hy640]; exact H) | exact H
                have Ny640 := Aside0.mk hy640
                clear hy640
                have H' := Aside0.mk H
                clear H
                have p633 : 0 ≤ (x6_2 : Int) := of_decide_eq_true (by first | (with_reducible assumption) | assumption)
                have q633 : x6_2 < (l0.length : Int) := of_decide_eq_true (by first | (with_reducible assumption) | assumption)
                obtain ⟨ad633, A633_0, c633_0, e633, hx633_0, hl633_0, hi633_0⟩ := at_L5 HR0.out x6_2 p633 q633
                obtain rfl : ad632 = ad633 := (by injection e633)
                replace hx633_0 := (HB.out.cell (World.block_lt_of_cell? w _ hx633_0)).trans hx633_0
                have HR633_0 := Aside0.mk hi633_0
                have HC633_0 := Aside0.mk hl633_0
                clear hi633_0 hl633_0
                replace p633 := eq_true p633
                replace q633 := eq_true q633
                have p634 : 0 ≤ (x6_2 : Int) := of_decide_eq_true (by first | (with_reducible assumption) | assumption)
                have q634 : x6_2 < (l0.length : Int) := of_decide_eq_true (by first | (with_reducible assumption) | assumption)
                obtain ⟨ad634, A634_0, c634_0, e634, hx634_0, hl634_0, hi634_0⟩ := at_L5 HR0.out x6_2 p634 q634
                obtain rfl : ad632 = ad634 := (by injection e634)
                replace hx634_0 := (HB.out.cell (World.block_lt_of_cell? w _ hx634_0)).trans hx634_0
                have HR634_0 := Aside0.mk hi634_0
                have HC634_0 := Aside0.mk hl634_0
                clear hi634_0 hl634_0
                replace p634 := eq_true p634
                replace q634 := eq_true q634
                have ea_ := Option.some.inj (hx633_0.symm.trans hx634_0)
                injection ea_ with ea_ en_ ec_
                subst ea_
                subst ec_
                clear en_
                have p635 : 0 ≤ (x8_3 : Int) := of_decide_eq_true (by first | (with_reducible assumption) | assumption)
                have q635 : x8_3 < ((rd_L5 l0 x6_2).length : Int) := of_decide_eq_true (by first | (with_reducible assumption) | assumption)
                obtain ⟨ad635, A635_2, c635_2, e635, hx635_0, hx635_1, hx635_2, hl635_2, hi635_2⟩ := at_T64 HR634_0.out x8_3 p635 q635
                cases e635
                replace hx635_0 := (HB.out.cell (World.block_lt_of_cell? w _ hx635_0)).trans hx635_0
                replace hx635_1 := (HB.out.cell (World.block_lt_of_cell? w _ hx635_1)).trans hx635_1
                replace hx635_2 := (HB.out.cell (World.block_lt_of_cell? w _ hx635_2)).trans hx635_2
                have HR635_2 := Aside0.mk hi635_2
                have HC635_2 := Aside0.mk hl635_2
                clear hi635_2 hl635_2
                replace p635 := eq_true p635
                replace q635 := eq_true q635
                obtain ⟨P, hP⟩ : ∃ P, rd_T64 (rd_L5 l0 x6_2) x8_3 = P := ⟨_, rfl⟩
                rw [hP] at A13 hx635_0 hx635_1 hx635_2 HR635_2 HC635_2
                obtain ⟨o_, p_, q_, ho1, ht1, ht2, hp1, hq1, hz1⟩ := ref_lay_ok A13.out
                have HO1 := Aside0.mk ho1
                have HP1 := Aside0.mk hp1
                have HQ1 := Aside0.mk hq1
                have HZ1 := Aside0.mk hz1
                have T1 : decide (P.f1 < 1) = false := decide_eq_false ht1
                have T2 : decide (268435455 < P.f1) = false := decide_eq_false ht2
                clear ho1 ht1 ht2 hp1 hq1 hz1 A13 hP
                go_wp2_with fail
                refine (chirographref04_PutOid.calls k3 P.f0 o_ 0 _ HO1.out).mono ?_
                rintro e w52 ⟨v, rfl, ho, hb⟩
                obtain ⟨C, c, rfl⟩ := Kd.R_slice ho
                have HC := Aside0.mk (Kd.R_reads' ho)
                have BK := Aside0.mk (blk_below (new_alloc wr (.cells #[.string P.f0, .int .i64 P.f1, .slice A635_2 P.f2.length c635_2] 64)) hb)
                replace hb := below_step (below_alloc (Below.refl wr.heap.size wr) (.cells #[.string P.f0, .int .i64 P.f1, .slice A635_2 P.f2.length c635_2] 64)) hb
                have HX := Aside0.mk (Kd.C_below (Kd.C_below HR635_2.out HB.out) hb)
                have n0_ := Aside0.mk (Kd.S_below HO_5.out hb); have n1_ := Aside0.mk (Kd.S_below HO_7.out hb); have n2_ := Aside0.mk (below_step HB.out hb); clear HO_5 HO_7 HB; have HO_5 := n0_; have HO_7 := n1_; have HB := n2_; clear n0_ n1_ n2_
                clear ho hb hx635_0 hx635_1 hx635_2
                have hc1 : w52.cell? ⟨wr.heap.size, 1, none⟩ = some (.int .i64 P.f1) := (blk_cell BK.out 1).trans rfl
                go_wp2_with fail
                refine (chirographref04_Put.calls k3 0 6 false _ 1 [o_] p_ 0 _ (C_row1 kB (more := []) (kB.K_below (below_alloc (Below.refl w52.heap.size w52) _) (kB_mk HC.out.2.1 HC.out.2.2)) (new_alloc _ _)) (Nat.le_refl 1) HP1.out).mono ?_
                rintro e w53 ⟨v, rfl, ho, hb⟩
                obtain ⟨D, d, rfl⟩ := Kd.R_slice ho
                have HD := Aside0.mk (Kd.R_reads' ho)
                replace hb := below_step (below_alloc (Below.refl w52.heap.size w52) _) hb
                have n0_ := Aside0.mk (Kd.S_below HO_5.out hb); have n1_ := Aside0.mk (Kd.S_below HO_7.out hb); have n2_ := Aside0.mk (below_step HB.out hb); clear HO_5 HO_7 HB; have HO_5 := n0_; have HO_7 := n1_; have HB := n2_; clear n0_ n1_ n2_
                have n0_ := Aside0.mk (blk_below BK.out hb); have n1_ := Aside0.mk (Kd.C_below HX.out hb); clear BK HX; have BK := n0_; have HX := n1_; clear n0_ n1_ ho hb hc1 HC
                have hc1 : w53.cell? ⟨wr.heap.size, 1, none⟩ = some (.int .i64 P.f1) := (blk_cell BK.out 1).trans rfl
                have hc2 : w53.cell? ⟨wr.heap.size, 2, none⟩ = some (.slice A635_2 P.f2.length c635_2) := (blk_cell BK.out 2).trans rfl
                go_wp2_with fail
                refine (chirographref04_Put.calls k3 0 P.f1 false _ 1 [P.f2] q_ 0 _ (C_row1 kB (more := []) (kB.K_below (below_alloc (Below.refl w53.heap.size w53) _) (kB_mk HC635_2.out HX.out)) (new_alloc _ _)) (Nat.le_refl 1) HQ1.out).mono ?_
                rintro e w54 ⟨v, rfl, ho, hb⟩
                obtain ⟨F, f, rfl⟩ := Kd.R_slice ho
                have HF := Aside0.mk (Kd.R_reads' ho)
                replace hb := below_step (below_alloc (Below.refl w53.heap.size w53) _) hb
                have n0_ := Aside0.mk (Kd.S_below HO_5.out hb); have n1_ := Aside0.mk (Kd.S_below HO_7.out hb); have n2_ := Aside0.mk (below_step HB.out hb); clear HO_5 HO_7 HB; have HO_5 := n0_; have HO_7 := n1_; have HB := n2_; clear n0_ n1_ n2_
                have HD4 := Aside0.mk (Kd.C_below HD.out.2.2 hb)
                have LD := Aside0.mk HD.out.2.1
                clear ho hb hc1 hc2 HX BK HD
                go_wp2_with fail
                refine (chirographref04_Put.calls k3 0 16 true _ 2 [p_, q_] t636 0 _ (C_row2 kB rfl (kB_mk LD.out (Kd.C_alloc HD4.out _)) (kB_mk HF.out.2.1 (Kd.C_alloc HF.out.2.2 _)) (new_alloc _ _)) (Nat.le_refl 2) HZ1.out).mono ?_
                rintro e w55 ⟨v, rfl, ho, hb⟩
                have n0_ := Aside0.mk (Kd.S_elder' (by (with_reducible repeat (first | apply Kd.S_alloc | apply Kd.S_drewN | apply Kd.S_drew)); exact HO_5.out) (Kd.R_base ho) hb); have n1_ := Aside0.mk (Kd.S_elder' (by (with_reducible repeat (first | apply Kd.S_alloc | apply Kd.S_drewN | apply Kd.S_drew)); exact HO_7.out) (Kd.R_base ho) hb); have n3_ := Kd.R_lower ho (below_size (below_alloc HB.out (.cells #[.slice D p_.length d, .slice F q_.length f] 22))); have n2_ := Aside0.mk (below_step (below_alloc HB.out _) hb); clear HO_5 HO_7 HB ho; have HO_5 := n0_; have HO_7 := n1_; have HB := n2_; have ho := n3_; clear n0_ n1_ n2_ n3_
                obtain ⟨Ao18, co18, eo18⟩ := Kd.R_slice ho
                subst eo18
                have HO638 := Aside0.mk ho
                clear ho
                clear hb HD4 LD HF
                go_wp2_with ((with_reducible refine gate_builtin (b := .append) (xs := #[.tmp 108, .tmp 110]) rfl ?_); at_builtin; refine Kd.S_append (Kd.slice 5 (Kd.int .u8)) (w0 := w) w.heap.size rfl (.tmp 108) (.tmp 110) 67 22 (.slice none 0 0) 24 rfl Tryz.underlying67 info22 rfl (by decide) (by omega) u7 x7_3 t636 [.slice Ao18 t636.length co18] (fun k_ => some k_ ≠ (u5 : Value).ownBlock) (fun k_ => some k_ = (.slice Ao18 t636.length co18 : Value).ownBlock) rfl rfl ?aP (fun k_ hk_ => ((Kd.R_mono (ok' := fun k_ => ((fun k_ => some k_ ≠ (u5 : Value).ownBlock)) k_ ∧ some k_ ≠ (u7 : Value).ownBlock) (Kd.R_apart' (Kd.R_apart' (HO638.out) (Kd.S_typed HO_5.out) (by decide)) (Kd.S_typed HO_7.out) (by decide)) (fun k_ hk => ⟨hk.1.2, hk.2⟩))).1 k_ hk_.symm) ?aF ?aO ?aB ?aS ?aL ?_; (case aP => exact Kd.M_row (Kd.R_mono (Kd.R_tight rfl (Kd.R_mono (ok' := fun k_ => ((fun k_ => some k_ ≠ (u5 : Value).ownBlock)) k_ ∧ some k_ ≠ (u7 : Value).ownBlock) (Kd.R_apart' (Kd.R_apart' (HO638.out) (Kd.S_typed HO_5.out) (by decide)) (Kd.S_typed HO_7.out) (by decide)) (fun k_ hk => ⟨hk.1.2, hk.2⟩))) (fun _ h_ => h_))); (case aB => exact (by repeat (first | (with_reducible first | exact HB.out | apply below_alloc | apply pw_below_drewN | apply below_drew1) | exact HB.out))); (case aF => exact (fun k_ hk => Kd.fresh' (Kd.S_lt (by (with_reducible repeat (first | apply Kd.S_alloc | apply Kd.S_drewN | apply Kd.S_drew)); exact HO_5.out)) k_ hk)); (case aO => exact (by (with_reducible repeat (first | apply Kd.S_alloc | apply Kd.S_drewN | apply Kd.S_drew)); exact Kd.S_mono HO_7.out (fun k_ hk => ⟨hk.1, fun e_ => hk.2 e_⟩))); (case aS => exact (below_size (by repeat (first | (with_reducible first | exact HB.out | apply below_alloc | apply pw_below_drewN | apply below_drew1) | exact HB.out)))); (case aL => have := LMc15.out; omega); intro v641 w17 ho hb hg hat; rw [← Ny640.out] at ho; have n0_ := Aside0.mk (Kd.S_after (ok := (fun k_ => some k_ ≠ (.slice Ao18 t636.length co18 : Value).ownBlock)) (by (with_reducible repeat (first | apply Kd.S_alloc | apply Kd.S_drewN | apply Kd.S_drew)); exact Kd.S_mono HO_5.out (fun _ hk => ⟨hk.2, hk.1⟩)) hg hat); have n1_ := Aside0.mk (hb); have n2_ := Aside0.mk (ho); clear HO_5; clear HB; clear HO_7; clear HO638; have HO_5 := n0_; have HB := n1_; have HO642 := n2_; clear n0_ n1_ n2_; clear ho hb hg hat)
                go_roundg k3
                case measure => have := HK1.out; have := HK2.out; have := HK3.out; omega
                case rel => exact ⟨(y640), (wrap64 (x8_3 + 1)), (by first | rfl | (simp; done) | (simp [*]; done)), H', ⟨by have := HK1.out; have := HK2.out; have := HK3.out; omega⟩, ⟨by (with_reducible repeat (first | apply Kd.S_alloc | apply Kd.S_drewN | apply Kd.S_drew)); exact Kd.S_mono HO_5.out (fun _ hk => hk.2)⟩, ⟨by (with_reducible repeat (first | apply Kd.S_alloc | apply Kd.S_drewN | apply Kd.S_drew)); exact HO642.out⟩, ⟨by repeat (first | (with_reducible first | exact HB.out | apply below_alloc | apply pw_below_drewN | apply below_drew1) | exact HB.out)⟩⟩
              rw [if_neg c14] at H
              have c14b0 : (t639 == 0) = false := beq_eq_false_iff_ne.mpr c14
              have c14b1 : (t639 != 0) = true := bne_iff_ne.mpr c14
              simp only [Option.some.injEq, Prod.mk.injEq] at H
              obtain ⟨rfl, rfl⟩ := H
              have p633 : 0 ≤ (x6_2 : Int) := of_decide_eq_true (by first | (with_reducible assumption) | assumption)
              have q633 : x6_2 < (l0.length : Int) := of_decide_eq_true (by first | (with_reducible assumption) | assumption)
              obtain ⟨ad633, A633_0, c633_0, e633, hx633_0, hl633_0, hi633_0⟩ := at_L5 HR0.out x6_2 p633 q633
              obtain rfl : ad632 = ad633 := (by injection e633)
              replace hx633_0 := (HB.out.cell (World.block_lt_of_cell? w _ hx633_0)).trans hx633_0
              have HR633_0 := Aside0.mk hi633_0
              have HC633_0 := Aside0.mk hl633_0
              clear hi633_0 hl633_0
              replace p633 := eq_true p633
              replace q633 := eq_true q633
              have p634 : 0 ≤ (x6_2 : Int) := of_decide_eq_true (by first | (with_reducible assumption) | assumption)
              have q634 : x6_2 < (l0.length : Int) := of_decide_eq_true (by first | (with_reducible assumption) | assumption)
              obtain ⟨ad634, A634_0, c634_0, e634, hx634_0, hl634_0, hi634_0⟩ := at_L5 HR0.out x6_2 p634 q634
              obtain rfl : ad632 = ad634 := (by injection e634)
              replace hx634_0 := (HB.out.cell (World.block_lt_of_cell? w _ hx634_0)).trans hx634_0
              have HR634_0 := Aside0.mk hi634_0
              have HC634_0 := Aside0.mk hl634_0
              clear hi634_0 hl634_0
              replace p634 := eq_true p634
              replace q634 := eq_true q634
              have ea_ := Option.some.inj (hx633_0.symm.trans hx634_0)
              injection ea_ with ea_ en_ ec_
              subst ea_
              subst ec_
              clear en_
              have p635 : 0 ≤ (x8_3 : Int) := of_decide_eq_true (by first | (with_reducible assumption) | assumption)
              have q635 : x8_3 < ((rd_L5 l0 x6_2).length : Int) := of_decide_eq_true (by first | (with_reducible assumption) | assumption)
              obtain ⟨ad635, A635_2, c635_2, e635, hx635_0, hx635_1, hx635_2, hl635_2, hi635_2⟩ := at_T64 HR634_0.out x8_3 p635 q635
              cases e635
              replace hx635_0 := (HB.out.cell (World.block_lt_of_cell? w _ hx635_0)).trans hx635_0
              replace hx635_1 := (HB.out.cell (World.block_lt_of_cell? w _ hx635_1)).trans hx635_1
              replace hx635_2 := (HB.out.cell (World.block_lt_of_cell? w _ hx635_2)).trans hx635_2
              have HR635_2 := Aside0.mk hi635_2
              have HC635_2 := Aside0.mk hl635_2
              clear hi635_2 hl635_2
              replace p635 := eq_true p635
              replace q635 := eq_true q635
              obtain ⟨P, hP⟩ : ∃ P, rd_T64 (rd_L5 l0 x6_2) x8_3 = P := ⟨_, rfl⟩
              rw [hP] at A13 hx635_0 hx635_1 hx635_2 HR635_2 HC635_2
              have hf := A13.out
              clear A13 hP
              unfold ref_lay.f at hf
              obtain ⟨⟨o_, oe⟩, ho1, hf⟩ := Option.bind_eq_some_iff.1 hf
              have HO1 := Aside0.mk ho1
              clear ho1
              by_cases f0 : oe = 0
              rotate_left
              · rw [if_neg f0] at hf
                have he := (Prod.mk.inj (Option.some.inj hf)).2
                subst he
                have N1 : (oe == 0) = false := beq_eq_false_iff_ne.mpr f0
                have N2 : (oe != 0) = true := bne_iff_ne.mpr f0
                clear f0 hf c14 c14b0 c14b1
                go_wp2_with fail
                refine (chirographref04_PutOid.calls k3 P.f0 o_ oe _ HO1.out).mono ?_
                rintro e w52 ⟨v, rfl, ho, hb⟩
                obtain ⟨C, c, rfl⟩ := Kd.R_slice ho
                have HC := Aside0.mk (Kd.R_reads' ho)
                have BK := Aside0.mk (blk_below (new_alloc wr (.cells #[.string P.f0, .int .i64 P.f1, .slice A635_2 P.f2.length c635_2] 64)) hb)
                replace hb := below_step (below_alloc (Below.refl wr.heap.size wr) (.cells #[.string P.f0, .int .i64 P.f1, .slice A635_2 P.f2.length c635_2] 64)) hb
                have HX := Aside0.mk (Kd.C_below (Kd.C_below HR635_2.out HB.out) hb)
                have n0_ := Aside0.mk (Kd.S_below HO_5.out hb); have n1_ := Aside0.mk (Kd.S_below HO_7.out hb); have n2_ := Aside0.mk (below_step HB.out hb); clear HO_5 HO_7 HB; have HO_5 := n0_; have HO_7 := n1_; have HB := n2_; clear n0_ n1_ n2_
                clear ho hb hx635_0 hx635_1 hx635_2
                have hc1 : w52.cell? ⟨wr.heap.size, 1, none⟩ = some (.int .i64 P.f1) := (blk_cell BK.out 1).trans rfl
                go_wp2_with fail
                go_ret2
                exact ⟨_, by first | rfl | (simp [errW_none, errW_some] <;> rfl) | (simp [*, errW_none, errW_some] <;> rfl), by first | exact Kd.R_nil _ _ _ _ _ | exact Kd.N_nil _ _ _ _ _ | exact Kd.V_nil _ _ _ _ _ | exact Kd.Q_nil _ _ _ _ _ | exact Kd.S_nil _ _ _ _ _, by repeat (first | (with_reducible first | exact HB.out | apply below_alloc | apply pw_below_drewN | apply below_drew1) | exact HB.out)⟩
              subst f0
              rw [if_pos rfl] at hf
              by_cases f1 : P.f1 < 1
              · rw [if_pos f1] at hf
                have he := (Prod.mk.inj (Option.some.inj hf)).2
                subst he
                clear hf c14 c14b0 c14b1
                have T1 : decide (P.f1 < 1) = true := decide_eq_true f1
                clear f1
                go_wp2_with fail
                refine (chirographref04_PutOid.calls k3 P.f0 o_ 0 _ HO1.out).mono ?_
                rintro e w52 ⟨v, rfl, ho, hb⟩
                obtain ⟨C, c, rfl⟩ := Kd.R_slice ho
                have HC := Aside0.mk (Kd.R_reads' ho)
                have BK := Aside0.mk (blk_below (new_alloc wr (.cells #[.string P.f0, .int .i64 P.f1, .slice A635_2 P.f2.length c635_2] 64)) hb)
                replace hb := below_step (below_alloc (Below.refl wr.heap.size wr) (.cells #[.string P.f0, .int .i64 P.f1, .slice A635_2 P.f2.length c635_2] 64)) hb
                have HX := Aside0.mk (Kd.C_below (Kd.C_below HR635_2.out HB.out) hb)
                have n0_ := Aside0.mk (Kd.S_below HO_5.out hb); have n1_ := Aside0.mk (Kd.S_below HO_7.out hb); have n2_ := Aside0.mk (below_step HB.out hb); clear HO_5 HO_7 HB; have HO_5 := n0_; have HO_7 := n1_; have HB := n2_; clear n0_ n1_ n2_
                clear ho hb hx635_0 hx635_1 hx635_2
                have hc1 : w52.cell? ⟨wr.heap.size, 1, none⟩ = some (.int .i64 P.f1) := (blk_cell BK.out 1).trans rfl
                go_wp2_with fail
                go_ret2
                exact ⟨_, by first | rfl | (simp [errW_none, errW_some] <;> rfl) | (simp [*, errW_none, errW_some] <;> rfl), by first | exact Kd.R_nil _ _ _ _ _ | exact Kd.N_nil _ _ _ _ _ | exact Kd.V_nil _ _ _ _ _ | exact Kd.Q_nil _ _ _ _ _ | exact Kd.S_nil _ _ _ _ _, by repeat (first | (with_reducible first | exact HB.out | apply below_alloc | apply pw_below_drewN | apply below_drew1) | exact HB.out)⟩
              rw [if_neg f1] at hf
              by_cases f2 : P.f1 > 268435455
              · rw [if_pos f2] at hf
                have he := (Prod.mk.inj (Option.some.inj hf)).2
                subst he
                clear hf c14 c14b0 c14b1
                have T1 : decide (P.f1 < 1) = false := decide_eq_false f1
                have T2 : decide (268435455 < P.f1) = true := decide_eq_true f2
                clear f1 f2
                go_wp2_with fail
                refine (chirographref04_PutOid.calls k3 P.f0 o_ 0 _ HO1.out).mono ?_
                rintro e w52 ⟨v, rfl, ho, hb⟩
                obtain ⟨C, c, rfl⟩ := Kd.R_slice ho
                have HC := Aside0.mk (Kd.R_reads' ho)
                have BK := Aside0.mk (blk_below (new_alloc wr (.cells #[.string P.f0, .int .i64 P.f1, .slice A635_2 P.f2.length c635_2] 64)) hb)
                replace hb := below_step (below_alloc (Below.refl wr.heap.size wr) (.cells #[.string P.f0, .int .i64 P.f1, .slice A635_2 P.f2.length c635_2] 64)) hb
                have HX := Aside0.mk (Kd.C_below (Kd.C_below HR635_2.out HB.out) hb)
                have n0_ := Aside0.mk (Kd.S_below HO_5.out hb); have n1_ := Aside0.mk (Kd.S_below HO_7.out hb); have n2_ := Aside0.mk (below_step HB.out hb); clear HO_5 HO_7 HB; have HO_5 := n0_; have HO_7 := n1_; have HB := n2_; clear n0_ n1_ n2_
                clear ho hb hx635_0 hx635_1 hx635_2
                have hc1 : w52.cell? ⟨wr.heap.size, 1, none⟩ = some (.int .i64 P.f1) := (blk_cell BK.out 1).trans rfl
                go_wp2_with fail
                go_ret2
                exact ⟨_, by first | rfl | (simp [errW_none, errW_some] <;> rfl) | (simp [*, errW_none, errW_some] <;> rfl), by first | exact Kd.R_nil _ _ _ _ _ | exact Kd.N_nil _ _ _ _ _ | exact Kd.V_nil _ _ _ _ _ | exact Kd.Q_nil _ _ _ _ _ | exact Kd.S_nil _ _ _ _ _, by repeat (first | (with_reducible first | exact HB.out | apply below_alloc | apply pw_below_drewN | apply below_drew1) | exact HB.out)⟩
              rw [if_neg f2] at hf
              have T1 : decide (P.f1 < 1) = false := decide_eq_false f1
              have T2 : decide (268435455 < P.f1) = false := decide_eq_false f2
              clear f1 f2
              obtain ⟨⟨p_, pe⟩, hp1, hf⟩ := Option.bind_eq_some_iff.1 hf
              have HP1 := Aside0.mk hp1
              clear hp1
              by_cases f3 : pe = 0
              rotate_left
              · rw [if_neg f3] at hf
                have he := (Prod.mk.inj (Option.some.inj hf)).2
                subst he
                have N1 : (pe == 0) = false := beq_eq_false_iff_ne.mpr f3
                have N2 : (pe != 0) = true := bne_iff_ne.mpr f3
                clear f3 hf c14 c14b0 c14b1
                go_wp2_with fail
                refine (chirographref04_PutOid.calls k3 P.f0 o_ 0 _ HO1.out).mono ?_
                rintro e w52 ⟨v, rfl, ho, hb⟩
                obtain ⟨C, c, rfl⟩ := Kd.R_slice ho
                have HC := Aside0.mk (Kd.R_reads' ho)
                have BK := Aside0.mk (blk_below (new_alloc wr (.cells #[.string P.f0, .int .i64 P.f1, .slice A635_2 P.f2.length c635_2] 64)) hb)
                replace hb := below_step (below_alloc (Below.refl wr.heap.size wr) (.cells #[.string P.f0, .int .i64 P.f1, .slice A635_2 P.f2.length c635_2] 64)) hb
                have HX := Aside0.mk (Kd.C_below (Kd.C_below HR635_2.out HB.out) hb)
                have n0_ := Aside0.mk (Kd.S_below HO_5.out hb); have n1_ := Aside0.mk (Kd.S_below HO_7.out hb); have n2_ := Aside0.mk (below_step HB.out hb); clear HO_5 HO_7 HB; have HO_5 := n0_; have HO_7 := n1_; have HB := n2_; clear n0_ n1_ n2_
                clear ho hb hx635_0 hx635_1 hx635_2
                have hc1 : w52.cell? ⟨wr.heap.size, 1, none⟩ = some (.int .i64 P.f1) := (blk_cell BK.out 1).trans rfl
                go_wp2_with fail
                refine (chirographref04_Put.calls k3 0 6 false _ 1 [o_] p_ pe _ (C_row1 kB (more := []) (kB.K_below (below_alloc (Below.refl w52.heap.size w52) _) (kB_mk HC.out.2.1 HC.out.2.2)) (new_alloc _ _)) (Nat.le_refl 1) HP1.out).mono ?_
                rintro e w53 ⟨v, rfl, ho, hb⟩
                obtain ⟨D, d, rfl⟩ := Kd.R_slice ho
                have HD := Aside0.mk (Kd.R_reads' ho)
                replace hb := below_step (below_alloc (Below.refl w52.heap.size w52) _) hb
                have n0_ := Aside0.mk (Kd.S_below HO_5.out hb); have n1_ := Aside0.mk (Kd.S_below HO_7.out hb); have n2_ := Aside0.mk (below_step HB.out hb); clear HO_5 HO_7 HB; have HO_5 := n0_; have HO_7 := n1_; have HB := n2_; clear n0_ n1_ n2_
                have n0_ := Aside0.mk (blk_below BK.out hb); have n1_ := Aside0.mk (Kd.C_below HX.out hb); clear BK HX; have BK := n0_; have HX := n1_; clear n0_ n1_ ho hb hc1 HC
                have hc1 : w53.cell? ⟨wr.heap.size, 1, none⟩ = some (.int .i64 P.f1) := (blk_cell BK.out 1).trans rfl
                have hc2 : w53.cell? ⟨wr.heap.size, 2, none⟩ = some (.slice A635_2 P.f2.length c635_2) := (blk_cell BK.out 2).trans rfl
                go_wp2_with fail
                go_ret2
                exact ⟨_, by first | rfl | (simp [errW_none, errW_some] <;> rfl) | (simp [*, errW_none, errW_some] <;> rfl), by first | exact Kd.R_nil _ _ _ _ _ | exact Kd.N_nil _ _ _ _ _ | exact Kd.V_nil _ _ _ _ _ | exact Kd.Q_nil _ _ _ _ _ | exact Kd.S_nil _ _ _ _ _, by repeat (first | (with_reducible first | exact HB.out | apply below_alloc | apply pw_below_drewN | apply below_drew1) | exact HB.out)⟩
              subst f3
              rw [if_pos rfl] at hf
              obtain ⟨⟨q_, qe⟩, hq1, hf⟩ := Option.bind_eq_some_iff.1 hf
              have HQ1 := Aside0.mk hq1
              clear hq1
              by_cases f4 : qe = 0
              rotate_left
              · rw [if_neg f4] at hf
                have he := (Prod.mk.inj (Option.some.inj hf)).2
                subst he
                have N1 : (qe == 0) = false := beq_eq_false_iff_ne.mpr f4
                have N2 : (qe != 0) = true := bne_iff_ne.mpr f4
                clear f4 hf c14 c14b0 c14b1
                go_wp2_with fail
                refine (chirographref04_PutOid.calls k3 P.f0 o_ 0 _ HO1.out).mono ?_
                rintro e w52 ⟨v, rfl, ho, hb⟩
                obtain ⟨C, c, rfl⟩ := Kd.R_slice ho
                have HC := Aside0.mk (Kd.R_reads' ho)
                have BK := Aside0.mk (blk_below (new_alloc wr (.cells #[.string P.f0, .int .i64 P.f1, .slice A635_2 P.f2.length c635_2] 64)) hb)
                replace hb := below_step (below_alloc (Below.refl wr.heap.size wr) (.cells #[.string P.f0, .int .i64 P.f1, .slice A635_2 P.f2.length c635_2] 64)) hb
                have HX := Aside0.mk (Kd.C_below (Kd.C_below HR635_2.out HB.out) hb)
                have n0_ := Aside0.mk (Kd.S_below HO_5.out hb); have n1_ := Aside0.mk (Kd.S_below HO_7.out hb); have n2_ := Aside0.mk (below_step HB.out hb); clear HO_5 HO_7 HB; have HO_5 := n0_; have HO_7 := n1_; have HB := n2_; clear n0_ n1_ n2_
                clear ho hb hx635_0 hx635_1 hx635_2
                have hc1 : w52.cell? ⟨wr.heap.size, 1, none⟩ = some (.int .i64 P.f1) := (blk_cell BK.out 1).trans rfl
                go_wp2_with fail
                refine (chirographref04_Put.calls k3 0 6 false _ 1 [o_] p_ 0 _ (C_row1 kB (more := []) (kB.K_below (below_alloc (Below.refl w52.heap.size w52) _) (kB_mk HC.out.2.1 HC.out.2.2)) (new_alloc _ _)) (Nat.le_refl 1) HP1.out).mono ?_
                rintro e w53 ⟨v, rfl, ho, hb⟩
                obtain ⟨D, d, rfl⟩ := Kd.R_slice ho
                have HD := Aside0.mk (Kd.R_reads' ho)
                replace hb := below_step (below_alloc (Below.refl w52.heap.size w52) _) hb
                have n0_ := Aside0.mk (Kd.S_below HO_5.out hb); have n1_ := Aside0.mk (Kd.S_below HO_7.out hb); have n2_ := Aside0.mk (below_step HB.out hb); clear HO_5 HO_7 HB; have HO_5 := n0_; have HO_7 := n1_; have HB := n2_; clear n0_ n1_ n2_
                have n0_ := Aside0.mk (blk_below BK.out hb); have n1_ := Aside0.mk (Kd.C_below HX.out hb); clear BK HX; have BK := n0_; have HX := n1_; clear n0_ n1_ ho hb hc1 HC
                have hc1 : w53.cell? ⟨wr.heap.size, 1, none⟩ = some (.int .i64 P.f1) := (blk_cell BK.out 1).trans rfl
                have hc2 : w53.cell? ⟨wr.heap.size, 2, none⟩ = some (.slice A635_2 P.f2.length c635_2) := (blk_cell BK.out 2).trans rfl
                go_wp2_with fail
                refine (chirographref04_Put.calls k3 0 P.f1 false _ 1 [P.f2] q_ qe _ (C_row1 kB (more := []) (kB.K_below (below_alloc (Below.refl w53.heap.size w53) _) (kB_mk HC635_2.out HX.out)) (new_alloc _ _)) (Nat.le_refl 1) HQ1.out).mono ?_
                rintro e w54 ⟨v, rfl, ho, hb⟩
                obtain ⟨F, f, rfl⟩ := Kd.R_slice ho
                have HF := Aside0.mk (Kd.R_reads' ho)
                replace hb := below_step (below_alloc (Below.refl w53.heap.size w53) _) hb
                have n0_ := Aside0.mk (Kd.S_below HO_5.out hb); have n1_ := Aside0.mk (Kd.S_below HO_7.out hb); have n2_ := Aside0.mk (below_step HB.out hb); clear HO_5 HO_7 HB; have HO_5 := n0_; have HO_7 := n1_; have HB := n2_; clear n0_ n1_ n2_
                have HD4 := Aside0.mk (Kd.C_below HD.out.2.2 hb)
                have LD := Aside0.mk HD.out.2.1
                clear ho hb hc1 hc2 HX BK HD
                go_wp2_with fail
                go_ret2
                exact ⟨_, by first | rfl | (simp [errW_none, errW_some] <;> rfl) | (simp [*, errW_none, errW_some] <;> rfl), by first | exact Kd.R_nil _ _ _ _ _ | exact Kd.N_nil _ _ _ _ _ | exact Kd.V_nil _ _ _ _ _ | exact Kd.Q_nil _ _ _ _ _ | exact Kd.S_nil _ _ _ _ _, by repeat (first | (with_reducible first | exact HB.out | apply below_alloc | apply pw_below_drewN | apply below_drew1) | exact HB.out)⟩
              subst f4
              rw [if_pos rfl] at hf
              obtain ⟨⟨r_, re⟩, hz1, hf⟩ := Option.bind_eq_some_iff.1 hf
              have HZ1 := Aside0.mk hz1
              clear hz1
              by_cases f5 : re = 0
              · subst f5
                rw [if_pos rfl] at hf
                exact absurd (Prod.mk.inj (Option.some.inj hf)).2.symm c14
              rw [if_neg f5] at hf
              have he := (Prod.mk.inj (Option.some.inj hf)).2
              subst he
              have N1 : (re == 0) = false := beq_eq_false_iff_ne.mpr f5
              have N2 : (re != 0) = true := bne_iff_ne.mpr f5
              clear f5 hf c14 c14b0 c14b1
              go_wp2_with fail
              refine (chirographref04_PutOid.calls k3 P.f0 o_ 0 _ HO1.out).mono ?_
              rintro e w52 ⟨v, rfl, ho, hb⟩
              obtain ⟨C, c, rfl⟩ := Kd.R_slice ho
              have HC := Aside0.mk (Kd.R_reads' ho)
              have BK := Aside0.mk (blk_below (new_alloc wr (.cells #[.string P.f0, .int .i64 P.f1, .slice A635_2 P.f2.length c635_2] 64)) hb)
              replace hb := below_step (below_alloc (Below.refl wr.heap.size wr) (.cells #[.string P.f0, .int .i64 P.f1, .slice A635_2 P.f2.length c635_2] 64)) hb
              have HX := Aside0.mk (Kd.C_below (Kd.C_below HR635_2.out HB.out) hb)
              have n0_ := Aside0.mk (Kd.S_below HO_5.out hb); have n1_ := Aside0.mk (Kd.S_below HO_7.out hb); have n2_ := Aside0.mk (below_step HB.out hb); clear HO_5 HO_7 HB; have HO_5 := n0_; have HO_7 := n1_; have HB := n2_; clear n0_ n1_ n2_
              clear ho hb hx635_0 hx635_1 hx635_2
              have hc1 : w52.cell? ⟨wr.heap.size, 1, none⟩ = some (.int .i64 P.f1) := (blk_cell BK.out 1).trans rfl
              go_wp2_with fail
              refine (chirographref04_Put.calls k3 0 6 false _ 1 [o_] p_ 0 _ (C_row1 kB (more := []) (kB.K_below (below_alloc (Below.refl w52.heap.size w52) _) (kB_mk HC.out.2.1 HC.out.2.2)) (new_alloc _ _)) (Nat.le_refl 1) HP1.out).mono ?_
              rintro e w53 ⟨v, rfl, ho, hb⟩
              obtain ⟨D, d, rfl⟩ := Kd.R_slice ho
              have HD := Aside0.mk (Kd.R_reads' ho)
              replace hb := below_step (below_alloc (Below.refl w52.heap.size w52) _) hb
              have n0_ := Aside0.mk (Kd.S_below HO_5.out hb); have n1_ := Aside0.mk (Kd.S_below HO_7.out hb); have n2_ := Aside0.mk (below_step HB.out hb); clear HO_5 HO_7 HB; have HO_5 := n0_; have HO_7 := n1_; have HB := n2_; clear n0_ n1_ n2_
              have n0_ := Aside0.mk (blk_below BK.out hb); have n1_ := Aside0.mk (Kd.C_below HX.out hb); clear BK HX; have BK := n0_; have HX := n1_; clear n0_ n1_ ho hb hc1 HC
              have hc1 : w53.cell? ⟨wr.heap.size, 1, none⟩ = some (.int .i64 P.f1) := (blk_cell BK.out 1).trans rfl
              have hc2 : w53.cell? ⟨wr.heap.size, 2, none⟩ = some (.slice A635_2 P.f2.length c635_2) := (blk_cell BK.out 2).trans rfl
              go_wp2_with fail
              refine (chirographref04_Put.calls k3 0 P.f1 false _ 1 [P.f2] q_ 0 _ (C_row1 kB (more := []) (kB.K_below (below_alloc (Below.refl w53.heap.size w53) _) (kB_mk HC635_2.out HX.out)) (new_alloc _ _)) (Nat.le_refl 1) HQ1.out).mono ?_
              rintro e w54 ⟨v, rfl, ho, hb⟩
              obtain ⟨F, f, rfl⟩ := Kd.R_slice ho
              have HF := Aside0.mk (Kd.R_reads' ho)
              replace hb := below_step (below_alloc (Below.refl w53.heap.size w53) _) hb
              have n0_ := Aside0.mk (Kd.S_below HO_5.out hb); have n1_ := Aside0.mk (Kd.S_below HO_7.out hb); have n2_ := Aside0.mk (below_step HB.out hb); clear HO_5 HO_7 HB; have HO_5 := n0_; have HO_7 := n1_; have HB := n2_; clear n0_ n1_ n2_
              have HD4 := Aside0.mk (Kd.C_below HD.out.2.2 hb)
              have LD := Aside0.mk HD.out.2.1
              clear ho hb hc1 hc2 HX BK HD
              go_wp2_with fail
              refine (chirographref04_Put.calls k3 0 16 true _ 2 [p_, q_] r_ re _ (C_row2 kB rfl (kB_mk LD.out (Kd.C_alloc HD4.out _)) (kB_mk HF.out.2.1 (Kd.C_alloc HF.out.2.2 _)) (new_alloc _ _)) (Nat.le_refl 2) HZ1.out).mono ?_
              rintro e w55 ⟨v, rfl, ho, hb⟩
              replace hb := below_step (below_alloc (Below.refl w54.heap.size w54) _) hb
              have n0_ := Aside0.mk (Kd.S_below HO_5.out hb); have n1_ := Aside0.mk (Kd.S_below HO_7.out hb); have n2_ := Aside0.mk (below_step HB.out hb); clear HO_5 HO_7 HB; have HO_5 := n0_; have HO_7 := n1_; have HB := n2_; clear n0_ n1_ n2_
              clear ho
              clear hb HD4 LD HF
              go_wp2_with fail
              go_ret2
              exact ⟨_, by first | rfl | (simp [errW_none, errW_some] <;> rfl) | (simp [*, errW_none, errW_some] <;> rfl), by first | exact Kd.R_nil _ _ _ _ _ | exact Kd.N_nil _ _ _ _ _ | exact Kd.V_nil _ _ _ _ _ | exact Kd.Q_nil _ _ _ _ _ | exact Kd.S_nil _ _ _ _ _, by repeat (first | (with_reducible first | exact HB.out | apply below_alloc | apply pw_below_drewN | apply below_drew1) | exact HB.out)⟩
end Go.Proofs.YtkioddjjfifadaaGreatDoor.P
namespace Go.Proofs.YtkioddjjfifadaaGreatDoor.P
open Go.RowKit Go.Proofs.YtkioddjjfifadaaGreatDoorW.PrintWords Go.Proofs.YtkioddjjfifadaaGreatDoorW.PrintLast Go.Proofs.YtkioddjjfifadaaGreatDoorW.PrintMore
attribute [local go_sem] max2_int min2_int max_two min_two max_three min_three max_four min_four   -- for this text's walks alone
set_option linter.unusedVariables false
set_option linter.unusedSimpArgs false
mutual
def chirographref07_Copy.l0 : Nat → List (List (S64)) → List (List (S64)) → Int → Option ((List (List (S64))))
  | 0, _, _, _ => none
  | k + 1, x0, x3, x4 => if x4 < (x0.length : Int) then (chirographref07_Copy.l1 k x0 x3 x4 (([] : List (S64))) 0) else (some x3)
def chirographref07_Copy.l1 : Nat → List (List (S64)) → List (List (S64)) → Int → List (S64) → Int → Option ((List (List (S64))))
  | 0, _, _, _, _, _ => none
  | k + 1, x0, x3, x4, x5, x6 => if 0 ≤ x4 then (if x4 < (x0.length : Int) then (if x6 < ((rd_L5 x0 x4).length : Int) then (if 0 ≤ x6 then ((some (([] : List Int) : List Int)).bind fun y949 => (if y949.length + ((rd_T64 (rd_L5 x0 x4) x6).f2).length < 140737488355328 then (if x5.length < 2932031007402 then (chirographref07_Copy.l1 k x0 x3 x4 (x5 ++ [(⟨(rd_T64 (rd_L5 x0 x4) x6).f0, (rd_T64 (rd_L5 x0 x4) x6).f1, (y949 ++ ((rd_T64 (rd_L5 x0 x4) x6).f2))⟩ : S64)]) (wrap64 (x6 + 1))) else (none)) else (none))) else (none)) else (if x3.length < 5864062014805 then (chirographref07_Copy.l0 k x0 (x3 ++ [x5]) (wrap64 (x4 + 1))) else (none))) else (none)) else (none)
end
def chirographref07_Copy.f (k : Nat) (l0 : List (List (S64))) : Option ((List (List (S64)))) := chirographref07_Copy.l0 k l0 ([] : List (List (S64))) 0
set_option maxHeartbeats 8000000 in
set_option maxRecDepth 100000 in
theorem chirographref07_Copy.calls (k : Nat) (A0 : Option Addr) (c0 : Nat) (l0 : List (List (S64))) (r : List (List (S64))) (w : World) (hr0 : Kd.C (Kd.slice 64 k64) w A0 l0.length l0) (hc0 : l0.length ≤ c0) (h : chirographref07_Copy.f k l0 = some r) :
    Calls Tryz.prog 40 #[.slice A0 l0.length c0] w fun e w' => ∃ v0_ : Value, e = .returned (v0_) ∧ Kd.R (Kd.slice 64 k64) 62 w' w.heap.size (fun _ => True) v0_ r ∧ Below w.heap.size w w' := by
  have hu64 := Tryz.underlying64
  have HR0 := Aside0.mk hr0
  have HC0 := Aside0.mk hc0
  clear hr0 hc0
  have HB := Aside0.mk (Below.refl w.heap.size w)
  have H : (chirographref07_Copy.l0 k l0 ([] : List (List (S64))) 0) = some r := h
  clear h
  have H' := Aside0.mk H
  clear H
  go_enter Tryz.func40, Tryz.ntmps40
  go_wp2
  go_loopg [3, 4] k (fun kq v3 v4 w' => ∃ (x3_1 : List (List (S64))) (x4_1 : Int), v4 = .int .i64 x4_1 ∧ Aside0 (chirographref07_Copy.l0 kq l0 x3_1 x4_1 = some r) ∧ Aside0 (kq ≤ k) ∧ Aside0 (Kd.R (Kd.slice 64 k64) 62 w' w.heap.size (fun _ => True) v3 x3_1) ∧ Aside0 (Below w.heap.size w w'))
  case atStart => exact ⟨(([] : List (List (S64)))), (0), (by first | rfl | (simp; done) | (simp [*]; done)), H', ⟨Nat.le_refl _⟩, ⟨by first | exact Kd.R_nil _ _ _ _ _ | exact Kd.N_nil _ _ _ _ _ | exact Kd.V_nil _ _ _ _ _ | exact Kd.Q_nil _ _ _ _ _ | exact Kd.S_nil _ _ _ _ _⟩, ⟨by repeat (first | (with_reducible first | exact HB.out | apply below_alloc | apply pw_below_drewN | apply below_drew1) | exact HB.out)⟩⟩
  case round =>
    clear H'
    obtain ⟨x3_1, x4_1, rfl, HA, HK1, HO_3, HB⟩ := hrel
    cases gk with
    | zero => exact absurd HA.out (by simp [chirographref07_Copy.l0])
    | succ k1 =>
      have H := HA.out
      clear HA
      simp only [chirographref07_Copy.l0] at H
      by_cases c2 : x4_1 < (l0.length : Int)
      rotate_left
      · rw [if_neg c2] at H
        have c2b0 : decide (x4_1 < (l0.length : Int)) = false := decide_eq_false c2
        clear c2
        obtain rfl := Option.some.inj H
        go_wp2
        go_ret
        exact ⟨_, by first | rfl | (simp [errW_none, errW_some] <;> rfl) | (simp [*, errW_none, errW_some] <;> rfl), by (with_reducible repeat (first | apply Kd.R_alloc | apply Kd.R_drewN | apply Kd.R_drew)); exact HO_3.out, by repeat (first | (with_reducible first | exact HB.out | apply below_alloc | apply pw_below_drewN | apply below_drew1) | exact HB.out)⟩
      rw [if_pos c2] at H
      have c2b0 : decide (x4_1 < (l0.length : Int)) = true := decide_eq_true c2
      clear c2
      obtain ⟨y942, hy942⟩ : ∃ y_ : List (S64), y_ = (([] : List (S64))) := ⟨_, rfl⟩
      replace H : (chirographref07_Copy.l1 k1 l0 x3_1 x4_1 y942 0) = some r := by first | (rw [hy942]; with_reducible exact H) | (have H2_ := (Option.bind_some _ _).symm.trans H; rw [hy942]; with_reducible exact H2_) | (have H2_ := (Option.bind_some _ _).symm.trans H; with_reducible exact H2_) | with_reducible exact H | (rw [hy942]; exact H) | exact H
      have Ny942 := Aside0.mk hy942
      clear hy942
      have H' := Aside0.mk H
      clear H
      go_wp2_with (first | ((with_reducible refine gate_dst (N := 14) rfl ?_); refine Kd.S_lit k64 _ 64 ?hg (N := 14) ?hd (xs := ([] : List (S64))) (inner := []) (ok := fun _ => True) (okp := fun _ => True) ?hr ?hp (fun _ hk => hk) trivial (Below.refl _ _) (Nat.le_refl _) (by simp) ?_; (case hd => rfl); (case hg => rfl); (case hr => first | (go_simp; done) | (go_simp; rfl)); (case hp => exact (Reps.none _ _)); intro v943 w3 ho4 hb hg_ hnew_; clear hg_ hnew_; (first | rw [← Ny942.out] at ho4 | (simp only [Int.reduceToNat] at ho4; rw [← Ny942.out] at ho4)); have n0_ := Aside0.mk (Kd.R_elder' (by (with_reducible repeat (first | apply Kd.R_alloc | apply Kd.R_drewN | apply Kd.R_drew)); exact HO_3.out) (Kd.S_base ho4) hb); have n1_ := Aside0.mk (Kd.S_lower ho4 (below_size (by repeat (first | (with_reducible first | exact HB.out | apply below_alloc | apply pw_below_drewN | apply below_drew1) | exact HB.out)))); have n2_ := Aside0.mk (below_step (by repeat (first | (with_reducible first | exact HB.out | apply below_alloc | apply pw_below_drewN | apply below_drew1) | exact HB.out)) hb); clear HO_3; clear HB; have HO_3 := n0_; have HO944 := n1_; have HB := n2_; clear n0_ n1_ n2_; clear hb ho4))
      go_loopg [5, 6] k1 (fun kq v5 v6 w' => ∃ (x5_2 : List (S64)) (x6_2 : Int), v6 = .int .i64 x6_2 ∧ Aside0 (chirographref07_Copy.l1 kq l0 x3_1 x4_1 x5_2 x6_2 = some r) ∧ Aside0 (kq ≤ k1) ∧ Aside0 (Kd.R (Kd.slice 64 k64) 62 w' w.heap.size (fun k_ => some k_ ≠ (v5 : Value).ownBlock) u3 x3_1) ∧ Aside0 (Kd.S k64 64 w' w.heap.size (fun _ => True) v5 x5_2) ∧ Aside0 (Below w.heap.size w w'))
      case atStart => exact ⟨(y942), (0), (by first | rfl | (simp; done) | (simp [*]; done)), H', ⟨Nat.le_refl _⟩, ⟨by (with_reducible repeat (first | apply Kd.R_alloc | apply Kd.R_drewN | apply Kd.R_drew)); exact Kd.R_mono HO_3.out (fun _ hk => hk.2)⟩, ⟨by (with_reducible repeat (first | apply Kd.S_alloc | apply Kd.S_drewN | apply Kd.S_drew)); exact HO944.out⟩, ⟨by repeat (first | (with_reducible first | exact HB.out | apply below_alloc | apply pw_below_drewN | apply below_drew1) | exact HB.out)⟩⟩
      case round =>
        clear H'
        try clear c2
        try clear c2b0
        try clear p2
        try clear c4
        obtain ⟨x5_2, x6_2, rfl, HA, HK2, HO_3, HO_5, HB⟩ := hrel
        cases gk with
        | zero => exact absurd HA.out (by simp [chirographref07_Copy.l1])
        | succ k2 =>
          have H := HA.out
          clear HA
          simp only [chirographref07_Copy.l1] at H
          by_cases c5 : 0 ≤ x4_1
          rotate_left
          · rw [if_neg c5] at H
            exact absurd H (by simp)
          rw [if_pos c5] at H
          have c5b0 : decide (0 ≤ x4_1) = true := decide_eq_true c5
          clear c5
          by_cases c6 : x4_1 < (l0.length : Int)
          rotate_left
          · rw [if_neg c6] at H
            exact absurd H (by simp)
          rw [if_pos c6] at H
          have c6b0 : decide (x4_1 < (l0.length : Int)) = true := decide_eq_true c6
          clear c6
          by_cases c7 : x6_2 < ((rd_L5 l0 x4_1).length : Int)
          rotate_left
          · rw [if_neg c7] at H
            have c7b0 : decide (x6_2 < ((rd_L5 l0 x4_1).length : Int)) = false := decide_eq_false c7
            clear c7
            by_cases c22 : x3_1.length < 5864062014805
            rotate_left
            · rw [if_neg c22] at H
              exact absurd H (by simp)
            rw [if_pos c22] at H
            have LMc22 := Aside0.mk c22
            clear c22
            obtain ⟨y958, hy958⟩ : ∃ y_ : List (List (S64)), y_ = (x3_1 ++ [x5_2]) := ⟨_, rfl⟩
            replace H : (chirographref07_Copy.l0 k2 l0 y958 (wrap64 (x4_1 + 1))) = some r := by first | (rw [hy958]; with_reducible exact H) | (have H2_ := (Option.bind_some _ _).symm.trans H; rw [hy958]; with_reducible exact H2_) | (have H2_ := (Option.bind_some _ _).symm.trans H; with_reducible exact H2_) | with_reducible exact H | (rw [hy958]; exact H) | exact H
            have Ny958 := Aside0.mk hy958
            clear hy958
            have H' := Aside0.mk H
            clear H
            have p945 : 0 ≤ (x4_1 : Int) := of_decide_eq_true (by first | (with_reducible assumption) | assumption)
            have q945 : x4_1 < (l0.length : Int) := of_decide_eq_true (by first | (with_reducible assumption) | assumption)
            obtain ⟨ad945, A945_0, c945_0, e945, hx945_0, hl945_0, hi945_0⟩ := at_L5 HR0.out x4_1 p945 q945
            cases e945
            replace hx945_0 := (HB.out.cell (World.block_lt_of_cell? w _ hx945_0)).trans hx945_0
            have HR945_0 := Aside0.mk hi945_0
            have HC945_0 := Aside0.mk hl945_0
            clear hi945_0 hl945_0
            replace p945 := eq_true p945
            replace q945 := eq_true q945
            obtain ⟨Ao24, co24, eo24⟩ := Kd.S_slice HO_5.out
            subst eo24
            go_wp2_with (first | ((with_reducible refine gate_builtin (b := .append) (xs := #[.tmp 40, .tmp 42]) rfl ?_); at_builtin; refine Kd.R_append (Kd.slice 64 k64) (w0 := w) w.heap.size rfl (.tmp 40) (.tmp 42) 23 62 (.slice none 0 0) 24 rfl Tryz.underlying23 info62 rfl (by decide) (by omega) u3 x3_1 x5_2 [.slice Ao24 x5_2.length co24] (fun _ => True) (fun k_ => ((fun _ => True)) k_ ∧ some k_ ≠ (u3 : Value).ownBlock) rfl rfl ?aP (fun _ hk => hk) ?aF ?aO ?aB ?aS ?aL ?_; (case aP => exact Kd.M_row (Kd.R_mono (Kd.R_apart' ((Kd.S_R HO_5.out)) (Kd.R_typed HO_3.out) (by decide)) (fun k_ hk => ⟨trivial, hk.2⟩))); (case aB => exact (by repeat (first | (with_reducible first | exact HB.out | apply below_alloc | apply pw_below_drewN | apply below_drew1) | exact HB.out))); (case aF => exact (fun _ _ => trivial)); (case aO => exact (by (with_reducible repeat (first | apply Kd.R_alloc | apply Kd.R_drewN | apply Kd.R_drew)); exact Kd.R_mono HO_3.out (fun _ hk => trivial))); (case aS => exact (below_size (by repeat (first | (with_reducible first | exact HB.out | apply below_alloc | apply pw_below_drewN | apply below_drew1) | exact HB.out)))); (case aL => have := LMc22.out; omega); intro v959 w23 ho hb hg hat; rw [← Ny958.out] at ho; have n0_ := Aside0.mk (hb); have n1_ := Aside0.mk (ho); clear HB; clear HO_3; clear HO_5; have HB := n0_; have HO960 := n1_; clear n0_ n1_; clear ho hb hg hat))
            go_roundg k2
            case measure => have := HK1.out; have := HK2.out; omega
            case rel => exact ⟨(y958), (wrap64 (x4_1 + 1)), (by first | rfl | (simp; done) | (simp [*]; done)), H', ⟨by have := HK1.out; have := HK2.out; omega⟩, ⟨by (with_reducible repeat (first | apply Kd.R_alloc | apply Kd.R_drewN | apply Kd.R_drew)); exact HO960.out⟩, ⟨by repeat (first | (with_reducible first | exact HB.out | apply below_alloc | apply pw_below_drewN | apply below_drew1) | exact HB.out)⟩⟩
          rw [if_pos c7] at H
          have c7b0 : decide (x6_2 < ((rd_L5 l0 x4_1).length : Int)) = true := decide_eq_true c7
          clear c7
          by_cases c8 : 0 ≤ x6_2
          rotate_left
          · rw [if_neg c8] at H
            exact absurd H (by simp)
          rw [if_pos c8] at H
          have c8b0 : decide (0 ≤ x6_2) = true := decide_eq_true c8
          clear c8
          obtain ⟨y949, hy949⟩ : ∃ y_ : List Int, y_ = (([] : List Int)) := ⟨_, rfl⟩
          replace H : (if y949.length + ((rd_T64 (rd_L5 l0 x4_1) x6_2).f2).length < 140737488355328 then (if x5_2.length < 2932031007402 then (chirographref07_Copy.l1 k2 l0 x3_1 x4_1 (x5_2 ++ [(⟨(rd_T64 (rd_L5 l0 x4_1) x6_2).f0, (rd_T64 (rd_L5 l0 x4_1) x6_2).f1, (y949 ++ ((rd_T64 (rd_L5 l0 x4_1) x6_2).f2))⟩ : S64)]) (wrap64 (x6_2 + 1))) else (none)) else (none)) = some r := by first | (rw [hy949]; with_reducible exact H) | (have H2_ := (Option.bind_some _ _).symm.trans H; rw [hy949]; with_reducible exact H2_) | (have H2_ := (Option.bind_some _ _).symm.trans H; with_reducible exact H2_) | with_reducible exact H | (rw [hy949]; exact H) | exact H
          have Ny949 := Aside0.mk hy949
          clear hy949
          by_cases c9 : y949.length + ((rd_T64 (rd_L5 l0 x4_1) x6_2).f2).length < 140737488355328
          rotate_left
          · rw [if_neg c9] at H
            exact absurd H (by simp)
          rw [if_pos c9] at H
          have LMc9 := Aside0.mk c9
          clear c9
          obtain ⟨y952, hy952⟩ : ∃ y_ : List Int, y_ = (y949 ++ ((rd_T64 (rd_L5 l0 x4_1) x6_2).f2)) := ⟨_, rfl⟩
          replace H : (if x5_2.length < 2932031007402 then (chirographref07_Copy.l1 k2 l0 x3_1 x4_1 (x5_2 ++ [(⟨(rd_T64 (rd_L5 l0 x4_1) x6_2).f0, (rd_T64 (rd_L5 l0 x4_1) x6_2).f1, y952⟩ : S64)]) (wrap64 (x6_2 + 1))) else (none)) = some r := by first | (rw [hy952]; with_reducible exact H) | (have H2_ := (Option.bind_some _ _).symm.trans H; rw [hy952]; with_reducible exact H2_) | (have H2_ := (Option.bind_some _ _).symm.trans H; with_reducible exact H2_) | with_reducible exact H | (rw [hy952]; exact H) | exact H
          have Ny952 := Aside0.mk hy952
          clear hy952
          by_cases c10 : x5_2.length < 2932031007402
          rotate_left
          · rw [if_neg c10] at H
            exact absurd H (by simp)
          rw [if_pos c10] at H
          have LMc10 := Aside0.mk c10
          clear c10
          obtain ⟨y955, hy955⟩ : ∃ y_ : List (S64), y_ = (x5_2 ++ [(⟨(rd_T64 (rd_L5 l0 x4_1) x6_2).f0, (rd_T64 (rd_L5 l0 x4_1) x6_2).f1, y952⟩ : S64)]) := ⟨_, rfl⟩
          replace H : (chirographref07_Copy.l1 k2 l0 x3_1 x4_1 y955 (wrap64 (x6_2 + 1))) = some r := by first | (rw [hy955]; with_reducible exact H) | (have H2_ := (Option.bind_some _ _).symm.trans H; rw [hy955]; with_reducible exact H2_) | (have H2_ := (Option.bind_some _ _).symm.trans H; with_reducible exact H2_) | with_reducible exact H | (rw [hy955]; exact H) | exact H
          have Ny955 := Aside0.mk hy955
          clear hy955
          have H' := Aside0.mk H
          clear H
          have p945 : 0 ≤ (x4_1 : Int) := of_decide_eq_true (by first | (with_reducible assumption) | assumption)
          have q945 : x4_1 < (l0.length : Int) := of_decide_eq_true (by first | (with_reducible assumption) | assumption)
          obtain ⟨ad945, A945_0, c945_0, e945, hx945_0, hl945_0, hi945_0⟩ := at_L5 HR0.out x4_1 p945 q945
          cases e945
          replace hx945_0 := (HB.out.cell (World.block_lt_of_cell? w _ hx945_0)).trans hx945_0
          have HR945_0 := Aside0.mk hi945_0
          have HC945_0 := Aside0.mk hl945_0
          clear hi945_0 hl945_0
          replace p945 := eq_true p945
          replace q945 := eq_true q945
          have p946 : 0 ≤ (x4_1 : Int) := of_decide_eq_true (by first | (with_reducible assumption) | assumption)
          have q946 : x4_1 < (l0.length : Int) := of_decide_eq_true (by first | (with_reducible assumption) | assumption)
          obtain ⟨ad946, A946_0, c946_0, e946, hx946_0, hl946_0, hi946_0⟩ := at_L5 HR0.out x4_1 p946 q946
          obtain rfl : ad945 = ad946 := (by injection e946)
          replace hx946_0 := (HB.out.cell (World.block_lt_of_cell? w _ hx946_0)).trans hx946_0
          have HR946_0 := Aside0.mk hi946_0
          have HC946_0 := Aside0.mk hl946_0
          clear hi946_0 hl946_0
          replace p946 := eq_true p946
          replace q946 := eq_true q946
          have ea_ := Option.some.inj (hx945_0.symm.trans hx946_0)
          injection ea_ with ea_ en_ ec_
          subst ea_
          subst ec_
          clear en_
          have p947 : 0 ≤ (x6_2 : Int) := of_decide_eq_true (by first | (with_reducible assumption) | assumption)
          have q947 : x6_2 < ((rd_L5 l0 x4_1).length : Int) := of_decide_eq_true (by first | (with_reducible assumption) | assumption)
          obtain ⟨ad947, A947_2, c947_2, e947, hx947_0, hx947_1, hx947_2, hl947_2, hi947_2⟩ := at_T64 HR946_0.out x6_2 p947 q947
          cases e947
          replace hx947_0 := (HB.out.cell (World.block_lt_of_cell? w _ hx947_0)).trans hx947_0
          replace hx947_1 := (HB.out.cell (World.block_lt_of_cell? w _ hx947_1)).trans hx947_1
          replace hx947_2 := (HB.out.cell (World.block_lt_of_cell? w _ hx947_2)).trans hx947_2
          have HR947_2 := Aside0.mk hi947_2
          have HC947_2 := Aside0.mk hl947_2
          clear hi947_2 hl947_2
          replace p947 := eq_true p947
          replace q947 := eq_true q947
          go_wp2_with (first | ((with_reducible refine gate_dst (N := 7) rfl ?_); refine box_event ?hg (N := 7) ?hd (cs := #[.string (⟨#[]⟩ : ByteArray), .int .i64 0, .slice none 0 0]) (t := 64) ?hr ?_; (case hd => rfl); (case hg => rfl); (case hr => first | (go_simp; done) | (go_simp; rfl)); intro gb948 hg w11 hbox hb; have n0_ := Aside0.mk (Kd.R_below (Kd.R_elderB (by (with_reducible repeat (first | apply Kd.R_alloc | apply Kd.R_drewN | apply Kd.R_drew)); exact HO_3.out) gb948 (Nat.le_of_eq hg.symm)) hb); have n1_ := Aside0.mk (Kd.S_below (Kd.S_elderB (by (with_reducible repeat (first | apply Kd.S_alloc | apply Kd.S_drewN | apply Kd.S_drew)); exact HO_5.out) gb948 (Nat.le_of_eq hg.symm)) hb); have n2_ := Aside0.mk (below_step (by repeat (first | (with_reducible first | exact HB.out | apply below_alloc | apply pw_below_drewN | apply below_drew1) | exact HB.out)) hb); have n3_ := Aside0.mk (hbox); have n4_ := Aside0.mk ((by rw [hg]; exact (below_size (by repeat (first | (with_reducible first | exact HB.out | apply below_alloc | apply pw_below_drewN | apply below_drew1) | exact HB.out))) : w.heap.size ≤ gb948)); have n5_ := Aside0.mk ((by rw [hg]; exact (below_size (by repeat (first | (with_reducible first | exact HB.out | apply below_alloc | apply pw_below_drewN | apply below_drew1) | exact HB.out))) : w.heap.size ≤ gb948)); clear HO_3; clear HO_5; clear HB; have HO_3 := n0_; have HO_5 := n1_; have HB := n2_; have BK948 := n3_; have GW948 := n4_; have GE948 := n5_; clear n0_ n1_ n2_ n3_ n4_ n5_; clear hb hbox hg; have hcz12_0 : w11.cell? ⟨gb948, 0, none⟩ = some (.string (⟨#[]⟩ : ByteArray)) := (blk_cell BK948.out 0).trans rfl; have hcz12_1 : w11.cell? ⟨gb948, 1, none⟩ = some (.int .i64 0) := (blk_cell BK948.out 1).trans rfl; have hcz12_2 : w11.cell? ⟨gb948, 2, none⟩ = some (.slice none 0 0) := (blk_cell BK948.out 2).trans rfl; have hfz12_0 := blk_frozen BK948.out 0; have hfz12_1 := blk_frozen BK948.out 1; have hfz12_2 := blk_frozen BK948.out 2) | ((with_reducible refine gate_dst (N := 31) rfl ?_); refine Kd.R_lit (Kd.int .u8) _ 5 ?hg (N := 31) ?hd (xs := ([] : List Int)) (inner := []) (ok := fun _ => True) (okp := fun _ => True) ?hr ?hp (fun _ hk => hk) trivial (Below.refl _ _) (Nat.le_refl _) (by simp) ?_; (case hd => rfl); (case hg => rfl); (case hr => first | (go_simp; done) | (go_simp; rfl)); (case hp => exact (Reps.none _ _)); intro v950 w13 ho14 hb hg_ hnew_; clear hg_ hnew_; (first | rw [← Ny949.out] at ho14 | (simp only [Int.reduceToNat] at ho14; rw [← Ny949.out] at ho14)); have n0_ := Aside0.mk (Kd.R_elder' (by (with_reducible repeat (first | apply Kd.R_alloc | apply Kd.R_drewN | apply Kd.R_drew)); exact (Kd.R_mono (Kd.R_far (p := ⟨gb948, 2, none⟩) (Kd.R_far (p := ⟨gb948, 1, none⟩) (Kd.R_far (p := ⟨gb948, 0, none⟩) (Kd.R_mono HO_3.out (fun k_ hk => (⟨hk, hk.2⟩ : _ ∧ k_ ≠ gb948))) (fun _ hk => hk.2) (.string ((rd_T64 (rd_L5 l0 x4_1) x6_2).f0))) (fun _ hk => hk.2) (.int .i64 ((rd_T64 (rd_L5 l0 x4_1) x6_2).f1))) (fun _ hk => hk.2) (.slice A947_2 ((rd_T64 (rd_L5 l0 x4_1) x6_2).f2).length c947_2)) (fun _ h_ => h_.1))) (Kd.R_base ho14) hb); have n1_ := Aside0.mk (Kd.S_elder' (by (with_reducible repeat (first | apply Kd.S_alloc | apply Kd.S_drewN | apply Kd.S_drew)); exact (Kd.S_mono (Kd.S_far (p := ⟨gb948, 2, none⟩) (Kd.S_far (p := ⟨gb948, 1, none⟩) (Kd.S_far (p := ⟨gb948, 0, none⟩) (Kd.S_mono HO_5.out (fun k_ hk => (⟨hk, hk.2⟩ : _ ∧ k_ ≠ gb948))) (fun _ hk => hk.2) (.string ((rd_T64 (rd_L5 l0 x4_1) x6_2).f0))) (fun _ hk => hk.2) (.int .i64 ((rd_T64 (rd_L5 l0 x4_1) x6_2).f1))) (fun _ hk => hk.2) (.slice A947_2 ((rd_T64 (rd_L5 l0 x4_1) x6_2).f2).length c947_2)) (fun _ h_ => h_.1))) (Kd.R_base ho14) hb); have n2_ := Aside0.mk (Kd.R_lower ho14 (below_size (by repeat (first | (with_reducible first | exact HB.out | apply below_alloc | apply pw_below_drewN | apply below_drew1 | refine below_set ?_ GE948.out) | exact HB.out)))); have n3_ := Aside0.mk (blk_below (g := gb948) (o := .cells #[.string ((rd_T64 (rd_L5 l0 x4_1) x6_2).f0), .int .i64 ((rd_T64 (rd_L5 l0 x4_1) x6_2).f1), .slice A947_2 ((rd_T64 (rd_L5 l0 x4_1) x6_2).f2).length c947_2] 64 (0, 0)) (by (with_reducible repeat (first | refine blk_drewN ?_ _ | refine blk_drew ?_ | refine blk_alloc ?_ _)); refine blk_put (cs := #[.string ((rd_T64 (rd_L5 l0 x4_1) x6_2).f0), .int .i64 ((rd_T64 (rd_L5 l0 x4_1) x6_2).f1), .slice none 0 0]) ?_ 2 _ rfl; (with_reducible repeat (first | refine blk_drewN ?_ _ | refine blk_drew ?_ | refine blk_alloc ?_ _)); refine blk_put (cs := #[.string ((rd_T64 (rd_L5 l0 x4_1) x6_2).f0), .int .i64 0, .slice none 0 0]) ?_ 1 _ rfl; (with_reducible repeat (first | refine blk_drewN ?_ _ | refine blk_drew ?_ | refine blk_alloc ?_ _)); refine blk_put (cs := #[.string (⟨#[]⟩ : ByteArray), .int .i64 0, .slice none 0 0]) ?_ 0 _ rfl; (with_reducible repeat (first | refine blk_drewN ?_ _ | refine blk_drew ?_ | refine blk_alloc ?_ _)); exact BK948.out) hb); have n4_ := Aside0.mk (below_step (by repeat (first | (with_reducible first | exact HB.out | apply below_alloc | apply pw_below_drewN | apply below_drew1 | refine below_set ?_ GE948.out) | exact HB.out)) hb); clear HO_3; clear HO_5; clear BK948; clear HB; have HO_3 := n0_; have HO_5 := n1_; have HO951 := n2_; have BK948 := n3_; have HB := n4_; clear n0_ n1_ n2_ n3_ n4_; clear hb ho14; have hcz15_0 : w13.cell? ⟨gb948, 0, none⟩ = some (.string ((rd_T64 (rd_L5 l0 x4_1) x6_2).f0)) := (blk_cell BK948.out 0).trans rfl; have hcz15_1 : w13.cell? ⟨gb948, 1, none⟩ = some (.int .i64 ((rd_T64 (rd_L5 l0 x4_1) x6_2).f1)) := (blk_cell BK948.out 1).trans rfl; have hcz15_2 : w13.cell? ⟨gb948, 2, none⟩ = some (.slice A947_2 ((rd_T64 (rd_L5 l0 x4_1) x6_2).f2).length c947_2) := (blk_cell BK948.out 2).trans rfl; have hfz15_0 := blk_frozen BK948.out 0; have hfz15_1 := blk_frozen BK948.out 1; have hfz15_2 := blk_frozen BK948.out 2) | ((with_reducible refine gate_builtin (b := .append) (xs := #[.tmp 31, .tmp 33]) rfl ?_); at_builtin; refine Kd.R_append_rows (Kd.int .u8) (w0 := w) w.heap.size rfl (.tmp 31) (.tmp 33) 22 5 (.int .u8 0) 1 rfl Tryz.underlying22 info5 rfl (by decide) (by omega) v950 y949 ((rd_T64 (rd_L5 l0 x4_1) x6_2).f2) _ _ _ (fun _ => True) (fun _ => False) rfl rfl ?aO ?aR (fun _ _ h => h) (fun _ h => h.elim) ?aF ?aB ?aS ?aL ?_; (case aR => repeat (first | exact (Kd.C_below HR947_2.out HB.out) | (with_reducible refine Kd.C_alloc ?_ _) | (with_reducible refine Kd.C_drewN ?_ _) | (with_reducible refine Kd.C_drew ?_))); (case aB => exact (by repeat (first | (with_reducible first | exact HB.out | apply below_alloc | apply pw_below_drewN | apply below_drew1 | refine below_set ?_ GE948.out) | exact HB.out))); (case aF => exact (fun _ _ => trivial)); (case aO => exact (by (with_reducible repeat (first | apply Kd.R_alloc | apply Kd.R_drewN | apply Kd.R_drew)); exact HO951.out)); (case aS => exact (below_size (by repeat (first | (with_reducible first | exact HB.out | apply below_alloc | apply pw_below_drewN | apply below_drew1 | refine below_set ?_ GE948.out) | exact HB.out)))); (case aL => have := LMc9.out; omega); intro v953 w16 ho hb hg hat; rw [← Ny952.out] at ho; have n0_ := Aside0.mk (Kd.R_after (ok := (fun k_ => some k_ ≠ (u5 : Value).ownBlock ∧ k_ ≠ gb948)) (by (with_reducible repeat (first | apply Kd.R_alloc | apply Kd.R_drewN | apply Kd.R_drew)); exact HO_3.out) hg hat); have n1_ := Aside0.mk (Kd.S_after (ok := (fun k_ => k_ ≠ gb948)) (by (with_reducible repeat (first | apply Kd.S_alloc | apply Kd.S_drewN | apply Kd.S_drew)); exact Kd.S_mono HO_5.out (fun _ hk => ⟨hk.1.2, hk.2⟩)) hg hat); have n2_ := Aside0.mk (blk_grown (g := gb948) (o := .cells #[.string ((rd_T64 (rd_L5 l0 x4_1) x6_2).f0), .int .i64 ((rd_T64 (rd_L5 l0 x4_1) x6_2).f1), .slice A947_2 ((rd_T64 (rd_L5 l0 x4_1) x6_2).f2).length c947_2] 64 (0, 0)) (by (with_reducible repeat (first | refine blk_drewN ?_ _ | refine blk_drew ?_ | refine blk_alloc ?_ _)); exact BK948.out) hg (Kd.R_ne HO951.out BK948.out (by decide))); have n3_ := Aside0.mk (hb); have n4_ := Aside0.mk (ho); clear HO_3; clear HO_5; clear BK948; clear HB; clear HO951; have HO_3 := n0_; have HO_5 := n1_; have BK948 := n2_; have HB := n3_; have HO954 := n4_; clear n0_ n1_ n2_ n3_ n4_; clear ho hb hg hat; obtain ⟨Ao17, co17, eo17⟩ := Kd.R_slice HO954.out; subst eo17; have hcz18_0 : w16.cell? ⟨gb948, 0, none⟩ = some (.string ((rd_T64 (rd_L5 l0 x4_1) x6_2).f0)) := (blk_cell BK948.out 0).trans rfl; have hcz18_1 : w16.cell? ⟨gb948, 1, none⟩ = some (.int .i64 ((rd_T64 (rd_L5 l0 x4_1) x6_2).f1)) := (blk_cell BK948.out 1).trans rfl; have hcz18_2 : w16.cell? ⟨gb948, 2, none⟩ = some (.slice A947_2 ((rd_T64 (rd_L5 l0 x4_1) x6_2).f2).length c947_2) := (blk_cell BK948.out 2).trans rfl; have hfz18_0 := blk_frozen BK948.out 0; have hfz18_1 := blk_frozen BK948.out 1; have hfz18_2 := blk_frozen BK948.out 2) | ((with_reducible refine gate_store (t := 22) (p := 35) rfl ?_); refine store_event (t := 22) (p := 35) (v := ?vo_w19) (w1 := (w16.setCell ⟨gb948, 2, none⟩ (.slice Ao17 y952.length co17))) ?hg ?ho ?hn ?hr ?_; (case ho => rfl); (case hg => rfl); (case hn => rfl); (case hr => first | (go_simp; done) | (go_simp; rfl)); intro w19 hw; have n0_ : Aside0 (Kd.R (Kd.slice 64 k64) 62 w19 w.heap.size (fun k_ => some k_ ≠ (u5 : Value).ownBlock ∧ some k_ ≠ (.slice Ao17 y952.length co17 : Value).ownBlock ∧ k_ ≠ gb948) u3 x3_1) := ⟨(by rw [hw]; exact (by (with_reducible repeat (first | apply Kd.R_alloc | apply Kd.R_drewN | apply Kd.R_drew)); exact Kd.R_mono (Kd.R_far (p := ⟨gb948, 2, none⟩) (Kd.R_mono HO_3.out (fun k_ hk => (⟨hk, hk.1.2⟩ : _ ∧ k_ ≠ gb948))) (fun _ hk => hk.2) (.slice Ao17 y952.length co17)) (fun _ hk => ⟨hk.1.1.1, ⟨hk.1.2, hk.1.1.2⟩⟩)))⟩; have n1_ : Aside0 (Kd.S k64 64 w19 w.heap.size (fun k_ => some k_ ≠ (.slice Ao17 y952.length co17 : Value).ownBlock ∧ k_ ≠ gb948) u5 x5_2) := ⟨(by rw [hw]; exact (by (with_reducible repeat (first | apply Kd.S_alloc | apply Kd.S_drewN | apply Kd.S_drew)); exact Kd.S_mono (Kd.S_far (p := ⟨gb948, 2, none⟩) (Kd.S_mono HO_5.out (fun k_ hk => (⟨hk, hk.1⟩ : _ ∧ k_ ≠ gb948))) (fun _ hk => hk.2) (.slice Ao17 y952.length co17)) (fun _ hk => ⟨hk.1.2, hk.1.1⟩)))⟩; have n2_ : Aside0 (Kd.R (Kd.int .u8) 5 w19 w.heap.size (fun _ => True) (.slice Ao17 y952.length co17) y952) := ⟨(by rw [hw]; exact (by (with_reducible repeat (first | apply Kd.R_alloc | apply Kd.R_drewN | apply Kd.R_drew)); exact Kd.R_mono (Kd.R_far (p := ⟨gb948, 2, none⟩) (Kd.R_types HO954.out BK948.out (by decide)) (fun _ hk => hk.2) (.slice Ao17 y952.length co17)) (fun _ hk => trivial)))⟩; have n3_ : Aside0 (w19.heap[gb948]? = some (.cells #[.string ((rd_T64 (rd_L5 l0 x4_1) x6_2).f0), .int .i64 ((rd_T64 (rd_L5 l0 x4_1) x6_2).f1), .slice Ao17 y952.length co17] 64 (0, 0))) := ⟨(by rw [hw]; exact (by (with_reducible repeat (first | refine blk_drewN ?_ _ | refine blk_drew ?_ | refine blk_alloc ?_ _)); refine blk_put (cs := #[.string ((rd_T64 (rd_L5 l0 x4_1) x6_2).f0), .int .i64 ((rd_T64 (rd_L5 l0 x4_1) x6_2).f1), .slice A947_2 ((rd_T64 (rd_L5 l0 x4_1) x6_2).f2).length c947_2]) ?_ 2 _ rfl; (with_reducible repeat (first | refine blk_drewN ?_ _ | refine blk_drew ?_ | refine blk_alloc ?_ _)); exact BK948.out))⟩; have n4_ : Aside0 (Below w.heap.size w w19) := ⟨(by rw [hw]; exact (by repeat (first | (with_reducible first | exact HB.out | apply below_alloc | apply pw_below_drewN | apply below_drew1 | refine below_set ?_ GE948.out) | exact HB.out)))⟩; clear hw; clear HO_3; clear HO_5; clear HO954; clear BK948; clear HB; have HO_3 := n0_; have HO_5 := n1_; have HO954 := n2_; have BK948 := n3_; have HB := n4_; clear n0_ n1_ n2_ n3_ n4_; have hcz20_0 : w19.cell? ⟨gb948, 0, none⟩ = some (.string ((rd_T64 (rd_L5 l0 x4_1) x6_2).f0)) := (blk_cell BK948.out 0).trans rfl; have hcz20_1 : w19.cell? ⟨gb948, 1, none⟩ = some (.int .i64 ((rd_T64 (rd_L5 l0 x4_1) x6_2).f1)) := (blk_cell BK948.out 1).trans rfl; have hcz20_2 : w19.cell? ⟨gb948, 2, none⟩ = some (.slice Ao17 y952.length co17) := (blk_cell BK948.out 2).trans rfl; have hfz20_0 := blk_frozen BK948.out 0; have hfz20_1 := blk_frozen BK948.out 1; have hfz20_2 := blk_frozen BK948.out 2) | ((with_reducible refine gate_builtin (b := .append) (xs := #[.tmp 36, .tmp 38]) rfl ?_); at_builtin; refine Kd.S_append k64 (w0 := w) w.heap.size rfl (.tmp 36) (.tmp 38) 62 64 (.agg #[(.string ⟨#[]⟩), (.int .i64 0), (.slice none 0 0)]) 48 rfl Tryz.underlying62 info64 rfl (by decide) (by omega) u5 x5_2 (⟨(rd_T64 (rd_L5 l0 x4_1) x6_2).f0, (rd_T64 (rd_L5 l0 x4_1) x6_2).f1, y952⟩ : S64) [.string ((rd_T64 (rd_L5 l0 x4_1) x6_2).f0), .int .i64 ((rd_T64 (rd_L5 l0 x4_1) x6_2).f1), .slice Ao17 y952.length co17] (fun k_ => k_ ≠ gb948) (fun k_ => some k_ = (.slice Ao17 y952.length co17 : Value).ownBlock) rfl rfl ?aP (fun k_ hk_ => ((Kd.R_mono (ok' := fun k_ => ((fun k_ => k_ ≠ gb948)) k_ ∧ some k_ ≠ (u5 : Value).ownBlock) (Kd.R_types (Kd.R_apart' (HO954.out) (Kd.S_typed HO_5.out) (by decide)) BK948.out (by decide)) (fun k_ hk => ⟨hk.2, hk.1.2⟩))).1 k_ hk_.symm) ?aF ?aO ?aB ?aS ?aL ?_; (case aP => exact k64_mkM _ _ _ (⟨(rd_T64 (rd_L5 l0 x4_1) x6_2).f0, (rd_T64 (rd_L5 l0 x4_1) x6_2).f1, y952⟩ : S64) (Kd.R_mono (Kd.R_tight rfl (Kd.R_mono (ok' := fun k_ => ((fun k_ => k_ ≠ gb948)) k_ ∧ some k_ ≠ (u5 : Value).ownBlock) (Kd.R_types (Kd.R_apart' (HO954.out) (Kd.S_typed HO_5.out) (by decide)) BK948.out (by decide)) (fun k_ hk => ⟨hk.2, hk.1.2⟩))) (fun _ h_ => h_))); (case aB => exact (by repeat (first | (with_reducible first | exact HB.out | apply below_alloc | apply pw_below_drewN | apply below_drew1 | refine below_set ?_ GE948.out) | exact HB.out))); (case aF => exact (fun k_ hk => Kd.freshB (g := gb948) (o := .cells #[.string ((rd_T64 (rd_L5 l0 x4_1) x6_2).f0), .int .i64 ((rd_T64 (rd_L5 l0 x4_1) x6_2).f1), .slice Ao17 y952.length co17] 64 (0, 0)) (by (with_reducible repeat (first | refine blk_drewN ?_ _ | refine blk_drew ?_ | refine blk_alloc ?_ _)); exact BK948.out) k_ hk)); (case aO => exact (by (with_reducible repeat (first | apply Kd.S_alloc | apply Kd.S_drewN | apply Kd.S_drew)); exact Kd.S_mono HO_5.out (fun k_ hk => ⟨hk.2, fun e_ => hk.1 e_⟩))); (case aS => exact (below_size (by repeat (first | (with_reducible first | exact HB.out | apply below_alloc | apply pw_below_drewN | apply below_drew1 | refine below_set ?_ GE948.out) | exact HB.out)))); (case aL => have := LMc10.out; omega); intro v956 w21 ho hb hg hat; rw [← Ny955.out] at ho; have n0_ := Aside0.mk (Kd.R_after (ok := (fun k_ => some k_ ≠ (.slice Ao17 y952.length co17 : Value).ownBlock ∧ k_ ≠ gb948)) (by (with_reducible repeat (first | apply Kd.R_alloc | apply Kd.R_drewN | apply Kd.R_drew)); exact Kd.R_mono HO_3.out (fun _ hk => ⟨⟨hk.2.1, hk.2.2⟩, hk.1⟩)) hg hat); have n1_ := Aside0.mk (blk_grown (g := gb948) (o := .cells #[.string ((rd_T64 (rd_L5 l0 x4_1) x6_2).f0), .int .i64 ((rd_T64 (rd_L5 l0 x4_1) x6_2).f1), .slice Ao17 y952.length co17] 64 (0, 0)) (by (with_reducible repeat (first | refine blk_drewN ?_ _ | refine blk_drew ?_ | refine blk_alloc ?_ _)); exact BK948.out) hg (Kd.S_away HO_5.out (fun _ hk => hk.2))); have n2_ := Aside0.mk (hb); have n3_ := Aside0.mk (ho); clear HO_3; clear BK948; clear HB; clear HO_5; clear HO954; have HO_3 := n0_; have BK948 := n1_; have HB := n2_; have HO957 := n3_; clear n0_ n1_ n2_ n3_; clear ho hb hg hat))
          go_roundg k2
          case measure => have := HK1.out; have := HK2.out; omega
          case rel => exact ⟨(y955), (wrap64 (x6_2 + 1)), (by first | rfl | (simp; done) | (simp [*]; done)), H', ⟨by have := HK1.out; have := HK2.out; omega⟩, ⟨by (with_reducible repeat (first | apply Kd.R_alloc | apply Kd.R_drewN | apply Kd.R_drew)); exact Kd.R_mono HO_3.out (fun _ hk => hk.2)⟩, ⟨by (with_reducible repeat (first | apply Kd.S_alloc | apply Kd.S_drewN | apply Kd.S_drew)); exact Kd.S_mono HO957.out (fun _ hk => trivial)⟩, ⟨by repeat (first | (with_reducible first | exact HB.out | apply below_alloc | apply pw_below_drewN | apply below_drew1 | refine below_set ?_ GE948.out) | exact HB.out)⟩⟩
end Go.Proofs.YtkioddjjfifadaaGreatDoor.P
namespace Go.Proofs.YtkioddjjfifadaaGreatDoor.P
open Go.RowKit Go.Proofs.YtkioddjjfifadaaGreatDoorW.PrintWords
theorem putS_res' (cons : Bool) (tag : Int) (l : List (List Int)) : (if (putS cons tag l).2 = 0 then some (putS cons tag l) else some (([] : List Int), (putS cons tag l).2)) = some (putS cons tag l) := by
  rcases putS_err cons tag l with h | h
  · rw [if_pos h]
  rw [h]
  exact if_neg (by decide)
theorem rlay_eq (k : Nat) (p : S64) (hp : p.f0.size ≤ 8192) (hk : 130000 ≤ k) : ref_lay.f k p.f0 p.f1 p.f2 = some (layS p) := by
  unfold ref_lay.f layS
  rw [ref_oid _ p.f0 (by omega) (by omega), Option.bind_some]
  by_cases c0 : (oidS p.f0).2 = 0
  rotate_left
  · rw [if_neg c0, if_neg c0]
  rw [if_pos c0, if_pos c0]
  by_cases c1 : p.f1 < 1
  · rw [if_pos c1, if_pos c1]
  rw [if_neg c1, if_neg c1]
  by_cases c2 : p.f1 > 268435455
  · rw [if_pos c2, if_pos c2]
  rw [if_neg c2, if_neg c2, ref_put k 6 false _ (by simp) (by decide) (by decide) (by simp only [List.length_cons, List.length_nil]; omega), Option.bind_some]
  by_cases c3 : (putS false 6 [(oidS p.f0).1]).2 = 0
  rotate_left
  · rw [if_neg c3, if_neg c3]
  rw [if_pos c3, if_pos c3, ref_put k p.f1 false _ (by simp) (by omega) (by omega) (by simp only [List.length_cons, List.length_nil]; omega), Option.bind_some]
  by_cases c4 : (putS false p.f1 [p.f2]).2 = 0
  rotate_left
  · rw [if_neg c4, if_neg c4]
  rw [if_pos c4, if_pos c4, ref_put k 16 true _ (by simp) (by decide) (by decide) (by simp only [List.length_cons, List.length_nil]; omega), Option.bind_some]
  exact putS_res' true 16 _
/-- chirographref07.Build: the parts of a set. -/
theorem rb_l2 (n : List (List S64)) (x5 : List (List Int)) (hx5 : x5.length ≤ 64) (i : Int) (hi0 : 0 ≤ i) (hi1 : i < (n.length : Int)) (hn : n.length ≤ 64) (hs : (rd_L5 n i).length ≤ 64) (hg : ∀ p ∈ rd_L5 n i, NmP p) (r : List Int × Int) (K : Nat) (hK : 130000 ≤ K) : ∀ (m k : Nat) (j : Int) (acc : List (List Int)), 0 ≤ j → ((rd_L5 n i).length : Int) - j = m → m + 1 + K ≤ k → (acc.length : Int) ≤ j →
    ((partsS ((rd_L5 n i).drop j.toNat) acc).2 = 0 → (putS true 17 (sortedL (partsS ((rd_L5 n i).drop j.toNat) acc).1)).2 = 0 → ∀ k', K ≤ k' → chirographref07_Build.l1 k' n (x5 ++ [(putS true 17 (sortedL (partsS ((rd_L5 n i).drop j.toNat) acc).1)).1]) (i + 1) = some r) →
    chirographref07_Build.l2 k n x5 i acc j = (if (partsS ((rd_L5 n i).drop j.toNat) acc).2 = 0 then (if (putS true 17 (sortedL (partsS ((rd_L5 n i).drop j.toNat) acc).1)).2 = 0 then some r else some ([], (putS true 17 (sortedL (partsS ((rd_L5 n i).drop j.toNat) acc).1)).2)) else some ([], (partsS ((rd_L5 n i).drop j.toNat) acc).2))
  | 0, k, j, acc, h0, hm, hk, ha, hr => by
    obtain ⟨k1, rfl⟩ : ∃ k1, k = k1 + 1 := ⟨k - 1, by omega⟩
    rw [List.drop_eq_nil_of_le (by omega)] at hr ⊢
    rw [partsS] at hr ⊢
    have hr := hr rfl
    have hl := sorted_len acc
    rw [chirographref07_Build.l2, if_pos hi0, if_pos hi1, if_neg (by omega), if_pos rfl]
    unfold chirographref07_sorted.f
    rw [if_pos (by omega), Option.bind_some, ref_put k1 17 true _ (by omega) (by decide) (by decide) (by omega), Option.bind_some]
    by_cases c : (putS true 17 (sortedL acc)).2 = 0
    · rw [if_pos c, if_pos c, if_pos (by omega), wb (by omega) (by omega)]
      exact hr c k1 (by omega)
    · rw [if_neg c, if_neg c]
  | m + 1, k, j, acc, h0, hm, hk, ha, hr => by
    obtain ⟨k1, rfl⟩ : ∃ k1, k = k1 + 1 := ⟨k - 1, by omega⟩
    have hd := drop_64 (rd_L5 n i) j h0 (by omega)
    rw [hd] at hr ⊢
    rw [partsS] at hr ⊢
    obtain ⟨p0, p1⟩ := hg _ (mem_64 (rd_L5 n i) j h0 (by omega))
    rw [chirographref07_Build.l2, if_pos hi0, if_pos hi1, if_pos (by omega), if_pos h0, rlay_eq k1 _ p0 (by omega), Option.bind_some]
    by_cases c : (layS (rd_T64 (rd_L5 n i) j)).2 = 0
    · rw [if_pos c] at hr ⊢
      rw [if_pos c, if_pos (by omega), wb (by omega) (by omega)]
      exact rb_l2 n x5 hx5 i hi0 hi1 hn hs hg r K hK m k1 (j + 1) _ (by omega) (by omega) (by omega) (by rw [List.length_append]; simp only [List.length_cons, List.length_nil]; omega) hr
    · rw [if_neg c, if_neg c]
      rw [if_neg (show ¬ (layS (rd_T64 (rd_L5 n i) j)).2 = 0 from c)]
set_option maxRecDepth 100000 in
theorem rb_l1 (n : List (List S64)) (hn : n.length ≤ 64) (hg : ∀ s ∈ n, s.length ≤ 64 ∧ ∀ p ∈ s, NmP p) : ∀ (m k : Nat) (i : Int) (acc : List (List Int)), 0 ≤ i → (n.length : Int) - i = m → 70 * m + 130010 ≤ k → (acc.length : Int) ≤ i →
    chirographref07_Build.l1 k n acc i = some (if (setsS (n.drop i.toNat) acc).2 = 0 then putS true 16 (setsS (n.drop i.toNat) acc).1 else ([], (setsS (n.drop i.toNat) acc).2))
  | 0, k, i, acc, h0, hm, hk, ha => by
    obtain ⟨k1, rfl⟩ : ∃ k1, k = k1 + 1 := ⟨k - 1, by omega⟩
    rw [List.drop_eq_nil_of_le (by omega), setsS, chirographref07_Build.l1, if_neg (by omega), ref_put k1 16 true _ (by omega) (by decide) (by decide) (by omega), Option.bind_some, if_pos rfl]
  | m + 1, k, i, acc, h0, hm, hk, ha => by
    obtain ⟨k1, rfl⟩ : ∃ k1, k = k1 + 1 := ⟨k - 1, by omega⟩
    obtain ⟨s0, s1⟩ := hg _ (mem_L5 n i h0 (by omega))
    rw [drop_L5 n i h0 (by omega), setsS, chirographref07_Build.l1, if_pos (by omega), if_pos h0]
    unfold setS
    by_cases c0 : ((rd_L5 n i).length : Int) = 0
    · rw [if_pos c0, if_pos c0]
      rfl
    · rw [if_neg c0, if_neg c0]
      obtain ⟨K, hKd⟩ : ∃ K, K = 70 * m + 130010 := ⟨_, rfl⟩
      have ih := fun (a : List Int) (k' : Nat) (hk' : K ≤ k') => rb_l1 n hn hg m k' (i + 1) (acc ++ [a]) (by omega) (by omega) (by omega) (by rw [List.length_append]; simp only [List.length_cons, List.length_nil]; omega)
      have h := rb_l2 n acc (by omega) i h0 (by omega) hn s0 s1 (if (setsS (n.drop (i + 1).toNat) (acc ++ [(putS true 17 (sortedL (partsS (rd_L5 n i) []).1)).1])).2 = 0 then putS true 16 (setsS (n.drop (i + 1).toNat) (acc ++ [(putS true 17 (sortedL (partsS (rd_L5 n i) []).1)).1])).1 else ([], (setsS (n.drop (i + 1).toNat) (acc ++ [(putS true 17 (sortedL (partsS (rd_L5 n i) []).1)).1])).2)) K (by omega) (rd_L5 n i).length k1 0 [] (Int.le_refl _) (by omega) (by omega) (Int.le_refl 0)
      rw [show (0 : Int).toNat = 0 from rfl, List.drop_zero] at h
      rw [h (fun _ _ k' hk' => ih _ k' hk')]
      by_cases c1 : (partsS (rd_L5 n i) []).2 = 0
      · rw [if_pos c1, if_pos c1]
        by_cases c2 : (putS true 17 (sortedL (partsS (rd_L5 n i) []).1)).2 = 0
        · rw [if_pos c2, if_pos c2]
        · rw [if_neg c2, if_neg c2, if_neg c2]
      · rw [if_neg c1, if_neg c1, if_neg c1, if_neg c1]
theorem rb_l0 (n : List (List S64)) (hn : n.length ≤ 64) (r : List Int × Int) (K : Nat) (hr : longL n = false → ∀ k', K ≤ k' → chirographref07_Build.l1 k' n [] 0 = some r) : ∀ (m k : Nat) (i : Int), 0 ≤ i → (n.length : Int) - i = m → m + 1 + K ≤ k → (longL (n.drop i.toNat) = false → longL n = false) →
    chirographref07_Build.l0 k n i = some (if longL (n.drop i.toNat) = true then ([], 4) else r)
  | 0, k, i, h0, hm, hk, hb => by
    obtain ⟨k1, rfl⟩ : ∃ k1, k = k1 + 1 := ⟨k - 1, by omega⟩
    rw [List.drop_eq_nil_of_le (by omega)] at hb ⊢
    rw [chirographref07_Build.l0, if_neg (by omega)]
    exact hr (hb rfl) k1 (by omega)
  | m + 1, k, i, h0, hm, hk, hb => by
    obtain ⟨k1, rfl⟩ : ∃ k1, k = k1 + 1 := ⟨k - 1, by omega⟩
    rw [drop_L5 n i h0 (by omega)] at hb ⊢
    unfold longL at hb ⊢
    rw [List.any_cons] at hb ⊢
    rw [chirographref07_Build.l0, if_pos (by omega), if_pos h0]
    by_cases c : ((rd_L5 n i).length : Int) > 64
    · rw [if_pos c, decide_eq_true (show 64 < ((rd_L5 n i).length : Int) from c), Bool.true_or, if_pos rfl]
    · rw [decide_eq_false (show ¬ 64 < ((rd_L5 n i).length : Int) from c), Bool.false_or] at hb ⊢
      rw [if_neg c, wb (by omega) (by omega)]
      exact rb_l0 n hn r K hr m k1 (i + 1) (by omega) (by omega) (by omega) hb
/-- chirographref07.Build: it lays the same. -/
theorem rbuild_eq (k : Nat) (hk : 150000 ≤ k) (n : List (List S64)) (hl : n.length ≤ 200) (hg : ∀ s ∈ n, ∀ p ∈ s, NmP p) : chirographref07_Build.f k n = some (buildS n) := by
  unfold chirographref07_Build.f buildS
  by_cases c0 : (n.length : Int) > 64
  · rw [if_pos c0, if_pos c0]
  rw [if_neg c0, if_neg c0]
  have := rb_l0 n (by omega) (if (setsS n []).2 = 0 then putS true 16 (setsS n []).1 else ([], (setsS n []).2)) 140000 (fun hlf k' hk' => by
    have hlf := longL_false hlf
    have := rb_l1 n (by omega) (fun s hs => ⟨hlf s hs, hg s hs⟩) n.length k' 0 [] (Int.le_refl _) (by omega) (by omega) (by simp)
    rw [show (0 : Int).toNat = 0 from rfl, List.drop_zero] at this
    exact this) n.length k 0 (Int.le_refl _) (by omega) (by omega) (fun h => h)
  rw [show (0 : Int).toNat = 0 from rfl, List.drop_zero] at this
  exact this
theorem cp_l1 (n : List (List S64)) (hn : n.length ≤ 200) (i : Int) (h0i : 0 ≤ i) (hi : i < (n.length : Int)) (x3 : List (List S64)) (hx : x3.length ≤ 200) (hs : (rd_L5 n i).length ≤ 200) (hg : ∀ p ∈ rd_L5 n i, p.f2.length ≤ 8192) (r : List (List S64)) (K : Nat)
    (hr : ∀ k', K ≤ k' → chirographref07_Copy.l0 k' n (x3 ++ [rd_L5 n i]) (i + 1) = some r) : ∀ (m k : Nat) (j : Int) (acc : List S64), 0 ≤ j → ((rd_L5 n i).length : Int) - j = m → m + 1 + K ≤ k → (acc.length : Int) ≤ j → acc ++ (rd_L5 n i).drop j.toNat = rd_L5 n i →
    chirographref07_Copy.l1 k n x3 i acc j = some r
  | 0, k, j, acc, h0, hm, hk, ha, he => by
    obtain ⟨k1, rfl⟩ : ∃ k1, k = k1 + 1 := ⟨k - 1, by omega⟩
    rw [List.drop_eq_nil_of_le (by omega), List.append_nil] at he
    rw [chirographref07_Copy.l1, if_pos h0i, if_pos hi, if_neg (by omega), if_pos (by omega), wb (by omega) (by omega), he]
    exact hr k1 (by omega)
  | m + 1, k, j, acc, h0, hm, hk, ha, he => by
    obtain ⟨k1, rfl⟩ : ∃ k1, k = k1 + 1 := ⟨k - 1, by omega⟩
    have h2 := hg _ (mem_64 (rd_L5 n i) j h0 (by omega))
    rw [drop_64 (rd_L5 n i) j h0 (by omega)] at he
    rw [chirographref07_Copy.l1, if_pos h0i, if_pos hi, if_pos (by omega), if_pos h0, Option.bind_some, if_pos (by simp only [List.length_nil]; omega), if_pos (by omega), wb (by omega) (by omega), List.nil_append]
    exact cp_l1 n hn i h0i hi x3 hx hs hg r K hr m k1 (j + 1) _ (by omega) (by omega) (by omega) (by rw [List.length_append]; simp only [List.length_cons, List.length_nil]; omega) (by rw [List.append_assoc]; exact he)
theorem cp_l0 (n : List (List S64)) (hn : n.length ≤ 200) (hg : ∀ s ∈ n, s.length ≤ 200 ∧ ∀ p ∈ s, p.f2.length ≤ 8192) : ∀ (m k : Nat) (i : Int) (acc : List (List S64)), 0 ≤ i → (n.length : Int) - i = m → 205 * m + 1 ≤ k → (acc.length : Int) ≤ i → acc ++ n.drop i.toNat = n → chirographref07_Copy.l0 k n acc i = some n
  | 0, k, i, acc, h0, hm, hk, ha, he => by
    obtain ⟨k1, rfl⟩ : ∃ k1, k = k1 + 1 := ⟨k - 1, by omega⟩
    rw [List.drop_eq_nil_of_le (by omega), List.append_nil] at he
    rw [chirographref07_Copy.l0, if_neg (by omega), he]
  | m + 1, k, i, acc, h0, hm, hk, ha, he => by
    obtain ⟨k1, rfl⟩ : ∃ k1, k = k1 + 1 := ⟨k - 1, by omega⟩
    obtain ⟨s0, s1⟩ := hg _ (mem_L5 n i h0 (by omega))
    rw [drop_L5 n i h0 (by omega)] at he
    rw [chirographref07_Copy.l0, if_pos (by omega)]
    exact cp_l1 n hn i h0 (by omega) acc (by omega) s0 s1 n (205 * m + 1) (fun k' hk' => cp_l0 n hn hg m k' (i + 1) _ (by omega) (by omega) hk' (by rw [List.length_append]; simp only [List.length_cons, List.length_nil]; omega) (by rw [List.append_assoc]; exact he)) (rd_L5 n i).length k1 0 [] (Int.le_refl _) (by omega) (by omega) (by simp) rfl
theorem copy_eq (k : Nat) (hk : 50000 ≤ k) (n : List (List S64)) (hn : n.length ≤ 200) (hg : ∀ s ∈ n, s.length ≤ 200 ∧ ∀ p ∈ s, p.f2.length ≤ 8192) : chirographref07_Copy.f k n = some n :=
  cp_l0 n hn hg n.length k 0 [] (Int.le_refl _) (by omega) (by omega) (by simp) rfl
end Go.Proofs.YtkioddjjfifadaaGreatDoor.P
namespace Go.Proofs.YtkioddjjfifadaaGreatDoor.P
open Go.RowKit Go.Proofs.YtkioddjjfifadaaGreatDoorW.PrintWords Go.Proofs.YtkioddjjfifadaaGreatDoorW.PrintLast Go.Proofs.YtkioddjjfifadaaGreatDoorW.PrintMore
attribute [local go_sem] max2_int min2_int max_two min_two max_three min_three max_four min_four   -- for this text's walks alone
set_option linter.unusedVariables false
set_option linter.unusedSimpArgs false
def text_fits.f (a0 : Int) (a1 : Int) : Option (Bool) := if a0 = 18 then (if a1 = 32 then (some true) else (if a1 ≥ 48 then (some (decide (a1 ≤ 57))) else (some false))) else (if a0 = 19 then (if (Go.bits .or .u8 a1 32) ≥ 97 then (if (Go.bits .or .u8 a1 32) ≤ 122 then (some true) else (if a1 ≥ 48 then (if a1 ≤ 57 then (some true) else (if a1 = 0 then (some false) else ((strings_IndexByte.f (⟨#[32, 39, 40, 41, 43, 44, 45, 46, 47, 58, 61, 63]⟩ : ByteArray) a1).bind fun t602 => (some (decide (t602 ≥ 0)))))) else (if a1 = 0 then (some false) else ((strings_IndexByte.f (⟨#[32, 39, 40, 41, 43, 44, 45, 46, 47, 58, 61, 63]⟩ : ByteArray) a1).bind fun t603 => (some (decide (t603 ≥ 0))))))) else (if a1 ≥ 48 then (if a1 ≤ 57 then (some true) else (if a1 = 0 then (some false) else ((strings_IndexByte.f (⟨#[32, 39, 40, 41, 43, 44, 45, 46, 47, 58, 61, 63]⟩ : ByteArray) a1).bind fun t604 => (some (decide (t604 ≥ 0)))))) else (if a1 = 0 then (some false) else ((strings_IndexByte.f (⟨#[32, 39, 40, 41, 43, 44, 45, 46, 47, 58, 61, 63]⟩ : ByteArray) a1).bind fun t605 => (some (decide (t605 ≥ 0))))))) else (if a0 = 22 then (some (decide (a1 < 128))) else (if a1 ≥ 32 then (some (decide (a1 < 127))) else (some false))))
set_option maxHeartbeats 8000000 in
set_option maxRecDepth 100000 in
theorem text_fits.calls (a0 : Int) (a1 : Int) (r : Bool) (w : World) (h : text_fits.f a0 a1 = some r) :
    Calls Tryz.prog 205 #[.int .i64 a0, .int .u8 a1] w fun e w' => e = .returned (.bool r) ∧ Below w.heap.size w w' := by
  have HB := Aside0.mk (Below.refl w.heap.size w)
  have H : (if a0 = 18 then (if a1 = 32 then (some true) else (if a1 ≥ 48 then (some (decide (a1 ≤ 57))) else (some false))) else (if a0 = 19 then (if (Go.bits .or .u8 a1 32) ≥ 97 then (if (Go.bits .or .u8 a1 32) ≤ 122 then (some true) else (if a1 ≥ 48 then (if a1 ≤ 57 then (some true) else (if a1 = 0 then (some false) else ((strings_IndexByte.f (⟨#[32, 39, 40, 41, 43, 44, 45, 46, 47, 58, 61, 63]⟩ : ByteArray) a1).bind fun t602 => (some (decide (t602 ≥ 0)))))) else (if a1 = 0 then (some false) else ((strings_IndexByte.f (⟨#[32, 39, 40, 41, 43, 44, 45, 46, 47, 58, 61, 63]⟩ : ByteArray) a1).bind fun t603 => (some (decide (t603 ≥ 0))))))) else (if a1 ≥ 48 then (if a1 ≤ 57 then (some true) else (if a1 = 0 then (some false) else ((strings_IndexByte.f (⟨#[32, 39, 40, 41, 43, 44, 45, 46, 47, 58, 61, 63]⟩ : ByteArray) a1).bind fun t604 => (some (decide (t604 ≥ 0)))))) else (if a1 = 0 then (some false) else ((strings_IndexByte.f (⟨#[32, 39, 40, 41, 43, 44, 45, 46, 47, 58, 61, 63]⟩ : ByteArray) a1).bind fun t605 => (some (decide (t605 ≥ 0))))))) else (if a0 = 22 then (some (decide (a1 < 128))) else (if a1 ≥ 32 then (some (decide (a1 < 127))) else (some false))))) = some r := h
  clear h
  by_cases c3 : a0 = 18
  · rw [if_pos c3] at H
    have c3b0 : (a0 == 18) = true := beq_iff_eq.mpr c3
    have c3b1 : (a0 != 18) = false := bne_eq_false_iff_eq.mpr c3
    clear c3
    by_cases c4 : a1 = 32
    · rw [if_pos c4] at H
      have c4b0 : (a1 == 32) = true := beq_iff_eq.mpr c4
      have c4b1 : (a1 != 32) = false := bne_eq_false_iff_eq.mpr c4
      clear c4
      obtain rfl := Option.some.inj H
      go_enter Tryz.func205, Tryz.ntmps205
      go_wp2
      go_ret
      exact ⟨by first | rfl | (simp [errW_none, errW_some] <;> rfl) | (simp [*, errW_none, errW_some] <;> rfl), by repeat (first | (with_reducible first | exact HB.out | apply below_alloc | apply pw_below_drewN | apply below_drew1) | exact HB.out)⟩
    rw [if_neg c4] at H
    have c4b0 : (a1 == 32) = false := beq_eq_false_iff_ne.mpr c4
    have c4b1 : (a1 != 32) = true := bne_iff_ne.mpr c4
    by_cases c5 : a1 ≥ 48
    rotate_left
    · rw [if_neg c5] at H
      have c5b0 : decide (48 ≤ a1) = false := decide_eq_false c5
      clear c5
      obtain rfl := Option.some.inj H
      go_enter Tryz.func205, Tryz.ntmps205
      go_wp2
      go_ret
      exact ⟨by first | rfl | (simp [errW_none, errW_some] <;> rfl) | (simp [*, errW_none, errW_some] <;> rfl), by repeat (first | (with_reducible first | exact HB.out | apply below_alloc | apply pw_below_drewN | apply below_drew1) | exact HB.out)⟩
    rw [if_pos c5] at H
    have c5b0 : decide (48 ≤ a1) = true := decide_eq_true c5
    clear c5
    obtain rfl := Option.some.inj H
    go_enter Tryz.func205, Tryz.ntmps205
    go_wp2
    go_ret
    exact ⟨by first | rfl | (simp [errW_none, errW_some] <;> rfl) | (simp [*, errW_none, errW_some] <;> rfl), by repeat (first | (with_reducible first | exact HB.out | apply below_alloc | apply pw_below_drewN | apply below_drew1) | exact HB.out)⟩
  rw [if_neg c3] at H
  have c3b0 : (a0 == 18) = false := beq_eq_false_iff_ne.mpr c3
  have c3b1 : (a0 != 18) = true := bne_iff_ne.mpr c3
  by_cases c6 : a0 = 19
  rotate_left
  · rw [if_neg c6] at H
    have c6b0 : (a0 == 19) = false := beq_eq_false_iff_ne.mpr c6
    have c6b1 : (a0 != 19) = true := bne_iff_ne.mpr c6
    by_cases c25 : a0 = 22
    · rw [if_pos c25] at H
      have c25b0 : (a0 == 22) = true := beq_iff_eq.mpr c25
      have c25b1 : (a0 != 22) = false := bne_eq_false_iff_eq.mpr c25
      clear c25
      obtain rfl := Option.some.inj H
      go_enter Tryz.func205, Tryz.ntmps205
      go_wp2
      go_ret
      exact ⟨by first | rfl | (simp [errW_none, errW_some] <;> rfl) | (simp [*, errW_none, errW_some] <;> rfl), by repeat (first | (with_reducible first | exact HB.out | apply below_alloc | apply pw_below_drewN | apply below_drew1) | exact HB.out)⟩
    rw [if_neg c25] at H
    have c25b0 : (a0 == 22) = false := beq_eq_false_iff_ne.mpr c25
    have c25b1 : (a0 != 22) = true := bne_iff_ne.mpr c25
    by_cases c26 : a1 ≥ 32
    rotate_left
    · rw [if_neg c26] at H
      have c26b0 : decide (32 ≤ a1) = false := decide_eq_false c26
      clear c26
      obtain rfl := Option.some.inj H
      go_enter Tryz.func205, Tryz.ntmps205
      go_wp2
      go_ret
      exact ⟨by first | rfl | (simp [errW_none, errW_some] <;> rfl) | (simp [*, errW_none, errW_some] <;> rfl), by repeat (first | (with_reducible first | exact HB.out | apply below_alloc | apply pw_below_drewN | apply below_drew1) | exact HB.out)⟩
    rw [if_pos c26] at H
    have c26b0 : decide (32 ≤ a1) = true := decide_eq_true c26
    clear c26
    obtain rfl := Option.some.inj H
    go_enter Tryz.func205, Tryz.ntmps205
    go_wp2
    go_ret
    exact ⟨by first | rfl | (simp [errW_none, errW_some] <;> rfl) | (simp [*, errW_none, errW_some] <;> rfl), by repeat (first | (with_reducible first | exact HB.out | apply below_alloc | apply pw_below_drewN | apply below_drew1) | exact HB.out)⟩
  rw [if_pos c6] at H
  have c6b0 : (a0 == 19) = true := beq_iff_eq.mpr c6
  have c6b1 : (a0 != 19) = false := bne_eq_false_iff_eq.mpr c6
  clear c6
  by_cases c7 : (Go.bits .or .u8 a1 32) ≥ 97
  rotate_left
  · rw [if_neg c7] at H
    have c7b0 : decide (97 ≤ (Go.bits .or .u8 a1 32)) = false := decide_eq_false c7
    clear c7
    by_cases c17 : a1 ≥ 48
    rotate_left
    · rw [if_neg c17] at H
      have c17b0 : decide (48 ≤ a1) = false := decide_eq_false c17
      clear c17
      by_cases c22 : a1 = 0
      · rw [if_pos c22] at H
        have c22b0 : (a1 == 0) = true := beq_iff_eq.mpr c22
        have c22b1 : (a1 != 0) = false := bne_eq_false_iff_eq.mpr c22
        clear c22
        obtain rfl := Option.some.inj H
        go_enter Tryz.func205, Tryz.ntmps205
        go_wp2
        go_ret
        exact ⟨by first | rfl | (simp [errW_none, errW_some] <;> rfl) | (simp [*, errW_none, errW_some] <;> rfl), by repeat (first | (with_reducible first | exact HB.out | apply below_alloc | apply pw_below_drewN | apply below_drew1) | exact HB.out)⟩
      rw [if_neg c22] at H
      have c22b0 : (a1 == 0) = false := beq_eq_false_iff_ne.mpr c22
      have c22b1 : (a1 != 0) = true := bne_iff_ne.mpr c22
      replace H := Option.bind_eq_some_iff.mp H
      obtain ⟨t605, A230, H⟩ := H
      replace H : (some (decide (t605 ≥ 0))) = some r := H
      have A23 := Aside0.mk A230
      clear A230
      obtain rfl := Option.some.inj H
      go_enter Tryz.func205, Tryz.ntmps205
      go_wp2_with (first | (go_at_call 154; (with_reducible refine (strings_IndexByte.calls (⟨#[32, 39, 40, 41, 43, 44, 45, 46, 47, 58, 61, 63]⟩ : ByteArray) a1 t605 _ A23.out).mono ?_); rintro e w24 ⟨rfl, hb⟩; have n0_ := Aside0.mk (below_step (by repeat (first | (with_reducible first | exact HB.out | apply below_alloc | apply pw_below_drewN | apply below_drew1) | exact HB.out)) hb); clear HB; have HB := n0_; clear n0_; (try clear hb); (try clear hb2); (try clear hk); (try clear hi)))
      go_ret
      exact ⟨by first | rfl | (simp [errW_none, errW_some] <;> rfl) | (simp [*, errW_none, errW_some] <;> rfl), by repeat (first | (with_reducible first | exact HB.out | apply below_alloc | apply pw_below_drewN | apply below_drew1) | exact HB.out)⟩
    rw [if_pos c17] at H
    have c17b0 : decide (48 ≤ a1) = true := decide_eq_true c17
    clear c17
    by_cases c18 : a1 ≤ 57
    · rw [if_pos c18] at H
      have c18b0 : decide (a1 ≤ 57) = true := decide_eq_true c18
      clear c18
      obtain rfl := Option.some.inj H
      go_enter Tryz.func205, Tryz.ntmps205
      go_wp2
      go_ret
      exact ⟨by first | rfl | (simp [errW_none, errW_some] <;> rfl) | (simp [*, errW_none, errW_some] <;> rfl), by repeat (first | (with_reducible first | exact HB.out | apply below_alloc | apply pw_below_drewN | apply below_drew1) | exact HB.out)⟩
    rw [if_neg c18] at H
    have c18b0 : decide (a1 ≤ 57) = false := decide_eq_false c18
    clear c18
    by_cases c19 : a1 = 0
    · rw [if_pos c19] at H
      have c19b0 : (a1 == 0) = true := beq_iff_eq.mpr c19
      have c19b1 : (a1 != 0) = false := bne_eq_false_iff_eq.mpr c19
      clear c19
      obtain rfl := Option.some.inj H
      go_enter Tryz.func205, Tryz.ntmps205
      go_wp2
      go_ret
      exact ⟨by first | rfl | (simp [errW_none, errW_some] <;> rfl) | (simp [*, errW_none, errW_some] <;> rfl), by repeat (first | (with_reducible first | exact HB.out | apply below_alloc | apply pw_below_drewN | apply below_drew1) | exact HB.out)⟩
    rw [if_neg c19] at H
    have c19b0 : (a1 == 0) = false := beq_eq_false_iff_ne.mpr c19
    have c19b1 : (a1 != 0) = true := bne_iff_ne.mpr c19
    replace H := Option.bind_eq_some_iff.mp H
    obtain ⟨t604, A200, H⟩ := H
    replace H : (some (decide (t604 ≥ 0))) = some r := H
    have A20 := Aside0.mk A200
    clear A200
    obtain rfl := Option.some.inj H
    go_enter Tryz.func205, Tryz.ntmps205
    go_wp2_with (first | (go_at_call 154; (with_reducible refine (strings_IndexByte.calls (⟨#[32, 39, 40, 41, 43, 44, 45, 46, 47, 58, 61, 63]⟩ : ByteArray) a1 t604 _ A20.out).mono ?_); rintro e w21 ⟨rfl, hb⟩; have n0_ := Aside0.mk (below_step (by repeat (first | (with_reducible first | exact HB.out | apply below_alloc | apply pw_below_drewN | apply below_drew1) | exact HB.out)) hb); clear HB; have HB := n0_; clear n0_; (try clear hb); (try clear hb2); (try clear hk); (try clear hi)))
    go_ret
    exact ⟨by first | rfl | (simp [errW_none, errW_some] <;> rfl) | (simp [*, errW_none, errW_some] <;> rfl), by repeat (first | (with_reducible first | exact HB.out | apply below_alloc | apply pw_below_drewN | apply below_drew1) | exact HB.out)⟩
  rw [if_pos c7] at H
  have c7b0 : decide (97 ≤ (Go.bits .or .u8 a1 32)) = true := decide_eq_true c7
  clear c7
  by_cases c8 : (Go.bits .or .u8 a1 32) ≤ 122
  · rw [if_pos c8] at H
    have c8b0 : decide ((Go.bits .or .u8 a1 32) ≤ 122) = true := decide_eq_true c8
    clear c8
    obtain rfl := Option.some.inj H
    go_enter Tryz.func205, Tryz.ntmps205
    go_wp2
    go_ret
    exact ⟨by first | rfl | (simp [errW_none, errW_some] <;> rfl) | (simp [*, errW_none, errW_some] <;> rfl), by repeat (first | (with_reducible first | exact HB.out | apply below_alloc | apply pw_below_drewN | apply below_drew1) | exact HB.out)⟩
  rw [if_neg c8] at H
  have c8b0 : decide ((Go.bits .or .u8 a1 32) ≤ 122) = false := decide_eq_false c8
  clear c8
  by_cases c9 : a1 ≥ 48
  rotate_left
  · rw [if_neg c9] at H
    have c9b0 : decide (48 ≤ a1) = false := decide_eq_false c9
    clear c9
    by_cases c14 : a1 = 0
    · rw [if_pos c14] at H
      have c14b0 : (a1 == 0) = true := beq_iff_eq.mpr c14
      have c14b1 : (a1 != 0) = false := bne_eq_false_iff_eq.mpr c14
      clear c14
      obtain rfl := Option.some.inj H
      go_enter Tryz.func205, Tryz.ntmps205
      go_wp2
      go_ret
      exact ⟨by first | rfl | (simp [errW_none, errW_some] <;> rfl) | (simp [*, errW_none, errW_some] <;> rfl), by repeat (first | (with_reducible first | exact HB.out | apply below_alloc | apply pw_below_drewN | apply below_drew1) | exact HB.out)⟩
    rw [if_neg c14] at H
    have c14b0 : (a1 == 0) = false := beq_eq_false_iff_ne.mpr c14
    have c14b1 : (a1 != 0) = true := bne_iff_ne.mpr c14
    replace H := Option.bind_eq_some_iff.mp H
    obtain ⟨t603, A150, H⟩ := H
    replace H : (some (decide (t603 ≥ 0))) = some r := H
    have A15 := Aside0.mk A150
    clear A150
    obtain rfl := Option.some.inj H
    go_enter Tryz.func205, Tryz.ntmps205
    go_wp2_with (first | (go_at_call 154; (with_reducible refine (strings_IndexByte.calls (⟨#[32, 39, 40, 41, 43, 44, 45, 46, 47, 58, 61, 63]⟩ : ByteArray) a1 t603 _ A15.out).mono ?_); rintro e w16 ⟨rfl, hb⟩; have n0_ := Aside0.mk (below_step (by repeat (first | (with_reducible first | exact HB.out | apply below_alloc | apply pw_below_drewN | apply below_drew1) | exact HB.out)) hb); clear HB; have HB := n0_; clear n0_; (try clear hb); (try clear hb2); (try clear hk); (try clear hi)))
    go_ret
    exact ⟨by first | rfl | (simp [errW_none, errW_some] <;> rfl) | (simp [*, errW_none, errW_some] <;> rfl), by repeat (first | (with_reducible first | exact HB.out | apply below_alloc | apply pw_below_drewN | apply below_drew1) | exact HB.out)⟩
  rw [if_pos c9] at H
  have c9b0 : decide (48 ≤ a1) = true := decide_eq_true c9
  clear c9
  by_cases c10 : a1 ≤ 57
  · rw [if_pos c10] at H
    have c10b0 : decide (a1 ≤ 57) = true := decide_eq_true c10
    clear c10
    obtain rfl := Option.some.inj H
    go_enter Tryz.func205, Tryz.ntmps205
    go_wp2
    go_ret
    exact ⟨by first | rfl | (simp [errW_none, errW_some] <;> rfl) | (simp [*, errW_none, errW_some] <;> rfl), by repeat (first | (with_reducible first | exact HB.out | apply below_alloc | apply pw_below_drewN | apply below_drew1) | exact HB.out)⟩
  rw [if_neg c10] at H
  have c10b0 : decide (a1 ≤ 57) = false := decide_eq_false c10
  clear c10
  by_cases c11 : a1 = 0
  · rw [if_pos c11] at H
    have c11b0 : (a1 == 0) = true := beq_iff_eq.mpr c11
    have c11b1 : (a1 != 0) = false := bne_eq_false_iff_eq.mpr c11
    clear c11
    obtain rfl := Option.some.inj H
    go_enter Tryz.func205, Tryz.ntmps205
    go_wp2
    go_ret
    exact ⟨by first | rfl | (simp [errW_none, errW_some] <;> rfl) | (simp [*, errW_none, errW_some] <;> rfl), by repeat (first | (with_reducible first | exact HB.out | apply below_alloc | apply pw_below_drewN | apply below_drew1) | exact HB.out)⟩
  rw [if_neg c11] at H
  have c11b0 : (a1 == 0) = false := beq_eq_false_iff_ne.mpr c11
  have c11b1 : (a1 != 0) = true := bne_iff_ne.mpr c11
  replace H := Option.bind_eq_some_iff.mp H
  obtain ⟨t602, A120, H⟩ := H
  replace H : (some (decide (t602 ≥ 0))) = some r := H
  have A12 := Aside0.mk A120
  clear A120
  obtain rfl := Option.some.inj H
  go_enter Tryz.func205, Tryz.ntmps205
  go_wp2_with (first | (go_at_call 154; (with_reducible refine (strings_IndexByte.calls (⟨#[32, 39, 40, 41, 43, 44, 45, 46, 47, 58, 61, 63]⟩ : ByteArray) a1 t602 _ A12.out).mono ?_); rintro e w13 ⟨rfl, hb⟩; have n0_ := Aside0.mk (below_step (by repeat (first | (with_reducible first | exact HB.out | apply below_alloc | apply pw_below_drewN | apply below_drew1) | exact HB.out)) hb); clear HB; have HB := n0_; clear n0_; (try clear hb); (try clear hb2); (try clear hk); (try clear hi)))
  go_ret
  exact ⟨by first | rfl | (simp [errW_none, errW_some] <;> rfl) | (simp [*, errW_none, errW_some] <;> rfl), by repeat (first | (with_reducible first | exact HB.out | apply below_alloc | apply pw_below_drewN | apply below_drew1) | exact HB.out)⟩
end Go.Proofs.YtkioddjjfifadaaGreatDoor.P
namespace Go.Proofs.YtkioddjjfifadaaGreatDoor.P
open Go.RowKit Go.Proofs.YtkioddjjfifadaaGreatDoorW.PrintWords Go.Proofs.YtkioddjjfifadaaGreatDoorW.PrintLast Go.Proofs.YtkioddjjfifadaaGreatDoorW.PrintMore
attribute [local go_sem] max2_int min2_int max_two min_two max_three min_three max_four min_four   -- for this text's walks alone
set_option linter.unusedVariables false
set_option linter.unusedSimpArgs false
def utf8_word_byte.f (l0 : List Int) : Option (Int) := if 0 < (l0.length : Int) then (if 1 < (l0.length : Int) then (if 2 < (l0.length : Int) then (if 3 < (l0.length : Int) then (if 4 < (l0.length : Int) then (if 5 < (l0.length : Int) then (if 6 < (l0.length : Int) then (if 7 < (l0.length : Int) then (some (Go.bits .or .u64 (Go.bits .or .u64 (Go.bits .or .u64 (Go.bits .or .u64 (Go.bits .or .u64 (Go.bits .or .u64 (Go.bits .or .u64 (IntKind.u64.wrap (rd l0 0)) (IntKind.u64.wrap ((IntKind.u64.wrap (rd l0 1)) * 256))) (IntKind.u64.wrap ((IntKind.u64.wrap (rd l0 2)) * 65536))) (IntKind.u64.wrap ((IntKind.u64.wrap (rd l0 3)) * 16777216))) (IntKind.u64.wrap ((IntKind.u64.wrap (rd l0 4)) * 4294967296))) (IntKind.u64.wrap ((IntKind.u64.wrap (rd l0 5)) * 1099511627776))) (IntKind.u64.wrap ((IntKind.u64.wrap (rd l0 6)) * 281474976710656))) (IntKind.u64.wrap ((IntKind.u64.wrap (rd l0 7)) * 72057594037927936)))) else (none)) else (none)) else (none)) else (none)) else (none)) else (none)) else (none)) else (none)
set_option maxHeartbeats 8000000 in
set_option maxRecDepth 100000 in
theorem utf8_word_byte.calls (A0 : Option Addr) (c0 : Nat) (l0 : List Int) (r : Int) (w : World) (hr0 : Kd.C (Kd.int .u8) w A0 l0.length l0) (hc0 : l0.length ≤ c0) (h : utf8_word_byte.f l0 = some r) :
    Calls Tryz.prog 250 #[.slice A0 l0.length c0] w fun e w' => e = .returned (.int .u64 r) ∧ Drawn0 w w' := by
  have HR0 := Aside0.mk hr0
  have HC0 := Aside0.mk hc0
  clear hr0 hc0
  have H : (if 0 < (l0.length : Int) then (if 1 < (l0.length : Int) then (if 2 < (l0.length : Int) then (if 3 < (l0.length : Int) then (if 4 < (l0.length : Int) then (if 5 < (l0.length : Int) then (if 6 < (l0.length : Int) then (if 7 < (l0.length : Int) then (some (Go.bits .or .u64 (Go.bits .or .u64 (Go.bits .or .u64 (Go.bits .or .u64 (Go.bits .or .u64 (Go.bits .or .u64 (Go.bits .or .u64 (IntKind.u64.wrap (rd l0 0)) (IntKind.u64.wrap ((IntKind.u64.wrap (rd l0 1)) * 256))) (IntKind.u64.wrap ((IntKind.u64.wrap (rd l0 2)) * 65536))) (IntKind.u64.wrap ((IntKind.u64.wrap (rd l0 3)) * 16777216))) (IntKind.u64.wrap ((IntKind.u64.wrap (rd l0 4)) * 4294967296))) (IntKind.u64.wrap ((IntKind.u64.wrap (rd l0 5)) * 1099511627776))) (IntKind.u64.wrap ((IntKind.u64.wrap (rd l0 6)) * 281474976710656))) (IntKind.u64.wrap ((IntKind.u64.wrap (rd l0 7)) * 72057594037927936)))) else (none)) else (none)) else (none)) else (none)) else (none)) else (none)) else (none)) else (none)) = some r := h
  clear h
  by_cases c2 : 0 < (l0.length : Int)
  rotate_left
  · rw [if_neg c2] at H
    exact absurd H (by simp)
  rw [if_pos c2] at H
  have c2b0 : decide (0 < (l0.length : Int)) = true := decide_eq_true c2
  have c2b1 : decide (0 < l0.length) = true := decide_eq_true (by omega)
  clear c2
  by_cases c3 : 1 < (l0.length : Int)
  rotate_left
  · rw [if_neg c3] at H
    exact absurd H (by simp)
  rw [if_pos c3] at H
  have c3b0 : decide (1 < (l0.length : Int)) = true := decide_eq_true c3
  have c3b1 : decide (1 < l0.length) = true := decide_eq_true (by omega)
  clear c3
  by_cases c4 : 2 < (l0.length : Int)
  rotate_left
  · rw [if_neg c4] at H
    exact absurd H (by simp)
  rw [if_pos c4] at H
  have c4b0 : decide (2 < (l0.length : Int)) = true := decide_eq_true c4
  have c4b1 : decide (2 < l0.length) = true := decide_eq_true (by omega)
  clear c4
  by_cases c5 : 3 < (l0.length : Int)
  rotate_left
  · rw [if_neg c5] at H
    exact absurd H (by simp)
  rw [if_pos c5] at H
  have c5b0 : decide (3 < (l0.length : Int)) = true := decide_eq_true c5
  have c5b1 : decide (3 < l0.length) = true := decide_eq_true (by omega)
  clear c5
  by_cases c6 : 4 < (l0.length : Int)
  rotate_left
  · rw [if_neg c6] at H
    exact absurd H (by simp)
  rw [if_pos c6] at H
  have c6b0 : decide (4 < (l0.length : Int)) = true := decide_eq_true c6
  have c6b1 : decide (4 < l0.length) = true := decide_eq_true (by omega)
  clear c6
  by_cases c7 : 5 < (l0.length : Int)
  rotate_left
  · rw [if_neg c7] at H
    exact absurd H (by simp)
  rw [if_pos c7] at H
  have c7b0 : decide (5 < (l0.length : Int)) = true := decide_eq_true c7
  have c7b1 : decide (5 < l0.length) = true := decide_eq_true (by omega)
  clear c7
  by_cases c8 : 6 < (l0.length : Int)
  rotate_left
  · rw [if_neg c8] at H
    exact absurd H (by simp)
  rw [if_pos c8] at H
  have c8b0 : decide (6 < (l0.length : Int)) = true := decide_eq_true c8
  have c8b1 : decide (6 < l0.length) = true := decide_eq_true (by omega)
  clear c8
  by_cases c9 : 7 < (l0.length : Int)
  rotate_left
  · rw [if_neg c9] at H
    exact absurd H (by simp)
  rw [if_pos c9] at H
  have c9b0 : decide (7 < (l0.length : Int)) = true := decide_eq_true c9
  have c9b1 : decide (7 < l0.length) = true := decide_eq_true (by omega)
  clear c9
  obtain rfl := Option.some.inj H
  have p535 : 0 ≤ (0 : Int) := (by omega)
  have q535 : 0 < (l0.length : Int) := of_decide_eq_true (by first | (with_reducible assumption) | assumption)
  obtain ⟨ad535, e535, hx535_0⟩ := Kd.at_int HR0.out 0 p535 q535
  cases e535
  have qi535 : (0 < l0.length) = True := eq_true (by omega)
  (try rw [show ((0 : Int)).toNat = 0 from rfl] at hx535_0)
  (try rw [Addr.add_zero'] at hx535_0)
  replace p535 := eq_true p535
  replace q535 := eq_true q535
  have p536 : 0 ≤ (1 : Int) := (by omega)
  have q536 : 1 < (l0.length : Int) := of_decide_eq_true (by first | (with_reducible assumption) | assumption)
  obtain ⟨ad536, e536, hx536_0⟩ := Kd.at_int HR0.out 1 p536 q536
  obtain rfl : ad535 = ad536 := (by injection e536)
  (try simp only [show (1 : Int).toNat = 1 from rfl, Nat.reduceMul, Nat.reduceEqDiff, Go.Addr.add, ↓reduceIte] at hx536_0)
  have qi536 : (1 < l0.length) = True := eq_true (by omega)
  (try rw [show ((1 : Int)).toNat = 1 from rfl] at hx536_0)
  replace p536 := eq_true p536
  replace q536 := eq_true q536
  have p537 : 0 ≤ (2 : Int) := (by omega)
  have q537 : 2 < (l0.length : Int) := of_decide_eq_true (by first | (with_reducible assumption) | assumption)
  obtain ⟨ad537, e537, hx537_0⟩ := Kd.at_int HR0.out 2 p537 q537
  obtain rfl : ad535 = ad537 := (by injection e537)
  (try simp only [show (2 : Int).toNat = 2 from rfl, Nat.reduceMul, Nat.reduceEqDiff, Go.Addr.add, ↓reduceIte] at hx537_0)
  have qi537 : (2 < l0.length) = True := eq_true (by omega)
  (try rw [show ((2 : Int)).toNat = 2 from rfl] at hx537_0)
  replace p537 := eq_true p537
  replace q537 := eq_true q537
  have p538 : 0 ≤ (3 : Int) := (by omega)
  have q538 : 3 < (l0.length : Int) := of_decide_eq_true (by first | (with_reducible assumption) | assumption)
  obtain ⟨ad538, e538, hx538_0⟩ := Kd.at_int HR0.out 3 p538 q538
  obtain rfl : ad535 = ad538 := (by injection e538)
  (try simp only [show (3 : Int).toNat = 3 from rfl, Nat.reduceMul, Nat.reduceEqDiff, Go.Addr.add, ↓reduceIte] at hx538_0)
  have qi538 : (3 < l0.length) = True := eq_true (by omega)
  (try rw [show ((3 : Int)).toNat = 3 from rfl] at hx538_0)
  replace p538 := eq_true p538
  replace q538 := eq_true q538
  have p539 : 0 ≤ (4 : Int) := (by omega)
  have q539 : 4 < (l0.length : Int) := of_decide_eq_true (by first | (with_reducible assumption) | assumption)
  obtain ⟨ad539, e539, hx539_0⟩ := Kd.at_int HR0.out 4 p539 q539
  obtain rfl : ad535 = ad539 := (by injection e539)
  (try simp only [show (4 : Int).toNat = 4 from rfl, Nat.reduceMul, Nat.reduceEqDiff, Go.Addr.add, ↓reduceIte] at hx539_0)
  have qi539 : (4 < l0.length) = True := eq_true (by omega)
  (try rw [show ((4 : Int)).toNat = 4 from rfl] at hx539_0)
  replace p539 := eq_true p539
  replace q539 := eq_true q539
  have p540 : 0 ≤ (5 : Int) := (by omega)
  have q540 : 5 < (l0.length : Int) := of_decide_eq_true (by first | (with_reducible assumption) | assumption)
  obtain ⟨ad540, e540, hx540_0⟩ := Kd.at_int HR0.out 5 p540 q540
  obtain rfl : ad535 = ad540 := (by injection e540)
  (try simp only [show (5 : Int).toNat = 5 from rfl, Nat.reduceMul, Nat.reduceEqDiff, Go.Addr.add, ↓reduceIte] at hx540_0)
  have qi540 : (5 < l0.length) = True := eq_true (by omega)
  (try rw [show ((5 : Int)).toNat = 5 from rfl] at hx540_0)
  replace p540 := eq_true p540
  replace q540 := eq_true q540
  have p541 : 0 ≤ (6 : Int) := (by omega)
  have q541 : 6 < (l0.length : Int) := of_decide_eq_true (by first | (with_reducible assumption) | assumption)
  obtain ⟨ad541, e541, hx541_0⟩ := Kd.at_int HR0.out 6 p541 q541
  obtain rfl : ad535 = ad541 := (by injection e541)
  (try simp only [show (6 : Int).toNat = 6 from rfl, Nat.reduceMul, Nat.reduceEqDiff, Go.Addr.add, ↓reduceIte] at hx541_0)
  have qi541 : (6 < l0.length) = True := eq_true (by omega)
  (try rw [show ((6 : Int)).toNat = 6 from rfl] at hx541_0)
  replace p541 := eq_true p541
  replace q541 := eq_true q541
  have p542 : 0 ≤ (7 : Int) := (by omega)
  have q542 : 7 < (l0.length : Int) := of_decide_eq_true (by first | (with_reducible assumption) | assumption)
  obtain ⟨ad542, e542, hx542_0⟩ := Kd.at_int HR0.out 7 p542 q542
  obtain rfl : ad535 = ad542 := (by injection e542)
  (try simp only [show (7 : Int).toNat = 7 from rfl, Nat.reduceMul, Nat.reduceEqDiff, Go.Addr.add, ↓reduceIte] at hx542_0)
  have qi542 : (7 < l0.length) = True := eq_true (by omega)
  (try rw [show ((7 : Int)).toNat = 7 from rfl] at hx542_0)
  replace p542 := eq_true p542
  replace q542 := eq_true q542
  go_enter Tryz.func250, Tryz.ntmps250
  go_wp2
  repeat (go_quiet (fail); try go_wp2)
  go_ret
  exact ⟨by first | rfl | (simp; done) | (simp [*]; done), by repeat (first | exact Drawn0.refl _ | apply Drawn0.step)⟩
end Go.Proofs.YtkioddjjfifadaaGreatDoor.P
namespace Go.Proofs.YtkioddjjfifadaaGreatDoor.P
open Go.RowKit Go.Proofs.YtkioddjjfifadaaGreatDoorW.PrintWords Go.Proofs.YtkioddjjfifadaaGreatDoorW.PrintLast Go.Proofs.YtkioddjjfifadaaGreatDoorW.PrintMore
theorem son_size (l : List Int) : (strOfNums l).size = l.length := by
  unfold strOfNums
  simp [ByteArray.size]
theorem zs_of (l : List Int) (h : l.all isByte = true) : bytesOf (strOfNums l) = l := by
  have hx : ∀ x ∈ l, (((UInt8.ofNat x.toNat).toNat : Nat) : Int) = x := fun x hx => by
    have := List.all_eq_true.1 h x hx
    simp only [isByte, Bool.and_eq_true, decide_eq_true_eq] at this
    rw [UInt8.toNat_ofNat']
    omega
  unfold bytesOf strOfNums
  simp only [List.map_map]
  exact (List.map_congr_left (g := id) fun x hm => hx x hm).trans (List.map_id l)
/-- The bytes of s lie at A, in a slice with room c. -/
structure BS (w : World) (A : Option Addr) (c : Nat) (s : ByteArray) : Prop where
  room : s.size ≤ c
  reads : Kd.C (Kd.int .u8) w A s.size (bytesOf s)
theorem bt_get (s : ByteArray) (k : Nat) (hk : k < s.size) : bt s (k : Int) = ((s.get! k).toNat : Int) := by
  rw [Utf8W.get!_of_lt s k hk]
  unfold bt
  simp [hk]
theorem BS.cell {w w1 : World} {A : Option Addr} {c : Nat} {s : ByteArray} (h : BS w A c s) (k : Nat) (hk : k < s.size) (hb : Below w.heap.size w w1) : ∃ ad, A = some ad ∧ w1.cell? (ad.add k) = some (.int .u8 ((s.get! k).toNat : Int)) := by
  obtain ⟨ad, e, hc⟩ := Kd.at_int h.reads (k : Int) (by omega) (by omega)
  rw [Int.toNat_natCast, rd_bytesOf, bt_get s k hk] at hc
  exact ⟨ad, e, pw_cell_below hb hc⟩
theorem BS.cut {w : World} {A : Option Addr} {c : Nat} {s : ByteArray} (h : BS w A c s) (k : Nat) (hk : k ≤ s.size) :
    ∃ A' c' t, s.extract k s.size = t ∧ t.size + k = s.size ∧ BS w A' c' t ∧ ∀ W : World, (Instr.slice 22 (.slice A s.size c) (some (.int .i64 (k : Int))) none none).run Tryz.prog W = .ok (.slice A' t.size c') W := by
  obtain ⟨i0, hi0, -, hsz, -⟩ := info_parts info5
  obtain ⟨A', h1, h2⟩ := print_cut_of (P := Tryz.prog) (Value.int .u8) (0 : Int) 22 5 .i64 Tryz.underlying22 hi0 hsz A s.size c k hk
  refine ⟨A', c - k, s.extract k s.size, rfl, by rw [Lib.ext_size]; omega, ⟨by rw [Lib.ext_size]; have := h.room; omega, ?_⟩, fun W => by rw [Lib.ext_size]; exact h1 W⟩
  have hb : bytesOf (s.extract k s.size) = (bytesOf s).drop k := by unfold bytesOf; rw [Lib.ext_list, List.map_drop]
  rw [hb, Lib.ext_size]
  exact Kd.C_of_reads (h2 w _ h.room (Kd.reads_of_C h.reads))
def wordOf (t : ByteArray) : Nat := Lib.leNat [t.get! 0, t.get! 1, t.get! 2, t.get! 3, t.get! 4, t.get! 5, t.get! 6, t.get! 7]
set_option maxRecDepth 100000 in
theorem word_f (t : ByteArray) (h8 : 8 ≤ t.size) : utf8_word_byte.f (bytesOf t) = some ((wordOf t : Nat) : Int) := by
  have hl : (bytesOf t).length = t.size := bytesOf_length t
  have e0 : rd (bytesOf t) 0 = ((t.get! 0).toNat : Int) := (rd_bytesOf t 0).trans (bt_get t 0 (by omega))
  have e1 : rd (bytesOf t) 1 = ((t.get! 1).toNat : Int) := (rd_bytesOf t 1).trans (bt_get t 1 (by omega))
  have e2 : rd (bytesOf t) 2 = ((t.get! 2).toNat : Int) := (rd_bytesOf t 2).trans (bt_get t 2 (by omega))
  have e3 : rd (bytesOf t) 3 = ((t.get! 3).toNat : Int) := (rd_bytesOf t 3).trans (bt_get t 3 (by omega))
  have e4 : rd (bytesOf t) 4 = ((t.get! 4).toNat : Int) := (rd_bytesOf t 4).trans (bt_get t 4 (by omega))
  have e5 : rd (bytesOf t) 5 = ((t.get! 5).toNat : Int) := (rd_bytesOf t 5).trans (bt_get t 5 (by omega))
  have e6 : rd (bytesOf t) 6 = ((t.get! 6).toNat : Int) := (rd_bytesOf t 6).trans (bt_get t 6 (by omega))
  have e7 : rd (bytesOf t) 7 = ((t.get! 7).toNat : Int) := (rd_bytesOf t 7).trans (bt_get t 7 (by omega))
  unfold utf8_word_byte.f
  rw [if_pos (by omega), if_pos (by omega), if_pos (by omega), if_pos (by omega), if_pos (by omega), if_pos (by omega), if_pos (by omega), if_pos (by omega), e0, e1, e2, e3, e4, e5, e6, e7]
  unfold wordOf
  generalize t.get! 0 = x0
  generalize t.get! 1 = x1
  generalize t.get! 2 = x2
  generalize t.get! 3 = x3
  generalize t.get! 4 = x4
  generalize t.get! 5 = x5
  generalize t.get! 6 = x6
  generalize t.get! 7 = x7
  have h0 : x0.toNat < 256 := x0.toNat_lt
  have h1 : x1.toNat < 256 := x1.toNat_lt
  have h2 : x2.toNat < 256 := x2.toNat_lt
  have h3 : x3.toNat < 256 := x3.toNat_lt
  have h4 : x4.toNat < 256 := x4.toNat_lt
  have h5 : x5.toNat < 256 := x5.toNat_lt
  have h6 : x6.toNat < 256 := x6.toNat_lt
  have h7 : x7.toNat < 256 := x7.toNat_lt
  have hv : ((Lib.leNat [x0, x1, x2, x3, x4, x5, x6, x7] : Nat) : Int) = (x0.toNat : Int) + (x1.toNat : Int) * 256 + (x2.toNat : Int) * 65536 + (x3.toNat : Int) * 16777216 + (x4.toNat : Int) * 4294967296 + (x5.toNat : Int) * 1099511627776 + (x6.toNat : Int) * 281474976710656 + (x7.toNat : Int) * 72057594037927936 := by
    simp only [Lib.leNat]
    push_cast
    omega
  simp (disch := omega) only [u64_wrap_id, u64_or8, u64_or16, u64_or24, u64_or32, u64_or40, u64_or48, u64_or56]
  rw [hv]
theorem word_calls {w : World} {A : Option Addr} {c : Nat} {t : ByteArray} (h : BS w A c t) (h8 : 8 ≤ t.size) (W : World) (hb : Below w.heap.size w W) :
    Calls Tryz.prog 250 #[.slice A t.size c] W fun e w' => e = .returned (.int .u64 ((wordOf t : Nat) : Int)) ∧ ∃ q, w' = W.drewN q := by
  have hl : (bytesOf t).length = t.size := bytesOf_length t
  have hC : Kd.C (Kd.int .u8) W A (bytesOf t).length (bytesOf t) := by rw [hl]; exact Kd.C_below h.reads hb
  have := utf8_word_byte.calls A c (bytesOf t) _ W hC (by rw [hl]; exact h.room) (word_f t h8)
  rw [hl] at this
  refine this.mono ?_
  rintro e w' ⟨rfl, hd⟩
  exact ⟨rfl, hd.out⟩
end Go.Proofs.YtkioddjjfifadaaGreatDoor.P
