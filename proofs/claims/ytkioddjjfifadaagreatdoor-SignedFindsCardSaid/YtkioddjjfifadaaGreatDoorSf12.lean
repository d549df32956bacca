/- What the proof of SignedFinds needs of: Pxf230, Pxf182, Pxf183, Hk1. -/
import Derived.Test.YtkioddjjfifadaaGreatDoorSf2
import Derived.Test.YtkioddjjfifadaaGreatDoorSf11
namespace Go.Proofs.YtkioddjjfifadaaGreatDoor.P
open Go.RowKit Go.Proofs.YtkioddjjfifadaaGreatDoorW.PrintWords Go.Proofs.YtkioddjjfifadaaGreatDoorW.PrintLast Go.Proofs.YtkioddjjfifadaaGreatDoorW.PrintMore
attribute [local go_sem] max2_int min2_int max_two min_two max_three min_three max_four min_four   -- for this text's walks alone
set_option linter.unusedVariables false
set_option linter.unusedSimpArgs false
mutual
def chirographref06_Fold.l0 : Nat → ByteArray → List Int → Int → Option (ByteArray)
  | 0, _, _, _ => none
  | k + 1, x0, x3, x4 => if x4 < (x0.size : Int) then (if 0 ≤ x4 then (if (bt x0 x4) ≥ 65 then (chirographref06_Fold.j1 k x0 x3 x4 (bt x0 x4) (decide ((bt x0 x4) ≤ 90))) else (chirographref06_Fold.j1 k x0 x3 x4 (bt x0 x4) false)) else (none)) else (if (x3.length : Int) > 0 then (if 0 ≤ (wrap64 ((x3.length : Int) - 1)) then (if (wrap64 ((x3.length : Int) - 1)) < (x3.length : Int) then (if (rd x3 (wrap64 ((x3.length : Int) - 1))) = 32 then (if (wrap64 ((x3.length : Int) - 1)) ≤ (x3.length : Int) then (some (strOfNums (x3.take ((wrap64 ((x3.length : Int) - 1)) : Int).toNat))) else (none)) else (some (strOfNums x3))) else (none)) else (none)) else (some (strOfNums x3)))
def chirographref06_Fold.j1 : Nat → ByteArray → List Int → Int → Int → Bool → Option (ByteArray)
  | 0, _, _, _, _, _ => none
  | k + 1, x0, x3, x4, x5, x20 => if x20 = true then (if ((x5 + 32) % 256) = 32 then (if (x3.length : Int) = 0 then (chirographref06_Fold.l0 k x0 x3 (wrap64 (x4 + 1))) else (if 0 ≤ (wrap64 ((x3.length : Int) - 1)) then (if (wrap64 ((x3.length : Int) - 1)) < (x3.length : Int) then (if (rd x3 (wrap64 ((x3.length : Int) - 1))) = 32 then (chirographref06_Fold.l0 k x0 x3 (wrap64 (x4 + 1))) else (if x3.length < 140737488355328 then (chirographref06_Fold.l0 k x0 (x3 ++ [(x5 + 32) % 256]) (wrap64 (x4 + 1))) else (none))) else (none)) else (none))) else (if x3.length < 140737488355328 then (chirographref06_Fold.l0 k x0 (x3 ++ [(x5 + 32) % 256]) (wrap64 (x4 + 1))) else (none))) else (if x5 = 32 then (if (x3.length : Int) = 0 then (chirographref06_Fold.l0 k x0 x3 (wrap64 (x4 + 1))) else (if 0 ≤ (wrap64 ((x3.length : Int) - 1)) then (if (wrap64 ((x3.length : Int) - 1)) < (x3.length : Int) then (if (rd x3 (wrap64 ((x3.length : Int) - 1))) = 32 then (chirographref06_Fold.l0 k x0 x3 (wrap64 (x4 + 1))) else (if x3.length < 140737488355328 then (chirographref06_Fold.l0 k x0 (x3 ++ [x5]) (wrap64 (x4 + 1))) else (none))) else (none)) else (none))) else (if x3.length < 140737488355328 then (chirographref06_Fold.l0 k x0 (x3 ++ [x5]) (wrap64 (x4 + 1))) else (none)))
end
def chirographref06_Fold.f (k : Nat) (a0 : ByteArray) : Option (ByteArray) := chirographref06_Fold.l0 k a0 ([] : List Int) 0
set_option maxHeartbeats 8000000 in
set_option maxRecDepth 100000 in
theorem chirographref06_Fold.calls (k : Nat) (a0 : ByteArray) (r : ByteArray) (w : World) (h : chirographref06_Fold.f k a0 = some r) :
    Calls Tryz.prog 230 #[.string a0] w fun e w' => e = .returned (.string r) ∧ Below w.heap.size w w' := by
  have HB := Aside0.mk (Below.refl w.heap.size w)
  have H : (chirographref06_Fold.l0 k a0 ([] : List Int) 0) = some r := h
  clear h
  have H' := Aside0.mk H
  clear H
  go_enter Tryz.func230, Tryz.ntmps230
  go_wp2
  go_loopg [3, 4] k (fun kq v3 v4 w' => ∃ (x3_1 : List Int) (x4_1 : Int), v4 = .int .i64 x4_1 ∧ Aside0 (chirographref06_Fold.l0 kq a0 x3_1 x4_1 = some r) ∧ Aside0 (kq ≤ k) ∧ Aside0 (Kd.R (Kd.int .u8) 5 w' w.heap.size (fun _ => True) v3 x3_1) ∧ Aside0 (Below w.heap.size w w'))
  case atStart => exact ⟨(([] : List Int)), (0), (by first | rfl | (simp; done) | (simp [*]; done)), H', ⟨Nat.le_refl _⟩, ⟨by first | exact Kd.R_nil _ _ _ _ _ | exact Kd.N_nil _ _ _ _ _ | exact Kd.V_nil _ _ _ _ _ | exact Kd.Q_nil _ _ _ _ _ | exact Kd.S_nil _ _ _ _ _⟩, ⟨by repeat (first | (with_reducible first | exact HB.out | apply below_alloc | apply pw_below_drewN | apply below_drew1) | exact HB.out)⟩⟩
  case round =>
    clear H'
    obtain ⟨x3_1, x4_1, rfl, HA, HK1, HO_3, HB⟩ := hrel
    cases gk with
    | zero => exact absurd HA.out (by simp [chirographref06_Fold.l0])
    | succ k1 =>
      have H := HA.out
      clear HA
      simp only [chirographref06_Fold.l0] at H
      by_cases c2 : x4_1 < (a0.size : Int)
      · rw [if_pos c2] at H
        have c2b0 : decide (x4_1 < (a0.size : Int)) = true := decide_eq_true c2
        clear c2
        by_cases c3 : 0 ≤ x4_1
        · rw [if_pos c3] at H
          have c3b0 : decide (0 ≤ x4_1) = true := decide_eq_true c3
          clear c3
          have HC5 := Aside0.mk H
          clear H
          have p4 : 0 ≤ (x4_1 : Int) := of_decide_eq_true (by first | (with_reducible assumption) | assumption)
          have q4 : x4_1 < (a0.size : Int) := of_decide_eq_true (by first | (with_reducible assumption) | assumption)
          have hx4 := bt_at a0 x4_1
          replace p4 := eq_true p4
          replace q4 := eq_true q4
          go_upto_region 6 with (fail)
          go_cut [20] (fun v20 wc => ∃ (kq : Nat) (x20_4 : Bool), v20 = .bool x20_4 ∧ Aside0 (chirographref06_Fold.j1 kq a0 x3_1 x4_1 (bt a0 x4_1) x20_4 = some r) ∧ Aside0 (kq ≤ k1) ∧ Aside0 (Kd.R (Kd.int .u8) 5 wc w.heap.size (fun _ => True) u3 x3_1) ∧ Aside0 (Below w.heap.size w wc))
          case first =>
            have H := HC5.out
            clear HC5
            by_cases c6 : (bt a0 x4_1) ≥ 65
            · rw [if_pos c6] at H
              have c6b0 : decide (65 ≤ (bt a0 x4_1)) = true := decide_eq_true c6
              clear c6
              (first | rw [c6b0] | (simp only [i64_w, i32_w]; rw [c6b0]) | skip)
              have H' := Aside0.mk H
              clear H
              go_wp2
              go_meet
              case rel => exact ⟨_, (decide ((bt a0 x4_1) ≤ 90)), (by first | rfl | (simp; done) | (simp [*]; done)), H', ⟨by have := HK1.out; first | omega | exact Nat.le_refl _⟩, ⟨by (with_reducible repeat (first | apply Kd.R_alloc | apply Kd.R_drewN | apply Kd.R_drew)); exact HO_3.out⟩, ⟨by repeat (first | (with_reducible first | exact HB.out | apply below_alloc | apply pw_below_drewN | apply below_drew1) | exact HB.out)⟩⟩
            · rw [if_neg c6] at H
              have c6b0 : decide (65 ≤ (bt a0 x4_1)) = false := decide_eq_false c6
              clear c6
              (first | rw [c6b0] | (simp only [i64_w, i32_w]; rw [c6b0]) | skip)
              have H' := Aside0.mk H
              clear H
              go_wp2
              go_meet
              case rel => exact ⟨_, (false), (by first | rfl | (simp; done) | (simp [*]; done)), H', ⟨by have := HK1.out; first | omega | exact Nat.le_refl _⟩, ⟨by (with_reducible repeat (first | apply Kd.R_alloc | apply Kd.R_drewN | apply Kd.R_drew)); exact HO_3.out⟩, ⟨by repeat (first | (with_reducible first | exact HB.out | apply below_alloc | apply pw_below_drewN | apply below_drew1) | exact HB.out)⟩⟩
          case rest =>
            clear HC5
            try clear c2
            try clear c2b0
            try clear p2
            try clear c3
            try clear c3b0
            try clear p4
            try clear q4
            try clear hx4
            try clear c6
            try clear c6b0
            try clear p4
            try clear q4
            obtain ⟨kq, x20_4, rfl, HA, HJ4, HO_3, HB⟩ := hcut
            cases kq with
            | zero => exact absurd HA.out (by simp [chirographref06_Fold.j1])
            | succ kj4 =>
              have H := HA.out
              clear HA
              simp only [chirographref06_Fold.j1] at H
              by_cases c7 : x20_4 = true
              · subst c7
                have H1 : (if (((bt a0 x4_1) + 32) % 256) = 32 then (if (x3_1.length : Int) = 0 then (chirographref06_Fold.l0 kj4 a0 x3_1 (wrap64 (x4_1 + 1))) else (if 0 ≤ (wrap64 ((x3_1.length : Int) - 1)) then (if (wrap64 ((x3_1.length : Int) - 1)) < (x3_1.length : Int) then (if (rd x3_1 (wrap64 ((x3_1.length : Int) - 1))) = 32 then (chirographref06_Fold.l0 kj4 a0 x3_1 (wrap64 (x4_1 + 1))) else (if x3_1.length < 140737488355328 then (chirographref06_Fold.l0 kj4 a0 (x3_1 ++ [((bt a0 x4_1) + 32) % 256]) (wrap64 (x4_1 + 1))) else (none))) else (none)) else (none))) else (if x3_1.length < 140737488355328 then (chirographref06_Fold.l0 kj4 a0 (x3_1 ++ [((bt a0 x4_1) + 32) % 256]) (wrap64 (x4_1 + 1))) else (none))) = some r := by rw [if_pos rfl] at H; exact H
                clear H
                have H := H1
                clear H1
                by_cases c8 : (((bt a0 x4_1) + 32) % 256) = 32
                · rw [if_pos c8] at H
                  have c8b0 : ((((bt a0 x4_1) + 32) % 256) == 32) = true := beq_iff_eq.mpr c8
                  have c8b1 : ((((bt a0 x4_1) + 32) % 256) != 32) = false := bne_eq_false_iff_eq.mpr c8
                  clear c8
                  by_cases c9 : (x3_1.length : Int) = 0
                  · rw [if_pos c9] at H
                    have c9b0 : ((x3_1.length : Int) == 0) = true := beq_iff_eq.mpr c9
                    have c9b1 : ((x3_1.length : Int) != 0) = false := bne_eq_false_iff_eq.mpr c9
                    clear c9
                    have H' := Aside0.mk H
                    clear H
                    obtain ⟨Ao10, co10, eo10⟩ := Kd.R_slice HO_3.out
                    subst eo10
                    go_wp2
                    go_roundg kj4
                    case measure => have := HK1.out; have := HJ4.out; omega
                    case rel => exact ⟨(x3_1), (wrap64 (x4_1 + 1)), (by first | rfl | (simp; done) | (simp [*]; done)), H', ⟨by have := HK1.out; have := HJ4.out; omega⟩, ⟨by (with_reducible repeat (first | apply Kd.R_alloc | apply Kd.R_drewN | apply Kd.R_drew)); exact HO_3.out⟩, ⟨by repeat (first | (with_reducible first | exact HB.out | apply below_alloc | apply pw_below_drewN | apply below_drew1) | exact HB.out)⟩⟩
                  · rw [if_neg c9] at H
                    have c9b0 : ((x3_1.length : Int) == 0) = false := beq_eq_false_iff_ne.mpr c9
                    have c9b1 : ((x3_1.length : Int) != 0) = true := bne_iff_ne.mpr c9
                    have c9b2 : ¬ (x3_1 = []) := fun h_ => c9 (by rw [h_]; rfl)
                    by_cases c11 : 0 ≤ (wrap64 ((x3_1.length : Int) - 1))
                    · rw [if_pos c11] at H
                      have c11b0 : decide (0 ≤ (wrap64 ((x3_1.length : Int) - 1))) = true := decide_eq_true c11
                      clear c11
                      by_cases c12 : (wrap64 ((x3_1.length : Int) - 1)) < (x3_1.length : Int)
                      · rw [if_pos c12] at H
                        have c12b0 : decide ((wrap64 ((x3_1.length : Int) - 1)) < (x3_1.length : Int)) = true := decide_eq_true c12
                        clear c12
                        by_cases c13 : (rd x3_1 (wrap64 ((x3_1.length : Int) - 1))) = 32
                        · rw [if_pos c13] at H
                          have c13b0 : ((rd x3_1 (wrap64 ((x3_1.length : Int) - 1))) == 32) = true := beq_iff_eq.mpr c13
                          have c13b1 : ((rd x3_1 (wrap64 ((x3_1.length : Int) - 1))) != 32) = false := bne_eq_false_iff_eq.mpr c13
                          clear c13
                          have H' := Aside0.mk H
                          clear H
                          obtain ⟨Ao14, co14, eo14⟩ := Kd.R_slice HO_3.out
                          subst eo14
                          have p1562 : 0 ≤ ((wrap64 ((x3_1.length : Int) - 1)) : Int) := of_decide_eq_true (by first | (with_reducible assumption) | assumption)
                          have q1562 : (wrap64 ((x3_1.length : Int) - 1)) < (x3_1.length : Int) := of_decide_eq_true (by first | (with_reducible assumption) | assumption)
                          obtain ⟨ad1562, e1562, hx1562_0⟩ := Kd.at_int (Kd.R_reads' HO_3.out).2.2 (wrap64 ((x3_1.length : Int) - 1)) p1562 q1562
                          cases e1562
                          replace p1562 := eq_true p1562
                          replace q1562 := eq_true q1562
                          go_wp2
                          go_roundg kj4
                          case measure => have := HK1.out; have := HJ4.out; omega
                          case rel => exact ⟨(x3_1), (wrap64 (x4_1 + 1)), (by first | rfl | (simp; done) | (simp [*]; done)), H', ⟨by have := HK1.out; have := HJ4.out; omega⟩, ⟨by (with_reducible repeat (first | apply Kd.R_alloc | apply Kd.R_drewN | apply Kd.R_drew)); exact HO_3.out⟩, ⟨by repeat (first | (with_reducible first | exact HB.out | apply below_alloc | apply pw_below_drewN | apply below_drew1) | exact HB.out)⟩⟩
                        · rw [if_neg c13] at H
                          have c13b0 : ((rd x3_1 (wrap64 ((x3_1.length : Int) - 1))) == 32) = false := beq_eq_false_iff_ne.mpr c13
                          have c13b1 : ((rd x3_1 (wrap64 ((x3_1.length : Int) - 1))) != 32) = true := bne_iff_ne.mpr c13
                          by_cases c15 : x3_1.length < 140737488355328
                          · rw [if_pos c15] at H
                            have LMc15 := Aside0.mk c15
                            clear c15
                            obtain ⟨y1563, hy1563⟩ : ∃ y_ : List Int, y_ = (x3_1 ++ [((bt a0 x4_1) + 32) % 256]) := ⟨_, rfl⟩
                            replace H : (chirographref06_Fold.l0 kj4 a0 y1563 (wrap64 (x4_1 + 1))) = some r := by first | (rw [hy1563]; with_reducible exact H) | (have H2_ := (Option.bind_some _ _).symm.trans H; rw [hy1563]; with_reducible exact H2_) | (have H2_ := (Option.bind_some _ _).symm.trans H; with_reducible exact H2_) | with_reducible exact H | (rw [hy1563]; exact H) | exact H
                            have Ny1563 := Aside0.mk hy1563
                            clear hy1563
                            have H' := Aside0.mk H
                            clear H
                            obtain ⟨Ao16, co16, eo16⟩ := Kd.R_slice HO_3.out
                            subst eo16
                            have p1562 : 0 ≤ ((wrap64 ((x3_1.length : Int) - 1)) : Int) := of_decide_eq_true (by first | (with_reducible assumption) | assumption)
                            have q1562 : (wrap64 ((x3_1.length : Int) - 1)) < (x3_1.length : Int) := of_decide_eq_true (by first | (with_reducible assumption) | assumption)
                            obtain ⟨ad1562, e1562, hx1562_0⟩ := Kd.at_int (Kd.R_reads' HO_3.out).2.2 (wrap64 ((x3_1.length : Int) - 1)) p1562 q1562
                            cases e1562
                            replace p1562 := eq_true p1562
                            replace q1562 := eq_true q1562
                            go_wp2_with (first | ((with_reducible refine gate_builtin (b := .append) (xs := #[.tmp 39, .tmp 41]) rfl ?_); (try (refine gate_guard (by rfl) ?_; dsimp only)); at_builtin; refine Kd.R_append (Kd.int .u8) (w0 := w) w.heap.size rfl (.tmp 39) (.tmp 41) 22 5 (.int .u8 0) 1 rfl Tryz.underlying22 info5 rfl (by decide) (by omega) (.slice (some ad1562) x3_1.length co16) x3_1 (((bt a0 x4_1) + 32) % 256) [.int .u8 (((bt a0 x4_1) + 32) % 256)] (fun _ => True) (fun _ => False) rfl rfl ?aP (fun _ hk => hk.elim) ?aF ?aO ?aB ?aS ?aL ?_; (case aP => exact rfl); (case aB => exact (by repeat (first | (with_reducible first | exact HB.out | apply below_alloc | apply pw_below_drewN | apply below_drew1) | exact HB.out))); (case aF => exact (fun _ _ => trivial)); (case aO => exact (by (with_reducible repeat (first | apply Kd.R_alloc | apply Kd.R_drewN | apply Kd.R_drew)); exact HO_3.out)); (case aS => exact (below_size (by repeat (first | (with_reducible first | exact HB.out | apply below_alloc | apply pw_below_drewN | apply below_drew1) | exact HB.out)))); (case aL => have := LMc15.out; omega); intro v1564 w17 ho hb hg hat; rw [← Ny1563.out] at ho; have n0_ := Aside0.mk (hb); have n1_ := Aside0.mk (ho); clear HB; clear HO_3; have HB := n0_; have HO1565 := n1_; clear n0_ n1_; clear ho hb hg hat))
                            go_roundg kj4
                            case measure => have := HK1.out; have := HJ4.out; omega
                            case rel => exact ⟨(y1563), (wrap64 (x4_1 + 1)), (by first | rfl | (simp; done) | (simp [*]; done)), H', ⟨by have := HK1.out; have := HJ4.out; omega⟩, ⟨by (with_reducible repeat (first | apply Kd.R_alloc | apply Kd.R_drewN | apply Kd.R_drew)); exact HO1565.out⟩, ⟨by repeat (first | (with_reducible first | exact HB.out | apply below_alloc | apply pw_below_drewN | apply below_drew1) | exact HB.out)⟩⟩
                          · rw [if_neg c15] at H
                            exact absurd H (by simp)
                      · rw [if_neg c12] at H
                        exact absurd H (by simp)
                    · rw [if_neg c11] at H
                      exact absurd H (by simp)
                · rw [if_neg c8] at H
                  have c8b0 : ((((bt a0 x4_1) + 32) % 256) == 32) = false := beq_eq_false_iff_ne.mpr c8
                  have c8b1 : ((((bt a0 x4_1) + 32) % 256) != 32) = true := bne_iff_ne.mpr c8
                  by_cases c18 : x3_1.length < 140737488355328
                  · rw [if_pos c18] at H
                    have LMc18 := Aside0.mk c18
                    clear c18
                    obtain ⟨y1566, hy1566⟩ : ∃ y_ : List Int, y_ = (x3_1 ++ [((bt a0 x4_1) + 32) % 256]) := ⟨_, rfl⟩
                    replace H : (chirographref06_Fold.l0 kj4 a0 y1566 (wrap64 (x4_1 + 1))) = some r := by first | (rw [hy1566]; with_reducible exact H) | (have H2_ := (Option.bind_some _ _).symm.trans H; rw [hy1566]; with_reducible exact H2_) | (have H2_ := (Option.bind_some _ _).symm.trans H; with_reducible exact H2_) | with_reducible exact H | (rw [hy1566]; exact H) | exact H
                    have Ny1566 := Aside0.mk hy1566
                    clear hy1566
                    have H' := Aside0.mk H
                    clear H
                    go_wp2_with (first | ((with_reducible refine gate_builtin (b := .append) (xs := #[.tmp 39, .tmp 41]) rfl ?_); (try (refine gate_guard (by rfl) ?_; dsimp only)); at_builtin; refine Kd.R_append (Kd.int .u8) (w0 := w) w.heap.size rfl (.tmp 39) (.tmp 41) 22 5 (.int .u8 0) 1 rfl Tryz.underlying22 info5 rfl (by decide) (by omega) u3 x3_1 (((bt a0 x4_1) + 32) % 256) [.int .u8 (((bt a0 x4_1) + 32) % 256)] (fun _ => True) (fun _ => False) rfl rfl ?aP (fun _ hk => hk.elim) ?aF ?aO ?aB ?aS ?aL ?_; (case aP => exact rfl); (case aB => exact (by repeat (first | (with_reducible first | exact HB.out | apply below_alloc | apply pw_below_drewN | apply below_drew1) | exact HB.out))); (case aF => exact (fun _ _ => trivial)); (case aO => exact (by (with_reducible repeat (first | apply Kd.R_alloc | apply Kd.R_drewN | apply Kd.R_drew)); exact HO_3.out)); (case aS => exact (below_size (by repeat (first | (with_reducible first | exact HB.out | apply below_alloc | apply pw_below_drewN | apply below_drew1) | exact HB.out)))); (case aL => have := LMc18.out; omega); intro v1567 w19 ho hb hg hat; rw [← Ny1566.out] at ho; have n0_ := Aside0.mk (hb); have n1_ := Aside0.mk (ho); clear HB; clear HO_3; have HB := n0_; have HO1568 := n1_; clear n0_ n1_; clear ho hb hg hat))
                    go_roundg kj4
                    case measure => have := HK1.out; have := HJ4.out; omega
                    case rel => exact ⟨(y1566), (wrap64 (x4_1 + 1)), (by first | rfl | (simp; done) | (simp [*]; done)), H', ⟨by have := HK1.out; have := HJ4.out; omega⟩, ⟨by (with_reducible repeat (first | apply Kd.R_alloc | apply Kd.R_drewN | apply Kd.R_drew)); exact HO1568.out⟩, ⟨by repeat (first | (with_reducible first | exact HB.out | apply below_alloc | apply pw_below_drewN | apply below_drew1) | exact HB.out)⟩⟩
                  · rw [if_neg c18] at H
                    exact absurd H (by simp)
              · replace c7 := Bool.eq_false_iff.mpr c7
                subst c7
                have H1 : (if (bt a0 x4_1) = 32 then (if (x3_1.length : Int) = 0 then (chirographref06_Fold.l0 kj4 a0 x3_1 (wrap64 (x4_1 + 1))) else (if 0 ≤ (wrap64 ((x3_1.length : Int) - 1)) then (if (wrap64 ((x3_1.length : Int) - 1)) < (x3_1.length : Int) then (if (rd x3_1 (wrap64 ((x3_1.length : Int) - 1))) = 32 then (chirographref06_Fold.l0 kj4 a0 x3_1 (wrap64 (x4_1 + 1))) else (if x3_1.length < 140737488355328 then (chirographref06_Fold.l0 kj4 a0 (x3_1 ++ [(bt a0 x4_1)]) (wrap64 (x4_1 + 1))) else (none))) else (none)) else (none))) else (if x3_1.length < 140737488355328 then (chirographref06_Fold.l0 kj4 a0 (x3_1 ++ [(bt a0 x4_1)]) (wrap64 (x4_1 + 1))) else (none))) = some r := by rw [if_neg (show ¬ (false = true) by decide)] at H; exact H
                clear H
                have H := H1
                clear H1
                by_cases c20 : (bt a0 x4_1) = 32
                · rw [if_pos c20] at H
                  have c20b0 : ((bt a0 x4_1) == 32) = true := beq_iff_eq.mpr c20
                  have c20b1 : ((bt a0 x4_1) != 32) = false := bne_eq_false_iff_eq.mpr c20
                  clear c20
                  by_cases c21 : (x3_1.length : Int) = 0
                  · rw [if_pos c21] at H
                    have c21b0 : ((x3_1.length : Int) == 0) = true := beq_iff_eq.mpr c21
                    have c21b1 : ((x3_1.length : Int) != 0) = false := bne_eq_false_iff_eq.mpr c21
                    clear c21
                    have H' := Aside0.mk H
                    clear H
                    obtain ⟨Ao22, co22, eo22⟩ := Kd.R_slice HO_3.out
                    subst eo22
                    go_wp2
                    go_roundg kj4
                    case measure => have := HK1.out; have := HJ4.out; omega
                    case rel => exact ⟨(x3_1), (wrap64 (x4_1 + 1)), (by first | rfl | (simp; done) | (simp [*]; done)), H', ⟨by have := HK1.out; have := HJ4.out; omega⟩, ⟨by (with_reducible repeat (first | apply Kd.R_alloc | apply Kd.R_drewN | apply Kd.R_drew)); exact HO_3.out⟩, ⟨by repeat (first | (with_reducible first | exact HB.out | apply below_alloc | apply pw_below_drewN | apply below_drew1) | exact HB.out)⟩⟩
                  · rw [if_neg c21] at H
                    have c21b0 : ((x3_1.length : Int) == 0) = false := beq_eq_false_iff_ne.mpr c21
                    have c21b1 : ((x3_1.length : Int) != 0) = true := bne_iff_ne.mpr c21
                    have c21b2 : ¬ (x3_1 = []) := fun h_ => c21 (by rw [h_]; rfl)
                    by_cases c23 : 0 ≤ (wrap64 ((x3_1.length : Int) - 1))
                    · rw [if_pos c23] at H
                      have c23b0 : decide (0 ≤ (wrap64 ((x3_1.length : Int) - 1))) = true := decide_eq_true c23
                      clear c23
                      by_cases c24 : (wrap64 ((x3_1.length : Int) - 1)) < (x3_1.length : Int)
                      · rw [if_pos c24] at H
                        have c24b0 : decide ((wrap64 ((x3_1.length : Int) - 1)) < (x3_1.length : Int)) = true := decide_eq_true c24
                        clear c24
                        by_cases c25 : (rd x3_1 (wrap64 ((x3_1.length : Int) - 1))) = 32
                        · rw [if_pos c25] at H
                          have c25b0 : ((rd x3_1 (wrap64 ((x3_1.length : Int) - 1))) == 32) = true := beq_iff_eq.mpr c25
                          have c25b1 : ((rd x3_1 (wrap64 ((x3_1.length : Int) - 1))) != 32) = false := bne_eq_false_iff_eq.mpr c25
                          clear c25
                          have H' := Aside0.mk H
                          clear H
                          obtain ⟨Ao26, co26, eo26⟩ := Kd.R_slice HO_3.out
                          subst eo26
                          have p1569 : 0 ≤ ((wrap64 ((x3_1.length : Int) - 1)) : Int) := of_decide_eq_true (by first | (with_reducible assumption) | assumption)
                          have q1569 : (wrap64 ((x3_1.length : Int) - 1)) < (x3_1.length : Int) := of_decide_eq_true (by first | (with_reducible assumption) | assumption)
                          obtain ⟨ad1569, e1569, hx1569_0⟩ := Kd.at_int (Kd.R_reads' HO_3.out).2.2 (wrap64 ((x3_1.length : Int) - 1)) p1569 q1569
                          cases e1569
                          replace p1569 := eq_true p1569
                          replace q1569 := eq_true q1569
                          go_wp2
                          go_roundg kj4
                          case measure => have := HK1.out; have := HJ4.out; omega
                          case rel => exact ⟨(x3_1), (wrap64 (x4_1 + 1)), (by first | rfl | (simp; done) | (simp [*]; done)), H', ⟨by have := HK1.out; have := HJ4.out; omega⟩, ⟨by (with_reducible repeat (first | apply Kd.R_alloc | apply Kd.R_drewN | apply Kd.R_drew)); exact HO_3.out⟩, ⟨by repeat (first | (with_reducible first | exact HB.out | apply below_alloc | apply pw_below_drewN | apply below_drew1) | exact HB.out)⟩⟩
                        · rw [if_neg c25] at H
                          have c25b0 : ((rd x3_1 (wrap64 ((x3_1.length : Int) - 1))) == 32) = false := beq_eq_false_iff_ne.mpr c25
                          have c25b1 : ((rd x3_1 (wrap64 ((x3_1.length : Int) - 1))) != 32) = true := bne_iff_ne.mpr c25
                          by_cases c27 : x3_1.length < 140737488355328
                          · rw [if_pos c27] at H
                            have LMc27 := Aside0.mk c27
                            clear c27
                            obtain ⟨y1570, hy1570⟩ : ∃ y_ : List Int, y_ = (x3_1 ++ [(bt a0 x4_1)]) := ⟨_, rfl⟩
                            replace H : (chirographref06_Fold.l0 kj4 a0 y1570 (wrap64 (x4_1 + 1))) = some r := by first | (rw [hy1570]; with_reducible exact H) | (have H2_ := (Option.bind_some _ _).symm.trans H; rw [hy1570]; with_reducible exact H2_) | (have H2_ := (Option.bind_some _ _).symm.trans H; with_reducible exact H2_) | with_reducible exact H | (rw [hy1570]; exact H) | exact H
                            have Ny1570 := Aside0.mk hy1570
                            clear hy1570
                            have H' := Aside0.mk H
                            clear H
                            obtain ⟨Ao28, co28, eo28⟩ := Kd.R_slice HO_3.out
                            subst eo28
                            have p1569 : 0 ≤ ((wrap64 ((x3_1.length : Int) - 1)) : Int) := of_decide_eq_true (by first | (with_reducible assumption) | assumption)
                            have q1569 : (wrap64 ((x3_1.length : Int) - 1)) < (x3_1.length : Int) := of_decide_eq_true (by first | (with_reducible assumption) | assumption)
                            obtain ⟨ad1569, e1569, hx1569_0⟩ := Kd.at_int (Kd.R_reads' HO_3.out).2.2 (wrap64 ((x3_1.length : Int) - 1)) p1569 q1569
                            cases e1569
                            replace p1569 := eq_true p1569
                            replace q1569 := eq_true q1569
                            go_wp2_with (first | ((with_reducible refine gate_builtin (b := .append) (xs := #[.tmp 39, .tmp 41]) rfl ?_); (try (refine gate_guard (by rfl) ?_; dsimp only)); at_builtin; refine Kd.R_append (Kd.int .u8) (w0 := w) w.heap.size rfl (.tmp 39) (.tmp 41) 22 5 (.int .u8 0) 1 rfl Tryz.underlying22 info5 rfl (by decide) (by omega) (.slice (some ad1569) x3_1.length co28) x3_1 (bt a0 x4_1) [.int .u8 (bt a0 x4_1)] (fun _ => True) (fun _ => False) rfl rfl ?aP (fun _ hk => hk.elim) ?aF ?aO ?aB ?aS ?aL ?_; (case aP => exact rfl); (case aB => exact (by repeat (first | (with_reducible first | exact HB.out | apply below_alloc | apply pw_below_drewN | apply below_drew1) | exact HB.out))); (case aF => exact (fun _ _ => trivial)); (case aO => exact (by (with_reducible repeat (first | apply Kd.R_alloc | apply Kd.R_drewN | apply Kd.R_drew)); exact HO_3.out)); (case aS => exact (below_size (by repeat (first | (with_reducible first | exact HB.out | apply below_alloc | apply pw_below_drewN | apply below_drew1) | exact HB.out)))); (case aL => have := LMc27.out; omega); intro v1571 w29 ho hb hg hat; rw [← Ny1570.out] at ho; have n0_ := Aside0.mk (hb); have n1_ := Aside0.mk (ho); clear HB; clear HO_3; have HB := n0_; have HO1572 := n1_; clear n0_ n1_; clear ho hb hg hat))
                            go_roundg kj4
                            case measure => have := HK1.out; have := HJ4.out; omega
                            case rel => exact ⟨(y1570), (wrap64 (x4_1 + 1)), (by first | rfl | (simp; done) | (simp [*]; done)), H', ⟨by have := HK1.out; have := HJ4.out; omega⟩, ⟨by (with_reducible repeat (first | apply Kd.R_alloc | apply Kd.R_drewN | apply Kd.R_drew)); exact HO1572.out⟩, ⟨by repeat (first | (with_reducible first | exact HB.out | apply below_alloc | apply pw_below_drewN | apply below_drew1) | exact HB.out)⟩⟩
                          · rw [if_neg c27] at H
                            exact absurd H (by simp)
                      · rw [if_neg c24] at H
                        exact absurd H (by simp)
                    · rw [if_neg c23] at H
                      exact absurd H (by simp)
                · rw [if_neg c20] at H
                  have c20b0 : ((bt a0 x4_1) == 32) = false := beq_eq_false_iff_ne.mpr c20
                  have c20b1 : ((bt a0 x4_1) != 32) = true := bne_iff_ne.mpr c20
                  by_cases c30 : x3_1.length < 140737488355328
                  · rw [if_pos c30] at H
                    have LMc30 := Aside0.mk c30
                    clear c30
                    obtain ⟨y1573, hy1573⟩ : ∃ y_ : List Int, y_ = (x3_1 ++ [(bt a0 x4_1)]) := ⟨_, rfl⟩
                    replace H : (chirographref06_Fold.l0 kj4 a0 y1573 (wrap64 (x4_1 + 1))) = some r := by first | (rw [hy1573]; with_reducible exact H) | (have H2_ := (Option.bind_some _ _).symm.trans H; rw [hy1573]; with_reducible exact H2_) | (have H2_ := (Option.bind_some _ _).symm.trans H; with_reducible exact H2_) | with_reducible exact H | (rw [hy1573]; exact H) | exact H
                    have Ny1573 := Aside0.mk hy1573
                    clear hy1573
                    have H' := Aside0.mk H
                    clear H
                    go_wp2_with (first | ((with_reducible refine gate_builtin (b := .append) (xs := #[.tmp 39, .tmp 41]) rfl ?_); (try (refine gate_guard (by rfl) ?_; dsimp only)); at_builtin; refine Kd.R_append (Kd.int .u8) (w0 := w) w.heap.size rfl (.tmp 39) (.tmp 41) 22 5 (.int .u8 0) 1 rfl Tryz.underlying22 info5 rfl (by decide) (by omega) u3 x3_1 (bt a0 x4_1) [.int .u8 (bt a0 x4_1)] (fun _ => True) (fun _ => False) rfl rfl ?aP (fun _ hk => hk.elim) ?aF ?aO ?aB ?aS ?aL ?_; (case aP => exact rfl); (case aB => exact (by repeat (first | (with_reducible first | exact HB.out | apply below_alloc | apply pw_below_drewN | apply below_drew1) | exact HB.out))); (case aF => exact (fun _ _ => trivial)); (case aO => exact (by (with_reducible repeat (first | apply Kd.R_alloc | apply Kd.R_drewN | apply Kd.R_drew)); exact HO_3.out)); (case aS => exact (below_size (by repeat (first | (with_reducible first | exact HB.out | apply below_alloc | apply pw_below_drewN | apply below_drew1) | exact HB.out)))); (case aL => have := LMc30.out; omega); intro v1574 w31 ho hb hg hat; rw [← Ny1573.out] at ho; have n0_ := Aside0.mk (hb); have n1_ := Aside0.mk (ho); clear HB; clear HO_3; have HB := n0_; have HO1575 := n1_; clear n0_ n1_; clear ho hb hg hat))
                    go_roundg kj4
                    case measure => have := HK1.out; have := HJ4.out; omega
                    case rel => exact ⟨(y1573), (wrap64 (x4_1 + 1)), (by first | rfl | (simp; done) | (simp [*]; done)), H', ⟨by have := HK1.out; have := HJ4.out; omega⟩, ⟨by (with_reducible repeat (first | apply Kd.R_alloc | apply Kd.R_drewN | apply Kd.R_drew)); exact HO1575.out⟩, ⟨by repeat (first | (with_reducible first | exact HB.out | apply below_alloc | apply pw_below_drewN | apply below_drew1) | exact HB.out)⟩⟩
                  · rw [if_neg c30] at H
                    exact absurd H (by simp)
        · rw [if_neg c3] at H
          exact absurd H (by simp)
      · rw [if_neg c2] at H
        have c2b0 : decide (x4_1 < (a0.size : Int)) = false := decide_eq_false c2
        clear c2
        by_cases c32 : (x3_1.length : Int) > 0
        · rw [if_pos c32] at H
          have c32b0 : decide (0 < (x3_1.length : Int)) = true := decide_eq_true c32
          have c32b1 : decide (0 < x3_1.length) = true := decide_eq_true (by omega)
          clear c32
          by_cases c33 : 0 ≤ (wrap64 ((x3_1.length : Int) - 1))
          · rw [if_pos c33] at H
            have c33b0 : decide (0 ≤ (wrap64 ((x3_1.length : Int) - 1))) = true := decide_eq_true c33
            clear c33
            by_cases c34 : (wrap64 ((x3_1.length : Int) - 1)) < (x3_1.length : Int)
            · rw [if_pos c34] at H
              have c34b0 : decide ((wrap64 ((x3_1.length : Int) - 1)) < (x3_1.length : Int)) = true := decide_eq_true c34
              clear c34
              by_cases c35 : (rd x3_1 (wrap64 ((x3_1.length : Int) - 1))) = 32
              · rw [if_pos c35] at H
                have c35b0 : ((rd x3_1 (wrap64 ((x3_1.length : Int) - 1))) == 32) = true := beq_iff_eq.mpr c35
                have c35b1 : ((rd x3_1 (wrap64 ((x3_1.length : Int) - 1))) != 32) = false := bne_eq_false_iff_eq.mpr c35
                clear c35
                by_cases c36 : (wrap64 ((x3_1.length : Int) - 1)) ≤ (x3_1.length : Int)
                · rw [if_pos c36] at H
                  have c36b0 := eq_true c36
                  have c36b1 : decide ((wrap64 ((x3_1.length : Int) - 1)) ≤ (x3_1.length : Int)) = true := decide_eq_true c36
                  clear c36
                  obtain ⟨y1559, hy1559⟩ : ∃ y_ : List Int, y_ = (x3_1.take ((wrap64 ((x3_1.length : Int) - 1)) : Int).toNat) := ⟨_, rfl⟩
                  replace H : (some (strOfNums y1559)) = some r := by first | (rw [hy1559]; with_reducible exact H) | (have H2_ := (Option.bind_some _ _).symm.trans H; rw [hy1559]; with_reducible exact H2_) | (have H2_ := (Option.bind_some _ _).symm.trans H; with_reducible exact H2_) | with_reducible exact H | (rw [hy1559]; exact H) | exact H
                  have Ny1559 := Aside0.mk hy1559
                  clear hy1559
                  obtain rfl := Option.some.inj H
                  obtain ⟨Ao37, co37, eo37⟩ := Kd.R_slice HO_3.out
                  subst eo37
                  have p1558 : 0 ≤ ((wrap64 ((x3_1.length : Int) - 1)) : Int) := of_decide_eq_true (by first | (with_reducible assumption) | assumption)
                  have q1558 : (wrap64 ((x3_1.length : Int) - 1)) < (x3_1.length : Int) := of_decide_eq_true (by first | (with_reducible assumption) | assumption)
                  obtain ⟨ad1558, e1558, hx1558_0⟩ := Kd.at_int (Kd.R_reads' HO_3.out).2.2 (wrap64 ((x3_1.length : Int) - 1)) p1558 q1558
                  cases e1558
                  replace p1558 := eq_true p1558
                  replace q1558 := eq_true q1558
                  have q38 : ((wrap64 ((x3_1.length : Int) - 1)) : Int) ≤ ((x3_1.length : Int) : Int) := of_decide_eq_true (by first | (with_reducible assumption) | assumption)
                  obtain ⟨i038, hi038, _, hsz38, _⟩ := info_parts info5
                  have hcut38 := cut_to (P := Tryz.prog) 22 5 .i64 Tryz.underlying22 hi038 (some ad1558) x3_1.length co37 (wrap64 ((x3_1.length : Int) - 1)) (of_decide_eq_true (by first | (with_reducible assumption) | assumption)) q38 (Kd.R_reads' HO_3.out).2.1
                  have hr38 := Kd.R_take (m := ((wrap64 ((x3_1.length : Int) - 1)) : Int).toNat) HO_3.out (by omega)
                  have hy38 : y1559.length = ((wrap64 ((x3_1.length : Int) - 1)) : Int).toNat := (by rw [Ny1559.out, List.length_take]; omega)
                  rw [← Ny1559.out] at hr38
                  rw [← hy38] at hr38 hcut38
                  clear hy38 hi038 hsz38 HO_3
                  have HO1561 := Aside0.mk hr38
                  clear hr38
                  replace q38 := eq_true q38
                  have hcv39 := own_string (P := Tryz.prog) Tryz.underlying22 Tryz.underlying5 Tryz.underlying9 (Kd.own_of_R HO1561.out)
                  go_wp2
                  go_ret
                  exact ⟨by first | rfl | (simp [errW_none, errW_some] <;> rfl) | (simp [*, errW_none, errW_some] <;> rfl), by repeat (first | (with_reducible first | exact HB.out | apply below_alloc | apply pw_below_drewN | apply below_drew1) | exact HB.out)⟩
                · rw [if_neg c36] at H
                  exact absurd H (by simp)
              · rw [if_neg c35] at H
                have c35b0 : ((rd x3_1 (wrap64 ((x3_1.length : Int) - 1))) == 32) = false := beq_eq_false_iff_ne.mpr c35
                have c35b1 : ((rd x3_1 (wrap64 ((x3_1.length : Int) - 1))) != 32) = true := bne_iff_ne.mpr c35
                obtain rfl := Option.some.inj H
                obtain ⟨Ao40, co40, eo40⟩ := Kd.R_slice HO_3.out
                subst eo40
                have p1558 : 0 ≤ ((wrap64 ((x3_1.length : Int) - 1)) : Int) := of_decide_eq_true (by first | (with_reducible assumption) | assumption)
                have q1558 : (wrap64 ((x3_1.length : Int) - 1)) < (x3_1.length : Int) := of_decide_eq_true (by first | (with_reducible assumption) | assumption)
                obtain ⟨ad1558, e1558, hx1558_0⟩ := Kd.at_int (Kd.R_reads' HO_3.out).2.2 (wrap64 ((x3_1.length : Int) - 1)) p1558 q1558
                cases e1558
                replace p1558 := eq_true p1558
                replace q1558 := eq_true q1558
                have hcv41 := own_string (P := Tryz.prog) Tryz.underlying22 Tryz.underlying5 Tryz.underlying9 (Kd.own_of_R HO_3.out)
                go_wp2
                go_ret
                exact ⟨by first | rfl | (simp [errW_none, errW_some] <;> rfl) | (simp [*, errW_none, errW_some] <;> rfl), by repeat (first | (with_reducible first | exact HB.out | apply below_alloc | apply pw_below_drewN | apply below_drew1) | exact HB.out)⟩
            · rw [if_neg c34] at H
              exact absurd H (by simp)
          · rw [if_neg c33] at H
            exact absurd H (by simp)
        · rw [if_neg c32] at H
          have c32b0 : decide (0 < (x3_1.length : Int)) = false := decide_eq_false c32
          have c32b1 : decide (0 < x3_1.length) = false := decide_eq_false (by omega)
          clear c32
          obtain rfl := Option.some.inj H
          obtain ⟨Ao42, co42, eo42⟩ := Kd.R_slice HO_3.out
          subst eo42
          have hcv43 := own_string (P := Tryz.prog) Tryz.underlying22 Tryz.underlying5 Tryz.underlying9 (Kd.own_of_R HO_3.out)
          go_wp2
          go_ret
          exact ⟨by first | rfl | (simp [errW_none, errW_some] <;> rfl) | (simp [*, errW_none, errW_some] <;> rfl), by repeat (first | (with_reducible first | exact HB.out | apply below_alloc | apply pw_below_drewN | apply below_drew1) | exact HB.out)⟩
end Go.Proofs.YtkioddjjfifadaaGreatDoor.P
namespace Go.Proofs.YtkioddjjfifadaaGreatDoor.P
open Go.RowKit Go.Proofs.YtkioddjjfifadaaGreatDoorW.PrintWords Go.Proofs.YtkioddjjfifadaaGreatDoorW.PrintLast Go.Proofs.YtkioddjjfifadaaGreatDoorW.PrintMore
attribute [local go_sem] max2_int min2_int max_two min_two max_three min_three max_four min_four   -- for this text's walks alone
set_option linter.unusedVariables false
set_option linter.unusedSimpArgs false
def chirographref06_Key.f (k : Nat) (a0 : Int) (l1 : List Int) : Option (ByteArray) := (chirographref06_Text.f k a0 l1).bind fun bt1576 => (if bt1576.2 = 0 then ((chirographref06_Fold.f k bt1576.1).bind fun t1578 => (if 1 + t1578.size ≤ 9223372036854775807 then (some ((⟨#[61]⟩ : ByteArray) ++ t1578)) else (none))) else ((chirographref06_digits.f k a0).bind fun t1579 => (if 1 + t1579.size ≤ 9223372036854775807 then (if ((⟨#[35]⟩ : ByteArray) ++ t1579).size + 1 ≤ 9223372036854775807 then (if (((⟨#[35]⟩ : ByteArray) ++ t1579) ++ (⟨#[58]⟩ : ByteArray)).size + (strOfNums l1).size ≤ 9223372036854775807 then (some ((((⟨#[35]⟩ : ByteArray) ++ t1579) ++ (⟨#[58]⟩ : ByteArray)) ++ (strOfNums l1))) else (none)) else (none)) else (none))))
def chirographref06_Key.T3 : Bool × List (List Nat × List Nat) := (true, [([], []), ([0], [0]), ([1], [1]), ([2], [2]), ([], []), ([4], [4]), ([3, 5], [3, 5]), ([6, 1, 0, 1, 2, 3, 4, 5, 6], [6])])
def chirographref06_Key.B3 : List Nat := [0, 1, 3, 7, 0, 16, 63, 127]
theorem chirographref06_Key.tab3 : rtab .any (opsOf Tryz.f182 3) = chirographref06_Key.T3 := by kernel_rfl
theorem chirographref06_Key.bits3 : waitsOk chirographref06_Key.T3.2 chirographref06_Key.B3 = true := by kernel_rfl
set_option maxHeartbeats 8000000 in
set_option maxRecDepth 100000 in
theorem chirographref06_Key.calls (k : Nat) (a0 : Int) (A1 : Option Addr) (c1 : Nat) (l1 : List Int) (r : ByteArray) (w : World) (hr1 : Kd.C (Kd.int .u8) w A1 l1.length l1) (hc1 : l1.length ≤ c1) (h : chirographref06_Key.f k a0 l1 = some r) :
    Calls Tryz.prog 182 #[.int .i64 a0, .slice A1 l1.length c1] w fun e w' => e = .returned (.string r) ∧ Below w.heap.size w w' := by
  have HR1 := Aside0.mk hr1
  have HC1 := Aside0.mk hc1
  clear hr1 hc1
  have HB := Aside0.mk (Below.refl w.heap.size w)
  have H : ((chirographref06_Text.f k a0 l1).bind fun bt1576 => (if bt1576.2 = 0 then ((chirographref06_Fold.f k bt1576.1).bind fun t1578 => (if 1 + t1578.size ≤ 9223372036854775807 then (some ((⟨#[61]⟩ : ByteArray) ++ t1578)) else (none))) else ((chirographref06_digits.f k a0).bind fun t1579 => (if 1 + t1579.size ≤ 9223372036854775807 then (if ((⟨#[35]⟩ : ByteArray) ++ t1579).size + 1 ≤ 9223372036854775807 then (if (((⟨#[35]⟩ : ByteArray) ++ t1579) ++ (⟨#[58]⟩ : ByteArray)).size + (strOfNums l1).size ≤ 9223372036854775807 then (some ((((⟨#[35]⟩ : ByteArray) ++ t1579) ++ (⟨#[58]⟩ : ByteArray)) ++ (strOfNums l1))) else (none)) else (none)) else (none))))) = some r := h
  clear h
  replace H := Option.bind_eq_some_iff.mp H
  obtain ⟨⟨t1576, t1577⟩, A30, H⟩ := H
  replace H : (if t1577 = 0 then ((chirographref06_Fold.f k t1576).bind fun t1578 => (if 1 + t1578.size ≤ 9223372036854775807 then (some ((⟨#[61]⟩ : ByteArray) ++ t1578)) else (none))) else ((chirographref06_digits.f k a0).bind fun t1579 => (if 1 + t1579.size ≤ 9223372036854775807 then (if ((⟨#[35]⟩ : ByteArray) ++ t1579).size + 1 ≤ 9223372036854775807 then (if (((⟨#[35]⟩ : ByteArray) ++ t1579) ++ (⟨#[58]⟩ : ByteArray)).size + (strOfNums l1).size ≤ 9223372036854775807 then (some ((((⟨#[35]⟩ : ByteArray) ++ t1579) ++ (⟨#[58]⟩ : ByteArray)) ++ (strOfNums l1))) else (none)) else (none)) else (none)))) = some r := H
  have A3 := Aside0.mk A30
  clear A30
  by_cases c4 : t1577 = 0
  · rw [if_pos c4] at H
    have c4b0 : (t1577 == 0) = true := beq_iff_eq.mpr c4
    have c4b1 : (t1577 != 0) = false := bne_eq_false_iff_eq.mpr c4
    clear c4
    replace H := Option.bind_eq_some_iff.mp H
    obtain ⟨t1578, A50, H⟩ := H
    replace H : (if 1 + t1578.size ≤ 9223372036854775807 then (some ((⟨#[61]⟩ : ByteArray) ++ t1578)) else (none)) = some r := H
    have A5 := Aside0.mk A50
    clear A50
    by_cases c6 : 1 + t1578.size ≤ 9223372036854775807
    · rw [if_pos c6] at H
      have c6b0 := eq_true c6
      have c6b1 : decide (1 + t1578.size ≤ 9223372036854775807) = true := decide_eq_true c6
      try have c6b2 : (9223372036854775807 < 1 + t1578.size) = False := eq_false (Nat.not_lt.2 c6)
      obtain rfl := Option.some.inj H
      go_enter Tryz.func182, Tryz.ntmps182
      go_wp2_with (first | ((with_reducible refine gate_callee (f := 156) rfl ?_); refine goesL_ (some 10) rfl rfl Tryz.func156 (by kernel_rfl) rfl #[.int .i64 a0, .slice A1 l1.length c1] rfl (by (try simp only [List.map_toArray, List.map_cons, List.map_nil]); first | done | rfl | (simp only [List.length_drop, List.length_take]; rfl)) ?_; (with_reducible refine (chirographref06_Text.calls k a0 _ _ l1 t1576 t1577 _ ?side1 ?side2 A3.out).mono ?_); (case side1 => repeat (first | exact HR1.out | (with_reducible refine Kd.C_alloc ?_ _) | (with_reducible refine Kd.C_drewN ?_ _) | (with_reducible refine Kd.C_drew ?_))); (case side2 => exact HC1.out); rintro e w7 ⟨rfl, hb⟩; refine ⟨_, rfl, ?_⟩; have n0_ := Aside0.mk (below_step (by repeat (first | (with_reducible first | exact HB.out | apply below_alloc | apply pw_below_drewN | apply below_drew1) | exact HB.out)) hb); clear HB; have HB := n0_; clear n0_; (try clear hb); (try clear hb2); (try clear hk); (try clear hi)) | ((with_reducible refine gate_callee (f := 230) rfl ?_); refine goesL_ (some 23) rfl rfl Tryz.func230 (by kernel_rfl) rfl #[.string t1576] rfl (by (try simp only [List.map_toArray, List.map_cons, List.map_nil]); first | done | rfl | (simp only [List.length_drop, List.length_take]; rfl)) ?_; (with_reducible refine (chirographref06_Fold.calls k t1576 t1578 _ A5.out).mono ?_); rintro e w8 ⟨rfl, hb⟩; refine ⟨_, rfl, ?_⟩; have n0_ := Aside0.mk (below_step (by repeat (first | (with_reducible first | exact HB.out | apply below_alloc | apply pw_below_drewN | apply below_drew1) | exact HB.out)) hb); clear HB; have HB := n0_; clear n0_; (try clear hb); (try clear hb2); (try clear hk); (try clear hi)))
      go_ret
      exact ⟨by first | rfl | (simp [errW_none, errW_some] <;> rfl) | (simp [*, errW_none, errW_some] <;> rfl), by repeat (first | (with_reducible first | exact HB.out | apply below_alloc | apply pw_below_drewN | apply below_drew1) | exact HB.out)⟩
    · rw [if_neg c6] at H
      exact absurd H (by simp)
  · rw [if_neg c4] at H
    have c4b0 : (t1577 == 0) = false := beq_eq_false_iff_ne.mpr c4
    have c4b1 : (t1577 != 0) = true := bne_iff_ne.mpr c4
    replace H := Option.bind_eq_some_iff.mp H
    obtain ⟨t1579, A90, H⟩ := H
    replace H : (if 1 + t1579.size ≤ 9223372036854775807 then (if ((⟨#[35]⟩ : ByteArray) ++ t1579).size + 1 ≤ 9223372036854775807 then (if (((⟨#[35]⟩ : ByteArray) ++ t1579) ++ (⟨#[58]⟩ : ByteArray)).size + (strOfNums l1).size ≤ 9223372036854775807 then (some ((((⟨#[35]⟩ : ByteArray) ++ t1579) ++ (⟨#[58]⟩ : ByteArray)) ++ (strOfNums l1))) else (none)) else (none)) else (none)) = some r := H
    have A9 := Aside0.mk A90
    clear A90
    by_cases c10 : 1 + t1579.size ≤ 9223372036854775807
    · rw [if_pos c10] at H
      have c10b0 := eq_true c10
      have c10b1 : decide (1 + t1579.size ≤ 9223372036854775807) = true := decide_eq_true c10
      try have c10b2 : (9223372036854775807 < 1 + t1579.size) = False := eq_false (Nat.not_lt.2 c10)
      by_cases c11 : ((⟨#[35]⟩ : ByteArray) ++ t1579).size + 1 ≤ 9223372036854775807
      · rw [if_pos c11] at H
        have c11b0 := eq_true c11
        have c11b1 : decide (((⟨#[35]⟩ : ByteArray) ++ t1579).size + 1 ≤ 9223372036854775807) = true := decide_eq_true c11
        try have c11b2 : (9223372036854775807 < ((⟨#[35]⟩ : ByteArray) ++ t1579).size + 1) = False := eq_false (Nat.not_lt.2 c11)
        by_cases c12 : (((⟨#[35]⟩ : ByteArray) ++ t1579) ++ (⟨#[58]⟩ : ByteArray)).size + (strOfNums l1).size ≤ 9223372036854775807
        · rw [if_pos c12] at H
          have c12b0 := eq_true c12
          have c12b1 : decide ((((⟨#[35]⟩ : ByteArray) ++ t1579) ++ (⟨#[58]⟩ : ByteArray)).size + (strOfNums l1).size ≤ 9223372036854775807) = true := decide_eq_true c12
          try have c12b2 : (9223372036854775807 < (((⟨#[35]⟩ : ByteArray) ++ t1579) ++ (⟨#[58]⟩ : ByteArray)).size + (strOfNums l1).size) = False := eq_false (Nat.not_lt.2 c12)
          have z1 : ((⟨#[35]⟩ : ByteArray) ++ t1579).size = 1 + t1579.size := by rw [ByteArray.size_append]; rfl
          have z2 : (⟨#[58]⟩ : ByteArray).size = 1 := rfl
          have y1 : (9223372036854775807 < 1 + t1579.size + 1) = False := eq_false (by rw [z1] at c11; omega)
          have y2 : (9223372036854775807 < 1 + t1579.size + 1 + (strOfNums l1).size) = False := eq_false (by rw [ByteArray.size_append, z1, z2] at c12; omega)
          clear z1 z2
          obtain rfl := Option.some.inj H
          go_enter Tryz.func182, Tryz.ntmps182
          try go_wp2_with (first | ((with_reducible refine gate_callee (f := 156) rfl ?_); refine goesL_ (some 10) rfl rfl Tryz.func156 (by kernel_rfl) rfl #[.int .i64 a0, .slice A1 l1.length c1] rfl (by (try simp only [List.map_toArray, List.map_cons, List.map_nil]); first | done | rfl | (simp only [List.length_drop, List.length_take]; rfl)) ?_; (with_reducible refine (chirographref06_Text.calls k a0 _ _ l1 t1576 t1577 _ ?side1 ?side2 A3.out).mono ?_); (case side1 => repeat (first | exact HR1.out | (with_reducible refine Kd.C_alloc ?_ _) | (with_reducible refine Kd.C_drewN ?_ _) | (with_reducible refine Kd.C_drew ?_))); (case side2 => exact HC1.out); rintro e w13 ⟨rfl, hb⟩; refine ⟨_, rfl, ?_⟩; have n0_ := Aside0.mk (below_step (by repeat (first | (with_reducible first | exact HB.out | apply below_alloc | apply pw_below_drewN | apply below_drew1) | exact HB.out)) hb); clear HB; have HB := n0_; clear n0_; (try clear hb); (try clear hb2); (try clear hk); (try clear hi)))
          have n0_ := Aside0.mk (below_drew1 HB.out)
          clear HB
          have HB := n0_
          clear n0_
          refine start_ (n := 8) (S := fun w' => (Kd.int .u8).C w' A1 l1.length l1) (ds := []) #[false, false, false, false, false, false, false, false] (by kernel_rfl) rfl rfl (Kd.C_below HR1.out HB.out) (fun hHeld => ?_); refine with_tabW chirographref06_Key.tab3 chirographref06_Key.bits3 (fun HT_ HW_ => ?_)
          generalize w13.drew = w14 at HB hHeld ⊢
          refine pure_ (i := 0) (N := some 15) (v := ?_) (a' := ?_) #[true, false, false, false, false, false, false, false] rfl rfl (any_of HT_.out (by kernel_rfl)) (fun _ _ _ h => h) (Or.inl ⟨by rfl, ?_⟩) ?_ ?_; rotate_left; (intro w'; go_simp; with_reducible rfl); rotate_left; (simp only [Act.put, List.setIfInBounds_toArray, List.set_cons_zero, List.set_cons_succ, i64_w, i32_w]; rfl)
          refine pure_ (i := 4) (N := some 19) (v := ?_) (a' := ?_) #[true, false, false, false, true, false, false, false] rfl rfl (any_of HT_.out (by kernel_rfl)) (fun _ _ _ h => h) (Or.inl ⟨by rfl, ?_⟩) ?_ ?_; rotate_left; (intro w'; go_simp; with_reducible rfl); rotate_left; (simp only [Act.put, List.setIfInBounds_toArray, List.set_cons_zero, List.set_cons_succ, i64_w, i32_w]; rfl)
          refine take_ (i := 5) (N := some 20) (v := .string (strOfNums l1)) (a' := ?_) #[true, false, false, false, true, true, false, false] rfl rfl (take_ofW HT_.out HW_.out (by kernel_rfl)) (fun _ _ _ h => h) (Or.inl ⟨by rfl, ?_⟩) hHeld ?_ ?_
          · intro w' hw'
            have hcv := Kd.C_string (P := Tryz.prog) (A := A1) (c := c1) Tryz.underlying22 Tryz.underlying5 Tryz.underlying9 hw'
            go_simp
          rotate_left
          · simp only [Act.put, List.setIfInBounds_toArray, List.set_cons_zero, List.set_cons_succ, i64_w, i32_w]
            rfl
          refine one_ (i := 1) (N := some 16) #[true, true, false, false, true, true, false, false] rfl rfl (one_of HT_.out (by kernel_rfl)) (by decide) (fun K hK => ?_)
          refine goes_ Tryz.func229 (by kernel_rfl) rfl #[.int .i64 a0] (by rfl) rfl rfl (by (try simp only [List.map_toArray, List.map_cons, List.map_nil]); first | done | rfl | (simp only [List.length_drop, List.length_take]; rfl)) ?_
          with_reducible refine (chirographref06_digits.calls k a0 t1579 _ A9.out).mono ?_
          rintro e w15 ⟨rfl, hb⟩
          refine ⟨_, rfl, ?_⟩
          have n0_ := Aside0.mk (below_step (by repeat (first | (with_reducible first | exact HB.out | apply below_alloc | apply pw_below_drewN | apply below_drew1) | exact HB.out)) hb)
          clear HB
          have HB := n0_
          clear n0_
          (try clear hb)
          (try clear hb2)
          (try clear hk)
          (try clear hi)
          have hcv16 := Kd.C_string (P := Tryz.prog) (A := A1) (c := c1) Tryz.underlying22 Tryz.underlying5 Tryz.underlying9 (Kd.C_below HR1.out HB.out)
          refine hK.out _ _ (Kd.C_below HR1.out HB.out) (fun hHeld => ?_)
          clear hK K
          refine norm_ (a' := ?_) ?_ ?_; rotate_left; (show Act.put _ (some 16) _ = _; simp only [Act.put, List.setIfInBounds_toArray, List.set_cons_zero, List.set_cons_succ, i64_w, i32_w]; rfl)
          refine pure_ (i := 2) (N := some 17) (v := ?_) (a' := ?_) #[true, true, true, false, true, true, false, false] rfl rfl (any_of HT_.out (by kernel_rfl)) (fun _ _ _ h => h) (Or.inl ⟨by rfl, ?_⟩) ?_ ?_; rotate_left; (intro w'; go_simp; with_reducible rfl); rotate_left; (simp only [Act.put, List.setIfInBounds_toArray, List.set_cons_zero, List.set_cons_succ, i64_w, i32_w]; rfl)
          refine pure_ (i := 3) (N := some 18) (v := ?_) (a' := ?_) #[true, true, true, true, true, true, false, false] rfl rfl (any_of HT_.out (by kernel_rfl)) (fun _ _ _ h => h) (Or.inl ⟨by rfl, ?_⟩) ?_ ?_; rotate_left; (intro w'; go_simp; with_reducible rfl); rotate_left; (simp only [Act.put, List.setIfInBounds_toArray, List.set_cons_zero, List.set_cons_succ, i64_w, i32_w]; rfl)
          refine pure_ (i := 6) (N := some 21) (v := ?_) (a' := ?_) #[true, true, true, true, true, true, true, false] rfl rfl (any_of HT_.out (by kernel_rfl)) (fun _ _ _ h => h) (Or.inl ⟨by rfl, ?_⟩) ?_ ?_; rotate_left; (intro w'; go_simp; with_reducible rfl); rotate_left; (simp only [Act.put, List.setIfInBounds_toArray, List.set_cons_zero, List.set_cons_succ, i64_w, i32_w]; rfl)
          refine pure_ (i := 7) (N := some 4) (v := ?_) (a' := ?_) #[true, true, true, true, true, true, true, true] rfl rfl (any_of HT_.out (by kernel_rfl)) (fun _ _ _ h => h) (Or.inl ⟨by rfl, ?_⟩) ?_ ?_; rotate_left; (intro w'; go_simp; with_reducible rfl); rotate_left; (simp only [Act.put, List.setIfInBounds_toArray, List.set_cons_zero, List.set_cons_succ, i64_w, i32_w]; rfl)
          refine done_ (done_of HT_.out (by kernel_rfl)) ?_
          try go_wp2
          go_ret
          exact ⟨by first | rfl | (simp [errW_none, errW_some] <;> rfl) | (simp [*, errW_none, errW_some] <;> rfl), by repeat (first | (with_reducible first | exact HB.out | apply below_alloc | apply pw_below_drewN | apply below_drew1) | exact HB.out)⟩
        · rw [if_neg c12] at H
          exact absurd H (by simp)
      · rw [if_neg c11] at H
        exact absurd H (by simp)
    · rw [if_neg c10] at H
      exact absurd H (by simp)
end Go.Proofs.YtkioddjjfifadaaGreatDoor.P
namespace Go.Proofs.YtkioddjjfifadaaGreatDoor.P
open Go.RowKit Go.Proofs.YtkioddjjfifadaaGreatDoorW.PrintWords Go.Proofs.YtkioddjjfifadaaGreatDoorW.PrintLast Go.Proofs.YtkioddjjfifadaaGreatDoorW.PrintMore
attribute [local go_sem] max2_int min2_int max_two min_two max_three min_three max_four min_four   -- for this text's walks alone
set_option linter.unusedVariables false
set_option linter.unusedSimpArgs false
def chirographref04_Decimal.l0 : Nat → Int → ByteArray → Option (ByteArray)
  | 0, _, _ => none
  | k + 1, x0, x3 => if x0 > 9 then ((some (([(wrap64 (48 + (Int.tmod x0 10))) % 256] : List Int) : List Int)).bind fun y889 => (if (strOfNums y889).size + x3.size ≤ 9223372036854775807 then (chirographref04_Decimal.l0 k (wrap64 (Int.tdiv x0 10)) ((strOfNums y889) ++ x3)) else (none))) else ((some (([(wrap64 (48 + x0)) % 256] : List Int) : List Int)).bind fun y892 => (if (strOfNums y892).size + x3.size ≤ 9223372036854775807 then (some ((strOfNums y892) ++ x3)) else (none)))
def chirographref04_Decimal.f (k : Nat) (a0 : Int) : Option (ByteArray) := chirographref04_Decimal.l0 k a0 (⟨#[]⟩ : ByteArray)
set_option maxHeartbeats 8000000 in
set_option maxRecDepth 100000 in
theorem chirographref04_Decimal.calls (k : Nat) (a0 : Int) (r : ByteArray) (w : World) (h : chirographref04_Decimal.f k a0 = some r) :
    Calls Tryz.prog 183 #[.int .i64 a0] w fun e w' => e = .returned (.string r) ∧ Below w.heap.size w w' := by
  have HB := Aside0.mk (Below.refl w.heap.size w)
  have H : (chirographref04_Decimal.l0 k a0 (⟨#[]⟩ : ByteArray)) = some r := h
  clear h
  have H' := Aside0.mk H
  clear H
  go_enter Tryz.func183, Tryz.ntmps183
  go_wp2
  go_loopg [0, 3] k (fun kq v0 v3 w' => ∃ (x0_1 : Int) (x3_1 : ByteArray), v0 = .int .i64 x0_1 ∧ v3 = .string x3_1 ∧ Aside0 (chirographref04_Decimal.l0 kq x0_1 x3_1 = some r) ∧ Aside0 (kq ≤ k) ∧ Aside0 (Below w.heap.size w w'))
  case atStart => exact ⟨(a0), ((⟨#[]⟩ : ByteArray)), (by first | rfl | (simp; done) | (simp [*]; done)), (by first | rfl | (simp; done) | (simp [*]; done)), H', ⟨Nat.le_refl _⟩, ⟨by repeat (first | (with_reducible first | exact HB.out | apply below_alloc | apply pw_below_drewN | apply below_drew1) | exact HB.out)⟩⟩
  case round =>
    clear H'
    try clear c1
    obtain ⟨x0_1, x3_1, rfl, rfl, HA, HK1, HB⟩ := hrel
    cases gk with
    | zero => exact absurd HA.out (by simp [chirographref04_Decimal.l0])
    | succ k1 =>
      have H := HA.out
      clear HA
      simp only [chirographref04_Decimal.l0] at H
      by_cases c2 : x0_1 > 9
      · rw [if_pos c2] at H
        have c2b0 : decide (9 < x0_1) = true := decide_eq_true c2
        clear c2
        obtain ⟨y889, hy889⟩ : ∃ y_ : List Int, y_ = (([(wrap64 (48 + (Int.tmod x0_1 10))) % 256] : List Int)) := ⟨_, rfl⟩
        replace H : (if (strOfNums y889).size + x3_1.size ≤ 9223372036854775807 then (chirographref04_Decimal.l0 k1 (wrap64 (Int.tdiv x0_1 10)) ((strOfNums y889) ++ x3_1)) else (none)) = some r := by first | (rw [hy889]; with_reducible exact H) | (have H2_ := (Option.bind_some _ _).symm.trans H; rw [hy889]; with_reducible exact H2_) | (have H2_ := (Option.bind_some _ _).symm.trans H; with_reducible exact H2_) | with_reducible exact H | (rw [hy889]; exact H) | exact H
        have Ny889 := Aside0.mk hy889
        clear hy889
        by_cases c3 : (strOfNums y889).size + x3_1.size ≤ 9223372036854775807
        · rw [if_pos c3] at H
          have c3b0 := eq_true c3
          have c3b1 : decide ((strOfNums y889).size + x3_1.size ≤ 9223372036854775807) = true := decide_eq_true c3
          try have c3b2 : (9223372036854775807 < (strOfNums y889).size + x3_1.size) = False := eq_false (Nat.not_lt.2 c3)
          have H' := Aside0.mk H
          clear H
          go_wp2_with (first | ((with_reducible refine gate_dst (N := 10) rfl ?_); refine Kd.R_lit (Kd.int .u8) _ 5 ?hg (N := 10) ?hd (xs := ([(wrap64 (48 + (Int.tmod x0_1 10))) % 256] : List Int)) (inner := [.int .u8 ((wrap64 (48 + (Int.tmod x0_1 10))) % 256)]) (ok := fun _ => True) (okp := fun _ => True) ?hr ?hp (fun _ hk => hk) trivial (Below.refl _ _) (Nat.le_refl _) (by simp) ?_; (case hd => rfl); (case hg => rfl); (case hr => first | (go_simp; done) | (go_simp; rfl)); (case hp => exact (Reps.one (show Kd.M (Kd.int .u8) _ _ _ ((wrap64 (48 + (Int.tmod x0_1 10))) % 256) [.int .u8 ((wrap64 (48 + (Int.tmod x0_1 10))) % 256)] from rfl) (Reps.none _ _))); intro v890 w4 ho5 hb hg_ hnew_; clear hg_ hnew_; (first | rw [← Ny889.out] at ho5 | (simp only [Int.reduceToNat] at ho5; rw [← Ny889.out] at ho5)); have n0_ := Aside0.mk (Kd.R_lower ho5 (below_size (by repeat (first | (with_reducible first | exact HB.out | apply below_alloc | apply pw_below_drewN | apply below_drew1) | exact HB.out)))); have n1_ := Aside0.mk (below_step (by repeat (first | (with_reducible first | exact HB.out | apply below_alloc | apply pw_below_drewN | apply below_drew1) | exact HB.out)) hb); clear HB; have HO891 := n0_; have HB := n1_; clear n0_ n1_; clear hb ho5; have hcv6 := own_string (P := Tryz.prog) Tryz.underlying22 Tryz.underlying5 Tryz.underlying9 (Kd.own_of_R HO891.out)))
          go_roundg k1
          case measure => have := HK1.out; omega
          case rel => exact ⟨(wrap64 (Int.tdiv x0_1 10)), ((strOfNums y889) ++ x3_1), (by first | rfl | (simp; done) | (simp [*]; done)), (by first | rfl | (simp; done) | (simp [*]; done)), H', ⟨by have := HK1.out; omega⟩, ⟨by repeat (first | (with_reducible first | exact HB.out | apply below_alloc | apply pw_below_drewN | apply below_drew1) | exact HB.out)⟩⟩
        · rw [if_neg c3] at H
          exact absurd H (by simp)
      · rw [if_neg c2] at H
        have c2b0 : decide (9 < x0_1) = false := decide_eq_false c2
        clear c2
        obtain ⟨y892, hy892⟩ : ∃ y_ : List Int, y_ = (([(wrap64 (48 + x0_1)) % 256] : List Int)) := ⟨_, rfl⟩
        replace H : (if (strOfNums y892).size + x3_1.size ≤ 9223372036854775807 then (some ((strOfNums y892) ++ x3_1)) else (none)) = some r := by first | (rw [hy892]; with_reducible exact H) | (have H2_ := (Option.bind_some _ _).symm.trans H; rw [hy892]; with_reducible exact H2_) | (have H2_ := (Option.bind_some _ _).symm.trans H; with_reducible exact H2_) | with_reducible exact H | (rw [hy892]; exact H) | exact H
        have Ny892 := Aside0.mk hy892
        clear hy892
        by_cases c7 : (strOfNums y892).size + x3_1.size ≤ 9223372036854775807
        · rw [if_pos c7] at H
          have c7b0 := eq_true c7
          have c7b1 : decide ((strOfNums y892).size + x3_1.size ≤ 9223372036854775807) = true := decide_eq_true c7
          try have c7b2 : (9223372036854775807 < (strOfNums y892).size + x3_1.size) = False := eq_false (Nat.not_lt.2 c7)
          obtain rfl := Option.some.inj H
          go_wp2_with (first | ((with_reducible refine gate_dst (N := 19) rfl ?_); refine Kd.R_lit (Kd.int .u8) _ 5 ?hg (N := 19) ?hd (xs := ([(wrap64 (48 + x0_1)) % 256] : List Int)) (inner := [.int .u8 ((wrap64 (48 + x0_1)) % 256)]) (ok := fun _ => True) (okp := fun _ => True) ?hr ?hp (fun _ hk => hk) trivial (Below.refl _ _) (Nat.le_refl _) (by simp) ?_; (case hd => rfl); (case hg => rfl); (case hr => first | (go_simp; done) | (go_simp; rfl)); (case hp => exact (Reps.one (show Kd.M (Kd.int .u8) _ _ _ ((wrap64 (48 + x0_1)) % 256) [.int .u8 ((wrap64 (48 + x0_1)) % 256)] from rfl) (Reps.none _ _))); intro v893 w8 ho9 hb hg_ hnew_; clear hg_ hnew_; (first | rw [← Ny892.out] at ho9 | (simp only [Int.reduceToNat] at ho9; rw [← Ny892.out] at ho9)); have n0_ := Aside0.mk (Kd.R_lower ho9 (below_size (by repeat (first | (with_reducible first | exact HB.out | apply below_alloc | apply pw_below_drewN | apply below_drew1) | exact HB.out)))); have n1_ := Aside0.mk (below_step (by repeat (first | (with_reducible first | exact HB.out | apply below_alloc | apply pw_below_drewN | apply below_drew1) | exact HB.out)) hb); clear HB; have HO894 := n0_; have HB := n1_; clear n0_ n1_; clear hb ho9; have hcv10 := own_string (P := Tryz.prog) Tryz.underlying22 Tryz.underlying5 Tryz.underlying9 (Kd.own_of_R HO894.out)))
          go_ret
          exact ⟨by first | rfl | (simp [errW_none, errW_some] <;> rfl) | (simp [*, errW_none, errW_some] <;> rfl), by repeat (first | (with_reducible first | exact HB.out | apply below_alloc | apply pw_below_drewN | apply below_drew1) | exact HB.out)⟩
        · rw [if_neg c7] at H
          exact absurd H (by simp)
end Go.Proofs.YtkioddjjfifadaaGreatDoor.P
namespace Go.Proofs.YtkioddjjfifadaaGreatDoor.P
open Go.RowKit Go.Proofs.YtkioddjjfifadaaGreatDoorW.PrintWords Go.Proofs.YtkioddjjfifadaaGreatDoorW.PrintLast Go.Proofs.YtkioddjjfifadaaGreatDoorW.PrintMore
theorem keep_blk' {w w1 : World} {g : Nat} {o : Obj} (hb : Below w.heap.size w w1) (h : w.heap[g]? = some o) : w1.heap[g]? = some o := (hb.block g (blk_lt h)).trans h
/-- The bytes of a string just turned into a row: what they are hangs on their block alone. -/
theorem FK_bytes (W : World) (s : ByteArray) (hs : s.size ≤ 9223372036854775807) : Kd.FK (Kd.slice 5 (Kd.int .u8)) (Lib.bytesWorld W 5 s) (fun k => k = W.heap.size) (bytesOf s) [.slice (some ⟨W.heap.size, 0, none⟩) s.size (grownCap W s.size 0 5)] := by
  intro W' hW
  have hlt : W.heap.size < (Lib.bytesWorld W 5 s).heap.size := by rw [Lib.bytesWorld_size]; omega
  have hblk := hW W.heap.size rfl hlt
  refine ⟨some ⟨W.heap.size, 0, none⟩, grownCap W s.size 0 5, by rw [bytesOf_length], by rw [bytesOf_length]; exact grownCap_ge W s.size 0 5, ?_⟩
  rw [bytesOf_length]
  refine Kd.C_of_reads (d := (0 : Int)) ?_
  have h0 := bytes_reads W 5 s hs
  refine ⟨h0.1, h0.2.1, fun hn => ?_⟩
  obtain ⟨ad, e, hc⟩ := h0.2.2 hn
  refine ⟨ad, e, fun j hj => ?_⟩
  have h1 := hc j hj
  cases e
  rw [add_plain] at h1 ⊢
  unfold World.cell? at h1 ⊢
  rw [hblk]
  exact h1
def itemR (k : Nat) (p : S64) : Option ByteArray := (chirographref06_Key.f k p.f1 p.f2).bind fun key => (chirographref04_Decimal.f k (key.size : Int)).bind fun d =>
  if p.f0.size ≤ 1099511627776 ∧ key.size ≤ 1099511627776 ∧ d.size ≤ 1099511627776 then some (((((p.f0 ++ (⟨#[61]⟩ : ByteArray)) ++ d) ++ (⟨#[58]⟩ : ByteArray)) ++ key) ++ (⟨#[59]⟩ : ByteArray)) else none
def itemsR (k : Nat) : List S64 → Option (List (List Int))
  | [] => some []
  | p :: r => (itemR k p).bind fun s => (itemsR k r).bind fun t => some (bytesOf s :: t)
def catB : List (List Int) → ByteArray
  | [] => ⟨#[]⟩
  | y :: r => strOfNums y ++ catB r
def setR (k : Nat) (l : List S64) : Option ByteArray := (itemsR k l).bind fun xs => (chirographref07_sorted.f xs).bind fun ys => some (catB ys ++ (⟨#[47]⟩ : ByteArray))
def keyR (k : Nat) : List (List S64) → Option ByteArray
  | [] => some ⟨#[]⟩
  | s :: r => (setR k s).bind fun m => (keyR k r).bind fun t => some (m ++ t)
def chirographref07_Key.f (k : Nat) (n : List (List S64)) : Option ByteArray := (keyR k n).bind fun r => if r.size ≤ 140737488355328 ∧ n.length ≤ 1000000 ∧ (∀ s ∈ n, s.length ≤ 1000000) then some r else none
def chirographref07_Key.T11 : Bool × List (List Nat × List Nat) := (true, [([], []), ([], []), ([1], [1]), ([2], [2]), ([], []), ([4], [4]), ([5], [5]), ([3, 6], [3, 6]), ([7], [7]), ([], []), ([8, 9], [8, 9]), ([10], [10]), ([11], [11]), ([12], [12]), ([0, 13, 6], [0, 13]), ([14, 14, 0, 1, 2, 3, 4, 5, 6, 7, 8, 9, 10, 11, 12, 13, 14], [0, 14])])
def chirographref07_Key.B11 : List Nat := [0, 0, 2, 6, 0, 16, 48, 126, 254, 0, 1022, 2046, 4094, 8190, 16383, 32767]
theorem chirographref07_Key.tab11 : rtab .any (opsOf Tryz.f133 11) = chirographref07_Key.T11 := by kernel_rfl
theorem chirographref07_Key.bits11 : waitsOk chirographref07_Key.T11.2 chirographref07_Key.B11 = true := by kernel_rfl
set_option maxRecDepth 100000 in
set_option maxHeartbeats 8000000 in
theorem chirographref07_Key.calls (k : Nat) (A0 : Option Addr) (c0 : Nat) (l0 : List (List S64)) (r : ByteArray) (w : World) (hr0 : Kd.C (Kd.slice 64 k64) w A0 l0.length l0) (hc0 : l0.length ≤ c0) (h : chirographref07_Key.f k l0 = some r) :
    Calls Tryz.prog 133 #[.slice A0 l0.length c0] w fun e w' => e = .returned (.string r) ∧ Below w.heap.size w w' := by
  have hu64 := Tryz.underlying64
  unfold chirographref07_Key.f at h
  obtain ⟨R, hkey, h⟩ := Option.bind_eq_some_iff.mp h
  split at h
  case isFalse => cases h
  case isTrue hl =>
  obtain rfl := Option.some.inj h
  have HR0 := Aside0.mk hr0
  have HL := Aside0.mk hl
  have HKEY := Aside0.mk hkey
  clear hr0 hc0 hl hkey h
  go_enter Tryz.func133, Tryz.ntmps133
  go_wp2_with fail
  go_loopg [3, 4] (l0.length + 1) (fun kq v3 v4 w' => ∃ (j : Nat) (acc q : ByteArray), v3 = .string acc ∧ v4 = .int .i64 (j : Int) ∧ Aside0 (j ≤ l0.length ∧ l0.length < kq + j) ∧ Aside0 (keyR k (l0.drop j) = some q) ∧ Aside0 (acc ++ q = R) ∧ Aside0 (Below w.heap.size w w'))
  case atStart => exact ⟨0, ⟨#[]⟩, R, rfl, rfl, ⟨⟨Nat.zero_le _, by omega⟩⟩, ⟨HKEY.out⟩, ⟨ByteArray.empty_append⟩, ⟨Below.refl _ _⟩⟩
  case round =>
    clear HKEY
    obtain ⟨j, acc, q, rfl, rfl, HJ, HQ, HE, HB⟩ := hrel
    cases gk with
    | zero => exact absurd HJ.out (by omega)
    | succ g1 =>
      by_cases hj : j < l0.length
      · have c1 : decide ((j : Int) < (l0.length : Int)) = true := decide_eq_true (by omega)
        have p1 : ((0 : Int) ≤ (j : Int)) = True := eq_true (by omega)
        have q1 : ((j : Int) < (l0.length : Int)) = True := eq_true (by omega)
        obtain ⟨ad, A1, c1', rfl, hx, hl1, hC1⟩ := at_L5 HR0.out (j : Int) (by omega) (by omega)
        rw [Int.toNat_natCast] at hx
        have hd : l0.drop j = rd_L5 l0 (j : Int) :: l0.drop (j + 1) := by
          rw [List.drop_eq_getElem_cons hj]
          show _ = l0.getD (j : Int).toNat [] :: _
          rw [Int.toNat_natCast, List.getD_eq_getElem?_getD, List.getElem?_eq_getElem hj]
          rfl
        have hsl : (rd_L5 l0 (j : Int)).length ≤ 1000000 := HL.out.2.2 _ (by
          show l0.getD (j : Int).toNat [] ∈ l0
          rw [Int.toNat_natCast, List.getD_eq_getElem?_getD, List.getElem?_eq_getElem hj]
          exact List.getElem_mem hj)
        have hq := HQ.out
        rw [hd, keyR] at hq
        obtain ⟨m, hm, hq⟩ := Option.bind_eq_some_iff.mp hq
        obtain ⟨q', ht, hq⟩ := Option.bind_eq_some_iff.mp hq
        have hq' : m ++ q' = q := Option.some.inj hq
        unfold setR at hm
        obtain ⟨XS, hxs, hm⟩ := Option.bind_eq_some_iff.mp hm
        obtain ⟨ys, hys, hm⟩ := Option.bind_eq_some_iff.mp hm
        have hm' : catB ys ++ (⟨#[47]⟩ : ByteArray) = m := Option.some.inj hm
        have HXS := Aside0.mk hxs
        have HYS := Aside0.mk hys
        have HTL := Aside0.mk ht
        have hw3 : wrap64 ((j : Int) + 1) = ((j + 1 : Nat) : Int) := by unfold wrap64; have := HL.out; omega
        have HE2 : Aside0 (((acc ++ catB ys) ++ (⟨#[47]⟩ : ByteArray)) ++ q' = R) := ⟨by rw [← HE.out, ← hq', ← hm', ByteArray.append_assoc, ByteArray.append_assoc, ByteArray.append_assoc]⟩
        have HC1 := Aside0.mk hC1
        have HL1 := Aside0.mk hl1
        have HX := Aside0.mk hx
        have HSL := Aside0.mk hsl
        clear hd hq hm ht hq' hm' hxs hys HQ HE hC1 hl1 hx hsl
        generalize rd_L5 l0 (j : Int) = s at *
        go_wp2_with fail
        go_loopg [5, 6] (s.length + 1) (fun kq v5 v6 w' => ∃ (i : Nat) (xs zs : List (List Int)), v6 = .int .i64 (i : Int) ∧ Aside0 (i ≤ s.length ∧ s.length < kq + i ∧ xs.length = i ∧ s.length ≤ 1000000) ∧ Aside0 (itemsR k (s.drop i) = some zs) ∧ Aside0 (xs ++ zs = XS) ∧ Aside0 (Kd.N (Kd.slice 5 (Kd.int .u8)) 22 w' w.heap.size (fun _ => True) v5 xs) ∧ Aside0 (Below w.heap.size w w'))
        case atStart => exact ⟨0, [], XS, rfl, ⟨⟨Nat.zero_le _, by omega, rfl, HSL.out⟩⟩, HXS, ⟨rfl⟩, ⟨Kd.N_nil _ _ _ _ _⟩, HB⟩
        case round =>
          clear HB HXS
          obtain ⟨i, xs, zs, rfl, HI, HZ, HXZ, HO, HB⟩ := hrel
          have hx := (HB.out.cell (World.block_lt_of_cell? w _ HX.out)).trans HX.out
          cases gk with
          | zero => exact absurd HI.out (by omega)
          | succ g2 =>
            by_cases hi : i < s.length
            · have c2 : decide ((i : Int) < (s.length : Int)) = true := decide_eq_true (by omega)
              have p2 : ((0 : Int) ≤ (i : Int)) = True := eq_true (by omega)
              have q2 : ((i : Int) < (s.length : Int)) = True := eq_true (by omega)
              have hw4 : wrap64 ((i : Int) + 1) = ((i + 1 : Nat) : Int) := by unfold wrap64; have := HI.out; omega
              obtain ⟨ad2, A2, c2', rfl, hx0, hx1, hx2, hl2, hi2⟩ := at_T64 HC1.out (i : Int) (by omega) (by omega)
              rw [Int.toNat_natCast] at hx0 hx1 hx2
              replace hx0 := (HB.out.cell (World.block_lt_of_cell? w _ hx0)).trans hx0
              replace hx1 := (HB.out.cell (World.block_lt_of_cell? w _ hx1)).trans hx1
              replace hx2 := (HB.out.cell (World.block_lt_of_cell? w _ hx2)).trans hx2
              have hd : s.drop i = rd_T64 s (i : Int) :: s.drop (i + 1) := by
                rw [List.drop_eq_getElem_cons hi]
                show _ = s.getD (i : Int).toNat z64 :: _
                rw [Int.toNat_natCast, List.getD_eq_getElem?_getD, List.getElem?_eq_getElem hi]
                rfl
              have hz := HZ.out
              rw [hd, itemsR] at hz
              obtain ⟨it, hit, hz⟩ := Option.bind_eq_some_iff.mp hz
              obtain ⟨zs', hzs, hz⟩ := Option.bind_eq_some_iff.mp hz
              have hz' : bytesOf it :: zs' = zs := Option.some.inj hz
              unfold itemR at hit
              obtain ⟨key, hkey, hit⟩ := Option.bind_eq_some_iff.mp hit
              obtain ⟨d, hdec, hit⟩ := Option.bind_eq_some_iff.mp hit
              split at hit
              case isFalse => cases hit
              case isTrue hsz =>
              have hit' := Option.some.inj hit
              have HKEY := Aside0.mk hkey
              have HDEC := Aside0.mk hdec
              have HZ1 := Aside0.mk hzs
              have HXZ1 : Aside0 ((xs ++ [bytesOf it]) ++ zs' = XS) := ⟨by rw [List.append_assoc, ← HXZ.out, ← hz']; rfl⟩
              have HIT := Aside0.mk hit'
              have HI2 := Aside0.mk hi2
              have HL2 := Aside0.mk hl2
              clear hd hz hit hkey hdec hzs hz' hit' HZ HXZ hi2 hl2
              generalize rd_T64 s (i : Int) = p at *
              have ZZ61 : (⟨#[61]⟩ : ByteArray).size = 1 := rfl
              have ZZ58 : (⟨#[58]⟩ : ByteArray).size = 1 := rfl
              have ZZ59 : (⟨#[59]⟩ : ByteArray).size = 1 := rfl
              have HSZ : Aside0 (it.size ≤ 9223372036854775807) := ⟨by rw [← HIT.out]; simp only [ByteArray.size_append, ZZ61, ZZ58, ZZ59]; omega⟩
              have YY0 : (9223372036854775807 < p.f0.size + 1) = False := eq_false (by omega)
              have YY1 : (9223372036854775807 < p.f0.size + 1 + d.size) = False := eq_false (by omega)
              have YY2 : (9223372036854775807 < p.f0.size + 1 + d.size + 1) = False := eq_false (by omega)
              have YY3 : (9223372036854775807 < p.f0.size + 1 + d.size + 1 + key.size) = False := eq_false (by omega)
              have YY4 : (9223372036854775807 < p.f0.size + 1 + d.size + 1 + key.size + 1) = False := eq_false (by omega)
              clear ZZ61 ZZ58 ZZ59 hsz
              go_wp2_with fail
              refine (chirographref06_Key.calls k p.f1 A2 c2' p.f2 key _ (Kd.C_below HI2.out (below_alloc HB.out _)) HL2.out HKEY.out).mono ?_
              rintro e w3 ⟨rfl, hb⟩
              have HB3 := Aside0.mk (below_step (below_alloc HB.out (.cells #[.string p.f0, .int .i64 p.f1, .slice A2 p.f2.length c2'] 64)) hb)
              have HO3 := Aside0.mk (Kd.N_below (Kd.N_alloc HO.out (.cells #[.string p.f0, .int .i64 p.f1, .slice A2 p.f2.length c2'] 64)) hb)
              have BK3 := Aside0.mk (keep_blk' hb (heap_alloc_new wr (.cells #[.string p.f0, .int .i64 p.f1, .slice A2 p.f2.length c2'] 64)))
              clear hb HB HO hx hx0 hx1 hx2
              generalize wr.heap.size = gb at *
              go_wp2_with fail
              refine start_ (n := 16) (S := fun w' => w'.cell? ⟨gb, 0, none⟩ = some (.string p.f0) ∧ w'.cell? ⟨gb, 1, none⟩ = some (.int .i64 p.f1) ∧ w'.cell? ⟨gb, 2, none⟩ = some (.slice A2 p.f2.length c2')) (ds := []) #[false, false, false, false, false, false, false, false, false, false, false, false, false, false, false, false] (by kernel_rfl) rfl rfl ⟨(blk_cell (blk_drew BK3.out) 0).trans rfl, (blk_cell (blk_drew BK3.out) 1).trans rfl, (blk_cell (blk_drew BK3.out) 2).trans rfl⟩ (fun hHeld => ?_); refine with_tabW chirographref07_Key.tab11 chirographref07_Key.bits11 (fun HT_ HW_ => ?_)
              have HB4 := Aside0.mk (below_drew HB3.out)
              have HO4 := Aside0.mk (Kd.N_drew HO3.out)
              have BK4 := Aside0.mk (blk_drew BK3.out)
              clear HB3 HO3 BK3
              generalize w3.drew = w4 at *
              refine pure_ (i := 0) (N := some 37) (v := ?_) (a' := ?_) #[true, false, false, false, false, false, false, false, false, false, false, false, false, false, false, false] rfl rfl (any_of HT_.out (by kernel_rfl)) (fun _ _ _ h => h) (Or.inl ⟨by rfl, ?_⟩) ?_ ?_; rotate_left; (intro w'; go_simp; with_reducible rfl); rotate_left; (simp only [Act.put, List.setIfInBounds_toArray, List.set_cons_zero, List.set_cons_succ, i64_w, i32_w]; rfl)
              refine pure_ (i := 1) (N := some 38) (v := ?_) (a' := ?_) #[true, true, false, false, false, false, false, false, false, false, false, false, false, false, false, false] rfl rfl (any_of HT_.out (by kernel_rfl)) (fun _ _ _ h => h) (Or.inl ⟨by rfl, ?_⟩) ?_ ?_; rotate_left; (intro w'; go_simp; with_reducible rfl); rotate_left; (simp only [Act.put, List.setIfInBounds_toArray, List.set_cons_zero, List.set_cons_succ, i64_w, i32_w]; rfl)
              refine pure_ (i := 4) (N := some 41) (v := ?_) (a' := ?_) #[true, true, false, false, true, false, false, false, false, false, false, false, false, false, false, false] rfl rfl (any_of HT_.out (by kernel_rfl)) (fun _ _ _ h => h) (Or.inl ⟨by rfl, ?_⟩) ?_ ?_; rotate_left; (intro w'; go_simp; with_reducible rfl); rotate_left; (simp only [Act.put, List.setIfInBounds_toArray, List.set_cons_zero, List.set_cons_succ, i64_w, i32_w]; rfl)
              refine pure_ (i := 5) (N := some 42) (v := ?_) (a' := ?_) #[true, true, false, false, true, true, false, false, false, false, false, false, false, false, false, false] rfl rfl (any_of HT_.out (by kernel_rfl)) (fun _ _ _ h => h) (Or.inl ⟨by rfl, ?_⟩) ?_ ?_; rotate_left; (intro w'; go_simp; with_reducible rfl); rotate_left; (simp only [Act.put, List.setIfInBounds_toArray, List.set_cons_zero, List.set_cons_succ, i64_w, i32_w]; rfl)
              refine pure_ (i := 9) (N := some 46) (v := ?_) (a' := ?_) #[true, true, false, false, true, true, false, false, false, true, false, false, false, false, false, false] rfl rfl (any_of HT_.out (by kernel_rfl)) (fun _ _ _ h => h) (Or.inl ⟨by rfl, ?_⟩) ?_ ?_; rotate_left; (intro w'; go_simp; with_reducible rfl); rotate_left; (simp only [Act.put, List.setIfInBounds_toArray, List.set_cons_zero, List.set_cons_succ, i64_w, i32_w]; rfl)
              refine take_ (i := 2) (N := some 39) (v := ?_) (a' := ?_) #[true, true, true, false, true, true, false, false, false, true, false, false, false, false, false, false] rfl rfl (take_ofW HT_.out HW_.out (by kernel_rfl)) (fun _ _ _ h => h) (Or.inl ⟨by rfl, ?_⟩) hHeld ?_ ?_; rotate_left; (rintro w' ⟨s0, s1, s2⟩; go_simp; with_reducible rfl); rotate_left; (simp only [Act.put, List.setIfInBounds_toArray, List.set_cons_zero, List.set_cons_succ, i64_w, i32_w]; rfl)
              refine pure_ (i := 3) (N := some 40) (v := ?_) (a' := ?_) #[true, true, true, true, true, true, false, false, false, true, false, false, false, false, false, false] rfl rfl (any_of HT_.out (by kernel_rfl)) (fun _ _ _ h => h) (Or.inl ⟨by rfl, ?_⟩) ?_ ?_; rotate_left; (intro w'; go_simp; with_reducible rfl); rotate_left; (simp only [Act.put, List.setIfInBounds_toArray, List.set_cons_zero, List.set_cons_succ, i64_w, i32_w]; rfl)
              refine one_ (i := 6) (N := some 43) #[true, true, true, true, true, true, true, false, false, true, false, false, false, false, false, false] rfl rfl (one_of HT_.out (by kernel_rfl)) (by decide) (fun K hK => ?_)
              refine goes_ Tryz.func183 (by kernel_rfl) rfl #[.int .i64 (key.size : Int)] (by rfl) rfl rfl (by (try simp only [List.map_toArray, List.map_cons, List.map_nil]); first | done | rfl) ?_
              with_reducible refine (chirographref04_Decimal.calls k (key.size : Int) d _ HDEC.out).mono ?_
              rintro e w5 ⟨rfl, hb⟩
              refine ⟨_, rfl, ?_⟩
              have HB5 := Aside0.mk (below_step HB4.out hb)
              have HO5 := Aside0.mk (Kd.N_below HO4.out hb)
              have BK5 := Aside0.mk (keep_blk' hb BK4.out)
              clear hb HB4 HO4 BK4
              refine hK.out _ _ ⟨(blk_cell BK5.out 0).trans rfl, (blk_cell BK5.out 1).trans rfl, (blk_cell BK5.out 2).trans rfl⟩ (fun hHeld => ?_)
              clear hK K
              refine norm_ (a' := ?_) ?_ ?_; rotate_left; (show Act.put _ (some 43) _ = _; simp only [Act.put, List.setIfInBounds_toArray, List.set_cons_zero, List.set_cons_succ, i64_w, i32_w]; rfl)
              refine pure_ (i := 7) (N := some 44) (v := ?_) (a' := ?_) #[true, true, true, true, true, true, true, true, false, true, false, false, false, false, false, false] rfl rfl (any_of HT_.out (by kernel_rfl)) (fun _ _ _ h => h) (Or.inl ⟨by rfl, ?_⟩) ?_ ?_; rotate_left; (intro w'; go_simp; with_reducible rfl); rotate_left; (simp only [Act.put, List.setIfInBounds_toArray, List.set_cons_zero, List.set_cons_succ, i64_w, i32_w]; rfl)
              refine pure_ (i := 8) (N := some 45) (v := ?_) (a' := ?_) #[true, true, true, true, true, true, true, true, true, true, false, false, false, false, false, false] rfl rfl (any_of HT_.out (by kernel_rfl)) (fun _ _ _ h => h) (Or.inl ⟨by rfl, ?_⟩) ?_ ?_; rotate_left; (intro w'; go_simp; with_reducible rfl); rotate_left; (simp only [Act.put, List.setIfInBounds_toArray, List.set_cons_zero, List.set_cons_succ, i64_w, i32_w]; rfl)
              refine pure_ (i := 10) (N := some 47) (v := ?_) (a' := ?_) #[true, true, true, true, true, true, true, true, true, true, true, false, false, false, false, false] rfl rfl (any_of HT_.out (by kernel_rfl)) (fun _ _ _ h => h) (Or.inl ⟨by rfl, ?_⟩) ?_ ?_; rotate_left; (intro w'; go_simp; with_reducible rfl); rotate_left; (simp only [Act.put, List.setIfInBounds_toArray, List.set_cons_zero, List.set_cons_succ, i64_w, i32_w]; rfl)
              refine pure_ (i := 11) (N := some 48) (v := ?_) (a' := ?_) #[true, true, true, true, true, true, true, true, true, true, true, true, false, false, false, false] rfl rfl (any_of HT_.out (by kernel_rfl)) (fun _ _ _ h => h) (Or.inl ⟨by rfl, ?_⟩) ?_ ?_; rotate_left; (intro w'; go_simp; with_reducible rfl); rotate_left; (simp only [Act.put, List.setIfInBounds_toArray, List.set_cons_zero, List.set_cons_succ, i64_w, i32_w]; rfl)
              rw [HIT.out]
              refine one_ (i := 12) (N := some 49) #[true, true, true, true, true, true, true, true, true, true, true, true, true, false, false, false] rfl rfl (one_of HT_.out (by kernel_rfl)) (by decide) (fun K hK => ?_)
              refine value_ (w1 := Lib.bytesWorld w5 5 it) (v := .slice (some ⟨w5.heap.size, 0, none⟩) it.size (grownCap w5 it.size 0 5)) (by rfl) rfl ?_ ?_
              · have hcv := print_bytes (P := Tryz.prog) 9 22 5 Tryz.underlying9 Tryz.underlying22 Tryz.underlying5 it w5
                go_simp
              have HFK := Aside0.mk (FK_bytes w5 it HSZ.out)
              have hbb : Below w5.heap.size w5 (Lib.bytesWorld w5 5 it) := bytes_below (Below.refl _ _) (Nat.le_refl _) 5 _
              have HNL := Aside0.mk (Kd.N_lt HO5.out)
              have HB6 := Aside0.mk (below_step HB5.out hbb)
              have HO6 := Aside0.mk (Kd.N_below HO5.out hbb)
              have BK6 := Aside0.mk (keep_blk' hbb BK5.out)
              clear hbb HB5 HO5 BK5
              refine hK.out _ _ ⟨(blk_cell BK6.out 0).trans rfl, (blk_cell BK6.out 1).trans rfl, (blk_cell BK6.out 2).trans rfl⟩ (fun hHeld => ?_)
              clear hK K
              refine norm_ (a' := ?_) ?_ ?_; rotate_left; (show Act.put _ (some 49) _ = _; simp only [Act.put, List.setIfInBounds_toArray, List.set_cons_zero, List.set_cons_succ, i64_w, i32_w]; rfl)
              refine one_ (i := 13) (N := some 50) #[true, true, true, true, true, true, true, true, true, true, true, true, true, true, false, false] rfl rfl (one_of HT_.out (by kernel_rfl)) (by decide) (fun K hK => ?_)
              refine value_ (w1 := ?_) (v := ?_) (by rfl) rfl ?_ ?_
              rotate_left 2
              · go_simp
                constructor
                · rfl
                · rfl
              refine hK.out _ _ ⟨(blk_cell (blk_alloc BK6.out _) 0).trans rfl, (blk_cell (blk_alloc BK6.out _) 1).trans rfl, (blk_cell (blk_alloc BK6.out _) 2).trans rfl⟩ (fun hHeld => ?_)
              clear hK K
              refine norm_ (a' := ?_) ?_ ?_; rotate_left; (show Act.put _ (some 50) _ = _; simp only [Act.put, List.setIfInBounds_toArray, List.set_cons_zero, List.set_cons_succ, i64_w, i32_w]; rfl)
              refine one_ (i := 14) (N := some 51) #[true, true, true, true, true, true, true, true, true, true, true, true, true, true, true, false] rfl rfl (one_of HT_.out (by kernel_rfl)) (by decide) (fun K hK => ?_)
              refine Kd.N_append_step (Kd.slice 5 (Kd.int .u8)) (w0 := w) w.heap.size (by rfl) (.tmp 37) (.tmp 50) 67 22 (.slice none 0 0) 24 rfl Tryz.underlying67 info22 rfl (Nat.zero_lt_succ 0 : (0 : Nat) < 1) (by omega) u5 xs (bytesOf it) [.slice (some ⟨w5.heap.size, 0, none⟩) it.size (grownCap w5 it.size 0 5)] (fun _ => True) (fun k => k = w5.heap.size) rfl rfl ?aP ?aN ?aF ?aO ?aB ?aS ?aL ?_
              (case aP => exact HFK.out)
              (case aN => rintro q rfl; exact ⟨trivial, fun e => absurd (HNL.out _ e.symm) (Nat.lt_irrefl _)⟩)
              (case aF => exact (fun _ _ => trivial))
              (case aO => exact HO6.out)
              (case aB => exact HB6.out)
              (case aS => exact (below_size HB6.out))
              (case aL => have := HI.out; omega)
              intro v7 w7 ho hb hgr hat
              have HO7 := Aside0.mk ho
              have HB7 := Aside0.mk hb
              have BK7 := Aside0.mk (blk_grown BK6.out hgr (Kd.N_ne HO6.out BK6.out (by decide)))
              clear ho hb hgr hat HB6 HO6 BK6
              refine hK.out _ _ ⟨(blk_cell BK7.out 0).trans rfl, (blk_cell BK7.out 1).trans rfl, (blk_cell BK7.out 2).trans rfl⟩ (fun hHeld => ?_)
              clear hK K
              refine norm_ (a' := ?_) ?_ ?_; rotate_left; (show Act.put _ (some 51) _ = _; simp only [Act.put, List.setIfInBounds_toArray, List.set_cons_zero, List.set_cons_succ, i64_w, i32_w]; rfl)
              refine pure_ (i := 15) (N := some 5) (v := ?_) (a' := ?_) #[true, true, true, true, true, true, true, true, true, true, true, true, true, true, true, true] rfl rfl (any_of HT_.out (by kernel_rfl)) (fun _ _ _ h => h) (Or.inl ⟨by rfl, ?_⟩) ?_ ?_; rotate_left; (intro w'; go_simp; with_reducible rfl); rotate_left; (simp only [Act.put, List.setIfInBounds_toArray, List.set_cons_zero, List.set_cons_succ, i64_w, i32_w]; rfl)
              refine done_ (done_of HT_.out (by kernel_rfl)) ?_
              go_wp2_with fail
              go_roundg g2
              case measure => exact Nat.lt_succ_self _
              case rel => exact ⟨i + 1, xs ++ [bytesOf it], zs', congrArg (Value.int .i64) (by first | exact hw4 | omega), ⟨by rw [List.length_append, List.length_singleton]; have := HI.out; omega⟩, HZ1, HXZ1, HO7, HB7⟩
            · have c2 : decide ((i : Int) < (s.length : Int)) = false := decide_eq_false (by omega)
              have hxs : xs = XS := by
                have h1 := HZ.out
                rw [List.drop_eq_nil_of_le (by omega), itemsR] at h1
                rw [← HXZ.out, ← Option.some.inj h1, List.append_nil]
              subst hxs
              obtain ⟨A5, c5, rfl, hc5, hC5⟩ := Kd.N_reads HO.out
              go_wp2_with fail
              refine (chirographref07_sorted.calls A5 c5 xs ys _ hC5 hc5 HYS.out).mono ?_
              rintro e w6 ⟨v6, rfl, hR6, hb6⟩
              obtain ⟨A6, c6, e6⟩ := Kd.R_slice hR6
              subst e6
              obtain ⟨_, _, e7, _, hC6⟩ := Kd.R_reads hR6
              cases e7
              have HC6 := Aside0.mk (kOld_C hC6 hb6)
              have HB6 := Aside0.mk (below_step HB.out hb6)
              have HR6 : Aside0 (acc.size + (catB ys).size + 1 ≤ 140737488355328) := ⟨by
                have h1 := congrArg ByteArray.size HE2.out
                have z1 : (⟨#[47]⟩ : ByteArray).size = 1 := rfl
                simp only [ByteArray.size_append, z1] at h1
                have := HL.out.1
                omega⟩
              have HB60 := Aside0.mk (Below.refl w6.heap.size w6)
              clear hC6 hR6 hb6 HB HO HZ hC5 hx HX
              go_wp2_with fail
              go_loopg [3, 9] (ys.length + 1) (fun kq v3 v9 w' => ∃ (m : Nat) (acc' : ByteArray), v3 = .string acc' ∧ v9 = .int .i64 (m : Int) ∧ Aside0 (m ≤ ys.length ∧ ys.length < kq + m) ∧ Aside0 (acc' ++ catB (ys.drop m) = acc ++ catB ys) ∧ Aside0 (Below w6.heap.size w6 w'))
              case atStart => exact ⟨0, acc, rfl, rfl, ⟨⟨Nat.zero_le _, by omega⟩⟩, ⟨rfl⟩, HB60⟩
              case round =>
                clear HB60
                obtain ⟨m, acc', rfl, rfl, HM, HE3, HB7⟩ := hrel
                cases gk with
                | zero => exact absurd HM.out (by omega)
                | succ g3 =>
                  by_cases hm : m < ys.length
                  · have c3 : decide ((m : Int) < (ys.length : Int)) = true := decide_eq_true (by omega)
                    have p3 : ((0 : Int) ≤ (m : Int)) = True := eq_true (by omega)
                    have q3 : ((m : Int) < (ys.length : Int)) = True := eq_true (by omega)
                    have hw5 : wrap64 ((m : Int) + 1) = ((m + 1 : Nat) : Int) := by unfold wrap64; have := HC6.out.2.1; omega
                    obtain ⟨ad6, cs, rfl, _, hK, hc⟩ := Kd.C_get (Kd.C_below HC6.out HB7.out) [] (m : Int) (Int.natCast_nonneg m) (Int.ofNat_lt.2 hm)
                    rw [Int.toNat_natCast] at hK
                    obtain ⟨Ak, ck, rfl, hlk, hgk⟩ := hK
                    have x0 := hc 0 _ rfl
                    rw [Int.toNat_natCast] at x0
                    simp only [Kd.slice, Nat.mul_one, Nat.add_zero] at x0
                    have hd : ys.drop m = ys.getD m [] :: ys.drop (m + 1) := by
                      rw [List.drop_eq_getElem_cons hm, List.getD_eq_getElem?_getD, List.getElem?_eq_getElem hm]
                      rfl
                    have h3 := HE3.out
                    rw [hd, catB] at h3
                    clear hc hd HE3
                    generalize ys.getD m [] = y at *
                    have HE4 : Aside0 ((acc' ++ strOfNums y) ++ catB (ys.drop (m + 1)) = acc ++ catB ys) := ⟨by rw [ByteArray.append_assoc]; exact h3⟩
                    have YY5 : (9223372036854775807 < acc'.size + (strOfNums y).size) = False := eq_false (by
                      have h4 := congrArg ByteArray.size h3
                      simp only [ByteArray.size_append] at h4
                      have := HR6.out
                      omega)
                    have hcv := Kd.C_string (P := Tryz.prog) (A := Ak) (c := ck) Tryz.underlying22 Tryz.underlying5 Tryz.underlying9 hgk
                    clear h3
                    go_wp2_with fail
                    go_roundg g3
                    case measure => exact Nat.lt_succ_self _
                    case rel => exact ⟨m + 1, acc' ++ strOfNums y, rfl, congrArg (Value.int .i64) hw5, ⟨⟨hm, (show ys.length < g3 + m + 1 from (Nat.add_right_comm g3 1 m) ▸ HM.out.2)⟩⟩, HE4, HB7⟩
                  · have c3 : decide ((m : Int) < (ys.length : Int)) = false := decide_eq_false (by omega)
                    have hacc : acc' = acc ++ catB ys := by
                      rw [← HE3.out, List.drop_eq_nil_of_le (by omega), catB]
                      exact ByteArray.append_empty.symm
                    have YY6 : (9223372036854775807 < acc'.size + 1) = False := eq_false (by
                      rw [hacc, ByteArray.size_append]
                      have := HR6.out
                      omega)
                    have HE5 : Aside0 ((acc' ++ (⟨#[47]⟩ : ByteArray)) ++ q' = R) := ⟨by rw [hacc]; exact HE2.out⟩
                    have HB8 := Aside0.mk (below_step HB6.out HB7.out)
                    clear hacc
                    go_wp2_with fail
                    go_roundg g1
                    case measure => exact Nat.lt_succ_self _
                    case rel => exact ⟨j + 1, acc' ++ (⟨#[47]⟩ : ByteArray), q', rfl, congrArg (Value.int .i64) (by first | exact hw3 | omega), ⟨by have := HJ.out; omega⟩, HTL, HE5, HB8⟩
      · have c1 : decide ((j : Int) < (l0.length : Int)) = false := decide_eq_false (by omega)
        have hacc : acc = R := by
          have h1 := HQ.out
          rw [List.drop_eq_nil_of_le (by omega), keyR] at h1
          rw [← HE.out, ← Option.some.inj h1]
          exact ByteArray.append_empty.symm
        subst hacc
        go_wp2_with fail
        go_ret
        exact ⟨rfl, HB.out⟩
def chirographref07_Same.f (k : Nat) (a b : List (List S64)) : Option Bool := (chirographref07_Key.f k a).bind fun x => (chirographref07_Key.f k b).bind fun y => some (x.toList == y.toList)
theorem chirographref07_Same.calls (k : Nat) (A0 : Option Addr) (c0 : Nat) (l0 : List (List S64)) (A1 : Option Addr) (c1 : Nat) (l1 : List (List S64)) (r : Bool) (w : World) (hr0 : Kd.C (Kd.slice 64 k64) w A0 l0.length l0) (hc0 : l0.length ≤ c0) (hr1 : Kd.C (Kd.slice 64 k64) w A1 l1.length l1) (hc1 : l1.length ≤ c1) (h : chirographref07_Same.f k l0 l1 = some r) :
    Calls Tryz.prog 70 #[.slice A0 l0.length c0, .slice A1 l1.length c1] w fun e w' => e = .returned (.bool r) ∧ Below w.heap.size w w' := by
  unfold chirographref07_Same.f at h
  obtain ⟨x, hx, h⟩ := Option.bind_eq_some_iff.mp h
  obtain ⟨y, hy, h⟩ := Option.bind_eq_some_iff.mp h
  obtain rfl := Option.some.inj h
  have HR1 := Aside0.mk hr1
  have HC1 := Aside0.mk hc1
  have HX := Aside0.mk hx
  have HY := Aside0.mk hy
  have HR0 := Aside0.mk hr0
  have HC0 := Aside0.mk hc0
  clear hr0 hc0 hr1 hc1 hx hy h
  go_enter Tryz.func70, Tryz.ntmps70
  go_wp2_with fail
  refine (chirographref07_Key.calls k A0 c0 l0 x _ HR0.out HC0.out HX.out).mono ?_
  rintro e w1 ⟨rfl, h1⟩
  have HB1 := Aside0.mk h1
  clear h1
  go_wp2_with fail
  refine (chirographref07_Key.calls k A1 c1 l1 y _ (Kd.C_below HR1.out HB1.out) HC1.out HY.out).mono ?_
  rintro e w2 ⟨rfl, h2⟩
  have HB2 := Aside0.mk (below_step HB1.out h2)
  clear h2
  go_wp2_with fail
  go_ret
  exact ⟨by first | rfl | (simp; done) | trace_state, HB2.out⟩
end Go.Proofs.YtkioddjjfifadaaGreatDoor.P
