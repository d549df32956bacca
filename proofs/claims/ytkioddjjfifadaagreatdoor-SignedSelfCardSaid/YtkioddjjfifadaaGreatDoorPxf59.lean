/- Printed by a program of this session (a turned copy of the kit's print) out of the translation: functions, each as a Lean function, and that the Go call does what that function says, under what is asked ahead of the colon. -/
import Derived.Test.YtkioddjjfifadaaGreatDoorPx0
import Derived.Test.YtkioddjjfifadaaGreatDoorG0
namespace Go.Proofs.YtkioddjjfifadaaGreatDoor.P
open Go.RowKit Go.Proofs.YtkioddjjfifadaaGreatDoorW.PrintWords Go.Proofs.YtkioddjjfifadaaGreatDoorW.PrintLast Go.Proofs.YtkioddjjfifadaaGreatDoorW.PrintMore
attribute [local go_sem] max2_int min2_int max_two min_two max_three min_three max_four min_four   -- for this text's walks alone
set_option linter.unusedVariables false
set_option linter.unusedSimpArgs false

/-! ### signed_One: function 59 -/
def signed_One.l0 : Nat → ByteArray → List (S163) → List (S163) → Int → Int → Option (List Int × Int)
  | 0, _, _, _, _, _ => none
  | k + 1, x1, x6, x9, x10, x11 => if x11 < x10 then (if 0 ≤ x11 then (if x11 < (x9.length : Int) then (if ((rd_T163 x9 x11).f0).toList = x1.toList then (if x6.length < 3518437208883 then (signed_One.l0 k x1 (x6 ++ [(⟨(rd_T163 x9 x11).f0, (rd_T163 x9 x11).f1⟩ : S163)]) x9 x10 (wrap64 (x11 + 1))) else (none)) else (signed_One.l0 k x1 x6 x9 x10 (wrap64 (x11 + 1)))) else (none)) else (none)) else (if (x6.length : Int) = 0 then (some (([] : List Int), 5)) else (if (x6.length : Int) > 1 then (some (([] : List Int), 121)) else (if 0 < (x6.length : Int) then (if (((rd_T163 x6 0).f1).length : Int) = 1 then (if 0 < (((rd_T163 x6 0).f1).length : Int) then ((bytes_Clone.f (rd_L1 ((rd_T163 x6 0).f1) 0)).bind fun t1063 => (some (t1063, 0))) else (none)) else (some (([] : List Int), 121))) else (none))))
def signed_One.f (k : Nat) (l0 : List (S163)) (a1 : ByteArray) : Option (List Int × Int) := signed_One.l0 k a1 ([] : List (S163)) l0 (l0.length : Int) 0
theorem signed_One.mono_l : ∀ k, (∀ y0 y1 y2 y3 y4, LeO (signed_One.l0 k y0 y1 y2 y3 y4) (signed_One.l0 (k + 1) y0 y1 y2 y3 y4))
  | 0 => fun _ _ _ _ _ r h => by simp [signed_One.l0] at h
  | k + 1 => by
    have ih0 := signed_One.mono_l k
    · intro y0 y1 y2 y3 y4
      unfold signed_One.l0
      repeat' first
      | (with_reducible exact ih0 _ _ _ _ _)
      | (with_reducible exact LeO.refl _)
      | (with_reducible exact LeO.none _)
      | (with_reducible refine LeO.ite ?_ ?_)
      | (with_reducible refine LeO.bind ?_ (fun _ => ?_))
      | exact ih0 _ _ _ _ _
      | exact LeO.none _
      | refine LeO.ite ?_ ?_
      | refine LeO.bind ?_ (fun _ => ?_)
theorem signed_One.mono : ∀ a0 a1 k, LeO (signed_One.f k a0 a1) (signed_One.f (k + 1) a0 a1) := by
  intro a0 a1 k
  have ih0 := signed_One.mono_l k
  unfold signed_One.f
  repeat' first
      | (with_reducible exact ih0 _ _ _ _ _)
      | (with_reducible exact LeO.refl _)
      | (with_reducible exact LeO.none _)
      | (with_reducible refine LeO.ite ?_ ?_)
      | (with_reducible refine LeO.bind ?_ (fun _ => ?_))
      | exact ih0 _ _ _ _ _
      | exact LeO.none _
      | refine LeO.ite ?_ ?_
      | refine LeO.bind ?_ (fun _ => ?_)
set_option maxHeartbeats 8000000 in
set_option maxRecDepth 100000 in
theorem signed_One.calls (k : Nat) (P0_ : Nat → Prop) (A0 : Option Addr) (c0 : Nat) (l0 : List (S163)) (a1 : ByteArray) (r1 : List Int) (r2 : Int) (w : World) (hs0 : Kd.V k163 163 w w.heap.size (fun k_ => P0_ k_) (.slice A0 l0.length c0) l0) (h : signed_One.f k l0 a1 = some (r1, r2)) :
    Calls Tryz.prog 59 #[.slice A0 l0.length c0, .string a1] w fun e w' => ∃ v0_ : Value, e = .returned (.tuple #[v0_, .int .i64 r2]) ∧ Kd.R (Kd.int .u8) 5 w' w.heap.size (fun k_ => (w.heap.size ≤ k_)) v0_ r1 ∧ Below w.heap.size w w' := by
  have hu163 := Tryz.underlying163
  have HO0 := Aside0.mk (show Kd.V k163 163 w w.heap.size (fun k_ => (P0_ k_ ∨ w.heap.size ≤ k_)) (.slice A0 l0.length c0) l0 from Kd.V_mono hs0 (fun k_ hk => .inl hk))
  have HB := Aside0.mk (Below.refl w.heap.size w)
  have H : (signed_One.l0 k a1 ([] : List (S163)) l0 (l0.length : Int) 0) = some (r1, r2) := h
  clear h
  have H' := Aside0.mk H
  clear H
  go_enter Tryz.func59, Tryz.ntmps59
  go_wp2
  go_loopg [6, 11] k (fun kq v6 v11 w' => ∃ (x6_1 : List (S163)) (x11_1 : Int), v11 = .int .i64 x11_1 ∧ Aside0 (signed_One.l0 kq a1 x6_1 l0 (l0.length : Int) x11_1 = some (r1, r2)) ∧ Aside0 (kq ≤ k) ∧ Aside0 (Kd.N k163 163 w' w.heap.size (fun k_ => (P0_ k_ ∨ w.heap.size ≤ k_)) v6 x6_1) ∧ Aside0 (Kd.V k163 163 w' w.heap.size (fun k_ => (P0_ k_ ∨ w.heap.size ≤ k_) ∧ some k_ ≠ (v6 : Value).ownBlock) (.slice A0 l0.length c0) l0) ∧ Aside0 (Below w.heap.size w w'))
  case atStart => exact ⟨(([] : List (S163))), (0), (by first | rfl | (simp; done) | (simp [*]; done)), H', ⟨Nat.le_refl _⟩, ⟨by first | exact Kd.R_nil _ _ _ _ _ | exact Kd.N_nil _ _ _ _ _ | exact Kd.V_nil _ _ _ _ _ | exact Kd.Q_nil _ _ _ _ _ | exact Kd.S_nil _ _ _ _ _⟩, ⟨by (with_reducible repeat (first | apply Kd.V_alloc | apply Kd.V_drewN | apply Kd.V_drew)); exact Kd.V_mono HO0.out (fun _ hk => ⟨hk, (by simp [Value.ownBlock])⟩)⟩, ⟨by repeat (first | (with_reducible first | exact HB.out | apply below_alloc | apply pw_below_drewN | apply below_drew1) | exact HB.out)⟩⟩
  case round =>
    clear H'
    try clear p2
    obtain ⟨x6_1, x11_1, rfl, HA, HK1, HO_6, HO_9, HB⟩ := hrel
    cases gk with
    | zero => exact absurd HA.out (by simp [signed_One.l0])
    | succ k1 =>
      have H := HA.out
      clear HA
      simp only [signed_One.l0] at H
      by_cases c3 : x11_1 < (l0.length : Int)
      · rw [if_pos c3] at H
        have c3b0 : decide (x11_1 < (l0.length : Int)) = true := decide_eq_true c3
        clear c3
        by_cases c4 : 0 ≤ x11_1
        · rw [if_pos c4] at H
          have c4b0 : decide (0 ≤ x11_1) = true := decide_eq_true c4
          clear c4
          by_cases c5 : x11_1 < (l0.length : Int)
          · rw [if_pos c5] at H
            have c5b0 : decide (x11_1 < (l0.length : Int)) = true := decide_eq_true c5
            clear c5
            by_cases c6 : ((rd_T163 l0 x11_1).f0).toList = a1.toList
            · rw [if_pos c6] at H
              have c6b0 : (((rd_T163 l0 x11_1).f0).toList == a1.toList) = true := beq_iff_eq.mpr c6
              have c6b1 : (((rd_T163 l0 x11_1).f0).toList != a1.toList) = false := bne_eq_false_iff_eq.mpr c6
              clear c6
              by_cases c7 : x6_1.length < 3518437208883
              · rw [if_pos c7] at H
                have LMc7 := Aside0.mk c7
                clear c7
                obtain ⟨y1057, hy1057⟩ : ∃ y_ : List (S163), y_ = (x6_1 ++ [(⟨(rd_T163 l0 x11_1).f0, (rd_T163 l0 x11_1).f1⟩ : S163)]) := ⟨_, rfl⟩
                replace H : (signed_One.l0 k1 a1 y1057 l0 (l0.length : Int) (wrap64 (x11_1 + 1))) = some (r1, r2) := by first | (rw [hy1057]; with_reducible exact H) | (have H2_ := (Option.bind_some _ _).symm.trans H; rw [hy1057]; with_reducible exact H2_) | (have H2_ := (Option.bind_some _ _).symm.trans H; with_reducible exact H2_) | with_reducible exact H | (rw [hy1057]; exact H) | exact H
                have Ny1057 := Aside0.mk hy1057
                clear hy1057
                have H' := Aside0.mk H
                clear H
                have p1055 : 0 ≤ (x11_1 : Int) := of_decide_eq_true (by first | (with_reducible assumption) | assumption)
                have q1055 : x11_1 < (l0.length : Int) := of_decide_eq_true (by first | (with_reducible assumption) | assumption)
                obtain ⟨ad1055, A1055_1, c1055_1, e1055, hx1055_0, hx1055_1, hl1055_1, hi1055_1⟩ := at_T163 (Kd.V_reads' HO_9.out).2.2 x11_1 p1055 q1055
                cases e1055
                obtain ⟨ce1055, hce1055, hMe1055, hcc1055⟩ := Kd.V_get HO_9.out z163 x11_1 p1055 (by first | exact q1055 | exact of_decide_eq_true (by first | (with_reducible assumption) | assumption) | (have e_ := (Kd.V_reads' HO_9.out).1; omega))
                obtain ⟨ua1055_1, uc1055_1, rfl, ul1055_1, ge1055_1⟩ := k163_openF hMe1055
                have hv1055_1 := hcc1055 1 _ rfl
                rw [add_field _ _ 1 (by omega)] at hv1055_1
                replace hv1055_1 := Option.some.inj (hv1055_1.symm.trans hx1055_1)
                injection hv1055_1 with hva_ hvn_ hvc_
                rw [hva_] at ge1055_1
                rw [hvc_] at ul1055_1
                have HL1055_1 := Aside0.mk (show Kd.V (Kd.slice 5 (Kd.int .u8)) 22 _ w.heap.size _ _ ((rd_T163 l0 x11_1).f1) from Kd.V_mk ul1055_1 ge1055_1)
                clear hva_ hvn_ hvc_ ge1055_1 ul1055_1
                clear hcc1055 hce1055
                have HR1055_1 := Aside0.mk hi1055_1
                have HC1055_1 := Aside0.mk hl1055_1
                clear hi1055_1 hl1055_1
                replace p1055 := eq_true p1055
                replace q1055 := eq_true q1055
                go_wp2_with (first | ((with_reducible refine gate_dst (N := 8) rfl ?_); (try (refine gate_guard (by rfl) ?_; dsimp only)); refine box_event ?hg (N := 8) ?hd (cs := #[.string (⟨#[]⟩ : ByteArray), .slice none 0 0]) (t := 163) ?hr ?_; (case hd => rfl); (case hg => rfl); (case hr => first | (go_simp; done) | (go_simp; rfl)); intro gb1056 hg w8 hbox hb; have n0_ := Aside0.mk (Kd.N_below (Kd.N_elderB (by (with_reducible repeat (first | apply Kd.N_alloc | apply Kd.N_drewN | apply Kd.N_drew)); exact HO_6.out) gb1056 (Nat.le_of_eq hg.symm)) hb); have n1_ := Aside0.mk (Kd.V_below (Kd.V_elderB (by (with_reducible repeat (first | apply Kd.V_alloc | apply Kd.V_drewN | apply Kd.V_drew)); exact HO_9.out) gb1056 (Nat.le_of_eq hg.symm)) hb); have n2_ := Aside0.mk (Kd.V_below (Kd.V_elderB (by (with_reducible repeat (first | apply Kd.V_alloc | apply Kd.V_drewN | apply Kd.V_drew)); exact HL1055_1.out) gb1056 (Nat.le_of_eq hg.symm)) hb); have n3_ := Aside0.mk (Kd.C_below (by repeat (first | (with_reducible exact HR1055_1.out) | (with_reducible refine Kd.C_alloc ?_ _) | (with_reducible refine Kd.C_drewN ?_ _) | (with_reducible refine Kd.C_drew ?_) | exact HR1055_1.out)) hb); have n4_ := Aside0.mk (below_step (by repeat (first | (with_reducible first | exact HB.out | apply below_alloc | apply pw_below_drewN | apply below_drew1) | exact HB.out)) hb); have n5_ := Aside0.mk (hbox); have n6_ := Aside0.mk ((by rw [hg]; exact (below_size (by repeat (first | (with_reducible first | exact HB.out | apply below_alloc | apply pw_below_drewN | apply below_drew1) | exact HB.out))) : w.heap.size ≤ gb1056)); have n7_ := Aside0.mk ((by rw [hg]; exact (below_size (by repeat (first | (with_reducible first | exact HB.out | apply below_alloc | apply pw_below_drewN | apply below_drew1) | exact HB.out))) : w.heap.size ≤ gb1056)); clear HO_6; clear HO_9; clear HL1055_1; clear HR1055_1; clear HB; have HO_6 := n0_; have HO_9 := n1_; have HL1055_1 := n2_; have HR1055_1 := n3_; have HB := n4_; have BK1056 := n5_; have GW1056 := n6_; have GE1056 := n7_; clear n0_ n1_ n2_ n3_ n4_ n5_ n6_ n7_; clear hb hbox hg; have hcz9_0 : w8.cell? ⟨gb1056, 0, none⟩ = some (.string (⟨#[]⟩ : ByteArray)) := (blk_cell BK1056.out 0).trans rfl; have hcz9_1 : w8.cell? ⟨gb1056, 1, none⟩ = some (.slice none 0 0) := (blk_cell BK1056.out 1).trans rfl; have hfz9_0 := blk_frozen BK1056.out 0; have hfz9_1 := blk_frozen BK1056.out 1) | ((with_reducible refine gate_store (t := 163) (p := 8) rfl ?_); refine store_event (t := 163) (p := 8) (v := ?vo_w10) (w1 := ((w8.setCell ⟨gb1056, 0, none⟩ (.string ((rd_T163 l0 x11_1).f0))).setCell ⟨gb1056, 1, none⟩ (.slice A1055_1 ((rd_T163 l0 x11_1).f1).length c1055_1))) ?hg ?ho ?hn ?hr ?_; (case ho => rfl); (case hg => rfl); (case hn => rfl); (case hr => first | (go_simp; done) | (go_simp; rfl)); intro w10 hw; have n0_ : Aside0 (Kd.N k163 163 w10 w.heap.size (fun k_ => (P0_ k_ ∨ w.heap.size ≤ k_) ∧ k_ ≠ gb1056) u6 x6_1) := ⟨(by rw [hw]; exact (by (with_reducible repeat (first | apply Kd.N_alloc | apply Kd.N_drewN | apply Kd.N_drew)); exact Kd.N_mono (Kd.N_far (p := ⟨gb1056, 1, none⟩) (Kd.N_far (p := ⟨gb1056, 0, none⟩) (Kd.N_mono HO_6.out (fun k_ hk => (⟨hk, hk.2⟩ : _ ∧ k_ ≠ gb1056))) (fun _ hk => hk.2) (.string ((rd_T163 l0 x11_1).f0))) (fun _ hk => hk.2) (.slice A1055_1 ((rd_T163 l0 x11_1).f1).length c1055_1)) (fun _ hk => ⟨hk.1.1, hk.1.2⟩)))⟩; have n1_ : Aside0 (Kd.V k163 163 w10 w.heap.size (fun k_ => (P0_ k_ ∨ w.heap.size ≤ k_) ∧ some k_ ≠ (u6 : Value).ownBlock ∧ k_ ≠ gb1056) (.slice (some ad1055) l0.length c0) l0) := ⟨(by rw [hw]; exact (by (with_reducible repeat (first | apply Kd.V_alloc | apply Kd.V_drewN | apply Kd.V_drew)); exact Kd.V_mono (Kd.V_far (p := ⟨gb1056, 1, none⟩) (Kd.V_far (p := ⟨gb1056, 0, none⟩) (Kd.V_mono HO_9.out (fun k_ hk => (⟨hk, hk.2⟩ : _ ∧ k_ ≠ gb1056))) (fun _ hk => hk.2) (.string ((rd_T163 l0 x11_1).f0))) (fun _ hk => hk.2) (.slice A1055_1 ((rd_T163 l0 x11_1).f1).length c1055_1)) (fun _ hk => ⟨hk.1.1.1, ⟨hk.1.1.2, hk.1.2⟩⟩)))⟩; have n2_ : Aside0 (Kd.V (Kd.slice 5 (Kd.int .u8)) 22 w10 w.heap.size (fun k_ => (P0_ k_ ∨ w.heap.size ≤ k_) ∧ some k_ ≠ (u6 : Value).ownBlock ∧ k_ ≠ gb1056) (.slice A1055_1 ((rd_T163 l0 x11_1).f1).length c1055_1) ((rd_T163 l0 x11_1).f1)) := ⟨(by rw [hw]; exact (by (with_reducible repeat (first | apply Kd.V_alloc | apply Kd.V_drewN | apply Kd.V_drew)); exact Kd.V_mono (Kd.V_far (p := ⟨gb1056, 1, none⟩) (Kd.V_far (p := ⟨gb1056, 0, none⟩) (Kd.V_mono HL1055_1.out (fun k_ hk => (⟨hk, hk.2⟩ : _ ∧ k_ ≠ gb1056))) (fun _ hk => hk.2) (.string ((rd_T163 l0 x11_1).f0))) (fun _ hk => hk.2) (.slice A1055_1 ((rd_T163 l0 x11_1).f1).length c1055_1)) (fun _ hk => ⟨hk.1.1.1, ⟨hk.1.1.2, hk.1.2⟩⟩)))⟩; have n3_ : Aside0 (w10.heap[gb1056]? = some (.cells #[.string ((rd_T163 l0 x11_1).f0), .slice A1055_1 ((rd_T163 l0 x11_1).f1).length c1055_1] 163 (0, 0))) := ⟨(by rw [hw]; exact (by (with_reducible repeat (first | refine blk_drewN ?_ _ | refine blk_drew ?_ | refine blk_alloc ?_ _)); refine blk_put (cs := #[.string ((rd_T163 l0 x11_1).f0), .slice none 0 0]) ?_ 1 _ rfl; (with_reducible repeat (first | refine blk_drewN ?_ _ | refine blk_drew ?_ | refine blk_alloc ?_ _)); refine blk_put (cs := #[.string (⟨#[]⟩ : ByteArray), .slice none 0 0]) ?_ 0 _ rfl; (with_reducible repeat (first | refine blk_drewN ?_ _ | refine blk_drew ?_ | refine blk_alloc ?_ _)); exact BK1056.out))⟩; have n4_ : Aside0 (Below w.heap.size w w10) := ⟨(by rw [hw]; exact (by repeat (first | (with_reducible first | exact HB.out | apply below_alloc | apply pw_below_drewN | apply below_drew1 | refine below_set ?_ GE1056.out) | exact HB.out)))⟩; clear hw; clear HO_6; clear HO_9; clear HL1055_1; clear BK1056; clear HB; have HO_6 := n0_; have HO_9 := n1_; have HL1055_1 := n2_; have BK1056 := n3_; have HB := n4_; clear n0_ n1_ n2_ n3_ n4_; have hcz11_0 : w10.cell? ⟨gb1056, 0, none⟩ = some (.string ((rd_T163 l0 x11_1).f0)) := (blk_cell BK1056.out 0).trans rfl; have hcz11_1 : w10.cell? ⟨gb1056, 1, none⟩ = some (.slice A1055_1 ((rd_T163 l0 x11_1).f1).length c1055_1) := (blk_cell BK1056.out 1).trans rfl; have hfz11_0 := blk_frozen BK1056.out 0; have hfz11_1 := blk_frozen BK1056.out 1) | ((with_reducible refine gate_builtin (b := .append) (xs := #[.tmp 19, .tmp 21]) rfl ?_); (try (refine gate_guard (by rfl) ?_; dsimp only)); at_builtin; refine Kd.N_append k163 (w0 := w) w.heap.size rfl (.tmp 19) (.tmp 21) 78 163 (.agg #[(.string ⟨#[]⟩), (.slice none 0 0)]) 40 rfl Tryz.underlying78 info163 rfl (by decide) (by omega) u6 x6_1 (⟨(rd_T163 l0 x11_1).f0, (rd_T163 l0 x11_1).f1⟩ : S163) [.string ((rd_T163 l0 x11_1).f0), .slice A1055_1 ((rd_T163 l0 x11_1).f1).length c1055_1] (fun k_ => (P0_ k_ ∨ w.heap.size ≤ k_) ∧ k_ ≠ gb1056) (fun k_ => ((fun k_ => (P0_ k_ ∨ w.heap.size ≤ k_) ∧ k_ ≠ gb1056)) k_ ∧ some k_ ≠ (u6 : Value).ownBlock) rfl rfl ?aP (fun _ hk => hk) ?aF ?aO ?aB ?aS ?aL ?_; (case aP => exact (k163_mkF _ _ (⟨(rd_T163 l0 x11_1).f0, (rd_T163 l0 x11_1).f1⟩ : S163) (Kd.V_reads' (Kd.V_mono (ok' := (fun k_ => ((fun k_ => (P0_ k_ ∨ w.heap.size ≤ k_) ∧ k_ ≠ gb1056)) k_ ∧ some k_ ≠ (u6 : Value).ownBlock)) (HL1055_1.out) (fun k_ hk => ⟨⟨hk.1, hk.2.2⟩, hk.2.1⟩))).2.1 (Kd.V_F (Kd.V_mono (ok' := (fun k_ => ((fun k_ => (P0_ k_ ∨ w.heap.size ≤ k_) ∧ k_ ≠ gb1056)) k_ ∧ some k_ ≠ (u6 : Value).ownBlock)) (HL1055_1.out) (fun k_ hk => ⟨⟨hk.1, hk.2.2⟩, hk.2.1⟩))))); (case aB => exact (by repeat (first | (with_reducible first | exact HB.out | apply below_alloc | apply pw_below_drewN | apply below_drew1 | refine below_set ?_ GE1056.out) | exact HB.out))); (case aF => exact (fun k_ hk => ⟨(.inr (Nat.le_trans (below_size (by repeat (first | (with_reducible first | exact HB.out | apply below_alloc | apply pw_below_drewN | apply below_drew1 | refine below_set ?_ GE1056.out) | exact HB.out))) hk)), Kd.freshB (g := gb1056) (o := .cells #[.string ((rd_T163 l0 x11_1).f0), .slice A1055_1 ((rd_T163 l0 x11_1).f1).length c1055_1] 163 (0, 0)) (by (with_reducible repeat (first | refine blk_drewN ?_ _ | refine blk_drew ?_ | refine blk_alloc ?_ _)); exact BK1056.out) k_ hk⟩)); (case aO => exact (by (with_reducible repeat (first | apply Kd.N_alloc | apply Kd.N_drewN | apply Kd.N_drew)); exact HO_6.out)); (case aS => exact (below_size (by repeat (first | (with_reducible first | exact HB.out | apply below_alloc | apply pw_below_drewN | apply below_drew1 | refine below_set ?_ GE1056.out) | exact HB.out)))); (case aL => have := LMc7.out; omega); intro v1058 w12 ho hb hg hat; rw [← Ny1057.out] at ho; have n0_ := Aside0.mk (Kd.V_afterv (ok := (fun k_ => (P0_ k_ ∨ w.heap.size ≤ k_) ∧ k_ ≠ gb1056)) (by (with_reducible repeat (first | apply Kd.V_alloc | apply Kd.V_drewN | apply Kd.V_drew)); exact Kd.V_mono HO_9.out (fun _ hk => ⟨⟨hk.1, hk.2.2⟩, hk.2.1⟩)) hg hat); have n1_ := Aside0.mk (Kd.V_afterv (ok := (fun k_ => (P0_ k_ ∨ w.heap.size ≤ k_) ∧ k_ ≠ gb1056)) (by (with_reducible repeat (first | apply Kd.V_alloc | apply Kd.V_drewN | apply Kd.V_drew)); exact Kd.V_mono HL1055_1.out (fun _ hk => ⟨⟨hk.1, hk.2.2⟩, hk.2.1⟩)) hg hat); have n2_ := Aside0.mk (blk_grown (g := gb1056) (o := .cells #[.string ((rd_T163 l0 x11_1).f0), .slice A1055_1 ((rd_T163 l0 x11_1).f1).length c1055_1] 163 (0, 0)) (by (with_reducible repeat (first | refine blk_drewN ?_ _ | refine blk_drew ?_ | refine blk_alloc ?_ _)); exact BK1056.out) hg (Kd.N_away HO_6.out (fun _ hk => hk.2))); have n3_ := Aside0.mk (hb); have n4_ := Aside0.mk (ho); clear HO_9; clear HL1055_1; clear BK1056; clear HB; clear HO_6; have HO_9 := n0_; have HL1055_1 := n1_; have BK1056 := n2_; have HB := n3_; have HO1059 := n4_; clear n0_ n1_ n2_ n3_ n4_; clear ho hb hg hat))
                go_roundg k1
                case measure => have := HK1.out; omega
                case rel => exact ⟨(y1057), (wrap64 (x11_1 + 1)), (by first | rfl | (simp; done) | (simp [*]; done)), H', ⟨by have := HK1.out; omega⟩, ⟨by (with_reducible repeat (first | apply Kd.N_alloc | apply Kd.N_drewN | apply Kd.N_drew)); exact Kd.N_mono HO1059.out (fun _ hk => hk.1)⟩, ⟨by (with_reducible repeat (first | apply Kd.V_alloc | apply Kd.V_drewN | apply Kd.V_drew)); exact Kd.V_mono HO_9.out (fun _ hk => ⟨hk.1.1, hk.2⟩)⟩, ⟨by repeat (first | (with_reducible first | exact HB.out | apply below_alloc | apply pw_below_drewN | apply below_drew1 | refine below_set ?_ GE1056.out) | exact HB.out)⟩⟩
              · rw [if_neg c7] at H
                exact absurd H (by simp)
            · rw [if_neg c6] at H
              have c6b0 : (((rd_T163 l0 x11_1).f0).toList == a1.toList) = false := beq_eq_false_iff_ne.mpr c6
              have c6b1 : (((rd_T163 l0 x11_1).f0).toList != a1.toList) = true := bne_iff_ne.mpr c6
              have H' := Aside0.mk H
              clear H
              have p1055 : 0 ≤ (x11_1 : Int) := of_decide_eq_true (by first | (with_reducible assumption) | assumption)
              have q1055 : x11_1 < (l0.length : Int) := of_decide_eq_true (by first | (with_reducible assumption) | assumption)
              obtain ⟨ad1055, A1055_1, c1055_1, e1055, hx1055_0, hx1055_1, hl1055_1, hi1055_1⟩ := at_T163 (Kd.V_reads' HO_9.out).2.2 x11_1 p1055 q1055
              cases e1055
              obtain ⟨ce1055, hce1055, hMe1055, hcc1055⟩ := Kd.V_get HO_9.out z163 x11_1 p1055 (by first | exact q1055 | exact of_decide_eq_true (by first | (with_reducible assumption) | assumption) | (have e_ := (Kd.V_reads' HO_9.out).1; omega))
              obtain ⟨ua1055_1, uc1055_1, rfl, ul1055_1, ge1055_1⟩ := k163_openF hMe1055
              have hv1055_1 := hcc1055 1 _ rfl
              rw [add_field _ _ 1 (by omega)] at hv1055_1
              replace hv1055_1 := Option.some.inj (hv1055_1.symm.trans hx1055_1)
              injection hv1055_1 with hva_ hvn_ hvc_
              rw [hva_] at ge1055_1
              rw [hvc_] at ul1055_1
              have HL1055_1 := Aside0.mk (show Kd.V (Kd.slice 5 (Kd.int .u8)) 22 _ w.heap.size _ _ ((rd_T163 l0 x11_1).f1) from Kd.V_mk ul1055_1 ge1055_1)
              clear hva_ hvn_ hvc_ ge1055_1 ul1055_1
              clear hcc1055 hce1055
              have HR1055_1 := Aside0.mk hi1055_1
              have HC1055_1 := Aside0.mk hl1055_1
              clear hi1055_1 hl1055_1
              replace p1055 := eq_true p1055
              replace q1055 := eq_true q1055
              go_wp2_with (first | ((with_reducible refine gate_dst (N := 8) rfl ?_); (try (refine gate_guard (by rfl) ?_; dsimp only)); refine box_event ?hg (N := 8) ?hd (cs := #[.string (⟨#[]⟩ : ByteArray), .slice none 0 0]) (t := 163) ?hr ?_; (case hd => rfl); (case hg => rfl); (case hr => first | (go_simp; done) | (go_simp; rfl)); intro gb1056 hg w13 hbox hb; have n0_ := Aside0.mk (Kd.N_below (Kd.N_elderB (by (with_reducible repeat (first | apply Kd.N_alloc | apply Kd.N_drewN | apply Kd.N_drew)); exact HO_6.out) gb1056 (Nat.le_of_eq hg.symm)) hb); have n1_ := Aside0.mk (Kd.V_below (Kd.V_elderB (by (with_reducible repeat (first | apply Kd.V_alloc | apply Kd.V_drewN | apply Kd.V_drew)); exact HO_9.out) gb1056 (Nat.le_of_eq hg.symm)) hb); have n2_ := Aside0.mk (Kd.V_below (Kd.V_elderB (by (with_reducible repeat (first | apply Kd.V_alloc | apply Kd.V_drewN | apply Kd.V_drew)); exact HL1055_1.out) gb1056 (Nat.le_of_eq hg.symm)) hb); have n3_ := Aside0.mk (Kd.C_below (by repeat (first | (with_reducible exact HR1055_1.out) | (with_reducible refine Kd.C_alloc ?_ _) | (with_reducible refine Kd.C_drewN ?_ _) | (with_reducible refine Kd.C_drew ?_) | exact HR1055_1.out)) hb); have n4_ := Aside0.mk (below_step (by repeat (first | (with_reducible first | exact HB.out | apply below_alloc | apply pw_below_drewN | apply below_drew1) | exact HB.out)) hb); have n5_ := Aside0.mk (hbox); have n6_ := Aside0.mk ((by rw [hg]; exact (below_size (by repeat (first | (with_reducible first | exact HB.out | apply below_alloc | apply pw_below_drewN | apply below_drew1) | exact HB.out))) : w.heap.size ≤ gb1056)); have n7_ := Aside0.mk ((by rw [hg]; exact (below_size (by repeat (first | (with_reducible first | exact HB.out | apply below_alloc | apply pw_below_drewN | apply below_drew1) | exact HB.out))) : w.heap.size ≤ gb1056)); clear HO_6; clear HO_9; clear HL1055_1; clear HR1055_1; clear HB; have HO_6 := n0_; have HO_9 := n1_; have HL1055_1 := n2_; have HR1055_1 := n3_; have HB := n4_; have BK1056 := n5_; have GW1056 := n6_; have GE1056 := n7_; clear n0_ n1_ n2_ n3_ n4_ n5_ n6_ n7_; clear hb hbox hg; have hcz14_0 : w13.cell? ⟨gb1056, 0, none⟩ = some (.string (⟨#[]⟩ : ByteArray)) := (blk_cell BK1056.out 0).trans rfl; have hcz14_1 : w13.cell? ⟨gb1056, 1, none⟩ = some (.slice none 0 0) := (blk_cell BK1056.out 1).trans rfl; have hfz14_0 := blk_frozen BK1056.out 0; have hfz14_1 := blk_frozen BK1056.out 1))
              go_roundg k1
              case measure => have := HK1.out; omega
              case rel => exact ⟨(x6_1), (wrap64 (x11_1 + 1)), (by first | rfl | (simp; done) | (simp [*]; done)), H', ⟨by have := HK1.out; omega⟩, ⟨by (with_reducible repeat (first | apply Kd.N_alloc | apply Kd.N_drewN | apply Kd.N_drew)); exact Kd.N_mono (Kd.N_far (p := ⟨gb1056, 1, none⟩) (Kd.N_far (p := ⟨gb1056, 0, none⟩) (Kd.N_mono HO_6.out (fun k_ hk => (⟨hk, hk.2⟩ : _ ∧ k_ ≠ gb1056))) (fun _ hk => hk.2) (.string ((rd_T163 l0 x11_1).f0))) (fun _ hk => hk.2) (.slice A1055_1 ((rd_T163 l0 x11_1).f1).length c1055_1)) (fun _ hk => hk.1.1)⟩, ⟨by (with_reducible repeat (first | apply Kd.V_alloc | apply Kd.V_drewN | apply Kd.V_drew)); exact Kd.V_mono (Kd.V_far (p := ⟨gb1056, 1, none⟩) (Kd.V_far (p := ⟨gb1056, 0, none⟩) (Kd.V_mono HO_9.out (fun k_ hk => (⟨hk, hk.2⟩ : _ ∧ k_ ≠ gb1056))) (fun _ hk => hk.2) (.string ((rd_T163 l0 x11_1).f0))) (fun _ hk => hk.2) (.slice A1055_1 ((rd_T163 l0 x11_1).f1).length c1055_1)) (fun _ hk => ⟨hk.1.1.1, hk.1.1.2⟩)⟩, ⟨by repeat (first | (with_reducible first | exact HB.out | apply below_alloc | apply pw_below_drewN | apply below_drew1 | refine below_set ?_ GE1056.out) | exact HB.out)⟩⟩
          · rw [if_neg c5] at H
            exact absurd H (by simp)
        · rw [if_neg c4] at H
          exact absurd H (by simp)
      · rw [if_neg c3] at H
        have c3b0 : decide (x11_1 < (l0.length : Int)) = false := decide_eq_false c3
        clear c3
        by_cases c15 : (x6_1.length : Int) = 0
        · rw [if_pos c15] at H
          have c15b0 : ((x6_1.length : Int) == 0) = true := beq_iff_eq.mpr c15
          have c15b1 : ((x6_1.length : Int) != 0) = false := bne_eq_false_iff_eq.mpr c15
          clear c15
          simp only [Option.some.injEq, Prod.mk.injEq] at H
          obtain ⟨rfl, rfl⟩ := H
          obtain ⟨Ao16, co16, eo16⟩ := Kd.N_slice HO_6.out
          subst eo16
          go_wp2
          go_ret2
          exact ⟨_, by first | rfl | (simp [errW_none, errW_some] <;> rfl) | (simp [*, errW_none, errW_some] <;> rfl), by first | exact Kd.R_nil _ _ _ _ _ | exact Kd.N_nil _ _ _ _ _ | exact Kd.V_nil _ _ _ _ _ | exact Kd.Q_nil _ _ _ _ _ | exact Kd.S_nil _ _ _ _ _, by repeat (first | (with_reducible first | exact HB.out | apply below_alloc | apply pw_below_drewN | apply below_drew1) | exact HB.out)⟩
        · rw [if_neg c15] at H
          have c15b0 : ((x6_1.length : Int) == 0) = false := beq_eq_false_iff_ne.mpr c15
          have c15b1 : ((x6_1.length : Int) != 0) = true := bne_iff_ne.mpr c15
          have c15b2 : ¬ (x6_1 = []) := fun h_ => c15 (by rw [h_]; rfl)
          by_cases c17 : (x6_1.length : Int) > 1
          · rw [if_pos c17] at H
            have c17b0 : decide (1 < (x6_1.length : Int)) = true := decide_eq_true c17
            have c17b1 : decide (1 < x6_1.length) = true := decide_eq_true (by omega)
            clear c17
            simp only [Option.some.injEq, Prod.mk.injEq] at H
            obtain ⟨rfl, rfl⟩ := H
            obtain ⟨Ao18, co18, eo18⟩ := Kd.N_slice HO_6.out
            subst eo18
            go_wp2
            go_ret2
            exact ⟨_, by first | rfl | (simp [errW_none, errW_some] <;> rfl) | (simp [*, errW_none, errW_some] <;> rfl), by first | exact Kd.R_nil _ _ _ _ _ | exact Kd.N_nil _ _ _ _ _ | exact Kd.V_nil _ _ _ _ _ | exact Kd.Q_nil _ _ _ _ _ | exact Kd.S_nil _ _ _ _ _, by repeat (first | (with_reducible first | exact HB.out | apply below_alloc | apply pw_below_drewN | apply below_drew1) | exact HB.out)⟩
          · rw [if_neg c17] at H
            have c17b0 : decide (1 < (x6_1.length : Int)) = false := decide_eq_false c17
            have c17b1 : decide (1 < x6_1.length) = false := decide_eq_false (by omega)
            clear c17
            by_cases c19 : 0 < (x6_1.length : Int)
            · rw [if_pos c19] at H
              have c19b0 : decide (0 < (x6_1.length : Int)) = true := decide_eq_true c19
              have c19b1 : decide (0 < x6_1.length) = true := decide_eq_true (by omega)
              clear c19
              by_cases c20 : (((rd_T163 x6_1 0).f1).length : Int) = 1
              · rw [if_pos c20] at H
                have c20b0 : ((((rd_T163 x6_1 0).f1).length : Int) == 1) = true := beq_iff_eq.mpr c20
                have c20b1 : ((((rd_T163 x6_1 0).f1).length : Int) != 1) = false := bne_eq_false_iff_eq.mpr c20
                clear c20
                by_cases c21 : 0 < (((rd_T163 x6_1 0).f1).length : Int)
                · rw [if_pos c21] at H
                  have c21b0 : decide (0 < (((rd_T163 x6_1 0).f1).length : Int)) = true := decide_eq_true c21
                  have c21b1 : decide (0 < ((rd_T163 x6_1 0).f1).length) = true := decide_eq_true (by omega)
                  clear c21
                  replace H := Option.bind_eq_some_iff.mp H
                  obtain ⟨t1063, A220, H⟩ := H
                  replace H : (some (t1063, 0)) = some (r1, r2) := H
                  have A22 := Aside0.mk A220
                  clear A220
                  simp only [Option.some.injEq, Prod.mk.injEq] at H
                  obtain ⟨rfl, rfl⟩ := H
                  obtain ⟨Ao23, co23, eo23⟩ := Kd.N_slice HO_6.out
                  subst eo23
                  have p1060 : 0 ≤ (0 : Int) := (by omega)
                  have q1060 : 0 < (x6_1.length : Int) := of_decide_eq_true (by first | (with_reducible assumption) | assumption)
                  obtain ⟨ad1060, A1060_1, c1060_1, e1060, hx1060_0, hx1060_1, hl1060_1, hi1060_1⟩ := at_T163 (Kd.N_reads' HO_6.out).2.2 0 p1060 q1060
                  cases e1060
                  obtain ⟨ce1060, hce1060, hMe1060, hcc1060⟩ := Kd.N_get HO_6.out z163 0 p1060 (by first | exact q1060 | exact of_decide_eq_true (by first | (with_reducible assumption) | assumption) | (have e_ := (Kd.N_reads' HO_6.out).1; omega))
                  obtain ⟨ua1060_1, uc1060_1, rfl, ul1060_1, ge1060_1⟩ := k163_openF hMe1060
                  have hv1060_1 := hcc1060 1 _ rfl
                  rw [add_field _ _ 1 (by omega)] at hv1060_1
                  replace hv1060_1 := Option.some.inj (hv1060_1.symm.trans hx1060_1)
                  injection hv1060_1 with hva_ hvn_ hvc_
                  rw [hva_] at ge1060_1
                  rw [hvc_] at ul1060_1
                  have HL1060_1 := Aside0.mk (show Kd.V (Kd.slice 5 (Kd.int .u8)) 22 _ w.heap.size _ _ ((rd_T163 x6_1 0).f1) from Kd.V_mk ul1060_1 ge1060_1)
                  clear hva_ hvn_ hvc_ ge1060_1 ul1060_1
                  clear hcc1060 hce1060
                  have qi1060 : (0 < x6_1.length) = True := eq_true (by omega)
                  (try rw [show ((0 : Int)).toNat = 0 from rfl] at hx1060_0)
                  (try rw [show 0 * 2 = 0 from rfl] at hx1060_0)
                  (try rw [Addr.add_zero'] at hx1060_0)
                  (try rw [show ((0 : Int)).toNat = 0 from rfl] at hx1060_1)
                  (try rw [show 0 * 2 = 0 from rfl] at hx1060_1)
                  (try rw [Addr.add_zero'] at hx1060_1)
                  have HR1060_1 := Aside0.mk hi1060_1
                  have HC1060_1 := Aside0.mk hl1060_1
                  clear hi1060_1 hl1060_1
                  replace p1060 := eq_true p1060
                  replace q1060 := eq_true q1060
                  have p1061 : 0 ≤ (0 : Int) := (by omega)
                  have q1061 : 0 < (x6_1.length : Int) := of_decide_eq_true (by first | (with_reducible assumption) | assumption)
                  obtain ⟨ad1061, A1061_1, c1061_1, e1061, hx1061_0, hx1061_1, hl1061_1, hi1061_1⟩ := at_T163 (Kd.N_reads' HO_6.out).2.2 0 p1061 q1061
                  obtain rfl : ad1060 = ad1061 := (by injection e1061)
                  obtain ⟨ce1061, hce1061, hMe1061, hcc1061⟩ := Kd.N_get HO_6.out z163 0 p1061 (by first | exact q1061 | exact of_decide_eq_true (by first | (with_reducible assumption) | assumption) | (have e_ := (Kd.N_reads' HO_6.out).1; omega))
                  obtain ⟨ua1061_1, uc1061_1, rfl, ul1061_1, ge1061_1⟩ := k163_openF hMe1061
                  have hv1061_1 := hcc1061 1 _ rfl
                  rw [add_field _ _ 1 (by omega)] at hv1061_1
                  replace hv1061_1 := Option.some.inj (hv1061_1.symm.trans hx1061_1)
                  injection hv1061_1 with hva_ hvn_ hvc_
                  rw [hva_] at ge1061_1
                  rw [hvc_] at ul1061_1
                  have HL1061_1 := Aside0.mk (show Kd.V (Kd.slice 5 (Kd.int .u8)) 22 _ w.heap.size _ _ ((rd_T163 x6_1 0).f1) from Kd.V_mk ul1061_1 ge1061_1)
                  clear hva_ hvn_ hvc_ ge1061_1 ul1061_1
                  clear hcc1061 hce1061
                  have qi1061 : (0 < x6_1.length) = True := eq_true (by omega)
                  (try rw [show ((0 : Int)).toNat = 0 from rfl] at hx1061_0)
                  (try rw [show 0 * 2 = 0 from rfl] at hx1061_0)
                  (try rw [Addr.add_zero'] at hx1061_0)
                  (try rw [show ((0 : Int)).toNat = 0 from rfl] at hx1061_1)
                  (try rw [show 0 * 2 = 0 from rfl] at hx1061_1)
                  (try rw [Addr.add_zero'] at hx1061_1)
                  have HR1061_1 := Aside0.mk hi1061_1
                  have HC1061_1 := Aside0.mk hl1061_1
                  clear hi1061_1 hl1061_1
                  replace p1061 := eq_true p1061
                  replace q1061 := eq_true q1061
                  have ea_ := Option.some.inj (hx1060_1.symm.trans hx1061_1)
                  injection ea_ with ea_ en_ ec_
                  subst ea_
                  subst ec_
                  clear en_
                  have p1062 : 0 ≤ (0 : Int) := (by omega)
                  have q1062 : 0 < (((rd_T163 x6_1 0).f1).length : Int) := of_decide_eq_true (by first | (with_reducible assumption) | assumption)
                  obtain ⟨ad1062, A1062_0, c1062_0, e1062, hx1062_0, hl1062_0, hi1062_0⟩ := at_L1 (by repeat (first | (with_reducible exact HR1061_1.out) | (with_reducible refine Kd.C_alloc ?_ _) | (with_reducible refine Kd.C_drewN ?_ _) | (with_reducible refine Kd.C_drew ?_) | exact HR1061_1.out)) 0 p1062 q1062
                  cases e1062
                  obtain ⟨ce1062, hce1062, hMe1062, hcc1062⟩ := Kd.V_get HL1061_1.out [] 0 p1062 (by first | exact q1062 | exact of_decide_eq_true (by first | (with_reducible assumption) | assumption) | (have e_ := (Kd.V_reads' HL1061_1.out).1; omega))
                  obtain ⟨ua1062_0, uc1062_0, rfl, ul1062_0, ge1062_0⟩ := Kd.FK_slice_open hMe1062
                  have hv1062_0 := hcc1062 0 _ rfl
                  rw [Nat.add_zero, show ((Kd.slice 5 (Kd.int .u8))).sz = 1 from rfl, Nat.mul_one] at hv1062_0
                  replace hv1062_0 := Option.some.inj (hv1062_0.symm.trans hx1062_0)
                  injection hv1062_0 with hva_ hvn_ hvc_
                  rw [hva_] at ge1062_0
                  rw [hvc_] at ul1062_0
                  have HL1062_0 := Aside0.mk (show Kd.V (Kd.int .u8) 5 _ w.heap.size _ _ (rd_L1 ((rd_T163 x6_1 0).f1) 0) from Kd.V_mk ul1062_0 ge1062_0)
                  clear hva_ hvn_ hvc_ ge1062_0 ul1062_0
                  clear hcc1062 hce1062
                  have qi1062 : (0 < ((rd_T163 x6_1 0).f1).length) = True := eq_true (by omega)
                  (try rw [show ((0 : Int)).toNat = 0 from rfl] at hx1062_0)
                  (try rw [Addr.add_zero'] at hx1062_0)
                  have HR1062_0 := Aside0.mk hi1062_0
                  have HC1062_0 := Aside0.mk hl1062_0
                  clear hi1062_0 hl1062_0
                  replace p1062 := eq_true p1062
                  replace q1062 := eq_true q1062
                  go_wp2_with (first | ((with_reducible refine gate_callee (f := 76) rfl ?_); refine goesL_ (some 46) rfl rfl Tryz.func76 (by kernel_rfl) rfl #[.slice A1062_0 (rd_L1 ((rd_T163 x6_1 0).f1) 0).length c1062_0] rfl (by (try simp only [List.map_toArray, List.map_cons, List.map_nil]); first | done | rfl | (simp only [List.length_drop, List.length_take]; rfl)) ?_; (with_reducible refine (bytes_Clone.calls _ _ (rd_L1 ((rd_T163 x6_1 0).f1) 0) t1063 _ ?side1 ?side2 A22.out).mono ?_); (case side1 => repeat (first | exact (by repeat (first | (with_reducible exact HR1062_0.out) | (with_reducible refine Kd.C_alloc ?_ _) | (with_reducible refine Kd.C_drewN ?_ _) | (with_reducible refine Kd.C_drew ?_) | exact HR1062_0.out)) | (with_reducible refine Kd.C_alloc ?_ _) | (with_reducible refine Kd.C_drewN ?_ _) | (with_reducible refine Kd.C_drew ?_))); (case side2 => exact HC1062_0.out); rintro e w24 ⟨v1064, rfl, ho0, hb⟩; refine ⟨_, rfl, ?_⟩; have n0_ := Aside0.mk (Kd.N_elder' (by (with_reducible repeat (first | apply Kd.N_alloc | apply Kd.N_drewN | apply Kd.N_drew)); exact HO_6.out) (Kd.R_base ho0) hb); have n1_ := Aside0.mk (Kd.V_elder' (by (with_reducible repeat (first | apply Kd.V_alloc | apply Kd.V_drewN | apply Kd.V_drew)); exact HO_9.out) (Kd.R_base ho0) hb); have n2_ := Aside0.mk (Kd.V_elder' (by (with_reducible repeat (first | apply Kd.V_alloc | apply Kd.V_drewN | apply Kd.V_drew)); exact HL1060_1.out) (Kd.R_base ho0) hb); have n3_ := Aside0.mk (Kd.V_elder' (by (with_reducible repeat (first | apply Kd.V_alloc | apply Kd.V_drewN | apply Kd.V_drew)); exact HL1061_1.out) (Kd.R_base ho0) hb); have n4_ := Aside0.mk (Kd.V_elder' (by (with_reducible repeat (first | apply Kd.V_alloc | apply Kd.V_drewN | apply Kd.V_drew)); exact HL1062_0.out) (Kd.R_base ho0) hb); have n5_ := Aside0.mk (Kd.R_lower (Kd.R_newM (M := fun k_ => (w.heap.size ≤ k_)) ho0 (below_size (by repeat (first | (with_reducible first | exact HB.out | apply below_alloc | apply pw_below_drewN | apply below_drew1) | exact HB.out))) (fun k_ h_ => h_)) (below_size (by repeat (first | (with_reducible first | exact HB.out | apply below_alloc | apply pw_below_drewN | apply below_drew1) | exact HB.out)))); have n6_ := Aside0.mk (Kd.C_below (by repeat (first | (with_reducible exact HR1060_1.out) | (with_reducible refine Kd.C_alloc ?_ _) | (with_reducible refine Kd.C_drewN ?_ _) | (with_reducible refine Kd.C_drew ?_) | exact HR1060_1.out)) hb); have n7_ := Aside0.mk (Kd.C_below (by repeat (first | (with_reducible exact HR1061_1.out) | (with_reducible refine Kd.C_alloc ?_ _) | (with_reducible refine Kd.C_drewN ?_ _) | (with_reducible refine Kd.C_drew ?_) | exact HR1061_1.out)) hb); have n8_ := Aside0.mk (Kd.C_below (by repeat (first | (with_reducible exact HR1062_0.out) | (with_reducible refine Kd.C_alloc ?_ _) | (with_reducible refine Kd.C_drewN ?_ _) | (with_reducible refine Kd.C_drew ?_) | exact HR1062_0.out)) hb); have n9_ := Aside0.mk (below_step (by repeat (first | (with_reducible first | exact HB.out | apply below_alloc | apply pw_below_drewN | apply below_drew1) | exact HB.out)) hb); clear HO_6; clear HO_9; clear HL1060_1; clear HL1061_1; clear HL1062_0; clear HR1060_1; clear HR1061_1; clear HR1062_0; clear HB; have HO_6 := n0_; have HO_9 := n1_; have HL1060_1 := n2_; have HL1061_1 := n3_; have HL1062_0 := n4_; have HO1065 := n5_; have HR1060_1 := n6_; have HR1061_1 := n7_; have HR1062_0 := n8_; have HB := n9_; clear n0_ n1_ n2_ n3_ n4_ n5_ n6_ n7_ n8_ n9_; (try clear hb); (try clear hb2); (try clear hk); (try clear hi); (try clear ho0)))
                  go_ret2
                  exact ⟨_, by first | rfl | (simp [errW_none, errW_some] <;> rfl) | (simp [*, errW_none, errW_some] <;> rfl), by (with_reducible repeat (first | apply Kd.R_alloc | apply Kd.R_drewN | apply Kd.R_drew)); exact Kd.R_mono HO1065.out (fun _ hk => hk.1), by repeat (first | (with_reducible first | exact HB.out | apply below_alloc | apply pw_below_drewN | apply below_drew1) | exact HB.out)⟩
                · rw [if_neg c21] at H
                  exact absurd H (by simp)
              · rw [if_neg c20] at H
                have c20b0 : ((((rd_T163 x6_1 0).f1).length : Int) == 1) = false := beq_eq_false_iff_ne.mpr c20
                have c20b1 : ((((rd_T163 x6_1 0).f1).length : Int) != 1) = true := bne_iff_ne.mpr c20
                simp only [Option.some.injEq, Prod.mk.injEq] at H
                obtain ⟨rfl, rfl⟩ := H
                obtain ⟨Ao25, co25, eo25⟩ := Kd.N_slice HO_6.out
                subst eo25
                have p1060 : 0 ≤ (0 : Int) := (by omega)
                have q1060 : 0 < (x6_1.length : Int) := of_decide_eq_true (by first | (with_reducible assumption) | assumption)
                obtain ⟨ad1060, A1060_1, c1060_1, e1060, hx1060_0, hx1060_1, hl1060_1, hi1060_1⟩ := at_T163 (Kd.N_reads' HO_6.out).2.2 0 p1060 q1060
                cases e1060
                obtain ⟨ce1060, hce1060, hMe1060, hcc1060⟩ := Kd.N_get HO_6.out z163 0 p1060 (by first | exact q1060 | exact of_decide_eq_true (by first | (with_reducible assumption) | assumption) | (have e_ := (Kd.N_reads' HO_6.out).1; omega))
                obtain ⟨ua1060_1, uc1060_1, rfl, ul1060_1, ge1060_1⟩ := k163_openF hMe1060
                have hv1060_1 := hcc1060 1 _ rfl
                rw [add_field _ _ 1 (by omega)] at hv1060_1
                replace hv1060_1 := Option.some.inj (hv1060_1.symm.trans hx1060_1)
                injection hv1060_1 with hva_ hvn_ hvc_
                rw [hva_] at ge1060_1
                rw [hvc_] at ul1060_1
                have HL1060_1 := Aside0.mk (show Kd.V (Kd.slice 5 (Kd.int .u8)) 22 _ w.heap.size _ _ ((rd_T163 x6_1 0).f1) from Kd.V_mk ul1060_1 ge1060_1)
                clear hva_ hvn_ hvc_ ge1060_1 ul1060_1
                clear hcc1060 hce1060
                have qi1060 : (0 < x6_1.length) = True := eq_true (by omega)
                (try rw [show ((0 : Int)).toNat = 0 from rfl] at hx1060_0)
                (try rw [show 0 * 2 = 0 from rfl] at hx1060_0)
                (try rw [Addr.add_zero'] at hx1060_0)
                (try rw [show ((0 : Int)).toNat = 0 from rfl] at hx1060_1)
                (try rw [show 0 * 2 = 0 from rfl] at hx1060_1)
                (try rw [Addr.add_zero'] at hx1060_1)
                have HR1060_1 := Aside0.mk hi1060_1
                have HC1060_1 := Aside0.mk hl1060_1
                clear hi1060_1 hl1060_1
                replace p1060 := eq_true p1060
                replace q1060 := eq_true q1060
                go_wp2
                go_ret2
                exact ⟨_, by first | rfl | (simp [errW_none, errW_some] <;> rfl) | (simp [*, errW_none, errW_some] <;> rfl), by first | exact Kd.R_nil _ _ _ _ _ | exact Kd.N_nil _ _ _ _ _ | exact Kd.V_nil _ _ _ _ _ | exact Kd.Q_nil _ _ _ _ _ | exact Kd.S_nil _ _ _ _ _, by repeat (first | (with_reducible first | exact HB.out | apply below_alloc | apply pw_below_drewN | apply below_drew1) | exact HB.out)⟩
            · rw [if_neg c19] at H
              exact absurd H (by simp)

end Go.Proofs.YtkioddjjfifadaaGreatDoor.P
