/- What the proof of NameBack needs of: Pxf79, Pxf35, Lp3, Pxf205, Pxf250, Hu0. -/
import Derived.Lib.ValidAsc
import Derived.Lib.EndianBits
import Derived.Laws.BitsAllLaws
import Derived.Shelf.Unicode.ValidAny
import Derived.Test.YtkioddjjfifadaaGreatDoorNk2
import Derived.Test.YtkioddjjfifadaaGreatDoorNk3
import Derived.Test.YtkioddjjfifadaaGreatDoorNk5
import Derived.Test.YtkioddjjfifadaaGreatDoorNk6
import Derived.Test.YtkioddjjfifadaaGreatDoorNk7
set_option linter.unusedVariables false
set_option linter.unusedSimpArgs false
namespace Go.Proofs.YtkioddjjfifadaaGreatDoor.P
open Go.RowKit Go.Proofs.YtkioddjjfifadaaGreatDoorW.PrintWords Go.Proofs.YtkioddjjfifadaaGreatDoorW.PrintLast Go.Proofs.YtkioddjjfifadaaGreatDoorW.PrintMore
attribute [local go_sem] max2_int min2_int max_two min_two max_three min_three max_four min_four   -- for this text's walks alone
set_option linter.unusedVariables false
set_option linter.unusedSimpArgs false
def name_read.l0 : Nat → List (List (S64)) → List (S77) → Int → Int → Option ((List (List (S64))) × Int)
  | 0, _, _, _, _ => none
  | k + 1, x8, x35, x36, x37 => if x37 < x36 then (if 0 ≤ x37 then (if x37 < (x35.length : Int) then ((name_set.f k ((rd_T77 x35 x37).f0) ((rd_T77 x35 x37).f1) ((rd_T77 x35 x37).f2) ((rd_T77 x35 x37).f3) ((rd_T77 x35 x37).f4)).bind fun bt243 => (if bt243.2 = 0 then (if x8.length < 5864062014805 then (name_read.l0 k (x8 ++ [bt243.1]) x35 x36 (wrap64 (x37 + 1))) else (none)) else (some (([] : List (List (S64))), bt243.2)))) else (none)) else (none)) else (some (x8, 0))
def name_read.f (k : Nat) (l0 : List Int) : Option ((List (List (S64))) × Int) := (der_One.f k l0).bind fun bt226 => (if bt226.2.2.2.2.2 = 0 then ((name_inside.f k bt226.1 bt226.2.1 bt226.2.2.1 bt226.2.2.2.1 bt226.2.2.2.2.1 16).bind fun bt237 => (if bt237.2 = 0 then (if (bt237.1.length : Int) > 64 then (some (([] : List (List (S64))), 4)) else (name_read.l0 k ([] : List (List (S64))) bt237.1 (bt237.1.length : Int) 0)) else (some (([] : List (List (S64))), bt237.2)))) else (some (([] : List (List (S64))), bt226.2.2.2.2.2)))
set_option maxHeartbeats 8000000 in
set_option maxRecDepth 100000 in
theorem name_read.calls (k : Nat) (A0 : Option Addr) (c0 : Nat) (l0 : List Int) (r1 : List (List (S64))) (r2 : Int) (w : World) (hr0 : Kd.C (Kd.int .u8) w A0 l0.length l0) (hc0 : l0.length ≤ c0) (h : name_read.f k l0 = some (r1, r2)) (hH : Tb w) :
    Calls Tryz.prog 79 #[.slice A0 l0.length c0] w fun e w' => ∃ v0_ ev_ : Value, e = .returned (.tuple #[v0_, ev_]) ∧ EV ev_ r2 ∧ Kd.R (Kd.slice 64 k64) 62 w' w.heap.size (fun _ => True) v0_ r1 ∧ Below w.heap.size w w' := by
  have hu77 := Tryz.underlying77
  have HR0 := Aside0.mk hr0
  have HC0 := Aside0.mk hc0
  clear hr0 hc0
  have HB := Aside0.mk (Below.refl w.heap.size w)
  have HHd := Aside0.mk hH
  clear hH
  have H : ((der_One.f k l0).bind fun bt226 => (if bt226.2.2.2.2.2 = 0 then ((name_inside.f k bt226.1 bt226.2.1 bt226.2.2.1 bt226.2.2.2.1 bt226.2.2.2.2.1 16).bind fun bt237 => (if bt237.2 = 0 then (if (bt237.1.length : Int) > 64 then (some (([] : List (List (S64))), 4)) else (name_read.l0 k ([] : List (List (S64))) bt237.1 (bt237.1.length : Int) 0)) else (some (([] : List (List (S64))), bt237.2)))) else (some (([] : List (List (S64))), bt226.2.2.2.2.2)))) = some (r1, r2) := h
  clear h
  replace H := Option.bind_eq_some_iff.mp H
  obtain ⟨⟨t226, t227, t228, t229, t232, t235⟩, A20, H⟩ := H
  replace H : (if t235 = 0 then ((name_inside.f k t226 t227 t228 t229 t232 16).bind fun bt237 => (if bt237.2 = 0 then (if (bt237.1.length : Int) > 64 then (some (([] : List (List (S64))), 4)) else (name_read.l0 k ([] : List (List (S64))) bt237.1 (bt237.1.length : Int) 0)) else (some (([] : List (List (S64))), bt237.2)))) else (some (([] : List (List (S64))), t235))) = some (r1, r2) := H
  have A2 := Aside0.mk A20
  clear A20
  by_cases c3 : t235 = 0
  rotate_left
  · rw [if_neg c3] at H
    have c3b0 : (t235 == 0) = false := beq_eq_false_iff_ne.mpr c3
    have c3b1 : (t235 != 0) = true := bne_iff_ne.mpr c3
    simp only [Option.some.injEq, Prod.mk.injEq] at H
    obtain ⟨rfl, rfl⟩ := H
    go_enter Tryz.func79, Tryz.ntmps79
    go_wp2_with (first | ((with_reducible refine gate_callee (f := 95) rfl ?_); refine goesL_ (some 15) rfl rfl Tryz.func95 (by kernel_rfl) rfl #[.slice A0 l0.length c0] rfl (by (try simp only [List.map_toArray, List.map_cons, List.map_nil]); first | done | rfl | (simp only [List.length_drop, List.length_take]; rfl)) ?_; (with_reducible refine (der_One.calls k _ _ l0 t226 t227 t228 t229 t232 t235 _ ?side1 ?side2 A2.out).mono ?_); (case side1 => exact Kd.C_u HR0.out); (case side2 => exact HC0.out); rintro e w43 ⟨v230, v233, rfl, ho0, ho1, hb⟩; refine ⟨_, rfl, ?_⟩; have n0_ := Aside0.mk (Kd.V_lower (Kd.V_mono (ok' := fun k_ => True) ho0 (fun k_ hk_ => trivial)) (below_size (bU HB.out))); have n1_ := Aside0.mk (Kd.V_lower (Kd.V_mono (ok' := fun k_ => True) ho1 (fun k_ hk_ => trivial)) (below_size (bU HB.out))); have n2_ := Aside0.mk (below_step (bU HB.out) hb); clear HB; have HO231 := n0_; have HO234 := n1_; have HB := n2_; clear n0_ n1_ n2_; (try clear hb); (try clear hb2); (try clear hk); (try clear hi); (try clear ho0); (try clear ho1)) | ((with_reducible refine gate_dst (N := 4) rfl ?_); refine box_event ?hg (N := 4) ?hd (cs := #[.int .i64 0, .int .i64 0, .bool false, .slice none 0 0, .slice none 0 0]) (t := 77) ?hr ?_; (case hd => rfl); (case hg => rfl); (case hr => first | (go_simp; done) | (go_simp; rfl)); intro gb236 hg w44 hbox hb; have n0_ := Aside0.mk (Kd.V_below (Kd.V_elderB (Kd.V_u HO231.out) gb236 (Nat.le_of_eq hg.symm)) hb); have n1_ := Aside0.mk (Kd.V_below (Kd.V_elderB (Kd.V_u HO234.out) gb236 (Nat.le_of_eq hg.symm)) hb); have n2_ := Aside0.mk (below_step (bU HB.out) hb); have n3_ := Aside0.mk (hbox); have n4_ := Aside0.mk ((by rw [hg]; exact (below_size (bU HB.out)) : w.heap.size ≤ gb236)); have n5_ := Aside0.mk ((by rw [hg]; exact (below_size (bU HB.out)) : w.heap.size ≤ gb236)); clear HO231; clear HO234; clear HB; have HO231 := n0_; have HO234 := n1_; have HB := n2_; have BK236 := n3_; have GW236 := n4_; have GE236 := n5_; clear n0_ n1_ n2_ n3_ n4_ n5_; clear hb hbox hg; have hcz45_0 : w44.cell? ⟨gb236, 0, none⟩ = some (.int .i64 0) := (blk_cell BK236.out 0).trans rfl; have hcz45_1 : w44.cell? ⟨gb236, 1, none⟩ = some (.int .i64 0) := (blk_cell BK236.out 1).trans rfl; have hcz45_2 : w44.cell? ⟨gb236, 2, none⟩ = some (.bool false) := (blk_cell BK236.out 2).trans rfl; have hcz45_3 : w44.cell? ⟨gb236, 3, none⟩ = some (.slice none 0 0) := (blk_cell BK236.out 3).trans rfl; have hcz45_4 : w44.cell? ⟨gb236, 4, none⟩ = some (.slice none 0 0) := (blk_cell BK236.out 4).trans rfl; have hfz45_0 := blk_frozen BK236.out 0; have hfz45_1 := blk_frozen BK236.out 1; have hfz45_2 := blk_frozen BK236.out 2; have hfz45_3 := blk_frozen BK236.out 3; have hfz45_4 := blk_frozen BK236.out 4; obtain ⟨Ao46, co46, eo46⟩ := Kd.V_slice HO231.out; subst eo46; obtain ⟨Ao47, co47, eo47⟩ := Kd.V_slice HO234.out; subst eo47))
    go_ret2
    exact ⟨_, _, by first | rfl | (simp [errW_none, errW_some] <;> rfl) | (simp [*, errW_none, errW_some] <;> rfl), (by first | exact EV.nil | exact EV.f30 | exact EV.f5 | exact EV.f4 | exact EV.f1 | exact EV.low (by assumption) | exact HEV_.out | exact EV.part HEV_.out), by first | exact Kd.R_nil _ _ _ _ _ | exact Kd.N_nil _ _ _ _ _ | exact Kd.V_nil _ _ _ _ _ | exact Kd.Q_nil _ _ _ _ _ | exact Kd.S_nil _ _ _ _ _, by repeat (first | (with_reducible first | exact HB.out | apply below_alloc | apply pw_below_drewN | apply below_drew1 | refine below_set ?_ GE236.out) | exact HB.out)⟩
  rw [if_pos c3] at H
  have c3b0 : (t235 == 0) = true := beq_iff_eq.mpr c3
  have c3b1 : (t235 != 0) = false := bne_eq_false_iff_eq.mpr c3
  clear c3
  replace H := Option.bind_eq_some_iff.mp H
  obtain ⟨⟨t237, t240⟩, A40, H⟩ := H
  replace H : (if t240 = 0 then (if (t237.length : Int) > 64 then (some (([] : List (List (S64))), 4)) else (name_read.l0 k ([] : List (List (S64))) t237 (t237.length : Int) 0)) else (some (([] : List (List (S64))), t240))) = some (r1, r2) := H
  have A4 := Aside0.mk A40
  clear A40
  by_cases c5 : t240 = 0
  rotate_left
  · rw [if_neg c5] at H
    have c5b0 : (t240 == 0) = false := beq_eq_false_iff_ne.mpr c5
    have c5b1 : (t240 != 0) = true := bne_iff_ne.mpr c5
    simp only [Option.some.injEq, Prod.mk.injEq] at H
    obtain ⟨rfl, rfl⟩ := H
    go_enter Tryz.func79, Tryz.ntmps79
    go_wp2_with (first | ((with_reducible refine gate_callee (f := 95) rfl ?_); refine goesL_ (some 15) rfl rfl Tryz.func95 (by kernel_rfl) rfl #[.slice A0 l0.length c0] rfl (by (try simp only [List.map_toArray, List.map_cons, List.map_nil]); first | done | rfl | (simp only [List.length_drop, List.length_take]; rfl)) ?_; (with_reducible refine (der_One.calls k _ _ l0 t226 t227 t228 t229 t232 t235 _ ?side1 ?side2 A2.out).mono ?_); (case side1 => exact Kd.C_u HR0.out); (case side2 => exact HC0.out); rintro e w37 ⟨v230, v233, rfl, ho0, ho1, hb⟩; refine ⟨_, rfl, ?_⟩; have n0_ := Aside0.mk (Kd.V_lower (Kd.V_mono (ok' := fun k_ => True) ho0 (fun k_ hk_ => trivial)) (below_size (bU HB.out))); have n1_ := Aside0.mk (Kd.V_lower (Kd.V_mono (ok' := fun k_ => True) ho1 (fun k_ hk_ => trivial)) (below_size (bU HB.out))); have n2_ := Aside0.mk (below_step (bU HB.out) hb); clear HB; have HO231 := n0_; have HO234 := n1_; have HB := n2_; clear n0_ n1_ n2_; (try clear hb); (try clear hb2); (try clear hk); (try clear hi); (try clear ho0); (try clear ho1)) | ((with_reducible refine gate_dst (N := 4) rfl ?_); refine box_event ?hg (N := 4) ?hd (cs := #[.int .i64 0, .int .i64 0, .bool false, .slice none 0 0, .slice none 0 0]) (t := 77) ?hr ?_; (case hd => rfl); (case hg => rfl); (case hr => first | (go_simp; done) | (go_simp; rfl)); intro gb236 hg w38 hbox hb; have n0_ := Aside0.mk (Kd.V_below (Kd.V_elderB (Kd.V_u HO231.out) gb236 (Nat.le_of_eq hg.symm)) hb); have n1_ := Aside0.mk (Kd.V_below (Kd.V_elderB (Kd.V_u HO234.out) gb236 (Nat.le_of_eq hg.symm)) hb); have n2_ := Aside0.mk (below_step (bU HB.out) hb); have n3_ := Aside0.mk (hbox); have n4_ := Aside0.mk ((by rw [hg]; exact (below_size (bU HB.out)) : w.heap.size ≤ gb236)); have n5_ := Aside0.mk ((by rw [hg]; exact (below_size (bU HB.out)) : w.heap.size ≤ gb236)); clear HO231; clear HO234; clear HB; have HO231 := n0_; have HO234 := n1_; have HB := n2_; have BK236 := n3_; have GW236 := n4_; have GE236 := n5_; clear n0_ n1_ n2_ n3_ n4_ n5_; clear hb hbox hg; have hcz39_0 : w38.cell? ⟨gb236, 0, none⟩ = some (.int .i64 0) := (blk_cell BK236.out 0).trans rfl; have hcz39_1 : w38.cell? ⟨gb236, 1, none⟩ = some (.int .i64 0) := (blk_cell BK236.out 1).trans rfl; have hcz39_2 : w38.cell? ⟨gb236, 2, none⟩ = some (.bool false) := (blk_cell BK236.out 2).trans rfl; have hcz39_3 : w38.cell? ⟨gb236, 3, none⟩ = some (.slice none 0 0) := (blk_cell BK236.out 3).trans rfl; have hcz39_4 : w38.cell? ⟨gb236, 4, none⟩ = some (.slice none 0 0) := (blk_cell BK236.out 4).trans rfl; have hfz39_0 := blk_frozen BK236.out 0; have hfz39_1 := blk_frozen BK236.out 1; have hfz39_2 := blk_frozen BK236.out 2; have hfz39_3 := blk_frozen BK236.out 3; have hfz39_4 := blk_frozen BK236.out 4; obtain ⟨Ao40, co40, eo40⟩ := Kd.V_slice HO231.out; subst eo40; obtain ⟨Ao41, co41, eo41⟩ := Kd.V_slice HO234.out; subst eo41) | ((with_reducible refine gate_callee (f := 141) rfl ?_); refine goesL_ (some 25) rfl rfl Tryz.func141 (by kernel_rfl) rfl #[.agg #[.int .i64 t226, .int .i64 t227, .bool t228, .slice Ao40 t229.length co40, .slice Ao41 t232.length co41], .int .i64 16] rfl (by (try simp only [List.map_toArray, List.map_cons, List.map_nil]); first | done | rfl | (simp only [List.length_drop, List.length_take]; rfl)) ?_; (with_reducible refine (name_inside.calls k t226 t227 t228 _ _ t229 _ _ t232 16 t237 t240 _ ?side1 ?side2 ?side3 ?side4 A4.out).mono ?_); (case side1 => refine (Kd.V_reads' (e := 5) (base := w.heap.size) (ok := fun k_ => (True ∧ k_ ≠ gb236)) (n := t229.length) (c := co40) ?_).2.2; exact (Kd.V_u ((Kd.V_mono (Kd.V_far (p := ⟨gb236, 4, none⟩) (Kd.V_far (p := ⟨gb236, 3, none⟩) (Kd.V_far (p := ⟨gb236, 2, none⟩) (Kd.V_far (p := ⟨gb236, 1, none⟩) (Kd.V_far (p := ⟨gb236, 0, none⟩) (Kd.V_mono HO231.out (fun k_ hk => (⟨hk, hk.2⟩ : _ ∧ k_ ≠ gb236))) (fun _ hk => hk.2) (.int .i64 t226)) (fun _ hk => hk.2) (.int .i64 t227)) (fun _ hk => hk.2) (.bool t228)) (fun _ hk => hk.2) (.slice Ao40 t229.length co40)) (fun _ hk => hk.2) (.slice Ao41 t232.length co41)) (fun _ h_ => h_.1))))); (case side2 => exact (Kd.V_reads' HO231.out).2.1); (case side3 => refine (Kd.V_reads' (e := 5) (base := w.heap.size) (ok := fun k_ => (True ∧ k_ ≠ gb236)) (n := t232.length) (c := co41) ?_).2.2; exact (Kd.V_u ((Kd.V_mono (Kd.V_far (p := ⟨gb236, 4, none⟩) (Kd.V_far (p := ⟨gb236, 3, none⟩) (Kd.V_far (p := ⟨gb236, 2, none⟩) (Kd.V_far (p := ⟨gb236, 1, none⟩) (Kd.V_far (p := ⟨gb236, 0, none⟩) (Kd.V_mono HO234.out (fun k_ hk => (⟨hk, hk.2⟩ : _ ∧ k_ ≠ gb236))) (fun _ hk => hk.2) (.int .i64 t226)) (fun _ hk => hk.2) (.int .i64 t227)) (fun _ hk => hk.2) (.bool t228)) (fun _ hk => hk.2) (.slice Ao40 t229.length co40)) (fun _ hk => hk.2) (.slice Ao41 t232.length co41)) (fun _ h_ => h_.1))))); (case side4 => exact (Kd.V_reads' HO234.out).2.1); rintro e w42 ⟨v238, ev_, rfl, hev_, ho0, hb⟩; obtain ⟨et_, eu_, rfl⟩ := EV.some_of hev_ c5b0; have HEV_ := Aside0.mk hev_; clear hev_; refine ⟨_, rfl, ?_⟩; have n0_ := Aside0.mk (Kd.V_elder' (Kd.V_u ((Kd.V_mono (Kd.V_far (p := ⟨gb236, 4, none⟩) (Kd.V_far (p := ⟨gb236, 3, none⟩) (Kd.V_far (p := ⟨gb236, 2, none⟩) (Kd.V_far (p := ⟨gb236, 1, none⟩) (Kd.V_far (p := ⟨gb236, 0, none⟩) (Kd.V_mono HO231.out (fun k_ hk => (⟨hk, hk.2⟩ : _ ∧ k_ ≠ gb236))) (fun _ hk => hk.2) (.int .i64 t226)) (fun _ hk => hk.2) (.int .i64 t227)) (fun _ hk => hk.2) (.bool t228)) (fun _ hk => hk.2) (.slice Ao40 t229.length co40)) (fun _ hk => hk.2) (.slice Ao41 t232.length co41)) (fun _ h_ => h_.1)))) (Kd.S_base ho0) hb); have n1_ := Aside0.mk (Kd.V_elder' (Kd.V_u ((Kd.V_mono (Kd.V_far (p := ⟨gb236, 4, none⟩) (Kd.V_far (p := ⟨gb236, 3, none⟩) (Kd.V_far (p := ⟨gb236, 2, none⟩) (Kd.V_far (p := ⟨gb236, 1, none⟩) (Kd.V_far (p := ⟨gb236, 0, none⟩) (Kd.V_mono HO234.out (fun k_ hk => (⟨hk, hk.2⟩ : _ ∧ k_ ≠ gb236))) (fun _ hk => hk.2) (.int .i64 t226)) (fun _ hk => hk.2) (.int .i64 t227)) (fun _ hk => hk.2) (.bool t228)) (fun _ hk => hk.2) (.slice Ao40 t229.length co40)) (fun _ hk => hk.2) (.slice Ao41 t232.length co41)) (fun _ h_ => h_.1)))) (Kd.S_base ho0) hb); have n2_ := Aside0.mk (Kd.S_lower (Kd.S_newB ho0 (g := gb236) (o := .cells #[.int .i64 t226, .int .i64 t227, .bool t228, .slice Ao40 t229.length co40, .slice Ao41 t232.length co41] 77 (0, 0)) (by (with_reducible repeat (first | refine blk_drewN ?_ _ | refine blk_drew ?_ | refine blk_alloc ?_ _)); refine blk_put (cs := #[.int .i64 t226, .int .i64 t227, .bool t228, .slice Ao40 t229.length co40, .slice none 0 0]) ?_ 4 _ rfl; (with_reducible repeat (first | refine blk_drewN ?_ _ | refine blk_drew ?_ | refine blk_alloc ?_ _)); refine blk_put (cs := #[.int .i64 t226, .int .i64 t227, .bool t228, .slice none 0 0, .slice none 0 0]) ?_ 3 _ rfl; (with_reducible repeat (first | refine blk_drewN ?_ _ | refine blk_drew ?_ | refine blk_alloc ?_ _)); refine blk_put (cs := #[.int .i64 t226, .int .i64 t227, .bool false, .slice none 0 0, .slice none 0 0]) ?_ 2 _ rfl; (with_reducible repeat (first | refine blk_drewN ?_ _ | refine blk_drew ?_ | refine blk_alloc ?_ _)); refine blk_put (cs := #[.int .i64 t226, .int .i64 0, .bool false, .slice none 0 0, .slice none 0 0]) ?_ 1 _ rfl; (with_reducible repeat (first | refine blk_drewN ?_ _ | refine blk_drew ?_ | refine blk_alloc ?_ _)); refine blk_put (cs := #[.int .i64 0, .int .i64 0, .bool false, .slice none 0 0, .slice none 0 0]) ?_ 0 _ rfl; (with_reducible repeat (first | refine blk_drewN ?_ _ | refine blk_drew ?_ | refine blk_alloc ?_ _)); exact BK236.out)) (below_size (by repeat (first | (with_reducible first | exact HB.out | apply below_alloc | apply pw_below_drewN | apply below_drew1 | refine below_set ?_ GE236.out) | exact HB.out)))); have n3_ := Aside0.mk (blk_below (g := gb236) (o := .cells #[.int .i64 t226, .int .i64 t227, .bool t228, .slice Ao40 t229.length co40, .slice Ao41 t232.length co41] 77 (0, 0)) (by (with_reducible repeat (first | refine blk_drewN ?_ _ | refine blk_drew ?_ | refine blk_alloc ?_ _)); refine blk_put (cs := #[.int .i64 t226, .int .i64 t227, .bool t228, .slice Ao40 t229.length co40, .slice none 0 0]) ?_ 4 _ rfl; (with_reducible repeat (first | refine blk_drewN ?_ _ | refine blk_drew ?_ | refine blk_alloc ?_ _)); refine blk_put (cs := #[.int .i64 t226, .int .i64 t227, .bool t228, .slice none 0 0, .slice none 0 0]) ?_ 3 _ rfl; (with_reducible repeat (first | refine blk_drewN ?_ _ | refine blk_drew ?_ | refine blk_alloc ?_ _)); refine blk_put (cs := #[.int .i64 t226, .int .i64 t227, .bool false, .slice none 0 0, .slice none 0 0]) ?_ 2 _ rfl; (with_reducible repeat (first | refine blk_drewN ?_ _ | refine blk_drew ?_ | refine blk_alloc ?_ _)); refine blk_put (cs := #[.int .i64 t226, .int .i64 0, .bool false, .slice none 0 0, .slice none 0 0]) ?_ 1 _ rfl; (with_reducible repeat (first | refine blk_drewN ?_ _ | refine blk_drew ?_ | refine blk_alloc ?_ _)); refine blk_put (cs := #[.int .i64 0, .int .i64 0, .bool false, .slice none 0 0, .slice none 0 0]) ?_ 0 _ rfl; (with_reducible repeat (first | refine blk_drewN ?_ _ | refine blk_drew ?_ | refine blk_alloc ?_ _)); exact BK236.out) hb); have n4_ := Aside0.mk (below_step (by repeat (first | (with_reducible first | exact HB.out | apply below_alloc | apply pw_below_drewN | apply below_drew1 | refine below_set ?_ GE236.out) | exact HB.out)) hb); clear HO231; clear HO234; clear BK236; clear HB; have HO231 := n0_; have HO234 := n1_; have HO239 := n2_; have BK236 := n3_; have HB := n4_; clear n0_ n1_ n2_ n3_ n4_; (try clear hb); (try clear hb2); (try clear hk); (try clear hi); (try clear ho0)))
    go_ret2
    exact ⟨_, _, by first | rfl | (simp [errW_none, errW_some] <;> rfl) | (simp [*, errW_none, errW_some] <;> rfl), (by first | exact EV.nil | exact EV.f30 | exact EV.f5 | exact EV.f4 | exact EV.f1 | exact EV.low (by assumption) | exact HEV_.out | exact EV.part HEV_.out), by first | exact Kd.R_nil _ _ _ _ _ | exact Kd.N_nil _ _ _ _ _ | exact Kd.V_nil _ _ _ _ _ | exact Kd.Q_nil _ _ _ _ _ | exact Kd.S_nil _ _ _ _ _, by repeat (first | (with_reducible first | exact HB.out | apply below_alloc | apply pw_below_drewN | apply below_drew1 | refine below_set ?_ GE236.out) | exact HB.out)⟩
  rw [if_pos c5] at H
  have c5b0 : (t240 == 0) = true := beq_iff_eq.mpr c5
  have c5b1 : (t240 != 0) = false := bne_eq_false_iff_eq.mpr c5
  clear c5
  by_cases c6 : (t237.length : Int) > 64
  · rw [if_pos c6] at H
    have c6b0 : decide (64 < (t237.length : Int)) = true := decide_eq_true c6
    have c6b1 : decide (64 < t237.length) = true := decide_eq_true (by omega)
    clear c6
    simp only [Option.some.injEq, Prod.mk.injEq] at H
    obtain ⟨rfl, rfl⟩ := H
    go_enter Tryz.func79, Tryz.ntmps79
    go_wp2_with (first | ((with_reducible refine gate_callee (f := 95) rfl ?_); refine goesL_ (some 15) rfl rfl Tryz.func95 (by kernel_rfl) rfl #[.slice A0 l0.length c0] rfl (by (try simp only [List.map_toArray, List.map_cons, List.map_nil]); first | done | rfl | (simp only [List.length_drop, List.length_take]; rfl)) ?_; (with_reducible refine (der_One.calls k _ _ l0 t226 t227 t228 t229 t232 t235 _ ?side1 ?side2 A2.out).mono ?_); (case side1 => exact Kd.C_u HR0.out); (case side2 => exact HC0.out); rintro e w7 ⟨v230, v233, rfl, ho0, ho1, hb⟩; refine ⟨_, rfl, ?_⟩; have n0_ := Aside0.mk (Kd.V_lower (Kd.V_mono (ok' := fun k_ => True) ho0 (fun k_ hk_ => trivial)) (below_size (bU HB.out))); have n1_ := Aside0.mk (Kd.V_lower (Kd.V_mono (ok' := fun k_ => True) ho1 (fun k_ hk_ => trivial)) (below_size (bU HB.out))); have n2_ := Aside0.mk (below_step (bU HB.out) hb); clear HB; have HO231 := n0_; have HO234 := n1_; have HB := n2_; clear n0_ n1_ n2_; (try clear hb); (try clear hb2); (try clear hk); (try clear hi); (try clear ho0); (try clear ho1)) | ((with_reducible refine gate_dst (N := 4) rfl ?_); refine box_event ?hg (N := 4) ?hd (cs := #[.int .i64 0, .int .i64 0, .bool false, .slice none 0 0, .slice none 0 0]) (t := 77) ?hr ?_; (case hd => rfl); (case hg => rfl); (case hr => first | (go_simp; done) | (go_simp; rfl)); intro gb236 hg w8 hbox hb; have n0_ := Aside0.mk (Kd.V_below (Kd.V_elderB (Kd.V_u HO231.out) gb236 (Nat.le_of_eq hg.symm)) hb); have n1_ := Aside0.mk (Kd.V_below (Kd.V_elderB (Kd.V_u HO234.out) gb236 (Nat.le_of_eq hg.symm)) hb); have n2_ := Aside0.mk (below_step (bU HB.out) hb); have n3_ := Aside0.mk (hbox); have n4_ := Aside0.mk ((by rw [hg]; exact (below_size (bU HB.out)) : w.heap.size ≤ gb236)); have n5_ := Aside0.mk ((by rw [hg]; exact (below_size (bU HB.out)) : w.heap.size ≤ gb236)); clear HO231; clear HO234; clear HB; have HO231 := n0_; have HO234 := n1_; have HB := n2_; have BK236 := n3_; have GW236 := n4_; have GE236 := n5_; clear n0_ n1_ n2_ n3_ n4_ n5_; clear hb hbox hg; have hcz9_0 : w8.cell? ⟨gb236, 0, none⟩ = some (.int .i64 0) := (blk_cell BK236.out 0).trans rfl; have hcz9_1 : w8.cell? ⟨gb236, 1, none⟩ = some (.int .i64 0) := (blk_cell BK236.out 1).trans rfl; have hcz9_2 : w8.cell? ⟨gb236, 2, none⟩ = some (.bool false) := (blk_cell BK236.out 2).trans rfl; have hcz9_3 : w8.cell? ⟨gb236, 3, none⟩ = some (.slice none 0 0) := (blk_cell BK236.out 3).trans rfl; have hcz9_4 : w8.cell? ⟨gb236, 4, none⟩ = some (.slice none 0 0) := (blk_cell BK236.out 4).trans rfl; have hfz9_0 := blk_frozen BK236.out 0; have hfz9_1 := blk_frozen BK236.out 1; have hfz9_2 := blk_frozen BK236.out 2; have hfz9_3 := blk_frozen BK236.out 3; have hfz9_4 := blk_frozen BK236.out 4; obtain ⟨Ao10, co10, eo10⟩ := Kd.V_slice HO231.out; subst eo10; obtain ⟨Ao11, co11, eo11⟩ := Kd.V_slice HO234.out; subst eo11) | ((with_reducible refine gate_callee (f := 141) rfl ?_); refine goesL_ (some 25) rfl rfl Tryz.func141 (by kernel_rfl) rfl #[.agg #[.int .i64 t226, .int .i64 t227, .bool t228, .slice Ao10 t229.length co10, .slice Ao11 t232.length co11], .int .i64 16] rfl (by (try simp only [List.map_toArray, List.map_cons, List.map_nil]); first | done | rfl | (simp only [List.length_drop, List.length_take]; rfl)) ?_; (with_reducible refine (name_inside.calls k t226 t227 t228 _ _ t229 _ _ t232 16 t237 t240 _ ?side1 ?side2 ?side3 ?side4 A4.out).mono ?_); (case side1 => refine (Kd.V_reads' (e := 5) (base := w.heap.size) (ok := fun k_ => (True ∧ k_ ≠ gb236)) (n := t229.length) (c := co10) ?_).2.2; exact (Kd.V_u ((Kd.V_mono (Kd.V_far (p := ⟨gb236, 4, none⟩) (Kd.V_far (p := ⟨gb236, 3, none⟩) (Kd.V_far (p := ⟨gb236, 2, none⟩) (Kd.V_far (p := ⟨gb236, 1, none⟩) (Kd.V_far (p := ⟨gb236, 0, none⟩) (Kd.V_mono HO231.out (fun k_ hk => (⟨hk, hk.2⟩ : _ ∧ k_ ≠ gb236))) (fun _ hk => hk.2) (.int .i64 t226)) (fun _ hk => hk.2) (.int .i64 t227)) (fun _ hk => hk.2) (.bool t228)) (fun _ hk => hk.2) (.slice Ao10 t229.length co10)) (fun _ hk => hk.2) (.slice Ao11 t232.length co11)) (fun _ h_ => h_.1))))); (case side2 => exact (Kd.V_reads' HO231.out).2.1); (case side3 => refine (Kd.V_reads' (e := 5) (base := w.heap.size) (ok := fun k_ => (True ∧ k_ ≠ gb236)) (n := t232.length) (c := co11) ?_).2.2; exact (Kd.V_u ((Kd.V_mono (Kd.V_far (p := ⟨gb236, 4, none⟩) (Kd.V_far (p := ⟨gb236, 3, none⟩) (Kd.V_far (p := ⟨gb236, 2, none⟩) (Kd.V_far (p := ⟨gb236, 1, none⟩) (Kd.V_far (p := ⟨gb236, 0, none⟩) (Kd.V_mono HO234.out (fun k_ hk => (⟨hk, hk.2⟩ : _ ∧ k_ ≠ gb236))) (fun _ hk => hk.2) (.int .i64 t226)) (fun _ hk => hk.2) (.int .i64 t227)) (fun _ hk => hk.2) (.bool t228)) (fun _ hk => hk.2) (.slice Ao10 t229.length co10)) (fun _ hk => hk.2) (.slice Ao11 t232.length co11)) (fun _ h_ => h_.1))))); (case side4 => exact (Kd.V_reads' HO234.out).2.1); rintro e w12 ⟨v238, ev_, rfl, hev_, ho0, hb⟩; obtain rfl := EV.nil_of hev_ c5b0; have HEV_ := Aside0.mk hev_; clear hev_; refine ⟨_, rfl, ?_⟩; have n0_ := Aside0.mk (Kd.V_elder' (Kd.V_u ((Kd.V_mono (Kd.V_far (p := ⟨gb236, 4, none⟩) (Kd.V_far (p := ⟨gb236, 3, none⟩) (Kd.V_far (p := ⟨gb236, 2, none⟩) (Kd.V_far (p := ⟨gb236, 1, none⟩) (Kd.V_far (p := ⟨gb236, 0, none⟩) (Kd.V_mono HO231.out (fun k_ hk => (⟨hk, hk.2⟩ : _ ∧ k_ ≠ gb236))) (fun _ hk => hk.2) (.int .i64 t226)) (fun _ hk => hk.2) (.int .i64 t227)) (fun _ hk => hk.2) (.bool t228)) (fun _ hk => hk.2) (.slice Ao10 t229.length co10)) (fun _ hk => hk.2) (.slice Ao11 t232.length co11)) (fun _ h_ => h_.1)))) (Kd.S_base ho0) hb); have n1_ := Aside0.mk (Kd.V_elder' (Kd.V_u ((Kd.V_mono (Kd.V_far (p := ⟨gb236, 4, none⟩) (Kd.V_far (p := ⟨gb236, 3, none⟩) (Kd.V_far (p := ⟨gb236, 2, none⟩) (Kd.V_far (p := ⟨gb236, 1, none⟩) (Kd.V_far (p := ⟨gb236, 0, none⟩) (Kd.V_mono HO234.out (fun k_ hk => (⟨hk, hk.2⟩ : _ ∧ k_ ≠ gb236))) (fun _ hk => hk.2) (.int .i64 t226)) (fun _ hk => hk.2) (.int .i64 t227)) (fun _ hk => hk.2) (.bool t228)) (fun _ hk => hk.2) (.slice Ao10 t229.length co10)) (fun _ hk => hk.2) (.slice Ao11 t232.length co11)) (fun _ h_ => h_.1)))) (Kd.S_base ho0) hb); have n2_ := Aside0.mk (Kd.S_lower (Kd.S_newB ho0 (g := gb236) (o := .cells #[.int .i64 t226, .int .i64 t227, .bool t228, .slice Ao10 t229.length co10, .slice Ao11 t232.length co11] 77 (0, 0)) (by (with_reducible repeat (first | refine blk_drewN ?_ _ | refine blk_drew ?_ | refine blk_alloc ?_ _)); refine blk_put (cs := #[.int .i64 t226, .int .i64 t227, .bool t228, .slice Ao10 t229.length co10, .slice none 0 0]) ?_ 4 _ rfl; (with_reducible repeat (first | refine blk_drewN ?_ _ | refine blk_drew ?_ | refine blk_alloc ?_ _)); refine blk_put (cs := #[.int .i64 t226, .int .i64 t227, .bool t228, .slice none 0 0, .slice none 0 0]) ?_ 3 _ rfl; (with_reducible repeat (first | refine blk_drewN ?_ _ | refine blk_drew ?_ | refine blk_alloc ?_ _)); refine blk_put (cs := #[.int .i64 t226, .int .i64 t227, .bool false, .slice none 0 0, .slice none 0 0]) ?_ 2 _ rfl; (with_reducible repeat (first | refine blk_drewN ?_ _ | refine blk_drew ?_ | refine blk_alloc ?_ _)); refine blk_put (cs := #[.int .i64 t226, .int .i64 0, .bool false, .slice none 0 0, .slice none 0 0]) ?_ 1 _ rfl; (with_reducible repeat (first | refine blk_drewN ?_ _ | refine blk_drew ?_ | refine blk_alloc ?_ _)); refine blk_put (cs := #[.int .i64 0, .int .i64 0, .bool false, .slice none 0 0, .slice none 0 0]) ?_ 0 _ rfl; (with_reducible repeat (first | refine blk_drewN ?_ _ | refine blk_drew ?_ | refine blk_alloc ?_ _)); exact BK236.out)) (below_size (by repeat (first | (with_reducible first | exact HB.out | apply below_alloc | apply pw_below_drewN | apply below_drew1 | refine below_set ?_ GE236.out) | exact HB.out)))); have n3_ := Aside0.mk (blk_below (g := gb236) (o := .cells #[.int .i64 t226, .int .i64 t227, .bool t228, .slice Ao10 t229.length co10, .slice Ao11 t232.length co11] 77 (0, 0)) (by (with_reducible repeat (first | refine blk_drewN ?_ _ | refine blk_drew ?_ | refine blk_alloc ?_ _)); refine blk_put (cs := #[.int .i64 t226, .int .i64 t227, .bool t228, .slice Ao10 t229.length co10, .slice none 0 0]) ?_ 4 _ rfl; (with_reducible repeat (first | refine blk_drewN ?_ _ | refine blk_drew ?_ | refine blk_alloc ?_ _)); refine blk_put (cs := #[.int .i64 t226, .int .i64 t227, .bool t228, .slice none 0 0, .slice none 0 0]) ?_ 3 _ rfl; (with_reducible repeat (first | refine blk_drewN ?_ _ | refine blk_drew ?_ | refine blk_alloc ?_ _)); refine blk_put (cs := #[.int .i64 t226, .int .i64 t227, .bool false, .slice none 0 0, .slice none 0 0]) ?_ 2 _ rfl; (with_reducible repeat (first | refine blk_drewN ?_ _ | refine blk_drew ?_ | refine blk_alloc ?_ _)); refine blk_put (cs := #[.int .i64 t226, .int .i64 0, .bool false, .slice none 0 0, .slice none 0 0]) ?_ 1 _ rfl; (with_reducible repeat (first | refine blk_drewN ?_ _ | refine blk_drew ?_ | refine blk_alloc ?_ _)); refine blk_put (cs := #[.int .i64 0, .int .i64 0, .bool false, .slice none 0 0, .slice none 0 0]) ?_ 0 _ rfl; (with_reducible repeat (first | refine blk_drewN ?_ _ | refine blk_drew ?_ | refine blk_alloc ?_ _)); exact BK236.out) hb); have n4_ := Aside0.mk (below_step (by repeat (first | (with_reducible first | exact HB.out | apply below_alloc | apply pw_below_drewN | apply below_drew1 | refine below_set ?_ GE236.out) | exact HB.out)) hb); clear HO231; clear HO234; clear BK236; clear HB; have HO231 := n0_; have HO234 := n1_; have HO239 := n2_; have BK236 := n3_; have HB := n4_; clear n0_ n1_ n2_ n3_ n4_; (try clear hb); (try clear hb2); (try clear hk); (try clear hi); (try clear ho0); obtain ⟨Ao13, co13, eo13⟩ := Kd.S_slice HO239.out; subst eo13))
    go_ret2
    exact ⟨_, _, by first | rfl | (simp [errW_none, errW_some] <;> rfl) | (simp [*, errW_none, errW_some] <;> rfl), (by first | exact EV.nil | exact EV.f30 | exact EV.f5 | exact EV.f4 | exact EV.f1 | exact EV.low (by assumption) | exact HEV_.out | exact EV.part HEV_.out), by first | exact Kd.R_nil _ _ _ _ _ | exact Kd.N_nil _ _ _ _ _ | exact Kd.V_nil _ _ _ _ _ | exact Kd.Q_nil _ _ _ _ _ | exact Kd.S_nil _ _ _ _ _, by repeat (first | (with_reducible first | exact HB.out | apply below_alloc | apply pw_below_drewN | apply below_drew1 | refine below_set ?_ GE236.out) | exact HB.out)⟩
  rw [if_neg c6] at H
  have c6b0 : decide (64 < (t237.length : Int)) = false := decide_eq_false c6
  have c6b1 : decide (64 < t237.length) = false := decide_eq_false (by omega)
  clear c6
  have H' := Aside0.mk H
  clear H
  go_enter Tryz.func79, Tryz.ntmps79
  go_wp2_with (first | ((with_reducible refine gate_callee (f := 95) rfl ?_); refine goesL_ (some 15) rfl rfl Tryz.func95 (by kernel_rfl) rfl #[.slice A0 l0.length c0] rfl (by (try simp only [List.map_toArray, List.map_cons, List.map_nil]); first | done | rfl | (simp only [List.length_drop, List.length_take]; rfl)) ?_; (with_reducible refine (der_One.calls k _ _ l0 t226 t227 t228 t229 t232 t235 _ ?side1 ?side2 A2.out).mono ?_); (case side1 => exact Kd.C_u HR0.out); (case side2 => exact HC0.out); rintro e w14 ⟨v230, v233, rfl, ho0, ho1, hb⟩; refine ⟨_, rfl, ?_⟩; have n0_ := Aside0.mk (Kd.V_lower (Kd.V_mono (ok' := fun k_ => True) ho0 (fun k_ hk_ => trivial)) (below_size (bU HB.out))); have n1_ := Aside0.mk (Kd.V_lower (Kd.V_mono (ok' := fun k_ => True) ho1 (fun k_ hk_ => trivial)) (below_size (bU HB.out))); have n2_ := Aside0.mk (below_step (bU HB.out) hb); clear HB; have HO231 := n0_; have HO234 := n1_; have HB := n2_; clear n0_ n1_ n2_; (try clear hb); (try clear hb2); (try clear hk); (try clear hi); (try clear ho0); (try clear ho1)) | ((with_reducible refine gate_dst (N := 4) rfl ?_); refine box_event ?hg (N := 4) ?hd (cs := #[.int .i64 0, .int .i64 0, .bool false, .slice none 0 0, .slice none 0 0]) (t := 77) ?hr ?_; (case hd => rfl); (case hg => rfl); (case hr => first | (go_simp; done) | (go_simp; rfl)); intro gb236 hg w15 hbox hb; have n0_ := Aside0.mk (Kd.V_below (Kd.V_elderB (Kd.V_u HO231.out) gb236 (Nat.le_of_eq hg.symm)) hb); have n1_ := Aside0.mk (Kd.V_below (Kd.V_elderB (Kd.V_u HO234.out) gb236 (Nat.le_of_eq hg.symm)) hb); have n2_ := Aside0.mk (below_step (bU HB.out) hb); have n3_ := Aside0.mk (hbox); have n4_ := Aside0.mk ((by rw [hg]; exact (below_size (bU HB.out)) : w.heap.size ≤ gb236)); have n5_ := Aside0.mk ((by rw [hg]; exact (below_size (bU HB.out)) : w.heap.size ≤ gb236)); clear HO231; clear HO234; clear HB; have HO231 := n0_; have HO234 := n1_; have HB := n2_; have BK236 := n3_; have GW236 := n4_; have GE236 := n5_; clear n0_ n1_ n2_ n3_ n4_ n5_; clear hb hbox hg; have hcz16_0 : w15.cell? ⟨gb236, 0, none⟩ = some (.int .i64 0) := (blk_cell BK236.out 0).trans rfl; have hcz16_1 : w15.cell? ⟨gb236, 1, none⟩ = some (.int .i64 0) := (blk_cell BK236.out 1).trans rfl; have hcz16_2 : w15.cell? ⟨gb236, 2, none⟩ = some (.bool false) := (blk_cell BK236.out 2).trans rfl; have hcz16_3 : w15.cell? ⟨gb236, 3, none⟩ = some (.slice none 0 0) := (blk_cell BK236.out 3).trans rfl; have hcz16_4 : w15.cell? ⟨gb236, 4, none⟩ = some (.slice none 0 0) := (blk_cell BK236.out 4).trans rfl; have hfz16_0 := blk_frozen BK236.out 0; have hfz16_1 := blk_frozen BK236.out 1; have hfz16_2 := blk_frozen BK236.out 2; have hfz16_3 := blk_frozen BK236.out 3; have hfz16_4 := blk_frozen BK236.out 4; obtain ⟨Ao17, co17, eo17⟩ := Kd.V_slice HO231.out; subst eo17; obtain ⟨Ao18, co18, eo18⟩ := Kd.V_slice HO234.out; subst eo18) | ((with_reducible refine gate_callee (f := 141) rfl ?_); refine goesL_ (some 25) rfl rfl Tryz.func141 (by kernel_rfl) rfl #[.agg #[.int .i64 t226, .int .i64 t227, .bool t228, .slice Ao17 t229.length co17, .slice Ao18 t232.length co18], .int .i64 16] rfl (by (try simp only [List.map_toArray, List.map_cons, List.map_nil]); first | done | rfl | (simp only [List.length_drop, List.length_take]; rfl)) ?_; (with_reducible refine (name_inside.calls k t226 t227 t228 _ _ t229 _ _ t232 16 t237 t240 _ ?side1 ?side2 ?side3 ?side4 A4.out).mono ?_); (case side1 => refine (Kd.V_reads' (e := 5) (base := w.heap.size) (ok := fun k_ => (True ∧ k_ ≠ gb236)) (n := t229.length) (c := co17) ?_).2.2; exact (Kd.V_u ((Kd.V_mono (Kd.V_far (p := ⟨gb236, 4, none⟩) (Kd.V_far (p := ⟨gb236, 3, none⟩) (Kd.V_far (p := ⟨gb236, 2, none⟩) (Kd.V_far (p := ⟨gb236, 1, none⟩) (Kd.V_far (p := ⟨gb236, 0, none⟩) (Kd.V_mono HO231.out (fun k_ hk => (⟨hk, hk.2⟩ : _ ∧ k_ ≠ gb236))) (fun _ hk => hk.2) (.int .i64 t226)) (fun _ hk => hk.2) (.int .i64 t227)) (fun _ hk => hk.2) (.bool t228)) (fun _ hk => hk.2) (.slice Ao17 t229.length co17)) (fun _ hk => hk.2) (.slice Ao18 t232.length co18)) (fun _ h_ => h_.1))))); (case side2 => exact (Kd.V_reads' HO231.out).2.1); (case side3 => refine (Kd.V_reads' (e := 5) (base := w.heap.size) (ok := fun k_ => (True ∧ k_ ≠ gb236)) (n := t232.length) (c := co18) ?_).2.2; exact (Kd.V_u ((Kd.V_mono (Kd.V_far (p := ⟨gb236, 4, none⟩) (Kd.V_far (p := ⟨gb236, 3, none⟩) (Kd.V_far (p := ⟨gb236, 2, none⟩) (Kd.V_far (p := ⟨gb236, 1, none⟩) (Kd.V_far (p := ⟨gb236, 0, none⟩) (Kd.V_mono HO234.out (fun k_ hk => (⟨hk, hk.2⟩ : _ ∧ k_ ≠ gb236))) (fun _ hk => hk.2) (.int .i64 t226)) (fun _ hk => hk.2) (.int .i64 t227)) (fun _ hk => hk.2) (.bool t228)) (fun _ hk => hk.2) (.slice Ao17 t229.length co17)) (fun _ hk => hk.2) (.slice Ao18 t232.length co18)) (fun _ h_ => h_.1))))); (case side4 => exact (Kd.V_reads' HO234.out).2.1); rintro e w19 ⟨v238, ev_, rfl, hev_, ho0, hb⟩; obtain rfl := EV.nil_of hev_ c5b0; have HEV_ := Aside0.mk hev_; clear hev_; refine ⟨_, rfl, ?_⟩; have n0_ := Aside0.mk (Kd.V_elder' (Kd.V_u ((Kd.V_mono (Kd.V_far (p := ⟨gb236, 4, none⟩) (Kd.V_far (p := ⟨gb236, 3, none⟩) (Kd.V_far (p := ⟨gb236, 2, none⟩) (Kd.V_far (p := ⟨gb236, 1, none⟩) (Kd.V_far (p := ⟨gb236, 0, none⟩) (Kd.V_mono HO231.out (fun k_ hk => (⟨hk, hk.2⟩ : _ ∧ k_ ≠ gb236))) (fun _ hk => hk.2) (.int .i64 t226)) (fun _ hk => hk.2) (.int .i64 t227)) (fun _ hk => hk.2) (.bool t228)) (fun _ hk => hk.2) (.slice Ao17 t229.length co17)) (fun _ hk => hk.2) (.slice Ao18 t232.length co18)) (fun _ h_ => h_.1)))) (Kd.S_base ho0) hb); have n1_ := Aside0.mk (Kd.V_elder' (Kd.V_u ((Kd.V_mono (Kd.V_far (p := ⟨gb236, 4, none⟩) (Kd.V_far (p := ⟨gb236, 3, none⟩) (Kd.V_far (p := ⟨gb236, 2, none⟩) (Kd.V_far (p := ⟨gb236, 1, none⟩) (Kd.V_far (p := ⟨gb236, 0, none⟩) (Kd.V_mono HO234.out (fun k_ hk => (⟨hk, hk.2⟩ : _ ∧ k_ ≠ gb236))) (fun _ hk => hk.2) (.int .i64 t226)) (fun _ hk => hk.2) (.int .i64 t227)) (fun _ hk => hk.2) (.bool t228)) (fun _ hk => hk.2) (.slice Ao17 t229.length co17)) (fun _ hk => hk.2) (.slice Ao18 t232.length co18)) (fun _ h_ => h_.1)))) (Kd.S_base ho0) hb); have n2_ := Aside0.mk (Kd.S_lower (Kd.S_newB ho0 (g := gb236) (o := .cells #[.int .i64 t226, .int .i64 t227, .bool t228, .slice Ao17 t229.length co17, .slice Ao18 t232.length co18] 77 (0, 0)) (by (with_reducible repeat (first | refine blk_drewN ?_ _ | refine blk_drew ?_ | refine blk_alloc ?_ _)); refine blk_put (cs := #[.int .i64 t226, .int .i64 t227, .bool t228, .slice Ao17 t229.length co17, .slice none 0 0]) ?_ 4 _ rfl; (with_reducible repeat (first | refine blk_drewN ?_ _ | refine blk_drew ?_ | refine blk_alloc ?_ _)); refine blk_put (cs := #[.int .i64 t226, .int .i64 t227, .bool t228, .slice none 0 0, .slice none 0 0]) ?_ 3 _ rfl; (with_reducible repeat (first | refine blk_drewN ?_ _ | refine blk_drew ?_ | refine blk_alloc ?_ _)); refine blk_put (cs := #[.int .i64 t226, .int .i64 t227, .bool false, .slice none 0 0, .slice none 0 0]) ?_ 2 _ rfl; (with_reducible repeat (first | refine blk_drewN ?_ _ | refine blk_drew ?_ | refine blk_alloc ?_ _)); refine blk_put (cs := #[.int .i64 t226, .int .i64 0, .bool false, .slice none 0 0, .slice none 0 0]) ?_ 1 _ rfl; (with_reducible repeat (first | refine blk_drewN ?_ _ | refine blk_drew ?_ | refine blk_alloc ?_ _)); refine blk_put (cs := #[.int .i64 0, .int .i64 0, .bool false, .slice none 0 0, .slice none 0 0]) ?_ 0 _ rfl; (with_reducible repeat (first | refine blk_drewN ?_ _ | refine blk_drew ?_ | refine blk_alloc ?_ _)); exact BK236.out)) (below_size (by repeat (first | (with_reducible first | exact HB.out | apply below_alloc | apply pw_below_drewN | apply below_drew1 | refine below_set ?_ GE236.out) | exact HB.out)))); have n3_ := Aside0.mk (blk_below (g := gb236) (o := .cells #[.int .i64 t226, .int .i64 t227, .bool t228, .slice Ao17 t229.length co17, .slice Ao18 t232.length co18] 77 (0, 0)) (by (with_reducible repeat (first | refine blk_drewN ?_ _ | refine blk_drew ?_ | refine blk_alloc ?_ _)); refine blk_put (cs := #[.int .i64 t226, .int .i64 t227, .bool t228, .slice Ao17 t229.length co17, .slice none 0 0]) ?_ 4 _ rfl; (with_reducible repeat (first | refine blk_drewN ?_ _ | refine blk_drew ?_ | refine blk_alloc ?_ _)); refine blk_put (cs := #[.int .i64 t226, .int .i64 t227, .bool t228, .slice none 0 0, .slice none 0 0]) ?_ 3 _ rfl; (with_reducible repeat (first | refine blk_drewN ?_ _ | refine blk_drew ?_ | refine blk_alloc ?_ _)); refine blk_put (cs := #[.int .i64 t226, .int .i64 t227, .bool false, .slice none 0 0, .slice none 0 0]) ?_ 2 _ rfl; (with_reducible repeat (first | refine blk_drewN ?_ _ | refine blk_drew ?_ | refine blk_alloc ?_ _)); refine blk_put (cs := #[.int .i64 t226, .int .i64 0, .bool false, .slice none 0 0, .slice none 0 0]) ?_ 1 _ rfl; (with_reducible repeat (first | refine blk_drewN ?_ _ | refine blk_drew ?_ | refine blk_alloc ?_ _)); refine blk_put (cs := #[.int .i64 0, .int .i64 0, .bool false, .slice none 0 0, .slice none 0 0]) ?_ 0 _ rfl; (with_reducible repeat (first | refine blk_drewN ?_ _ | refine blk_drew ?_ | refine blk_alloc ?_ _)); exact BK236.out) hb); have n4_ := Aside0.mk (below_step (by repeat (first | (with_reducible first | exact HB.out | apply below_alloc | apply pw_below_drewN | apply below_drew1 | refine below_set ?_ GE236.out) | exact HB.out)) hb); clear HO231; clear HO234; clear BK236; clear HB; have HO231 := n0_; have HO234 := n1_; have HO239 := n2_; have BK236 := n3_; have HB := n4_; clear n0_ n1_ n2_ n3_ n4_; (try clear hb); (try clear hb2); (try clear hk); (try clear hi); (try clear ho0); obtain ⟨Ao20, co20, eo20⟩ := Kd.S_slice HO239.out; subst eo20))
  go_loopg [8, 37] k (fun kq v8 v37 w' => ∃ (x8_1 : List (List (S64))) (x37_1 : Int), v37 = .int .i64 x37_1 ∧ Aside0 (name_read.l0 kq x8_1 t237 (t237.length : Int) x37_1 = some (r1, r2)) ∧ Aside0 (kq ≤ k) ∧ Aside0 (Kd.R (Kd.slice 64 k64) 62 w' w.heap.size (fun _ => True) v8 x8_1) ∧ Aside0 (Kd.S k77 77 w' w.heap.size (fun k_ => k_ ≠ gb236) (.slice Ao20 t237.length co20) t237) ∧ Aside0 (Kd.V (Kd.int .u8) 5 w' w.heap.size (fun k_ => some k_ ≠ (v8 : Value).ownBlock ∧ some k_ ≠ ((.slice Ao20 t237.length co20) : Value).ownBlock ∧ k_ ≠ gb236) (.slice Ao17 t229.length co17) t229) ∧ Aside0 (Kd.V (Kd.int .u8) 5 w' w.heap.size (fun k_ => some k_ ≠ (v8 : Value).ownBlock ∧ some k_ ≠ ((.slice Ao20 t237.length co20) : Value).ownBlock ∧ k_ ≠ gb236) (.slice Ao18 t232.length co18) t232) ∧ Aside0 (w'.heap[gb236]? = some (.cells #[.int .i64 t226, .int .i64 t227, .bool t228, (.slice Ao17 t229.length co17), (.slice Ao18 t232.length co18)] 77 (0, 0))) ∧ Aside0 (Below w.heap.size w w'))
  case atStart => exact ⟨(([] : List (List (S64)))), (0), (by first | rfl | (simp; done) | (simp [*]; done)), H', ⟨Nat.le_refl _⟩, ⟨by first | exact Kd.R_nil _ _ _ _ _ | exact Kd.N_nil _ _ _ _ _ | exact Kd.V_nil _ _ _ _ _ | exact Kd.Q_nil _ _ _ _ _ | exact Kd.S_nil _ _ _ _ _⟩, ⟨Kd.S_u (Kd.S_mono HO239.out (fun _ hk => hk.2))⟩, ⟨Kd.V_u (Kd.V_mono HO231.out (fun _ hk => ⟨(by simp [Value.ownBlock]), ⟨hk.2, hk.1.2⟩⟩))⟩, ⟨Kd.V_u (Kd.V_mono HO234.out (fun _ hk => ⟨(by simp [Value.ownBlock]), ⟨hk.2, hk.1.2⟩⟩))⟩, ⟨by (with_reducible repeat (first | refine blk_drewN ?_ _ | refine blk_drew ?_ | refine blk_alloc ?_ _)); exact BK236.out⟩, ⟨by repeat (first | (with_reducible first | exact HB.out | apply below_alloc | apply pw_below_drewN | apply below_drew1 | refine below_set ?_ GE236.out) | exact HB.out)⟩⟩
  case round =>
    clear H'
    try clear c1
    try clear p2
    try clear c3
    try clear c3b0
    try clear c3b1
    try clear c5
    try clear c5b0
    try clear c5b1
    try clear c6
    try clear c6b0
    try clear c6b1
    try clear c7
    try clear c9
    try clear c14
    try clear hcz16_0
    try clear hcz16_1
    try clear hcz16_2
    try clear hcz16_3
    try clear hcz16_4
    try clear hcz9_0
    try clear hcz9_1
    try clear hcz9_2
    try clear hcz9_3
    try clear hcz9_4
    try clear hfz16_0
    try clear hfz16_1
    try clear hfz16_2
    try clear hfz16_3
    try clear hfz16_4
    try clear hfz9_0
    try clear hfz9_1
    try clear hfz9_2
    try clear hfz9_3
    try clear hfz9_4
    obtain ⟨x8_1, x37_1, rfl, HA, HK1, HO_8, HO_35, HO_237003, HO_237004, BK236, HB⟩ := hrel
    cases gk with
    | zero => exact absurd HA.out (by simp [name_read.l0])
    | succ k1 =>
      have H := HA.out
      clear HA
      simp only [name_read.l0] at H
      by_cases c21 : x37_1 < (t237.length : Int)
      rotate_left
      · rw [if_neg c21] at H
        have c21b0 : decide (x37_1 < (t237.length : Int)) = false := decide_eq_false c21
        clear c21
        simp only [Option.some.injEq, Prod.mk.injEq] at H
        obtain ⟨rfl, rfl⟩ := H
        go_wp2
        go_ret2
        exact ⟨_, _, by first | rfl | (simp [errW_none, errW_some] <;> rfl) | (simp [*, errW_none, errW_some] <;> rfl), (by first | exact EV.nil | exact EV.f30 | exact EV.f5 | exact EV.f4 | exact EV.f1 | exact EV.low (by assumption) | exact HEV_.out | exact EV.part HEV_.out), by (with_reducible repeat (first | apply Kd.R_alloc | apply Kd.R_drewN | apply Kd.R_drew)); exact HO_8.out, by repeat (first | (with_reducible first | exact HB.out | apply below_alloc | apply pw_below_drewN | apply below_drew1 | refine below_set ?_ GE236.out) | exact HB.out)⟩
      rw [if_pos c21] at H
      have c21b0 : decide (x37_1 < (t237.length : Int)) = true := decide_eq_true c21
      clear c21
      by_cases c22 : 0 ≤ x37_1
      rotate_left
      · rw [if_neg c22] at H
        exact absurd H (by simp)
      rw [if_pos c22] at H
      have c22b0 : decide (0 ≤ x37_1) = true := decide_eq_true c22
      clear c22
      by_cases c23 : x37_1 < (t237.length : Int)
      rotate_left
      · rw [if_neg c23] at H
        exact absurd H (by simp)
      rw [if_pos c23] at H
      have c23b0 : decide (x37_1 < (t237.length : Int)) = true := decide_eq_true c23
      clear c23
      replace H := Option.bind_eq_some_iff.mp H
      obtain ⟨⟨t243, t246⟩, A240, H⟩ := H
      replace H : (if t246 = 0 then (if x8_1.length < 5864062014805 then (name_read.l0 k1 (x8_1 ++ [t243]) t237 (t237.length : Int) (wrap64 (x37_1 + 1))) else (none)) else (some (([] : List (List (S64))), t246))) = some (r1, r2) := H
      have A24 := Aside0.mk A240
      clear A240
      by_cases c25 : t246 = 0
      rotate_left
      · rw [if_neg c25] at H
        have c25b0 : (t246 == 0) = false := beq_eq_false_iff_ne.mpr c25
        have c25b1 : (t246 != 0) = true := bne_iff_ne.mpr c25
        simp only [Option.some.injEq, Prod.mk.injEq] at H
        obtain ⟨rfl, rfl⟩ := H
        have p241 : 0 ≤ (x37_1 : Int) := of_decide_eq_true (by first | (with_reducible assumption) | assumption)
        have q241 : x37_1 < (t237.length : Int) := of_decide_eq_true (by first | (with_reducible assumption) | assumption)
        obtain ⟨ad241, A241_3, c241_3, A241_4, c241_4, e241, hx241_0, hx241_1, hx241_2, hx241_3, hx241_4, hl241_3, hi241_3, hl241_4, hi241_4⟩ := at_T77 (Kd.S_reads' HO_35.out).2.2 x37_1 p241 q241
        cases e241
        obtain ⟨ce241, hce241, hMe241, hcc241⟩ := Kd.S_get HO_35.out z77 x37_1 p241 (by first | exact q241 | exact of_decide_eq_true (by first | (with_reducible assumption) | assumption) | (have e_ := (Kd.S_reads' HO_35.out).1; omega))
        obtain ⟨ve241_3, ve241_4, rfl, ge241_3, ge241_4⟩ := k77_openM hMe241
        have hv241_3 := hcc241 3 _ rfl
        rw [add_field _ _ 3 (by omega)] at hv241_3
        replace hv241_3 := Option.some.inj (hv241_3.symm.trans hx241_3)
        rw [hv241_3] at ge241_3
        have HL241_3 := Aside0.mk (show Kd.R (Kd.int .u8) 5 _ _ _ _ ((rd_T77 t237 x37_1).f3) from ge241_3)
        clear hv241_3 ge241_3
        have hv241_4 := hcc241 4 _ rfl
        rw [add_field _ _ 4 (by omega)] at hv241_4
        replace hv241_4 := Option.some.inj (hv241_4.symm.trans hx241_4)
        rw [hv241_4] at ge241_4
        have HL241_4 := Aside0.mk (show Kd.R (Kd.int .u8) 5 _ _ _ _ ((rd_T77 t237 x37_1).f4) from ge241_4)
        clear hv241_4 ge241_4
        clear hcc241 hce241
        have HR241_3 := Aside0.mk hi241_3
        have HC241_3 := Aside0.mk hl241_3
        clear hi241_3 hl241_3
        have HR241_4 := Aside0.mk hi241_4
        have HC241_4 := Aside0.mk hl241_4
        clear hi241_4 hl241_4
        replace p241 := eq_true p241
        replace q241 := eq_true q241
        go_wp2_with (first | ((with_reducible refine gate_dst (N := 10) rfl ?_); refine box_event ?hg (N := 10) ?hd (cs := #[.int .i64 0, .int .i64 0, .bool false, .slice none 0 0, .slice none 0 0]) (t := 77) ?hr ?_; (case hd => rfl); (case hg => rfl); (case hr => first | (go_simp; done) | (go_simp; rfl)); intro gb242 hg w33 hbox hb; have n0_ := Aside0.mk (Kd.R_below (by (with_reducible repeat (first | apply Kd.R_alloc | apply Kd.R_drewN | apply Kd.R_drew)); exact HO_8.out) hb); have n1_ := Aside0.mk (Kd.S_below (Kd.S_elderB (by (with_reducible repeat (first | apply Kd.S_alloc | apply Kd.S_drewN | apply Kd.S_drew)); exact HO_35.out) gb242 (Nat.le_of_eq hg.symm)) hb); have n2_ := Aside0.mk (Kd.V_below (Kd.V_elderB (by (with_reducible repeat (first | apply Kd.V_alloc | apply Kd.V_drewN | apply Kd.V_drew)); exact HO_237003.out) gb242 (Nat.le_of_eq hg.symm)) hb); have n3_ := Aside0.mk (Kd.V_below (Kd.V_elderB (by (with_reducible repeat (first | apply Kd.V_alloc | apply Kd.V_drewN | apply Kd.V_drew)); exact HO_237004.out) gb242 (Nat.le_of_eq hg.symm)) hb); have n4_ := Aside0.mk (Kd.R_below (by (with_reducible repeat (first | apply Kd.R_alloc | apply Kd.R_drewN | apply Kd.R_drew)); exact HL241_3.out) hb); have n5_ := Aside0.mk (Kd.R_below (by (with_reducible repeat (first | apply Kd.R_alloc | apply Kd.R_drewN | apply Kd.R_drew)); exact HL241_4.out) hb); have n6_ := Aside0.mk (blk_below (g := gb236) (o := .cells #[.int .i64 t226, .int .i64 t227, .bool t228, .slice Ao17 t229.length co17, .slice Ao18 t232.length co18] 77 (0, 0)) (by (with_reducible repeat (first | refine blk_drewN ?_ _ | refine blk_drew ?_ | refine blk_alloc ?_ _)); exact BK236.out) hb); have n7_ := Aside0.mk (Kd.C_below (by repeat (first | (with_reducible exact HR241_3.out) | (with_reducible refine Kd.C_alloc ?_ _) | (with_reducible refine Kd.C_drewN ?_ _) | (with_reducible refine Kd.C_drew ?_) | exact HR241_3.out)) hb); have n8_ := Aside0.mk (Kd.C_below (by repeat (first | (with_reducible exact HR241_4.out) | (with_reducible refine Kd.C_alloc ?_ _) | (with_reducible refine Kd.C_drewN ?_ _) | (with_reducible refine Kd.C_drew ?_) | exact HR241_4.out)) hb); have n9_ := Aside0.mk (below_step (by repeat (first | (with_reducible first | exact HB.out | apply below_alloc | apply pw_below_drewN | apply below_drew1 | refine below_set ?_ GE236.out) | exact HB.out)) hb); have n10_ := Aside0.mk (hbox); have n11_ := Aside0.mk ((by rw [hg]; exact (below_size (by repeat (first | (with_reducible first | exact HB.out | apply below_alloc | apply pw_below_drewN | apply below_drew1 | refine below_set ?_ GE236.out) | exact HB.out))) : w.heap.size ≤ gb242)); have n12_ := Aside0.mk ((by rw [hg]; exact (below_size (by repeat (first | (with_reducible first | exact HB.out | apply below_alloc | apply pw_below_drewN | apply below_drew1 | refine below_set ?_ GE236.out) | exact HB.out))) : w.heap.size ≤ gb242)); have n13_ := Aside0.mk ((by rw [hg]; exact Nat.ne_of_lt (blk_lt (g := gb236) (o := .cells #[.int .i64 t226, .int .i64 t227, .bool t228, .slice Ao17 t229.length co17, .slice Ao18 t232.length co18] 77 (0, 0)) (by (with_reducible repeat (first | refine blk_drewN ?_ _ | refine blk_drew ?_ | refine blk_alloc ?_ _)); exact BK236.out)) : gb236 ≠ gb242)); have n14_ := Aside0.mk ((by rw [hg]; exact Nat.ne_of_gt (blk_lt (g := gb236) (o := .cells #[.int .i64 t226, .int .i64 t227, .bool t228, .slice Ao17 t229.length co17, .slice Ao18 t232.length co18] 77 (0, 0)) (by (with_reducible repeat (first | refine blk_drewN ?_ _ | refine blk_drew ?_ | refine blk_alloc ?_ _)); exact BK236.out)) : gb242 ≠ gb236)); clear HO_8; clear HO_35; clear HO_237003; clear HO_237004; clear HL241_3; clear HL241_4; clear BK236; clear HR241_3; clear HR241_4; clear HB; have HO_8 := n0_; have HO_35 := n1_; have HO_237003 := n2_; have HO_237004 := n3_; have HL241_3 := n4_; have HL241_4 := n5_; have BK236 := n6_; have HR241_3 := n7_; have HR241_4 := n8_; have HB := n9_; have BK242 := n10_; have GW242 := n11_; have GE242 := n12_; have NB236_242 := n13_; have NB242_236 := n14_; clear n0_ n1_ n2_ n3_ n4_ n5_ n6_ n7_ n8_ n9_ n10_ n11_ n12_ n13_ n14_; clear hb hbox hg; have hnb34 := NB242_236.out; have hnc34 := NB236_242.out; have hcz35_0 : w33.cell? ⟨gb242, 0, none⟩ = some (.int .i64 0) := (blk_cell BK242.out 0).trans rfl; have hcz35_1 : w33.cell? ⟨gb242, 1, none⟩ = some (.int .i64 0) := (blk_cell BK242.out 1).trans rfl; have hcz35_2 : w33.cell? ⟨gb242, 2, none⟩ = some (.bool false) := (blk_cell BK242.out 2).trans rfl; have hcz35_3 : w33.cell? ⟨gb242, 3, none⟩ = some (.slice none 0 0) := (blk_cell BK242.out 3).trans rfl; have hcz35_4 : w33.cell? ⟨gb242, 4, none⟩ = some (.slice none 0 0) := (blk_cell BK242.out 4).trans rfl; have hfz35_0 := blk_frozen BK242.out 0; have hfz35_1 := blk_frozen BK242.out 1; have hfz35_2 := blk_frozen BK242.out 2; have hfz35_3 := blk_frozen BK242.out 3; have hfz35_4 := blk_frozen BK242.out 4) | ((with_reducible refine gate_callee (f := 142) rfl ?_); refine goesL_ (some 44) rfl rfl Tryz.func142 (by kernel_rfl) rfl #[.agg #[.int .i64 ((rd_T77 t237 x37_1).f0), .int .i64 ((rd_T77 t237 x37_1).f1), .bool ((rd_T77 t237 x37_1).f2), .slice A241_3 ((rd_T77 t237 x37_1).f3).length c241_3, .slice A241_4 ((rd_T77 t237 x37_1).f4).length c241_4]] rfl (by (try simp only [List.map_toArray, List.map_cons, List.map_nil]); first | done | rfl | (simp only [List.length_drop, List.length_take]; rfl)) ?_; (with_reducible refine (name_set.calls k1 ((rd_T77 t237 x37_1).f0) ((rd_T77 t237 x37_1).f1) ((rd_T77 t237 x37_1).f2) _ _ ((rd_T77 t237 x37_1).f3) _ _ ((rd_T77 t237 x37_1).f4) t243 t246 _ ?side1 ?side2 ?side3 ?side4 A24.out (Tb.below HHd.out (by repeat (first | (with_reducible first | exact HB.out | apply below_alloc | apply pw_below_drewN | apply below_drew1 | refine below_set ?_ GE236.out | refine below_set ?_ GE242.out) | exact HB.out)))).mono ?_); (case side1 => repeat (first | exact ((Kd.R_reads' (by (with_reducible repeat (first | apply Kd.R_alloc | apply Kd.R_drewN | apply Kd.R_drew)); exact (Kd.R_mono (Kd.R_far (p := ⟨gb242, 4, none⟩) (Kd.R_far (p := ⟨gb242, 3, none⟩) (Kd.R_far (p := ⟨gb242, 2, none⟩) (Kd.R_far (p := ⟨gb242, 1, none⟩) (Kd.R_far (p := ⟨gb242, 0, none⟩) (Kd.R_types HL241_3.out BK242.out (by decide)) (fun _ hk => hk.2) (.int .i64 ((rd_T77 t237 x37_1).f0))) (fun _ hk => hk.2) (.int .i64 ((rd_T77 t237 x37_1).f1))) (fun _ hk => hk.2) (.bool ((rd_T77 t237 x37_1).f2))) (fun _ hk => hk.2) (.slice A241_3 ((rd_T77 t237 x37_1).f3).length c241_3)) (fun _ hk => hk.2) (.slice A241_4 ((rd_T77 t237 x37_1).f4).length c241_4)) (fun _ h_ => h_.1)))).2.2) | (with_reducible refine Kd.C_alloc ?_ _) | (with_reducible refine Kd.C_drewN ?_ _) | (with_reducible refine Kd.C_drew ?_))); (case side2 => exact HC241_3.out); (case side3 => repeat (first | exact ((Kd.R_reads' (by (with_reducible repeat (first | apply Kd.R_alloc | apply Kd.R_drewN | apply Kd.R_drew)); exact (Kd.R_mono (Kd.R_far (p := ⟨gb242, 4, none⟩) (Kd.R_far (p := ⟨gb242, 3, none⟩) (Kd.R_far (p := ⟨gb242, 2, none⟩) (Kd.R_far (p := ⟨gb242, 1, none⟩) (Kd.R_far (p := ⟨gb242, 0, none⟩) (Kd.R_types HL241_4.out BK242.out (by decide)) (fun _ hk => hk.2) (.int .i64 ((rd_T77 t237 x37_1).f0))) (fun _ hk => hk.2) (.int .i64 ((rd_T77 t237 x37_1).f1))) (fun _ hk => hk.2) (.bool ((rd_T77 t237 x37_1).f2))) (fun _ hk => hk.2) (.slice A241_3 ((rd_T77 t237 x37_1).f3).length c241_3)) (fun _ hk => hk.2) (.slice A241_4 ((rd_T77 t237 x37_1).f4).length c241_4)) (fun _ h_ => h_.1)))).2.2) | (with_reducible refine Kd.C_alloc ?_ _) | (with_reducible refine Kd.C_drewN ?_ _) | (with_reducible refine Kd.C_drew ?_))); (case side4 => exact HC241_4.out); rintro e w36 ⟨v244, ev_, rfl, hev_, ho0, hb⟩; obtain ⟨et_, eu_, rfl⟩ := EV.some_of hev_ c25b0; have HEV_ := Aside0.mk hev_; clear hev_; refine ⟨_, rfl, ?_⟩; have n0_ := Aside0.mk (Kd.R_elder' (by (with_reducible repeat (first | apply Kd.R_alloc | apply Kd.R_drewN | apply Kd.R_drew)); exact (Kd.R_mono (Kd.R_far (p := ⟨gb242, 4, none⟩) (Kd.R_far (p := ⟨gb242, 3, none⟩) (Kd.R_far (p := ⟨gb242, 2, none⟩) (Kd.R_far (p := ⟨gb242, 1, none⟩) (Kd.R_far (p := ⟨gb242, 0, none⟩) (Kd.R_types HO_8.out BK242.out (by decide)) (fun _ hk => hk.2) (.int .i64 ((rd_T77 t237 x37_1).f0))) (fun _ hk => hk.2) (.int .i64 ((rd_T77 t237 x37_1).f1))) (fun _ hk => hk.2) (.bool ((rd_T77 t237 x37_1).f2))) (fun _ hk => hk.2) (.slice A241_3 ((rd_T77 t237 x37_1).f3).length c241_3)) (fun _ hk => hk.2) (.slice A241_4 ((rd_T77 t237 x37_1).f4).length c241_4)) (fun _ h_ => h_.1))) (Kd.S_base ho0) hb); have n1_ := Aside0.mk (Kd.S_below (by (with_reducible repeat (first | apply Kd.S_alloc | apply Kd.S_drewN | apply Kd.S_drew)); exact (Kd.S_mono (Kd.S_far (p := ⟨gb242, 4, none⟩) (Kd.S_far (p := ⟨gb242, 3, none⟩) (Kd.S_far (p := ⟨gb242, 2, none⟩) (Kd.S_far (p := ⟨gb242, 1, none⟩) (Kd.S_far (p := ⟨gb242, 0, none⟩) (Kd.S_mono HO_35.out (fun k_ hk => (⟨hk, hk.2⟩ : _ ∧ k_ ≠ gb242))) (fun _ hk => hk.2) (.int .i64 ((rd_T77 t237 x37_1).f0))) (fun _ hk => hk.2) (.int .i64 ((rd_T77 t237 x37_1).f1))) (fun _ hk => hk.2) (.bool ((rd_T77 t237 x37_1).f2))) (fun _ hk => hk.2) (.slice A241_3 ((rd_T77 t237 x37_1).f3).length c241_3)) (fun _ hk => hk.2) (.slice A241_4 ((rd_T77 t237 x37_1).f4).length c241_4)) (fun _ h_ => h_.1))) hb); have n2_ := Aside0.mk (Kd.V_elder' (by (with_reducible repeat (first | apply Kd.V_alloc | apply Kd.V_drewN | apply Kd.V_drew)); exact (Kd.V_mono (Kd.V_far (p := ⟨gb242, 4, none⟩) (Kd.V_far (p := ⟨gb242, 3, none⟩) (Kd.V_far (p := ⟨gb242, 2, none⟩) (Kd.V_far (p := ⟨gb242, 1, none⟩) (Kd.V_far (p := ⟨gb242, 0, none⟩) (Kd.V_mono HO_237003.out (fun k_ hk => (⟨hk, hk.2⟩ : _ ∧ k_ ≠ gb242))) (fun _ hk => hk.2) (.int .i64 ((rd_T77 t237 x37_1).f0))) (fun _ hk => hk.2) (.int .i64 ((rd_T77 t237 x37_1).f1))) (fun _ hk => hk.2) (.bool ((rd_T77 t237 x37_1).f2))) (fun _ hk => hk.2) (.slice A241_3 ((rd_T77 t237 x37_1).f3).length c241_3)) (fun _ hk => hk.2) (.slice A241_4 ((rd_T77 t237 x37_1).f4).length c241_4)) (fun _ h_ => h_.1))) (Kd.S_base ho0) hb); have n3_ := Aside0.mk (Kd.V_elder' (by (with_reducible repeat (first | apply Kd.V_alloc | apply Kd.V_drewN | apply Kd.V_drew)); exact (Kd.V_mono (Kd.V_far (p := ⟨gb242, 4, none⟩) (Kd.V_far (p := ⟨gb242, 3, none⟩) (Kd.V_far (p := ⟨gb242, 2, none⟩) (Kd.V_far (p := ⟨gb242, 1, none⟩) (Kd.V_far (p := ⟨gb242, 0, none⟩) (Kd.V_mono HO_237004.out (fun k_ hk => (⟨hk, hk.2⟩ : _ ∧ k_ ≠ gb242))) (fun _ hk => hk.2) (.int .i64 ((rd_T77 t237 x37_1).f0))) (fun _ hk => hk.2) (.int .i64 ((rd_T77 t237 x37_1).f1))) (fun _ hk => hk.2) (.bool ((rd_T77 t237 x37_1).f2))) (fun _ hk => hk.2) (.slice A241_3 ((rd_T77 t237 x37_1).f3).length c241_3)) (fun _ hk => hk.2) (.slice A241_4 ((rd_T77 t237 x37_1).f4).length c241_4)) (fun _ h_ => h_.1))) (Kd.S_base ho0) hb); have n4_ := Aside0.mk (Kd.R_below (by (with_reducible repeat (first | apply Kd.R_alloc | apply Kd.R_drewN | apply Kd.R_drew)); exact (Kd.R_mono (Kd.R_far (p := ⟨gb242, 4, none⟩) (Kd.R_far (p := ⟨gb242, 3, none⟩) (Kd.R_far (p := ⟨gb242, 2, none⟩) (Kd.R_far (p := ⟨gb242, 1, none⟩) (Kd.R_far (p := ⟨gb242, 0, none⟩) (Kd.R_types HL241_3.out BK242.out (by decide)) (fun _ hk => hk.2) (.int .i64 ((rd_T77 t237 x37_1).f0))) (fun _ hk => hk.2) (.int .i64 ((rd_T77 t237 x37_1).f1))) (fun _ hk => hk.2) (.bool ((rd_T77 t237 x37_1).f2))) (fun _ hk => hk.2) (.slice A241_3 ((rd_T77 t237 x37_1).f3).length c241_3)) (fun _ hk => hk.2) (.slice A241_4 ((rd_T77 t237 x37_1).f4).length c241_4)) (fun _ h_ => h_.1))) hb); have n5_ := Aside0.mk (Kd.R_below (by (with_reducible repeat (first | apply Kd.R_alloc | apply Kd.R_drewN | apply Kd.R_drew)); exact (Kd.R_mono (Kd.R_far (p := ⟨gb242, 4, none⟩) (Kd.R_far (p := ⟨gb242, 3, none⟩) (Kd.R_far (p := ⟨gb242, 2, none⟩) (Kd.R_far (p := ⟨gb242, 1, none⟩) (Kd.R_far (p := ⟨gb242, 0, none⟩) (Kd.R_types HL241_4.out BK242.out (by decide)) (fun _ hk => hk.2) (.int .i64 ((rd_T77 t237 x37_1).f0))) (fun _ hk => hk.2) (.int .i64 ((rd_T77 t237 x37_1).f1))) (fun _ hk => hk.2) (.bool ((rd_T77 t237 x37_1).f2))) (fun _ hk => hk.2) (.slice A241_3 ((rd_T77 t237 x37_1).f3).length c241_3)) (fun _ hk => hk.2) (.slice A241_4 ((rd_T77 t237 x37_1).f4).length c241_4)) (fun _ h_ => h_.1))) hb); have n6_ := Aside0.mk (Kd.S_lower (Kd.S_new' (Kd.S_new' ho0 (Kd.R_lt (by (with_reducible repeat (first | apply Kd.R_alloc | apply Kd.R_drewN | apply Kd.R_drew)); exact (Kd.R_mono (Kd.R_far (p := ⟨gb242, 4, none⟩) (Kd.R_far (p := ⟨gb242, 3, none⟩) (Kd.R_far (p := ⟨gb242, 2, none⟩) (Kd.R_far (p := ⟨gb242, 1, none⟩) (Kd.R_far (p := ⟨gb242, 0, none⟩) (Kd.R_types HL241_3.out BK242.out (by decide)) (fun _ hk => hk.2) (.int .i64 ((rd_T77 t237 x37_1).f0))) (fun _ hk => hk.2) (.int .i64 ((rd_T77 t237 x37_1).f1))) (fun _ hk => hk.2) (.bool ((rd_T77 t237 x37_1).f2))) (fun _ hk => hk.2) (.slice A241_3 ((rd_T77 t237 x37_1).f3).length c241_3)) (fun _ hk => hk.2) (.slice A241_4 ((rd_T77 t237 x37_1).f4).length c241_4)) (fun _ h_ => h_.1))))) (Kd.R_lt (by (with_reducible repeat (first | apply Kd.R_alloc | apply Kd.R_drewN | apply Kd.R_drew)); exact (Kd.R_mono (Kd.R_far (p := ⟨gb242, 4, none⟩) (Kd.R_far (p := ⟨gb242, 3, none⟩) (Kd.R_far (p := ⟨gb242, 2, none⟩) (Kd.R_far (p := ⟨gb242, 1, none⟩) (Kd.R_far (p := ⟨gb242, 0, none⟩) (Kd.R_types HL241_4.out BK242.out (by decide)) (fun _ hk => hk.2) (.int .i64 ((rd_T77 t237 x37_1).f0))) (fun _ hk => hk.2) (.int .i64 ((rd_T77 t237 x37_1).f1))) (fun _ hk => hk.2) (.bool ((rd_T77 t237 x37_1).f2))) (fun _ hk => hk.2) (.slice A241_3 ((rd_T77 t237 x37_1).f3).length c241_3)) (fun _ hk => hk.2) (.slice A241_4 ((rd_T77 t237 x37_1).f4).length c241_4)) (fun _ h_ => h_.1))))) (below_size (by repeat (first | (with_reducible first | exact HB.out | apply below_alloc | apply pw_below_drewN | apply below_drew1 | refine below_set ?_ GE236.out | refine below_set ?_ GE242.out) | exact HB.out)))); have n7_ := Aside0.mk (blk_below (g := gb236) (o := .cells #[.int .i64 t226, .int .i64 t227, .bool t228, .slice Ao17 t229.length co17, .slice Ao18 t232.length co18] 77 (0, 0)) (by (with_reducible repeat (first | refine blk_drewN ?_ _ | refine blk_drew ?_ | refine blk_alloc ?_ _)); refine blk_far ?_ NB236_242.out _; (with_reducible repeat (first | refine blk_drewN ?_ _ | refine blk_drew ?_ | refine blk_alloc ?_ _)); refine blk_far ?_ NB236_242.out _; (with_reducible repeat (first | refine blk_drewN ?_ _ | refine blk_drew ?_ | refine blk_alloc ?_ _)); refine blk_far ?_ NB236_242.out _; (with_reducible repeat (first | refine blk_drewN ?_ _ | refine blk_drew ?_ | refine blk_alloc ?_ _)); refine blk_far ?_ NB236_242.out _; (with_reducible repeat (first | refine blk_drewN ?_ _ | refine blk_drew ?_ | refine blk_alloc ?_ _)); refine blk_far ?_ NB236_242.out _; (with_reducible repeat (first | refine blk_drewN ?_ _ | refine blk_drew ?_ | refine blk_alloc ?_ _)); exact BK236.out) hb); have n8_ := Aside0.mk (Kd.C_below ((Kd.R_reads' (by (with_reducible repeat (first | apply Kd.R_alloc | apply Kd.R_drewN | apply Kd.R_drew)); exact (Kd.R_mono (Kd.R_far (p := ⟨gb242, 4, none⟩) (Kd.R_far (p := ⟨gb242, 3, none⟩) (Kd.R_far (p := ⟨gb242, 2, none⟩) (Kd.R_far (p := ⟨gb242, 1, none⟩) (Kd.R_far (p := ⟨gb242, 0, none⟩) (Kd.R_types HL241_3.out BK242.out (by decide)) (fun _ hk => hk.2) (.int .i64 ((rd_T77 t237 x37_1).f0))) (fun _ hk => hk.2) (.int .i64 ((rd_T77 t237 x37_1).f1))) (fun _ hk => hk.2) (.bool ((rd_T77 t237 x37_1).f2))) (fun _ hk => hk.2) (.slice A241_3 ((rd_T77 t237 x37_1).f3).length c241_3)) (fun _ hk => hk.2) (.slice A241_4 ((rd_T77 t237 x37_1).f4).length c241_4)) (fun _ h_ => h_.1)))).2.2) hb); have n9_ := Aside0.mk (Kd.C_below ((Kd.R_reads' (by (with_reducible repeat (first | apply Kd.R_alloc | apply Kd.R_drewN | apply Kd.R_drew)); exact (Kd.R_mono (Kd.R_far (p := ⟨gb242, 4, none⟩) (Kd.R_far (p := ⟨gb242, 3, none⟩) (Kd.R_far (p := ⟨gb242, 2, none⟩) (Kd.R_far (p := ⟨gb242, 1, none⟩) (Kd.R_far (p := ⟨gb242, 0, none⟩) (Kd.R_types HL241_4.out BK242.out (by decide)) (fun _ hk => hk.2) (.int .i64 ((rd_T77 t237 x37_1).f0))) (fun _ hk => hk.2) (.int .i64 ((rd_T77 t237 x37_1).f1))) (fun _ hk => hk.2) (.bool ((rd_T77 t237 x37_1).f2))) (fun _ hk => hk.2) (.slice A241_3 ((rd_T77 t237 x37_1).f3).length c241_3)) (fun _ hk => hk.2) (.slice A241_4 ((rd_T77 t237 x37_1).f4).length c241_4)) (fun _ h_ => h_.1)))).2.2) hb); have n10_ := Aside0.mk (blk_below (g := gb242) (o := .cells #[.int .i64 ((rd_T77 t237 x37_1).f0), .int .i64 ((rd_T77 t237 x37_1).f1), .bool ((rd_T77 t237 x37_1).f2), .slice A241_3 ((rd_T77 t237 x37_1).f3).length c241_3, .slice A241_4 ((rd_T77 t237 x37_1).f4).length c241_4] 77 (0, 0)) (by (with_reducible repeat (first | refine blk_drewN ?_ _ | refine blk_drew ?_ | refine blk_alloc ?_ _)); refine blk_put (cs := #[.int .i64 ((rd_T77 t237 x37_1).f0), .int .i64 ((rd_T77 t237 x37_1).f1), .bool ((rd_T77 t237 x37_1).f2), .slice A241_3 ((rd_T77 t237 x37_1).f3).length c241_3, .slice none 0 0]) ?_ 4 _ rfl; (with_reducible repeat (first | refine blk_drewN ?_ _ | refine blk_drew ?_ | refine blk_alloc ?_ _)); refine blk_put (cs := #[.int .i64 ((rd_T77 t237 x37_1).f0), .int .i64 ((rd_T77 t237 x37_1).f1), .bool ((rd_T77 t237 x37_1).f2), .slice none 0 0, .slice none 0 0]) ?_ 3 _ rfl; (with_reducible repeat (first | refine blk_drewN ?_ _ | refine blk_drew ?_ | refine blk_alloc ?_ _)); refine blk_put (cs := #[.int .i64 ((rd_T77 t237 x37_1).f0), .int .i64 ((rd_T77 t237 x37_1).f1), .bool false, .slice none 0 0, .slice none 0 0]) ?_ 2 _ rfl; (with_reducible repeat (first | refine blk_drewN ?_ _ | refine blk_drew ?_ | refine blk_alloc ?_ _)); refine blk_put (cs := #[.int .i64 ((rd_T77 t237 x37_1).f0), .int .i64 0, .bool false, .slice none 0 0, .slice none 0 0]) ?_ 1 _ rfl; (with_reducible repeat (first | refine blk_drewN ?_ _ | refine blk_drew ?_ | refine blk_alloc ?_ _)); refine blk_put (cs := #[.int .i64 0, .int .i64 0, .bool false, .slice none 0 0, .slice none 0 0]) ?_ 0 _ rfl; (with_reducible repeat (first | refine blk_drewN ?_ _ | refine blk_drew ?_ | refine blk_alloc ?_ _)); exact BK242.out) hb); have n11_ := Aside0.mk (below_step (by repeat (first | (with_reducible first | exact HB.out | apply below_alloc | apply pw_below_drewN | apply below_drew1 | refine below_set ?_ GE236.out | refine below_set ?_ GE242.out) | exact HB.out)) hb); clear HO_8; clear HO_35; clear HO_237003; clear HO_237004; clear HL241_3; clear HL241_4; clear BK236; clear HR241_3; clear HR241_4; clear BK242; clear HB; have HO_8 := n0_; have HO_35 := n1_; have HO_237003 := n2_; have HO_237004 := n3_; have HL241_3 := n4_; have HL241_4 := n5_; have HO245 := n6_; have BK236 := n7_; have HR241_3 := n8_; have HR241_4 := n9_; have BK242 := n10_; have HB := n11_; clear n0_ n1_ n2_ n3_ n4_ n5_ n6_ n7_ n8_ n9_ n10_ n11_; (try clear hb); (try clear hb2); (try clear hk); (try clear hi); (try clear ho0)))
        go_ret2
        exact ⟨_, _, by first | rfl | (simp [errW_none, errW_some] <;> rfl) | (simp [*, errW_none, errW_some] <;> rfl), (by first | exact EV.nil | exact EV.f30 | exact EV.f5 | exact EV.f4 | exact EV.f1 | exact EV.low (by assumption) | exact HEV_.out | exact EV.part HEV_.out), by first | exact Kd.R_nil _ _ _ _ _ | exact Kd.N_nil _ _ _ _ _ | exact Kd.V_nil _ _ _ _ _ | exact Kd.Q_nil _ _ _ _ _ | exact Kd.S_nil _ _ _ _ _, by repeat (first | (with_reducible first | exact HB.out | apply below_alloc | apply pw_below_drewN | apply below_drew1 | refine below_set ?_ GE236.out | refine below_set ?_ GE242.out) | exact HB.out)⟩
      rw [if_pos c25] at H
      have c25b0 : (t246 == 0) = true := beq_iff_eq.mpr c25
      have c25b1 : (t246 != 0) = false := bne_eq_false_iff_eq.mpr c25
      clear c25
      by_cases c26 : x8_1.length < 5864062014805
      rotate_left
      · rw [if_neg c26] at H
        exact absurd H (by simp)
      rw [if_pos c26] at H
      have LMc26 := Aside0.mk c26
      clear c26
      obtain ⟨y247, hy247⟩ : ∃ y_ : List (List (S64)), y_ = (x8_1 ++ [t243]) := ⟨_, rfl⟩
      replace H : (name_read.l0 k1 y247 t237 (t237.length : Int) (wrap64 (x37_1 + 1))) = some (r1, r2) := by first | (rw [hy247]; with_reducible exact H) | (have H2_ := (Option.bind_some _ _).symm.trans H; rw [hy247]; with_reducible exact H2_) | (have H2_ := (Option.bind_some _ _).symm.trans H; with_reducible exact H2_) | with_reducible exact H | (rw [hy247]; exact H) | exact H
      have Ny247 := Aside0.mk hy247
      clear hy247
      have H' := Aside0.mk H
      clear H
      have p241 : 0 ≤ (x37_1 : Int) := of_decide_eq_true (by first | (with_reducible assumption) | assumption)
      have q241 : x37_1 < (t237.length : Int) := of_decide_eq_true (by first | (with_reducible assumption) | assumption)
      obtain ⟨ad241, A241_3, c241_3, A241_4, c241_4, e241, hx241_0, hx241_1, hx241_2, hx241_3, hx241_4, hl241_3, hi241_3, hl241_4, hi241_4⟩ := at_T77 (Kd.S_reads' HO_35.out).2.2 x37_1 p241 q241
      cases e241
      obtain ⟨ce241, hce241, hMe241, hcc241⟩ := Kd.S_get HO_35.out z77 x37_1 p241 (by first | exact q241 | exact of_decide_eq_true (by first | (with_reducible assumption) | assumption) | (have e_ := (Kd.S_reads' HO_35.out).1; omega))
      obtain ⟨ve241_3, ve241_4, rfl, ge241_3, ge241_4⟩ := k77_openM hMe241
      have hv241_3 := hcc241 3 _ rfl
      rw [add_field _ _ 3 (by omega)] at hv241_3
      replace hv241_3 := Option.some.inj (hv241_3.symm.trans hx241_3)
      rw [hv241_3] at ge241_3
      have HL241_3 := Aside0.mk (show Kd.R (Kd.int .u8) 5 _ _ _ _ ((rd_T77 t237 x37_1).f3) from ge241_3)
      clear hv241_3 ge241_3
      have hv241_4 := hcc241 4 _ rfl
      rw [add_field _ _ 4 (by omega)] at hv241_4
      replace hv241_4 := Option.some.inj (hv241_4.symm.trans hx241_4)
      rw [hv241_4] at ge241_4
      have HL241_4 := Aside0.mk (show Kd.R (Kd.int .u8) 5 _ _ _ _ ((rd_T77 t237 x37_1).f4) from ge241_4)
      clear hv241_4 ge241_4
      clear hcc241 hce241
      have HR241_3 := Aside0.mk hi241_3
      have HC241_3 := Aside0.mk hl241_3
      clear hi241_3 hl241_3
      have HR241_4 := Aside0.mk hi241_4
      have HC241_4 := Aside0.mk hl241_4
      clear hi241_4 hl241_4
      replace p241 := eq_true p241
      replace q241 := eq_true q241
      go_wp2_with (first | ((with_reducible refine gate_dst (N := 10) rfl ?_); refine box_event ?hg (N := 10) ?hd (cs := #[.int .i64 0, .int .i64 0, .bool false, .slice none 0 0, .slice none 0 0]) (t := 77) ?hr ?_; (case hd => rfl); (case hg => rfl); (case hr => first | (go_simp; done) | (go_simp; rfl)); intro gb242 hg w27 hbox hb; have n0_ := Aside0.mk (Kd.R_below (by (with_reducible repeat (first | apply Kd.R_alloc | apply Kd.R_drewN | apply Kd.R_drew)); exact HO_8.out) hb); have n1_ := Aside0.mk (Kd.S_below (Kd.S_elderB (by (with_reducible repeat (first | apply Kd.S_alloc | apply Kd.S_drewN | apply Kd.S_drew)); exact HO_35.out) gb242 (Nat.le_of_eq hg.symm)) hb); have n2_ := Aside0.mk (Kd.V_below (Kd.V_elderB (by (with_reducible repeat (first | apply Kd.V_alloc | apply Kd.V_drewN | apply Kd.V_drew)); exact HO_237003.out) gb242 (Nat.le_of_eq hg.symm)) hb); have n3_ := Aside0.mk (Kd.V_below (Kd.V_elderB (by (with_reducible repeat (first | apply Kd.V_alloc | apply Kd.V_drewN | apply Kd.V_drew)); exact HO_237004.out) gb242 (Nat.le_of_eq hg.symm)) hb); have n4_ := Aside0.mk (Kd.R_below (by (with_reducible repeat (first | apply Kd.R_alloc | apply Kd.R_drewN | apply Kd.R_drew)); exact HL241_3.out) hb); have n5_ := Aside0.mk (Kd.R_below (by (with_reducible repeat (first | apply Kd.R_alloc | apply Kd.R_drewN | apply Kd.R_drew)); exact HL241_4.out) hb); have n6_ := Aside0.mk (blk_below (g := gb236) (o := .cells #[.int .i64 t226, .int .i64 t227, .bool t228, .slice Ao17 t229.length co17, .slice Ao18 t232.length co18] 77 (0, 0)) (by (with_reducible repeat (first | refine blk_drewN ?_ _ | refine blk_drew ?_ | refine blk_alloc ?_ _)); exact BK236.out) hb); have n7_ := Aside0.mk (Kd.C_below (by repeat (first | (with_reducible exact HR241_3.out) | (with_reducible refine Kd.C_alloc ?_ _) | (with_reducible refine Kd.C_drewN ?_ _) | (with_reducible refine Kd.C_drew ?_) | exact HR241_3.out)) hb); have n8_ := Aside0.mk (Kd.C_below (by repeat (first | (with_reducible exact HR241_4.out) | (with_reducible refine Kd.C_alloc ?_ _) | (with_reducible refine Kd.C_drewN ?_ _) | (with_reducible refine Kd.C_drew ?_) | exact HR241_4.out)) hb); have n9_ := Aside0.mk (below_step (by repeat (first | (with_reducible first | exact HB.out | apply below_alloc | apply pw_below_drewN | apply below_drew1 | refine below_set ?_ GE236.out) | exact HB.out)) hb); have n10_ := Aside0.mk (hbox); have n11_ := Aside0.mk ((by rw [hg]; exact (below_size (by repeat (first | (with_reducible first | exact HB.out | apply below_alloc | apply pw_below_drewN | apply below_drew1 | refine below_set ?_ GE236.out) | exact HB.out))) : w.heap.size ≤ gb242)); have n12_ := Aside0.mk ((by rw [hg]; exact (below_size (by repeat (first | (with_reducible first | exact HB.out | apply below_alloc | apply pw_below_drewN | apply below_drew1 | refine below_set ?_ GE236.out) | exact HB.out))) : w.heap.size ≤ gb242)); have n13_ := Aside0.mk ((by rw [hg]; exact Nat.ne_of_lt (blk_lt (g := gb236) (o := .cells #[.int .i64 t226, .int .i64 t227, .bool t228, .slice Ao17 t229.length co17, .slice Ao18 t232.length co18] 77 (0, 0)) (by (with_reducible repeat (first | refine blk_drewN ?_ _ | refine blk_drew ?_ | refine blk_alloc ?_ _)); exact BK236.out)) : gb236 ≠ gb242)); have n14_ := Aside0.mk ((by rw [hg]; exact Nat.ne_of_gt (blk_lt (g := gb236) (o := .cells #[.int .i64 t226, .int .i64 t227, .bool t228, .slice Ao17 t229.length co17, .slice Ao18 t232.length co18] 77 (0, 0)) (by (with_reducible repeat (first | refine blk_drewN ?_ _ | refine blk_drew ?_ | refine blk_alloc ?_ _)); exact BK236.out)) : gb242 ≠ gb236)); clear HO_8; clear HO_35; clear HO_237003; clear HO_237004; clear HL241_3; clear HL241_4; clear BK236; clear HR241_3; clear HR241_4; clear HB; have HO_8 := n0_; have HO_35 := n1_; have HO_237003 := n2_; have HO_237004 := n3_; have HL241_3 := n4_; have HL241_4 := n5_; have BK236 := n6_; have HR241_3 := n7_; have HR241_4 := n8_; have HB := n9_; have BK242 := n10_; have GW242 := n11_; have GE242 := n12_; have NB236_242 := n13_; have NB242_236 := n14_; clear n0_ n1_ n2_ n3_ n4_ n5_ n6_ n7_ n8_ n9_ n10_ n11_ n12_ n13_ n14_; clear hb hbox hg; have hnb28 := NB242_236.out; have hnc28 := NB236_242.out; have hcz29_0 : w27.cell? ⟨gb242, 0, none⟩ = some (.int .i64 0) := (blk_cell BK242.out 0).trans rfl; have hcz29_1 : w27.cell? ⟨gb242, 1, none⟩ = some (.int .i64 0) := (blk_cell BK242.out 1).trans rfl; have hcz29_2 : w27.cell? ⟨gb242, 2, none⟩ = some (.bool false) := (blk_cell BK242.out 2).trans rfl; have hcz29_3 : w27.cell? ⟨gb242, 3, none⟩ = some (.slice none 0 0) := (blk_cell BK242.out 3).trans rfl; have hcz29_4 : w27.cell? ⟨gb242, 4, none⟩ = some (.slice none 0 0) := (blk_cell BK242.out 4).trans rfl; have hfz29_0 := blk_frozen BK242.out 0; have hfz29_1 := blk_frozen BK242.out 1; have hfz29_2 := blk_frozen BK242.out 2; have hfz29_3 := blk_frozen BK242.out 3; have hfz29_4 := blk_frozen BK242.out 4) | ((with_reducible refine gate_callee (f := 142) rfl ?_); refine goesL_ (some 44) rfl rfl Tryz.func142 (by kernel_rfl) rfl #[.agg #[.int .i64 ((rd_T77 t237 x37_1).f0), .int .i64 ((rd_T77 t237 x37_1).f1), .bool ((rd_T77 t237 x37_1).f2), .slice A241_3 ((rd_T77 t237 x37_1).f3).length c241_3, .slice A241_4 ((rd_T77 t237 x37_1).f4).length c241_4]] rfl (by (try simp only [List.map_toArray, List.map_cons, List.map_nil]); first | done | rfl | (simp only [List.length_drop, List.length_take]; rfl)) ?_; (with_reducible refine (name_set.calls k1 ((rd_T77 t237 x37_1).f0) ((rd_T77 t237 x37_1).f1) ((rd_T77 t237 x37_1).f2) _ _ ((rd_T77 t237 x37_1).f3) _ _ ((rd_T77 t237 x37_1).f4) t243 t246 _ ?side1 ?side2 ?side3 ?side4 A24.out (Tb.below HHd.out (by repeat (first | (with_reducible first | exact HB.out | apply below_alloc | apply pw_below_drewN | apply below_drew1 | refine below_set ?_ GE236.out | refine below_set ?_ GE242.out) | exact HB.out)))).mono ?_); (case side1 => repeat (first | exact ((Kd.R_reads' (by (with_reducible repeat (first | apply Kd.R_alloc | apply Kd.R_drewN | apply Kd.R_drew)); exact (Kd.R_mono (Kd.R_far (p := ⟨gb242, 4, none⟩) (Kd.R_far (p := ⟨gb242, 3, none⟩) (Kd.R_far (p := ⟨gb242, 2, none⟩) (Kd.R_far (p := ⟨gb242, 1, none⟩) (Kd.R_far (p := ⟨gb242, 0, none⟩) (Kd.R_types HL241_3.out BK242.out (by decide)) (fun _ hk => hk.2) (.int .i64 ((rd_T77 t237 x37_1).f0))) (fun _ hk => hk.2) (.int .i64 ((rd_T77 t237 x37_1).f1))) (fun _ hk => hk.2) (.bool ((rd_T77 t237 x37_1).f2))) (fun _ hk => hk.2) (.slice A241_3 ((rd_T77 t237 x37_1).f3).length c241_3)) (fun _ hk => hk.2) (.slice A241_4 ((rd_T77 t237 x37_1).f4).length c241_4)) (fun _ h_ => h_.1)))).2.2) | (with_reducible refine Kd.C_alloc ?_ _) | (with_reducible refine Kd.C_drewN ?_ _) | (with_reducible refine Kd.C_drew ?_))); (case side2 => exact HC241_3.out); (case side3 => repeat (first | exact ((Kd.R_reads' (by (with_reducible repeat (first | apply Kd.R_alloc | apply Kd.R_drewN | apply Kd.R_drew)); exact (Kd.R_mono (Kd.R_far (p := ⟨gb242, 4, none⟩) (Kd.R_far (p := ⟨gb242, 3, none⟩) (Kd.R_far (p := ⟨gb242, 2, none⟩) (Kd.R_far (p := ⟨gb242, 1, none⟩) (Kd.R_far (p := ⟨gb242, 0, none⟩) (Kd.R_types HL241_4.out BK242.out (by decide)) (fun _ hk => hk.2) (.int .i64 ((rd_T77 t237 x37_1).f0))) (fun _ hk => hk.2) (.int .i64 ((rd_T77 t237 x37_1).f1))) (fun _ hk => hk.2) (.bool ((rd_T77 t237 x37_1).f2))) (fun _ hk => hk.2) (.slice A241_3 ((rd_T77 t237 x37_1).f3).length c241_3)) (fun _ hk => hk.2) (.slice A241_4 ((rd_T77 t237 x37_1).f4).length c241_4)) (fun _ h_ => h_.1)))).2.2) | (with_reducible refine Kd.C_alloc ?_ _) | (with_reducible refine Kd.C_drewN ?_ _) | (with_reducible refine Kd.C_drew ?_))); (case side4 => exact HC241_4.out); rintro e w30 ⟨v244, ev_, rfl, hev_, ho0, hb⟩; obtain rfl := EV.nil_of hev_ c25b0; have HEV_ := Aside0.mk hev_; clear hev_; refine ⟨_, rfl, ?_⟩; have n0_ := Aside0.mk (Kd.R_elder' (by (with_reducible repeat (first | apply Kd.R_alloc | apply Kd.R_drewN | apply Kd.R_drew)); exact (Kd.R_mono (Kd.R_far (p := ⟨gb242, 4, none⟩) (Kd.R_far (p := ⟨gb242, 3, none⟩) (Kd.R_far (p := ⟨gb242, 2, none⟩) (Kd.R_far (p := ⟨gb242, 1, none⟩) (Kd.R_far (p := ⟨gb242, 0, none⟩) (Kd.R_types HO_8.out BK242.out (by decide)) (fun _ hk => hk.2) (.int .i64 ((rd_T77 t237 x37_1).f0))) (fun _ hk => hk.2) (.int .i64 ((rd_T77 t237 x37_1).f1))) (fun _ hk => hk.2) (.bool ((rd_T77 t237 x37_1).f2))) (fun _ hk => hk.2) (.slice A241_3 ((rd_T77 t237 x37_1).f3).length c241_3)) (fun _ hk => hk.2) (.slice A241_4 ((rd_T77 t237 x37_1).f4).length c241_4)) (fun _ h_ => h_.1))) (Kd.S_base ho0) hb); have n1_ := Aside0.mk (Kd.S_below (by (with_reducible repeat (first | apply Kd.S_alloc | apply Kd.S_drewN | apply Kd.S_drew)); exact (Kd.S_mono (Kd.S_far (p := ⟨gb242, 4, none⟩) (Kd.S_far (p := ⟨gb242, 3, none⟩) (Kd.S_far (p := ⟨gb242, 2, none⟩) (Kd.S_far (p := ⟨gb242, 1, none⟩) (Kd.S_far (p := ⟨gb242, 0, none⟩) (Kd.S_mono HO_35.out (fun k_ hk => (⟨hk, hk.2⟩ : _ ∧ k_ ≠ gb242))) (fun _ hk => hk.2) (.int .i64 ((rd_T77 t237 x37_1).f0))) (fun _ hk => hk.2) (.int .i64 ((rd_T77 t237 x37_1).f1))) (fun _ hk => hk.2) (.bool ((rd_T77 t237 x37_1).f2))) (fun _ hk => hk.2) (.slice A241_3 ((rd_T77 t237 x37_1).f3).length c241_3)) (fun _ hk => hk.2) (.slice A241_4 ((rd_T77 t237 x37_1).f4).length c241_4)) (fun _ h_ => h_.1))) hb); have n2_ := Aside0.mk (Kd.V_elder' (by (with_reducible repeat (first | apply Kd.V_alloc | apply Kd.V_drewN | apply Kd.V_drew)); exact (Kd.V_mono (Kd.V_far (p := ⟨gb242, 4, none⟩) (Kd.V_far (p := ⟨gb242, 3, none⟩) (Kd.V_far (p := ⟨gb242, 2, none⟩) (Kd.V_far (p := ⟨gb242, 1, none⟩) (Kd.V_far (p := ⟨gb242, 0, none⟩) (Kd.V_mono HO_237003.out (fun k_ hk => (⟨hk, hk.2⟩ : _ ∧ k_ ≠ gb242))) (fun _ hk => hk.2) (.int .i64 ((rd_T77 t237 x37_1).f0))) (fun _ hk => hk.2) (.int .i64 ((rd_T77 t237 x37_1).f1))) (fun _ hk => hk.2) (.bool ((rd_T77 t237 x37_1).f2))) (fun _ hk => hk.2) (.slice A241_3 ((rd_T77 t237 x37_1).f3).length c241_3)) (fun _ hk => hk.2) (.slice A241_4 ((rd_T77 t237 x37_1).f4).length c241_4)) (fun _ h_ => h_.1))) (Kd.S_base ho0) hb); have n3_ := Aside0.mk (Kd.V_elder' (by (with_reducible repeat (first | apply Kd.V_alloc | apply Kd.V_drewN | apply Kd.V_drew)); exact (Kd.V_mono (Kd.V_far (p := ⟨gb242, 4, none⟩) (Kd.V_far (p := ⟨gb242, 3, none⟩) (Kd.V_far (p := ⟨gb242, 2, none⟩) (Kd.V_far (p := ⟨gb242, 1, none⟩) (Kd.V_far (p := ⟨gb242, 0, none⟩) (Kd.V_mono HO_237004.out (fun k_ hk => (⟨hk, hk.2⟩ : _ ∧ k_ ≠ gb242))) (fun _ hk => hk.2) (.int .i64 ((rd_T77 t237 x37_1).f0))) (fun _ hk => hk.2) (.int .i64 ((rd_T77 t237 x37_1).f1))) (fun _ hk => hk.2) (.bool ((rd_T77 t237 x37_1).f2))) (fun _ hk => hk.2) (.slice A241_3 ((rd_T77 t237 x37_1).f3).length c241_3)) (fun _ hk => hk.2) (.slice A241_4 ((rd_T77 t237 x37_1).f4).length c241_4)) (fun _ h_ => h_.1))) (Kd.S_base ho0) hb); have n4_ := Aside0.mk (Kd.R_below (by (with_reducible repeat (first | apply Kd.R_alloc | apply Kd.R_drewN | apply Kd.R_drew)); exact (Kd.R_mono (Kd.R_far (p := ⟨gb242, 4, none⟩) (Kd.R_far (p := ⟨gb242, 3, none⟩) (Kd.R_far (p := ⟨gb242, 2, none⟩) (Kd.R_far (p := ⟨gb242, 1, none⟩) (Kd.R_far (p := ⟨gb242, 0, none⟩) (Kd.R_types HL241_3.out BK242.out (by decide)) (fun _ hk => hk.2) (.int .i64 ((rd_T77 t237 x37_1).f0))) (fun _ hk => hk.2) (.int .i64 ((rd_T77 t237 x37_1).f1))) (fun _ hk => hk.2) (.bool ((rd_T77 t237 x37_1).f2))) (fun _ hk => hk.2) (.slice A241_3 ((rd_T77 t237 x37_1).f3).length c241_3)) (fun _ hk => hk.2) (.slice A241_4 ((rd_T77 t237 x37_1).f4).length c241_4)) (fun _ h_ => h_.1))) hb); have n5_ := Aside0.mk (Kd.R_below (by (with_reducible repeat (first | apply Kd.R_alloc | apply Kd.R_drewN | apply Kd.R_drew)); exact (Kd.R_mono (Kd.R_far (p := ⟨gb242, 4, none⟩) (Kd.R_far (p := ⟨gb242, 3, none⟩) (Kd.R_far (p := ⟨gb242, 2, none⟩) (Kd.R_far (p := ⟨gb242, 1, none⟩) (Kd.R_far (p := ⟨gb242, 0, none⟩) (Kd.R_types HL241_4.out BK242.out (by decide)) (fun _ hk => hk.2) (.int .i64 ((rd_T77 t237 x37_1).f0))) (fun _ hk => hk.2) (.int .i64 ((rd_T77 t237 x37_1).f1))) (fun _ hk => hk.2) (.bool ((rd_T77 t237 x37_1).f2))) (fun _ hk => hk.2) (.slice A241_3 ((rd_T77 t237 x37_1).f3).length c241_3)) (fun _ hk => hk.2) (.slice A241_4 ((rd_T77 t237 x37_1).f4).length c241_4)) (fun _ h_ => h_.1))) hb); have n6_ := Aside0.mk (Kd.S_lower (Kd.S_new' (Kd.S_new' ho0 (Kd.R_lt (by (with_reducible repeat (first | apply Kd.R_alloc | apply Kd.R_drewN | apply Kd.R_drew)); exact (Kd.R_mono (Kd.R_far (p := ⟨gb242, 4, none⟩) (Kd.R_far (p := ⟨gb242, 3, none⟩) (Kd.R_far (p := ⟨gb242, 2, none⟩) (Kd.R_far (p := ⟨gb242, 1, none⟩) (Kd.R_far (p := ⟨gb242, 0, none⟩) (Kd.R_types HL241_3.out BK242.out (by decide)) (fun _ hk => hk.2) (.int .i64 ((rd_T77 t237 x37_1).f0))) (fun _ hk => hk.2) (.int .i64 ((rd_T77 t237 x37_1).f1))) (fun _ hk => hk.2) (.bool ((rd_T77 t237 x37_1).f2))) (fun _ hk => hk.2) (.slice A241_3 ((rd_T77 t237 x37_1).f3).length c241_3)) (fun _ hk => hk.2) (.slice A241_4 ((rd_T77 t237 x37_1).f4).length c241_4)) (fun _ h_ => h_.1))))) (Kd.R_lt (by (with_reducible repeat (first | apply Kd.R_alloc | apply Kd.R_drewN | apply Kd.R_drew)); exact (Kd.R_mono (Kd.R_far (p := ⟨gb242, 4, none⟩) (Kd.R_far (p := ⟨gb242, 3, none⟩) (Kd.R_far (p := ⟨gb242, 2, none⟩) (Kd.R_far (p := ⟨gb242, 1, none⟩) (Kd.R_far (p := ⟨gb242, 0, none⟩) (Kd.R_types HL241_4.out BK242.out (by decide)) (fun _ hk => hk.2) (.int .i64 ((rd_T77 t237 x37_1).f0))) (fun _ hk => hk.2) (.int .i64 ((rd_T77 t237 x37_1).f1))) (fun _ hk => hk.2) (.bool ((rd_T77 t237 x37_1).f2))) (fun _ hk => hk.2) (.slice A241_3 ((rd_T77 t237 x37_1).f3).length c241_3)) (fun _ hk => hk.2) (.slice A241_4 ((rd_T77 t237 x37_1).f4).length c241_4)) (fun _ h_ => h_.1))))) (below_size (by repeat (first | (with_reducible first | exact HB.out | apply below_alloc | apply pw_below_drewN | apply below_drew1 | refine below_set ?_ GE236.out | refine below_set ?_ GE242.out) | exact HB.out)))); have n7_ := Aside0.mk (blk_below (g := gb236) (o := .cells #[.int .i64 t226, .int .i64 t227, .bool t228, .slice Ao17 t229.length co17, .slice Ao18 t232.length co18] 77 (0, 0)) (by (with_reducible repeat (first | refine blk_drewN ?_ _ | refine blk_drew ?_ | refine blk_alloc ?_ _)); refine blk_far ?_ NB236_242.out _; (with_reducible repeat (first | refine blk_drewN ?_ _ | refine blk_drew ?_ | refine blk_alloc ?_ _)); refine blk_far ?_ NB236_242.out _; (with_reducible repeat (first | refine blk_drewN ?_ _ | refine blk_drew ?_ | refine blk_alloc ?_ _)); refine blk_far ?_ NB236_242.out _; (with_reducible repeat (first | refine blk_drewN ?_ _ | refine blk_drew ?_ | refine blk_alloc ?_ _)); refine blk_far ?_ NB236_242.out _; (with_reducible repeat (first | refine blk_drewN ?_ _ | refine blk_drew ?_ | refine blk_alloc ?_ _)); refine blk_far ?_ NB236_242.out _; (with_reducible repeat (first | refine blk_drewN ?_ _ | refine blk_drew ?_ | refine blk_alloc ?_ _)); exact BK236.out) hb); have n8_ := Aside0.mk (Kd.C_below ((Kd.R_reads' (by (with_reducible repeat (first | apply Kd.R_alloc | apply Kd.R_drewN | apply Kd.R_drew)); exact (Kd.R_mono (Kd.R_far (p := ⟨gb242, 4, none⟩) (Kd.R_far (p := ⟨gb242, 3, none⟩) (Kd.R_far (p := ⟨gb242, 2, none⟩) (Kd.R_far (p := ⟨gb242, 1, none⟩) (Kd.R_far (p := ⟨gb242, 0, none⟩) (Kd.R_types HL241_3.out BK242.out (by decide)) (fun _ hk => hk.2) (.int .i64 ((rd_T77 t237 x37_1).f0))) (fun _ hk => hk.2) (.int .i64 ((rd_T77 t237 x37_1).f1))) (fun _ hk => hk.2) (.bool ((rd_T77 t237 x37_1).f2))) (fun _ hk => hk.2) (.slice A241_3 ((rd_T77 t237 x37_1).f3).length c241_3)) (fun _ hk => hk.2) (.slice A241_4 ((rd_T77 t237 x37_1).f4).length c241_4)) (fun _ h_ => h_.1)))).2.2) hb); have n9_ := Aside0.mk (Kd.C_below ((Kd.R_reads' (by (with_reducible repeat (first | apply Kd.R_alloc | apply Kd.R_drewN | apply Kd.R_drew)); exact (Kd.R_mono (Kd.R_far (p := ⟨gb242, 4, none⟩) (Kd.R_far (p := ⟨gb242, 3, none⟩) (Kd.R_far (p := ⟨gb242, 2, none⟩) (Kd.R_far (p := ⟨gb242, 1, none⟩) (Kd.R_far (p := ⟨gb242, 0, none⟩) (Kd.R_types HL241_4.out BK242.out (by decide)) (fun _ hk => hk.2) (.int .i64 ((rd_T77 t237 x37_1).f0))) (fun _ hk => hk.2) (.int .i64 ((rd_T77 t237 x37_1).f1))) (fun _ hk => hk.2) (.bool ((rd_T77 t237 x37_1).f2))) (fun _ hk => hk.2) (.slice A241_3 ((rd_T77 t237 x37_1).f3).length c241_3)) (fun _ hk => hk.2) (.slice A241_4 ((rd_T77 t237 x37_1).f4).length c241_4)) (fun _ h_ => h_.1)))).2.2) hb); have n10_ := Aside0.mk (blk_below (g := gb242) (o := .cells #[.int .i64 ((rd_T77 t237 x37_1).f0), .int .i64 ((rd_T77 t237 x37_1).f1), .bool ((rd_T77 t237 x37_1).f2), .slice A241_3 ((rd_T77 t237 x37_1).f3).length c241_3, .slice A241_4 ((rd_T77 t237 x37_1).f4).length c241_4] 77 (0, 0)) (by (with_reducible repeat (first | refine blk_drewN ?_ _ | refine blk_drew ?_ | refine blk_alloc ?_ _)); refine blk_put (cs := #[.int .i64 ((rd_T77 t237 x37_1).f0), .int .i64 ((rd_T77 t237 x37_1).f1), .bool ((rd_T77 t237 x37_1).f2), .slice A241_3 ((rd_T77 t237 x37_1).f3).length c241_3, .slice none 0 0]) ?_ 4 _ rfl; (with_reducible repeat (first | refine blk_drewN ?_ _ | refine blk_drew ?_ | refine blk_alloc ?_ _)); refine blk_put (cs := #[.int .i64 ((rd_T77 t237 x37_1).f0), .int .i64 ((rd_T77 t237 x37_1).f1), .bool ((rd_T77 t237 x37_1).f2), .slice none 0 0, .slice none 0 0]) ?_ 3 _ rfl; (with_reducible repeat (first | refine blk_drewN ?_ _ | refine blk_drew ?_ | refine blk_alloc ?_ _)); refine blk_put (cs := #[.int .i64 ((rd_T77 t237 x37_1).f0), .int .i64 ((rd_T77 t237 x37_1).f1), .bool false, .slice none 0 0, .slice none 0 0]) ?_ 2 _ rfl; (with_reducible repeat (first | refine blk_drewN ?_ _ | refine blk_drew ?_ | refine blk_alloc ?_ _)); refine blk_put (cs := #[.int .i64 ((rd_T77 t237 x37_1).f0), .int .i64 0, .bool false, .slice none 0 0, .slice none 0 0]) ?_ 1 _ rfl; (with_reducible repeat (first | refine blk_drewN ?_ _ | refine blk_drew ?_ | refine blk_alloc ?_ _)); refine blk_put (cs := #[.int .i64 0, .int .i64 0, .bool false, .slice none 0 0, .slice none 0 0]) ?_ 0 _ rfl; (with_reducible repeat (first | refine blk_drewN ?_ _ | refine blk_drew ?_ | refine blk_alloc ?_ _)); exact BK242.out) hb); have n11_ := Aside0.mk (below_step (by repeat (first | (with_reducible first | exact HB.out | apply below_alloc | apply pw_below_drewN | apply below_drew1 | refine below_set ?_ GE236.out | refine below_set ?_ GE242.out) | exact HB.out)) hb); clear HO_8; clear HO_35; clear HO_237003; clear HO_237004; clear HL241_3; clear HL241_4; clear BK236; clear HR241_3; clear HR241_4; clear BK242; clear HB; have HO_8 := n0_; have HO_35 := n1_; have HO_237003 := n2_; have HO_237004 := n3_; have HL241_3 := n4_; have HL241_4 := n5_; have HO245 := n6_; have BK236 := n7_; have HR241_3 := n8_; have HR241_4 := n9_; have BK242 := n10_; have HB := n11_; clear n0_ n1_ n2_ n3_ n4_ n5_ n6_ n7_ n8_ n9_ n10_ n11_; (try clear hb); (try clear hb2); (try clear hk); (try clear hi); (try clear ho0); obtain ⟨Ao32, co32, eo32⟩ := Kd.S_slice HO245.out; subst eo32) | ((with_reducible refine gate_builtin (b := .append) (xs := #[.tmp 53, .tmp 55]) rfl ?_); at_builtin; refine Kd.R_append (Kd.slice 64 k64) (w0 := w) w.heap.size rfl (.tmp 53) (.tmp 55) 23 62 (.slice none 0 0) 24 rfl Tryz.underlying23 info62 rfl (by decide) (by omega) u8 x8_1 t243 [.slice Ao32 t243.length co32] (fun _ => True) (fun k_ => ((fun _ => True)) k_ ∧ some k_ ≠ (u8 : Value).ownBlock) rfl rfl ?aP (fun _ hk => hk) ?aF ?aO ?aB ?aS ?aL ?_; (case aP => exact Kd.M_row (Kd.R_mono (Kd.R_apart' ((Kd.S_R HO245.out)) (Kd.R_typed HO_8.out) (by decide)) (fun k_ hk => ⟨trivial, hk.2⟩))); (case aB => exact (by repeat (first | (with_reducible first | exact HB.out | apply below_alloc | apply pw_below_drewN | apply below_drew1 | refine below_set ?_ GE236.out | refine below_set ?_ GE242.out) | exact HB.out))); (case aF => exact (fun _ _ => trivial)); (case aO => exact (by (with_reducible repeat (first | apply Kd.R_alloc | apply Kd.R_drewN | apply Kd.R_drew)); exact Kd.R_mono HO_8.out (fun _ hk => trivial))); (case aS => exact (below_size (by repeat (first | (with_reducible first | exact HB.out | apply below_alloc | apply pw_below_drewN | apply below_drew1 | refine below_set ?_ GE236.out | refine below_set ?_ GE242.out) | exact HB.out)))); (case aL => have := LMc26.out; omega); intro v248 w31 ho hb hg hat; rw [← Ny247.out] at ho; have n0_ := Aside0.mk (Kd.S_over' (by (with_reducible repeat (first | apply Kd.S_alloc | apply Kd.S_drewN | apply Kd.S_drew)); exact HO_35.out) (Kd.R_typed (by (with_reducible repeat (first | apply Kd.R_alloc | apply Kd.R_drewN | apply Kd.R_drew)); exact HO_8.out)) (by decide) hg); have n1_ := Aside0.mk (Kd.V_afterv (ok := (fun k_ => some k_ ≠ (.slice (some ad241) t237.length co20 : Value).ownBlock ∧ some k_ ≠ (.slice Ao32 t243.length co32 : Value).ownBlock ∧ k_ ≠ gb236 ∧ k_ ≠ gb242)) (by (with_reducible repeat (first | apply Kd.V_alloc | apply Kd.V_drewN | apply Kd.V_drew)); exact Kd.V_mono HO_237003.out (fun _ hk => ⟨⟨hk.1.1.2.1, ⟨hk.2, ⟨hk.1.1.2.2, hk.1.2⟩⟩⟩, hk.1.1.1⟩)) hg hat); have n2_ := Aside0.mk (Kd.V_afterv (ok := (fun k_ => some k_ ≠ (.slice (some ad241) t237.length co20 : Value).ownBlock ∧ some k_ ≠ (.slice Ao32 t243.length co32 : Value).ownBlock ∧ k_ ≠ gb236 ∧ k_ ≠ gb242)) (by (with_reducible repeat (first | apply Kd.V_alloc | apply Kd.V_drewN | apply Kd.V_drew)); exact Kd.V_mono HO_237004.out (fun _ hk => ⟨⟨hk.1.1.2.1, ⟨hk.2, ⟨hk.1.1.2.2, hk.1.2⟩⟩⟩, hk.1.1.1⟩)) hg hat); have n3_ := Aside0.mk (blk_grown (g := gb236) (o := .cells #[.int .i64 t226, .int .i64 t227, .bool t228, .slice Ao17 t229.length co17, .slice Ao18 t232.length co18] 77 (0, 0)) (by (with_reducible repeat (first | refine blk_drewN ?_ _ | refine blk_drew ?_ | refine blk_alloc ?_ _)); exact BK236.out) hg (Kd.R_ne HO_8.out BK236.out (by decide))); have n4_ := Aside0.mk (Kd.R_over' (by (with_reducible repeat (first | apply Kd.R_alloc | apply Kd.R_drewN | apply Kd.R_drew)); exact HL241_3.out) (Kd.R_typed (by (with_reducible repeat (first | apply Kd.R_alloc | apply Kd.R_drewN | apply Kd.R_drew)); exact HO_8.out)) (by decide) hg); have n5_ := Aside0.mk (Kd.R_over' (by (with_reducible repeat (first | apply Kd.R_alloc | apply Kd.R_drewN | apply Kd.R_drew)); exact HL241_4.out) (Kd.R_typed (by (with_reducible repeat (first | apply Kd.R_alloc | apply Kd.R_drewN | apply Kd.R_drew)); exact HO_8.out)) (by decide) hg); have n6_ := Aside0.mk (blk_grown (g := gb242) (o := .cells #[.int .i64 ((rd_T77 t237 x37_1).f0), .int .i64 ((rd_T77 t237 x37_1).f1), .bool ((rd_T77 t237 x37_1).f2), .slice A241_3 ((rd_T77 t237 x37_1).f3).length c241_3, .slice A241_4 ((rd_T77 t237 x37_1).f4).length c241_4] 77 (0, 0)) (by (with_reducible repeat (first | refine blk_drewN ?_ _ | refine blk_drew ?_ | refine blk_alloc ?_ _)); exact BK242.out) hg (Kd.R_ne HO_8.out BK242.out (by decide))); have n7_ := Aside0.mk (hb); have n8_ := Aside0.mk (ho); clear HO_35; clear HO_237003; clear HO_237004; clear BK236; clear HL241_3; clear HL241_4; clear BK242; clear HB; clear HO_8; clear HO245; have HO_35 := n0_; have HO_237003 := n1_; have HO_237004 := n2_; have BK236 := n3_; have HL241_3 := n4_; have HL241_4 := n5_; have BK242 := n6_; have HB := n7_; have HO249 := n8_; clear n0_ n1_ n2_ n3_ n4_ n5_ n6_ n7_ n8_; clear ho hb hg hat))
      go_roundg k1
      case measure => have := HK1.out; omega
      case rel => exact ⟨(y247), (wrap64 (x37_1 + 1)), (by first | rfl | (simp; done) | (simp [*]; done)), H', ⟨by have := HK1.out; omega⟩, ⟨Kd.R_u HO249.out⟩, ⟨Kd.S_u (Kd.S_mono HO_35.out (fun _ hk => hk.1))⟩, ⟨Kd.V_u (Kd.V_mono HO_237003.out (fun _ hk => ⟨hk.2, ⟨hk.1.1, hk.1.2.2.1⟩⟩))⟩, ⟨Kd.V_u (Kd.V_mono HO_237004.out (fun _ hk => ⟨hk.2, ⟨hk.1.1, hk.1.2.2.1⟩⟩))⟩, ⟨by (with_reducible repeat (first | refine blk_drewN ?_ _ | refine blk_drew ?_ | refine blk_alloc ?_ _)); exact BK236.out⟩, ⟨by repeat (first | (with_reducible first | exact HB.out | apply below_alloc | apply pw_below_drewN | apply below_drew1 | refine below_set ?_ GE236.out | refine below_set ?_ GE242.out) | exact HB.out)⟩⟩
end Go.Proofs.YtkioddjjfifadaaGreatDoor.P
set_option linter.unusedVariables false
namespace Go.Proofs.YtkioddjjfifadaaGreatDoor.P
open Go.RowKit Go.Proofs.YtkioddjjfifadaaGreatDoorW.PrintWords Go.Proofs.YtkioddjjfifadaaGreatDoorW.PrintLast Go.Proofs.YtkioddjjfifadaaGreatDoorW.PrintMore
def name_Parse.f (k : Nat) (l0 : List Int) : Option ((List (List (S64))) × Int) := name_read.f k l0
set_option maxRecDepth 100000 in
set_option maxHeartbeats 4000000 in
theorem name_Parse.calls (k : Nat) (A0 : Option Addr) (c0 : Nat) (l0 : List Int) (r1 : List (List (S64))) (r2 : Int) (w : World) (hr0 : Kd.C (Kd.int .u8) w A0 l0.length l0) (hc0 : l0.length ≤ c0) (h : name_Parse.f k l0 = some (r1, r2)) (hH : Tb w) (hD : Hd w) :
    Calls Tryz.prog 35 #[.slice A0 l0.length c0] w fun e w' => ∃ v0_ : Value, e = .returned (.tuple #[v0_, .int .i64 r2]) ∧ Kd.R (Kd.slice 64 k64) 62 w' w.heap.size (fun _ => True) v0_ r1 ∧ Below w.heap.size w w' := by
  have HR0 := Aside0.mk hr0
  have HC0 := Aside0.mk hc0
  have HT := Aside0.mk hH
  have HD := Aside0.mk hD
  have A2 := Aside0.mk (show name_read.f k l0 = some (r1, r2) from h)
  clear hr0 hc0 hH hD h
  go_enter Tryz.func35, Tryz.ntmps35
  go_wp2_with fail
  refine (name_read.calls k A0 c0 l0 r1 r2 _ HR0.out HC0.out A2.out HT.out).mono ?_
  rintro e w1 ⟨v, ev, rfl, hev, ho, hb⟩
  have HE := Aside0.mk hev
  have HO := Aside0.mk ho
  have HB := Aside0.mk hb
  have HD1 := Aside0.mk (HD.out.below hb)
  clear hev ho hb HD HT HR0
  go_wp2_with fail
  refine (name_number_ev HE.out _ HD1.out).mono ?_
  rintro e w2 ⟨rfl, hb⟩
  have HO2 := Aside0.mk (Kd.R_below HO.out hb)
  have HB2 := Aside0.mk (below_step HB.out hb)
  clear hb HO HB
  go_wp2_with fail
  go_ret2
  exact ⟨_, rfl, HO2.out, HB2.out⟩
end Go.Proofs.YtkioddjjfifadaaGreatDoor.P
namespace Go.Proofs.YtkioddjjfifadaaGreatDoor.P
open Go.RowKit Go.Proofs.YtkioddjjfifadaaGreatDoorW.PrintWords
def elO (p : S64) : El := ⟨false, 6, (oidS p.f0).1⟩
def elD (p : S64) : El := ⟨false, p.f1, p.f2⟩
def elP (p : S64) : El := ⟨true, 16, ([elO p, elD p].map El.enc).flatten⟩
def layB (p : S64) : List Int := (layS p).1
theorem lay_el (p : S64) (h : (layS p).2 = 0) : layB p = (elP p).enc ∧ (oidS p.f0).2 = 0 ∧ 1 ≤ p.f1 ∧ p.f1 ≤ 268435455 := by
  unfold layB
  unfold layS at h ⊢
  by_cases c0 : (oidS p.f0).2 = 0
  rotate_left
  · rw [if_neg c0] at h
    exact absurd h c0
  rw [if_pos c0] at h ⊢
  by_cases c1 : p.f1 < 1
  · rw [if_pos c1] at h
    exact absurd h (by decide)
  rw [if_neg c1] at h ⊢
  by_cases c2 : p.f1 > 268435455
  · rw [if_pos c2] at h
    exact absurd h (by decide)
  rw [if_neg c2] at h ⊢
  by_cases c3 : (putS false 6 [(oidS p.f0).1]).2 = 0
  rotate_left
  · rw [if_neg c3] at h
    exact absurd h c3
  rw [if_pos c3] at h ⊢
  by_cases c4 : (putS false p.f1 [p.f2]).2 = 0
  rotate_left
  · rw [if_neg c4] at h
    exact absurd h c4
  rw [if_pos c4] at h ⊢
  refine ⟨?_, c0, by omega, by omega⟩
  rw [put_enc true 16 _ h, put_enc false 6 _ c3, put_enc false p.f1 _ c4]
  unfold elP elO elD
  simp only [List.flatten_cons, List.flatten_nil, List.append_nil, List.map_cons, List.map_nil]
theorem partsS_map : ∀ (s : List S64) (acc : List (List Int)), (partsS s acc).2 = 0 → (partsS s acc).1 = acc ++ s.map layB ∧ ∀ p ∈ s, (layS p).2 = 0
  | [], acc, h => ⟨by simp [partsS], fun p hp => by cases hp⟩
  | p :: r, acc, h => by
    rw [partsS] at h ⊢
    by_cases c : (layS p).2 = 0
    · rw [if_pos c] at h ⊢
      obtain ⟨h1, h2⟩ := partsS_map r _ h
      refine ⟨?_, fun q hq => ?_⟩
      · rw [h1, List.map_cons, List.append_assoc]
        rfl
      · rcases List.mem_cons.1 hq with rfl | hq
        · exact c
        · exact h2 q hq
    · rw [if_neg c] at h
      exact absurd h c
theorem partsS_all : ∀ (s : List S64) (acc : List (List Int)), (∀ p ∈ s, (layS p).2 = 0) → partsS s acc = (acc ++ s.map layB, 0)
  | [], acc, h => by simp [partsS]
  | p :: r, acc, h => by
    rw [partsS, if_pos (h p List.mem_cons_self), partsS_all r _ fun q hq => h q (List.mem_cons_of_mem _ hq), List.map_cons, List.append_assoc]
    rfl
def leP (p q : S64) : Bool := decide (un (layB p) ≤ un (layB q))
/-- A set in the order of its bytes. -/
def srt (s : List S64) : List S64 := s.mergeSort leP
theorem srt_perm (s : List S64) : (srt s).Perm s := List.mergeSort_perm s leP
theorem srt_map (s : List S64) (h : ∀ p ∈ s, BytesOk p.f2) : (srt s).map layB = sortedL (s.map layB) := by
  have tr : ∀ a b c : S64, leP a b = true → leP b c = true → leP a c = true := fun a b c h1 h2 => by
    unfold leP at *
    simp only [decide_eq_true_eq] at *
    exact List.le_trans h1 h2
  have tot : ∀ a b : S64, (leP a b || leP b a) = true := fun a b => by
    unfold leP
    simp only [Bool.or_eq_true, decide_eq_true_eq]
    exact List.le_total _ _
  refine sortedL_only (fun y hy => ?_) ((srt_perm s).map _) ?_
  rotate_left
  · refine List.pairwise_map.2 ((List.pairwise_mergeSort tr tot s).imp fun {a b} hab => ?_)
    exact of_decide_eq_true hab
  obtain ⟨p, hp, rfl⟩ := List.mem_map.1 hy
  exact byteOk_of (layS_bytes p (h p hp))
theorem srt_len (s : List S64) : (srt s).length = s.length := (srt_perm s).length_eq
theorem sorted_again (l : List (List Int)) (h : ∀ x ∈ l, BytesOk x) : sortedL (sortedL l) = sortedL l :=
  (sortedL_only (xs := sortedL l) (fun y hy => byteOk_of (sorted_ok h y hy)) (List.Perm.refl _) (sortedL_perm l).1).symm
def elS (s : List S64) : El := ⟨true, 17, (s.map fun p => (elP p).enc).flatten⟩
def GoodS (s : List S64) : Prop := s.length ≠ 0 ∧ (∀ p ∈ s, (layS p).2 = 0) ∧ (putS true 17 ((srt s).map layB)).2 = 0
theorem setS_el (s : List S64) (hb : ∀ p ∈ s, BytesOk p.f2) (h : (setS s).2 = 0) : (setS s).1 = (elS (srt s)).enc ∧ GoodS s := by
  unfold setS at h ⊢
  by_cases c0 : (s.length : Int) = 0
  · rw [if_pos c0] at h
    exact absurd h (by decide)
  rw [if_neg c0] at h ⊢
  by_cases c1 : (partsS s []).2 = 0
  rotate_left
  · rw [if_neg c1] at h
    exact absurd h c1
  rw [if_pos c1] at h ⊢
  obtain ⟨h1, h2⟩ := partsS_map s [] c1
  rw [h1, List.nil_append, ← srt_map s hb] at h ⊢
  refine ⟨?_, by omega, h2, h⟩
  rw [put_enc true 17 _ h]
  unfold elS
  rw [List.map_congr_left fun p hp => (lay_el p (h2 p ((srt_perm s).mem_iff.1 hp))).1]
theorem setS_again (s : List S64) (hb : ∀ p ∈ s, BytesOk p.f2) (h : (setS s).2 = 0) : setS (srt s) = setS s := by
  obtain ⟨_, g0, g1, g2⟩ := setS_el s hb h
  have hp := fun p (hp : p ∈ srt s) => g1 p ((srt_perm s).mem_iff.1 hp)
  unfold setS
  rw [srt_len, partsS_all s [] g1, partsS_all (srt s) [] hp, List.nil_append, List.nil_append, srt_map s hb, sorted_again _ (fun x hx => by
    obtain ⟨p, hp, rfl⟩ := List.mem_map.1 hx
    exact layS_bytes p (hb p hp))]
theorem setsS_map : ∀ (n : List (List S64)) (acc : List (List Int)), (∀ s ∈ n, ∀ p ∈ s, BytesOk p.f2) → (setsS n acc).2 = 0 → (setsS n acc).1 = acc ++ n.map (fun s => (elS (srt s)).enc) ∧ ∀ s ∈ n, (setS s).2 = 0
  | [], acc, hb, h => ⟨by simp [setsS], fun p hp => by cases hp⟩
  | s :: r, acc, hb, h => by
    rw [setsS] at h ⊢
    by_cases c : (setS s).2 = 0
    · rw [if_pos c] at h ⊢
      obtain ⟨h1, h2⟩ := setsS_map r _ (fun q hq => hb q (List.mem_cons_of_mem _ hq)) h
      refine ⟨?_, fun q hq => ?_⟩
      · rw [h1, List.map_cons, List.append_assoc, (setS_el s (hb s List.mem_cons_self) c).1]
        rfl
      · rcases List.mem_cons.1 hq with rfl | hq
        · exact c
        · exact h2 q hq
    · rw [if_neg c] at h
      exact absurd h c
theorem setsS_again : ∀ (n : List (List S64)) (acc : List (List Int)), (∀ s ∈ n, ∀ p ∈ s, BytesOk p.f2) → (∀ s ∈ n, (setS s).2 = 0) → setsS (n.map srt) acc = setsS n acc
  | [], acc, _, _ => rfl
  | s :: r, acc, hb, h => by
    rw [List.map_cons, setsS, setsS, setS_again s (hb s List.mem_cons_self) (h s List.mem_cons_self), setsS_again r _ (fun q hq => hb q (List.mem_cons_of_mem _ hq)) fun q hq => h q (List.mem_cons_of_mem _ hq)]
theorem longL_srt (n : List (List S64)) : longL (n.map srt) = longL n := by
  unfold longL
  rw [List.any_map]
  congr 1
  funext s
  simp only [Function.comp]
  rw [srt_len]
def elN (n : List (List S64)) : El := ⟨true, 16, (n.map fun s => (elS s).enc).flatten⟩
/-- Built: what stands there. -/
theorem buildS_el (n : List (List S64)) (hb : ∀ s ∈ n, ∀ p ∈ s, BytesOk p.f2) (h : (buildS n).2 = 0) :
    n.length ≤ 64 ∧ (∀ s ∈ n, s.length ≤ 64 ∧ GoodS s) ∧ (buildS n).1 = (elN (n.map srt)).enc ∧ buildS (n.map srt) = buildS n := by
  unfold buildS at h ⊢
  rw [List.length_map, longL_srt]
  by_cases c0 : (n.length : Int) > 64
  · rw [if_pos c0] at h
    exact absurd h (by decide)
  rw [if_neg c0] at h ⊢
  by_cases c1 : longL n = true
  · rw [if_pos c1] at h
    exact absurd h (by decide)
  rw [if_neg c1] at h ⊢
  by_cases c2 : (setsS n []).2 = 0
  rotate_left
  · rw [if_neg c2] at h
    exact absurd h c2
  rw [if_pos c2] at h ⊢
  obtain ⟨h1, h2⟩ := setsS_map n [] hb c2
  have hlf := longL_false (by simpa using c1)
  refine ⟨by omega, fun s hs => ⟨hlf s hs, (setS_el s (hb s hs) (h2 s hs)).2⟩, ?_, ?_⟩
  rotate_left
  · rw [if_neg c0, if_neg c1, setsS_again n [] hb h2, if_pos c2]
  rw [put_enc true 16 _ h, h1, List.nil_append]
  unfold elN
  rw [List.map_map]
  rfl
theorem enc_len (e : El) : e.enc.length ≤ e.data.length + 16 := by
  have h1 := hdL_len (if e.cons then 32 else 0) e.tag
  have h2 := lenL_len (e.data.length : Int)
  unfold El.enc
  rw [List.length_append, List.length_append]
  omega
theorem sevs_len : ∀ r : List Int, (r.map sev).flatten.length ≤ 10 * r.length
  | [] => by simp
  | z :: r => by
    have := sev_len z
    have := sevs_len r
    rw [List.map_cons, List.flatten_cons, List.length_append, List.length_cons]
    omega
theorem oidS_len (a : ByteArray) : (oidS a).1.length ≤ 10 * a.size + 30 := by
  unfold oidS
  cases e : arcsGo (a ++ (⟨#[46]⟩ : ByteArray)) (a.size + 2) 0 [] 0 0 with
  | none => exact Nat.zero_le _
  | some l =>
    obtain ⟨g1, g2⟩ := arcsGo_rng _ _ _ _ _ _ _ e (fun x hx => by cases hx) (by decide) (by decide)
    simp only [List.length_nil] at g2
    show (if (arcsEnd l).2 = true then (if l.any bigA = true then (([], 3) : List Int × Int) else (sev (40 * rd l 0 + rd l 1) ++ ((l.drop 2).map sev).flatten, 0)) else ([], 6)).1.length ≤ _
    split
    rotate_left
    · exact Nat.zero_le _
    split
    · exact Nat.zero_le _
    show (sev (40 * rd l 0 + rd l 1) ++ ((l.drop 2).map sev).flatten).length ≤ _
    have h1 := sev_len (40 * rd l 0 + rd l 1)
    have h2 := sevs_len (l.drop 2)
    rw [List.length_drop] at h2
    rw [List.length_append]
    omega
def wP (p : S64) : Nat := p.f0.size + p.f2.length
def wS (s : List S64) : Nat := (s.map wP).sum
def wN (n : List (List S64)) : Nat := (n.map wS).sum
theorem perm_sum {α : Type} (f : α → Nat) {l l' : List α} (h : l.Perm l') : (l.map f).sum = (l'.map f).sum := by
  induction h with
  | nil => rfl
  | cons a _ ih => simp only [List.map_cons, List.sum_cons, ih]
  | swap a b l => simp only [List.map_cons, List.sum_cons]; omega
  | trans _ _ ih1 ih2 => exact ih1.trans ih2
theorem wS_srt (s : List S64) : wS (srt s) = wS s := perm_sum wP (srt_perm s)
theorem wN_srt (n : List (List S64)) : wN (n.map srt) = wN n := by
  unfold wN
  rw [List.map_map]
  congr 1
  exact List.map_congr_left fun s _ => wS_srt s
theorem elP_len (p : S64) : (elP p).data.length ≤ 10 * wP p + 62 ∧ (elP p).enc.length ≤ 10 * wP p + 78 := by
  have h1 := enc_len (elP p)
  have h2 := enc_len (elO p)
  have h3 := enc_len (elD p)
  have h4 := oidS_len p.f0
  have e : (elP p).data.length = (elO p).enc.length + (elD p).enc.length := by
    unfold elP
    simp only [List.map_cons, List.map_nil, List.flatten_cons, List.flatten_nil, List.append_nil, List.length_append]
  have e2 : (elO p).data.length = (oidS p.f0).1.length := rfl
  have e3 : (elD p).data.length = p.f2.length := rfl
  unfold wP
  omega
theorem parts_len : ∀ (s : List S64), (s.map fun p => (elP p).enc).flatten.length ≤ 10 * wS s + 78 * s.length
  | [] => by simp
  | p :: r => by
    have h1 := (elP_len p).2
    have h2 := parts_len r
    have e : wS (p :: r) = wP p + wS r := by unfold wS; rw [List.map_cons, List.sum_cons]
    rw [List.map_cons, List.flatten_cons, List.length_append, List.length_cons]
    omega
theorem elS_len (s : List S64) : (elS s).data.length ≤ 10 * wS s + 78 * s.length ∧ (elS s).enc.length ≤ 10 * wS s + 78 * s.length + 16 := by
  have h1 := parts_len s
  have h2 := enc_len (elS s)
  have e : (elS s).data.length = (s.map fun p => (elP p).enc).flatten.length := rfl
  omega
theorem sets_len : ∀ (n : List (List S64)), (∀ s ∈ n, s.length ≤ 64) → (n.map fun s => (elS s).enc).flatten.length ≤ 10 * wN n + 5100 * n.length
  | [], _ => by simp
  | s :: r, h => by
    have h1 := (elS_len s).2
    have h2 := sets_len r fun q hq => h q (List.mem_cons_of_mem _ hq)
    have h3 := h s List.mem_cons_self
    have e : wN (s :: r) = wS s + wN r := by unfold wN; rw [List.map_cons, List.sum_cons]
    rw [List.map_cons, List.flatten_cons, List.length_append, List.length_cons]
    omega
theorem wP_le (s : List S64) : ∀ p ∈ s, wP p ≤ wS s := by
  induction s with
  | nil => intro p hp; cases hp
  | cons a s ih =>
    intro p hp
    have e : wS (a :: s) = wP a + wS s := by unfold wS; rw [List.map_cons, List.sum_cons]
    rcases List.mem_cons.1 hp with rfl | hp
    · omega
    have := ih p hp
    omega
theorem wS_le (n : List (List S64)) : ∀ s ∈ n, wS s ≤ wN n := by
  induction n with
  | nil => intro p hp; cases hp
  | cons a s ih =>
    intro p hp
    have e : wN (a :: s) = wS a + wN s := by unfold wN; rw [List.map_cons, List.sum_cons]
    rcases List.mem_cons.1 hp with rfl | hp
    · omega
    have := ih p hp
    omega
theorem part_back (p : S64) (h : (layS p).2 = 0) (hw : wP p ≤ 8192) (raw : List Int) (k : Nat) (hk : 900000 ≤ k) : name_part.f k 0 16 true (elP p).data raw = some (p.f0, p.f1, p.f2, 0) := by
  obtain ⟨k1, rfl⟩ : ∃ k1, k = k1 + 1 := ⟨k - 1, by omega⟩
  obtain ⟨_, ho, t0, t1⟩ := lay_el p h
  have hl := (elP_len p).1
  have h4 := oidS_len p.f0
  unfold wP at hw hl
  have hin := inside_eq 16 [elO p, elD p] (fun e he => by
    simp only [List.mem_cons, List.not_mem_nil, or_false] at he
    rcases he with rfl | rfl
    · exact ⟨(by show (1 : Int) ≤ 6; decide), (by show (6 : Int) ≤ 268435455; decide), by show (oidS p.f0).1.length < _; omega⟩
    · exact ⟨t0, t1, by show p.f2.length < _; omega⟩) raw (by show (elP p).data.length ≤ _; omega) (by simp) (k1 + 1) (by simp only [List.length_cons, List.length_nil]; omega)
  unfold name_part.f
  rw [show (elP p).data = ([elO p, elD p].map El.enc).flatten from rfl, hin, Option.bind_some, if_pos rfl]
  have e0 : rd_T77 ([elO p, elD p].map El.tlv) 0 = (elO p).tlv := rfl
  have e1 : rd_T77 ([elO p, elD p].map El.tlv) 1 = (elD p).tlv := rfl
  have f0 : (elO p).tlv.f0 = 0 := rfl
  have f1 : (elO p).tlv.f1 = 6 := rfl
  have f2 : (elO p).tlv.f2 = false := rfl
  have f3 : (elO p).tlv.f3 = (oidS p.f0).1 := rfl
  have g0 : (elD p).tlv.f0 = 0 := rfl
  have g1 : (elD p).tlv.f1 = p.f1 := rfl
  have g2 : (elD p).tlv.f2 = false := rfl
  have g3 : (elD p).tlv.f3 = p.f2 := rfl
  have hlen : (([elO p, elD p].map El.tlv).length : Int) = 2 := rfl
  clear hin
  generalize [elO p, elD p].map El.tlv = L at *
  show (if ((L.length : Int) = 2) then (if 0 < (L.length : Int) then (if 1 < (L.length : Int) then (if wrap64 ((rd_T77 L 0).f0 + (rd_T77 L 1).f0) = 0 then (if (rd_T77 L 0).f1 = 6 then (if (rd_T77 L 0).f2 = true then name_part.j0 (k1 + 1) L true else name_part.j0 (k1 + 1) L (rd_T77 L 1).f2) else name_part.j0 (k1 + 1) L true) else name_part.j0 (k1 + 1) L true) else none) else none) else name_part.j0 (k1 + 1) L true) = _
  rw [if_pos hlen, if_pos (by omega), if_pos (by omega), e0, e1, f0, g0, f1, f2, g2, if_pos (show wrap64 (0 + 0) = 0 from by decide +kernel), if_pos rfl, if_neg (by decide), name_part.j0, if_neg (by decide), if_pos (by omega), e0, f3, oid_back p.f0 (by omega) ho k1 (by omega), Option.bind_some, if_pos rfl, if_pos (by omega), e1, g1, g3]
theorem drop_77 (l : List S77) (i : Int) (h0 : 0 ≤ i) (h1 : i < (l.length : Int)) : l.drop i.toNat = rd_T77 l i :: l.drop (i + 1).toNat := by
  have e : (i + 1).toNat = i.toNat + 1 := by omega
  rw [e, List.drop_eq_getElem_cons (by omega)]
  congr 1
  unfold rd_T77
  rw [List.getD_eq_getElem?_getD, List.getElem?_eq_getElem (by omega), Option.getD_some]
theorem set_loop (s : List S64) (hs : s.length ≤ 64) (h : ∀ p ∈ s, (layS p).2 = 0 ∧ wP p ≤ 8192) : ∀ (m k : Nat) (i : Int) (acc : List S64), 0 ≤ i → (s.length : Int) - i = m → m + 900001 ≤ k → acc.length ≤ 64 - m → acc ++ s.drop i.toNat = s →
    name_set.l0 k acc ((s.map elP).map El.tlv) (s.length : Int) i = some (s, 0)
  | 0, k, i, acc, h0, hm, hk, ha, he => by
    obtain ⟨k1, rfl⟩ : ∃ k1, k = k1 + 1 := ⟨k - 1, by omega⟩
    rw [List.drop_eq_nil_of_le (by omega), List.append_nil] at he
    rw [name_set.l0, if_neg (by omega), he]
  | m + 1, k, i, acc, h0, hm, hk, ha, he => by
    obtain ⟨k1, rfl⟩ : ∃ k1, k = k1 + 1 := ⟨k - 1, by omega⟩
    obtain ⟨p, hp, hrec⟩ : ∃ p, rd_T64 s i = p ∧ rd_T77 ((s.map elP).map El.tlv) i = (elP p).tlv := by
      refine ⟨_, rfl, ?_⟩
      have h1 := drop_77 ((s.map elP).map El.tlv) i h0 (by rw [List.length_map, List.length_map]; omega)
      rw [← List.map_drop, ← List.map_drop, drop_64 s i h0 (by omega), List.map_cons, List.map_cons] at h1
      exact (List.cons.inj h1).1.symm
    have hmem : p ∈ s := hp ▸ mem_64 s i h0 (by omega)
    obtain ⟨g0, g1⟩ := h p hmem
    rw [drop_64 s i h0 (by omega), hp] at he
    rw [name_set.l0, if_pos (by omega), if_pos h0, if_pos (by rw [List.length_map, List.length_map]; omega), hrec]
    show ((name_part.f k1 0 16 true (elP p).data (elP p).enc).bind _) = _
    rw [part_back p g0 g1 _ k1 (by omega), Option.bind_some, if_pos rfl, if_pos (by omega), wb (by omega) (by omega)]
    exact set_loop s hs h m k1 (i + 1) _ (by omega) (by omega) (by omega) (by rw [List.length_append]; simp only [List.length_cons, List.length_nil]; omega) (by rw [List.append_assoc]; exact he)
theorem set_back (s : List S64) (hs : s.length ≤ 64) (hs0 : s.length ≠ 0) (h : ∀ p ∈ s, (layS p).2 = 0) (hw : wS s ≤ 8192) (raw : List Int) (k : Nat) (hk : 900100 ≤ k) : name_set.f k 0 17 true (elS s).data raw = some (s, 0) := by
  have hl := (elS_len s).1
  have hin := inside_eq 17 (s.map elP) (fun e he => by
    obtain ⟨p, hp, rfl⟩ := List.mem_map.1 he
    have h1 := (elP_len p).1
    have h2 := wP_le s p hp
    exact ⟨by show (1 : Int) ≤ 16; decide, by show (16 : Int) ≤ 268435455; decide, by omega⟩) raw (by rw [List.map_map]; show (elS s).data.length ≤ _; omega) (by rw [List.length_map]; omega) k (by rw [List.length_map]; omega)
  unfold name_set.f
  rw [show (elS s).data = ((s.map elP).map El.enc).flatten by rw [List.map_map]; rfl, hin, Option.bind_some, if_pos rfl]
  show (if ((((s.map elP).map El.tlv).length : Int) = 0) then _ else _) = _
  rw [List.length_map, List.length_map, if_neg (by omega), if_neg (by omega)]
  exact set_loop s hs (fun p hp => ⟨h p hp, by have := wP_le s p hp; omega⟩) s.length k 0 [] (Int.le_refl _) (by omega) (by omega) (by simp) rfl
theorem read_loop (n : List (List S64)) (hn : n.length ≤ 64) (h : ∀ s ∈ n, s.length ≤ 64 ∧ s.length ≠ 0 ∧ (∀ p ∈ s, (layS p).2 = 0) ∧ wS s ≤ 8192) : ∀ (m k : Nat) (i : Int) (acc : List (List S64)), 0 ≤ i → (n.length : Int) - i = m → m + 900101 ≤ k → acc.length ≤ 64 - m → acc ++ n.drop i.toNat = n →
    name_read.l0 k acc ((n.map elS).map El.tlv) (n.length : Int) i = some (n, 0)
  | 0, k, i, acc, h0, hm, hk, ha, he => by
    obtain ⟨k1, rfl⟩ : ∃ k1, k = k1 + 1 := ⟨k - 1, by omega⟩
    rw [List.drop_eq_nil_of_le (by omega), List.append_nil] at he
    rw [name_read.l0, if_neg (by omega), he]
  | m + 1, k, i, acc, h0, hm, hk, ha, he => by
    obtain ⟨k1, rfl⟩ : ∃ k1, k = k1 + 1 := ⟨k - 1, by omega⟩
    obtain ⟨s, hs, hrec⟩ : ∃ s, rd_L5 n i = s ∧ rd_T77 ((n.map elS).map El.tlv) i = (elS s).tlv := by
      refine ⟨_, rfl, ?_⟩
      have h1 := drop_77 ((n.map elS).map El.tlv) i h0 (by rw [List.length_map, List.length_map]; omega)
      rw [← List.map_drop, ← List.map_drop, drop_L5 n i h0 (by omega), List.map_cons, List.map_cons] at h1
      exact (List.cons.inj h1).1.symm
    obtain ⟨g0, g1, g2, g3⟩ := h s (hs ▸ mem_L5 n i h0 (by omega))
    rw [drop_L5 n i h0 (by omega), hs] at he
    rw [name_read.l0, if_pos (by omega), if_pos h0, if_pos (by rw [List.length_map, List.length_map]; omega), hrec]
    show ((name_set.f k1 0 17 true (elS s).data (elS s).enc).bind _) = _
    rw [set_back s g0 g1 g2 g3 _ k1 (by omega), Option.bind_some, if_pos rfl, if_pos (by omega), wb (by omega) (by omega)]
    exact read_loop n hn h m k1 (i + 1) _ (by omega) (by omega) (by omega) (by rw [List.length_append]; simp only [List.length_cons, List.length_nil]; omega) (by rw [List.append_assoc]; exact he)
/-- name.Parse of what was laid. -/
theorem read_back (n : List (List S64)) (hn : n.length ≤ 64) (h : ∀ s ∈ n, s.length ≤ 64 ∧ s.length ≠ 0 ∧ ∀ p ∈ s, (layS p).2 = 0) (hw : wN n ≤ 8192) (k : Nat) (hk : 900200 ≤ k) : name_Parse.f k (elN n).enc = some (n, 0) := by
  have hl := sets_len n fun s hs => (h s hs).1
  have hd : (elN n).data.length = (n.map fun s => (elS s).enc).flatten.length := rfl
  have he := enc_len (elN n)
  have hone := one_eq (elN n) ⟨by show (1 : Int) ≤ 16; decide, by show (16 : Int) ≤ 268435455; decide, by omega⟩ (by omega) k (by omega)
  have hin := inside_eq 16 (n.map elS) (fun e he => by
    obtain ⟨s, hs, rfl⟩ := List.mem_map.1 he
    have h1 := (elS_len s).1
    have h2 := wS_le n s hs
    have h3 := (h s hs).1
    exact ⟨by show (1 : Int) ≤ 17; decide, by show (17 : Int) ≤ 268435455; decide, by omega⟩) (elN n).enc (by rw [List.map_map]; show (elN n).data.length ≤ _; omega) (by rw [List.length_map]; omega) k (by rw [List.length_map]; omega)
  unfold name_Parse.f name_read.f
  rw [hone, Option.bind_some, if_pos rfl]
  show ((name_inside.f k 0 16 true (elN n).data (elN n).enc 16).bind _) = _
  rw [show (elN n).data = ((n.map elS).map El.enc).flatten by rw [List.map_map]; rfl, hin, Option.bind_some, if_pos rfl]
  show (if ((((n.map elS).map El.tlv).length : Int) > 64) then _ else _) = _
  rw [List.length_map, List.length_map, if_neg (by omega)]
  exact read_loop n hn (fun s hs => ⟨(h s hs).1, (h s hs).2.1, (h s hs).2.2, by have := wS_le n s hs; omega⟩) n.length k 0 [] (Int.le_refl _) (by omega) (by omega) (by simp) rfl
end Go.Proofs.YtkioddjjfifadaaGreatDoor.P
namespace Go.Proofs.YtkioddjjfifadaaGreatDoor.P
open Go.RowKit Go.Proofs.YtkioddjjfifadaaGreatDoorW.PrintWords Go.Proofs.YtkioddjjfifadaaGreatDoorW.PrintLast Go.Proofs.YtkioddjjfifadaaGreatDoorW.PrintMore
attribute [local go_sem] max2_int min2_int max_two min_two max_three min_three max_four min_four   -- for this text's walks alone
set_option linter.unusedVariables false
set_option linter.unusedSimpArgs false
def text_fits.f (a0 : Int) (a1 : Int) : Option (Bool) := if a0 = 18 then (if a1 = 32 then (some true) else (if a1 ≥ 48 then (some (decide (a1 ≤ 57))) else (some false))) else (if a0 = 19 then (if (Go.bits .or .u8 a1 32) ≥ 97 then (if (Go.bits .or .u8 a1 32) ≤ 122 then (some true) else (if a1 ≥ 48 then (if a1 ≤ 57 then (some true) else (if a1 = 0 then (some false) else ((strings_IndexByte.f (⟨#[32, 39, 40, 41, 43, 44, 45, 46, 47, 58, 61, 63]⟩ : ByteArray) a1).bind fun t602 => (some (decide (t602 ≥ 0)))))) else (if a1 = 0 then (some false) else ((strings_IndexByte.f (⟨#[32, 39, 40, 41, 43, 44, 45, 46, 47, 58, 61, 63]⟩ : ByteArray) a1).bind fun t603 => (some (decide (t603 ≥ 0))))))) else (if a1 ≥ 48 then (if a1 ≤ 57 then (some true) else (if a1 = 0 then (some false) else ((strings_IndexByte.f (⟨#[32, 39, 40, 41, 43, 44, 45, 46, 47, 58, 61, 63]⟩ : ByteArray) a1).bind fun t604 => (some (decide (t604 ≥ 0)))))) else (if a1 = 0 then (some false) else ((strings_IndexByte.f (⟨#[32, 39, 40, 41, 43, 44, 45, 46, 47, 58, 61, 63]⟩ : ByteArray) a1).bind fun t605 => (some (decide (t605 ≥ 0))))))) else (if a0 = 22 then (some (decide (a1 < 128))) else (if a1 ≥ 32 then (some (decide (a1 < 127))) else (some false))))
set_option maxHeartbeats 8000000 in
set_option maxRecDepth 100000 in
theorem text_fits.calls (a0 : Int) (a1 : Int) (r : Bool) (w : World) (h : text_fits.f a0 a1 = some r) :
    Calls Tryz.prog 205 #[.int .i64 a0, .int .u8 a1] w fun e w' => e = .returned (.bool r) ∧ Below w.heap.size w w' := by
  have HB := Aside0.mk (Below.refl w.heap.size w)
  have H : (if a0 = 18 then (if a1 = 32 then (some true) else (if a1 ≥ 48 then (some (decide (a1 ≤ 57))) else (some false))) else (if a0 = 19 then (if (Go.bits .or .u8 a1 32) ≥ 97 then (if (Go.bits .or .u8 a1 32) ≤ 122 then (some true) else (if a1 ≥ 48 then (if a1 ≤ 57 then (some true) else (if a1 = 0 then (some false) else ((strings_IndexByte.f (⟨#[32, 39, 40, 41, 43, 44, 45, 46, 47, 58, 61, 63]⟩ : ByteArray) a1).bind fun t602 => (some (decide (t602 ≥ 0)))))) else (if a1 = 0 then (some false) else ((strings_IndexByte.f (⟨#[32, 39, 40, 41, 43, 44, 45, 46, 47, 58, 61, 63]⟩ : ByteArray) a1).bind fun t603 => (some (decide (t603 ≥ 0))))))) else (if a1 ≥ 48 then (if a1 ≤ 57 then (some true) else (if a1 = 0 then (some false) else ((strings_IndexByte.f (⟨#[32, 39, 40, 41, 43, 44, 45, 46, 47, 58, 61, 63]⟩ : ByteArray) a1).bind fun t604 => (some (decide (t604 ≥ 0)))))) else (if a1 = 0 then (some false) else ((strings_IndexByte.f (⟨#[32, 39, 40, 41, 43, 44, 45, 46, 47, 58, 61, 63]⟩ : ByteArray) a1).bind fun t605 => (some (decide (t605 ≥ 0))))))) else (if a0 = 22 then (some (decide (a1 < 128))) else (if a1 ≥ 32 then (some (decide (a1 < 127))) else (some false))))) = some r := h
  clear h
  by_cases c3 : a0 = 18
  · rw [if_pos c3] at H
    have c3b0 : (a0 == 18) = true := beq_iff_eq.mpr c3
    have c3b1 : (a0 != 18) = false := bne_eq_false_iff_eq.mpr c3
    clear c3
    by_cases c4 : a1 = 32
    · rw [if_pos c4] at H
      have c4b0 : (a1 == 32) = true := beq_iff_eq.mpr c4
      have c4b1 : (a1 != 32) = false := bne_eq_false_iff_eq.mpr c4
      clear c4
      obtain rfl := Option.some.inj H
      go_enter Tryz.func205, Tryz.ntmps205
      go_wp2
      go_ret
      exact ⟨by first | rfl | (simp [errW_none, errW_some] <;> rfl) | (simp [*, errW_none, errW_some] <;> rfl), bU HB.out⟩
    rw [if_neg c4] at H
    have c4b0 : (a1 == 32) = false := beq_eq_false_iff_ne.mpr c4
    have c4b1 : (a1 != 32) = true := bne_iff_ne.mpr c4
    by_cases c5 : a1 ≥ 48
    rotate_left
    · rw [if_neg c5] at H
      have c5b0 : decide (48 ≤ a1) = false := decide_eq_false c5
      clear c5
      obtain rfl := Option.some.inj H
      go_enter Tryz.func205, Tryz.ntmps205
      go_wp2
      go_ret
      exact ⟨by first | rfl | (simp [errW_none, errW_some] <;> rfl) | (simp [*, errW_none, errW_some] <;> rfl), bU HB.out⟩
    rw [if_pos c5] at H
    have c5b0 : decide (48 ≤ a1) = true := decide_eq_true c5
    clear c5
    obtain rfl := Option.some.inj H
    go_enter Tryz.func205, Tryz.ntmps205
    go_wp2
    go_ret
    exact ⟨by first | rfl | (simp [errW_none, errW_some] <;> rfl) | (simp [*, errW_none, errW_some] <;> rfl), bU HB.out⟩
  rw [if_neg c3] at H
  have c3b0 : (a0 == 18) = false := beq_eq_false_iff_ne.mpr c3
  have c3b1 : (a0 != 18) = true := bne_iff_ne.mpr c3
  by_cases c6 : a0 = 19
  rotate_left
  · rw [if_neg c6] at H
    have c6b0 : (a0 == 19) = false := beq_eq_false_iff_ne.mpr c6
    have c6b1 : (a0 != 19) = true := bne_iff_ne.mpr c6
    by_cases c25 : a0 = 22
    · rw [if_pos c25] at H
      have c25b0 : (a0 == 22) = true := beq_iff_eq.mpr c25
      have c25b1 : (a0 != 22) = false := bne_eq_false_iff_eq.mpr c25
      clear c25
      obtain rfl := Option.some.inj H
      go_enter Tryz.func205, Tryz.ntmps205
      go_wp2
      go_ret
      exact ⟨by first | rfl | (simp [errW_none, errW_some] <;> rfl) | (simp [*, errW_none, errW_some] <;> rfl), bU HB.out⟩
    rw [if_neg c25] at H
    have c25b0 : (a0 == 22) = false := beq_eq_false_iff_ne.mpr c25
    have c25b1 : (a0 != 22) = true := bne_iff_ne.mpr c25
    by_cases c26 : a1 ≥ 32
    rotate_left
    · rw [if_neg c26] at H
      have c26b0 : decide (32 ≤ a1) = false := decide_eq_false c26
      clear c26
      obtain rfl := Option.some.inj H
      go_enter Tryz.func205, Tryz.ntmps205
      go_wp2
      go_ret
      exact ⟨by first | rfl | (simp [errW_none, errW_some] <;> rfl) | (simp [*, errW_none, errW_some] <;> rfl), bU HB.out⟩
    rw [if_pos c26] at H
    have c26b0 : decide (32 ≤ a1) = true := decide_eq_true c26
    clear c26
    obtain rfl := Option.some.inj H
    go_enter Tryz.func205, Tryz.ntmps205
    go_wp2
    go_ret
    exact ⟨by first | rfl | (simp [errW_none, errW_some] <;> rfl) | (simp [*, errW_none, errW_some] <;> rfl), bU HB.out⟩
  rw [if_pos c6] at H
  have c6b0 : (a0 == 19) = true := beq_iff_eq.mpr c6
  have c6b1 : (a0 != 19) = false := bne_eq_false_iff_eq.mpr c6
  clear c6
  by_cases c7 : (Go.bits .or .u8 a1 32) ≥ 97
  rotate_left
  · rw [if_neg c7] at H
    have c7b0 : decide (97 ≤ (Go.bits .or .u8 a1 32)) = false := decide_eq_false c7
    clear c7
    by_cases c17 : a1 ≥ 48
    rotate_left
    · rw [if_neg c17] at H
      have c17b0 : decide (48 ≤ a1) = false := decide_eq_false c17
      clear c17
      by_cases c22 : a1 = 0
      · rw [if_pos c22] at H
        have c22b0 : (a1 == 0) = true := beq_iff_eq.mpr c22
        have c22b1 : (a1 != 0) = false := bne_eq_false_iff_eq.mpr c22
        clear c22
        obtain rfl := Option.some.inj H
        go_enter Tryz.func205, Tryz.ntmps205
        go_wp2
        go_ret
        exact ⟨by first | rfl | (simp [errW_none, errW_some] <;> rfl) | (simp [*, errW_none, errW_some] <;> rfl), bU HB.out⟩
      rw [if_neg c22] at H
      have c22b0 : (a1 == 0) = false := beq_eq_false_iff_ne.mpr c22
      have c22b1 : (a1 != 0) = true := bne_iff_ne.mpr c22
      replace H := Option.bind_eq_some_iff.mp H
      obtain ⟨t605, A230, H⟩ := H
      replace H : (some (decide (t605 ≥ 0))) = some r := H
      have A23 := Aside0.mk A230
      clear A230
      obtain rfl := Option.some.inj H
      go_enter Tryz.func205, Tryz.ntmps205
      go_wp2_with (first | (go_at_call 154; (with_reducible refine (strings_IndexByte.calls (⟨#[32, 39, 40, 41, 43, 44, 45, 46, 47, 58, 61, 63]⟩ : ByteArray) a1 t605 _ A23.out).mono ?_); rintro e w24 ⟨rfl, hb⟩; have n0_ := Aside0.mk (below_step (bU HB.out) hb); replace HB := n0_; clear n0_; (try clear hb); (try clear hb2); (try clear hk); (try clear hi)))
      go_ret
      exact ⟨by first | rfl | (simp [errW_none, errW_some] <;> rfl) | (simp [*, errW_none, errW_some] <;> rfl), bU HB.out⟩
    rw [if_pos c17] at H
    have c17b0 : decide (48 ≤ a1) = true := decide_eq_true c17
    clear c17
    by_cases c18 : a1 ≤ 57
    · rw [if_pos c18] at H
      have c18b0 : decide (a1 ≤ 57) = true := decide_eq_true c18
      clear c18
      obtain rfl := Option.some.inj H
      go_enter Tryz.func205, Tryz.ntmps205
      go_wp2
      go_ret
      exact ⟨by first | rfl | (simp [errW_none, errW_some] <;> rfl) | (simp [*, errW_none, errW_some] <;> rfl), bU HB.out⟩
    rw [if_neg c18] at H
    have c18b0 : decide (a1 ≤ 57) = false := decide_eq_false c18
    clear c18
    by_cases c19 : a1 = 0
    · rw [if_pos c19] at H
      have c19b0 : (a1 == 0) = true := beq_iff_eq.mpr c19
      have c19b1 : (a1 != 0) = false := bne_eq_false_iff_eq.mpr c19
      clear c19
      obtain rfl := Option.some.inj H
      go_enter Tryz.func205, Tryz.ntmps205
      go_wp2
      go_ret
      exact ⟨by first | rfl | (simp [errW_none, errW_some] <;> rfl) | (simp [*, errW_none, errW_some] <;> rfl), bU HB.out⟩
    rw [if_neg c19] at H
    have c19b0 : (a1 == 0) = false := beq_eq_false_iff_ne.mpr c19
    have c19b1 : (a1 != 0) = true := bne_iff_ne.mpr c19
    replace H := Option.bind_eq_some_iff.mp H
    obtain ⟨t604, A200, H⟩ := H
    replace H : (some (decide (t604 ≥ 0))) = some r := H
    have A20 := Aside0.mk A200
    clear A200
    obtain rfl := Option.some.inj H
    go_enter Tryz.func205, Tryz.ntmps205
    go_wp2_with (first | (go_at_call 154; (with_reducible refine (strings_IndexByte.calls (⟨#[32, 39, 40, 41, 43, 44, 45, 46, 47, 58, 61, 63]⟩ : ByteArray) a1 t604 _ A20.out).mono ?_); rintro e w21 ⟨rfl, hb⟩; have n0_ := Aside0.mk (below_step (bU HB.out) hb); replace HB := n0_; clear n0_; (try clear hb); (try clear hb2); (try clear hk); (try clear hi)))
    go_ret
    exact ⟨by first | rfl | (simp [errW_none, errW_some] <;> rfl) | (simp [*, errW_none, errW_some] <;> rfl), bU HB.out⟩
  rw [if_pos c7] at H
  have c7b0 : decide (97 ≤ (Go.bits .or .u8 a1 32)) = true := decide_eq_true c7
  clear c7
  by_cases c8 : (Go.bits .or .u8 a1 32) ≤ 122
  · rw [if_pos c8] at H
    have c8b0 : decide ((Go.bits .or .u8 a1 32) ≤ 122) = true := decide_eq_true c8
    clear c8
    obtain rfl := Option.some.inj H
    go_enter Tryz.func205, Tryz.ntmps205
    go_wp2
    go_ret
    exact ⟨by first | rfl | (simp [errW_none, errW_some] <;> rfl) | (simp [*, errW_none, errW_some] <;> rfl), bU HB.out⟩
  rw [if_neg c8] at H
  have c8b0 : decide ((Go.bits .or .u8 a1 32) ≤ 122) = false := decide_eq_false c8
  clear c8
  by_cases c9 : a1 ≥ 48
  rotate_left
  · rw [if_neg c9] at H
    have c9b0 : decide (48 ≤ a1) = false := decide_eq_false c9
    clear c9
    by_cases c14 : a1 = 0
    · rw [if_pos c14] at H
      have c14b0 : (a1 == 0) = true := beq_iff_eq.mpr c14
      have c14b1 : (a1 != 0) = false := bne_eq_false_iff_eq.mpr c14
      clear c14
      obtain rfl := Option.some.inj H
      go_enter Tryz.func205, Tryz.ntmps205
      go_wp2
      go_ret
      exact ⟨by first | rfl | (simp [errW_none, errW_some] <;> rfl) | (simp [*, errW_none, errW_some] <;> rfl), bU HB.out⟩
    rw [if_neg c14] at H
    have c14b0 : (a1 == 0) = false := beq_eq_false_iff_ne.mpr c14
    have c14b1 : (a1 != 0) = true := bne_iff_ne.mpr c14
    replace H := Option.bind_eq_some_iff.mp H
    obtain ⟨t603, A150, H⟩ := H
    replace H : (some (decide (t603 ≥ 0))) = some r := H
    have A15 := Aside0.mk A150
    clear A150
    obtain rfl := Option.some.inj H
    go_enter Tryz.func205, Tryz.ntmps205
    go_wp2_with (first | (go_at_call 154; (with_reducible refine (strings_IndexByte.calls (⟨#[32, 39, 40, 41, 43, 44, 45, 46, 47, 58, 61, 63]⟩ : ByteArray) a1 t603 _ A15.out).mono ?_); rintro e w16 ⟨rfl, hb⟩; have n0_ := Aside0.mk (below_step (bU HB.out) hb); replace HB := n0_; clear n0_; (try clear hb); (try clear hb2); (try clear hk); (try clear hi)))
    go_ret
    exact ⟨by first | rfl | (simp [errW_none, errW_some] <;> rfl) | (simp [*, errW_none, errW_some] <;> rfl), bU HB.out⟩
  rw [if_pos c9] at H
  have c9b0 : decide (48 ≤ a1) = true := decide_eq_true c9
  clear c9
  by_cases c10 : a1 ≤ 57
  · rw [if_pos c10] at H
    have c10b0 : decide (a1 ≤ 57) = true := decide_eq_true c10
    clear c10
    obtain rfl := Option.some.inj H
    go_enter Tryz.func205, Tryz.ntmps205
    go_wp2
    go_ret
    exact ⟨by first | rfl | (simp [errW_none, errW_some] <;> rfl) | (simp [*, errW_none, errW_some] <;> rfl), bU HB.out⟩
  rw [if_neg c10] at H
  have c10b0 : decide (a1 ≤ 57) = false := decide_eq_false c10
  clear c10
  by_cases c11 : a1 = 0
  · rw [if_pos c11] at H
    have c11b0 : (a1 == 0) = true := beq_iff_eq.mpr c11
    have c11b1 : (a1 != 0) = false := bne_eq_false_iff_eq.mpr c11
    clear c11
    obtain rfl := Option.some.inj H
    go_enter Tryz.func205, Tryz.ntmps205
    go_wp2
    go_ret
    exact ⟨by first | rfl | (simp [errW_none, errW_some] <;> rfl) | (simp [*, errW_none, errW_some] <;> rfl), bU HB.out⟩
  rw [if_neg c11] at H
  have c11b0 : (a1 == 0) = false := beq_eq_false_iff_ne.mpr c11
  have c11b1 : (a1 != 0) = true := bne_iff_ne.mpr c11
  replace H := Option.bind_eq_some_iff.mp H
  obtain ⟨t602, A120, H⟩ := H
  replace H : (some (decide (t602 ≥ 0))) = some r := H
  have A12 := Aside0.mk A120
  clear A120
  obtain rfl := Option.some.inj H
  go_enter Tryz.func205, Tryz.ntmps205
  go_wp2_with (first | (go_at_call 154; (with_reducible refine (strings_IndexByte.calls (⟨#[32, 39, 40, 41, 43, 44, 45, 46, 47, 58, 61, 63]⟩ : ByteArray) a1 t602 _ A12.out).mono ?_); rintro e w13 ⟨rfl, hb⟩; have n0_ := Aside0.mk (below_step (bU HB.out) hb); replace HB := n0_; clear n0_; (try clear hb); (try clear hb2); (try clear hk); (try clear hi)))
  go_ret
  exact ⟨by first | rfl | (simp [errW_none, errW_some] <;> rfl) | (simp [*, errW_none, errW_some] <;> rfl), bU HB.out⟩
end Go.Proofs.YtkioddjjfifadaaGreatDoor.P
namespace Go.Proofs.YtkioddjjfifadaaGreatDoor.P
open Go.RowKit Go.Proofs.YtkioddjjfifadaaGreatDoorW.PrintWords Go.Proofs.YtkioddjjfifadaaGreatDoorW.PrintLast Go.Proofs.YtkioddjjfifadaaGreatDoorW.PrintMore
attribute [local go_sem] max2_int min2_int max_two min_two max_three min_three max_four min_four   -- for this text's walks alone
set_option linter.unusedVariables false
set_option linter.unusedSimpArgs false
def utf8_word_byte.f (l0 : List Int) : Option (Int) := if 0 < (l0.length : Int) then (if 1 < (l0.length : Int) then (if 2 < (l0.length : Int) then (if 3 < (l0.length : Int) then (if 4 < (l0.length : Int) then (if 5 < (l0.length : Int) then (if 6 < (l0.length : Int) then (if 7 < (l0.length : Int) then (some (Go.bits .or .u64 (Go.bits .or .u64 (Go.bits .or .u64 (Go.bits .or .u64 (Go.bits .or .u64 (Go.bits .or .u64 (Go.bits .or .u64 (IntKind.u64.wrap (rd l0 0)) (IntKind.u64.wrap ((IntKind.u64.wrap (rd l0 1)) * 256))) (IntKind.u64.wrap ((IntKind.u64.wrap (rd l0 2)) * 65536))) (IntKind.u64.wrap ((IntKind.u64.wrap (rd l0 3)) * 16777216))) (IntKind.u64.wrap ((IntKind.u64.wrap (rd l0 4)) * 4294967296))) (IntKind.u64.wrap ((IntKind.u64.wrap (rd l0 5)) * 1099511627776))) (IntKind.u64.wrap ((IntKind.u64.wrap (rd l0 6)) * 281474976710656))) (IntKind.u64.wrap ((IntKind.u64.wrap (rd l0 7)) * 72057594037927936)))) else (none)) else (none)) else (none)) else (none)) else (none)) else (none)) else (none)) else (none)
set_option maxHeartbeats 8000000 in
set_option maxRecDepth 100000 in
theorem utf8_word_byte.calls (A0 : Option Addr) (c0 : Nat) (l0 : List Int) (r : Int) (w : World) (hr0 : Kd.C (Kd.int .u8) w A0 l0.length l0) (hc0 : l0.length ≤ c0) (h : utf8_word_byte.f l0 = some r) :
    Calls Tryz.prog 250 #[.slice A0 l0.length c0] w fun e w' => e = .returned (.int .u64 r) ∧ Drawn0 w w' := by
  have HR0 := Aside0.mk hr0
  have HC0 := Aside0.mk hc0
  clear hr0 hc0
  have H : (if 0 < (l0.length : Int) then (if 1 < (l0.length : Int) then (if 2 < (l0.length : Int) then (if 3 < (l0.length : Int) then (if 4 < (l0.length : Int) then (if 5 < (l0.length : Int) then (if 6 < (l0.length : Int) then (if 7 < (l0.length : Int) then (some (Go.bits .or .u64 (Go.bits .or .u64 (Go.bits .or .u64 (Go.bits .or .u64 (Go.bits .or .u64 (Go.bits .or .u64 (Go.bits .or .u64 (IntKind.u64.wrap (rd l0 0)) (IntKind.u64.wrap ((IntKind.u64.wrap (rd l0 1)) * 256))) (IntKind.u64.wrap ((IntKind.u64.wrap (rd l0 2)) * 65536))) (IntKind.u64.wrap ((IntKind.u64.wrap (rd l0 3)) * 16777216))) (IntKind.u64.wrap ((IntKind.u64.wrap (rd l0 4)) * 4294967296))) (IntKind.u64.wrap ((IntKind.u64.wrap (rd l0 5)) * 1099511627776))) (IntKind.u64.wrap ((IntKind.u64.wrap (rd l0 6)) * 281474976710656))) (IntKind.u64.wrap ((IntKind.u64.wrap (rd l0 7)) * 72057594037927936)))) else (none)) else (none)) else (none)) else (none)) else (none)) else (none)) else (none)) else (none)) = some r := h
  clear h
  by_cases c2 : 0 < (l0.length : Int)
  rotate_left
  · rw [if_neg c2] at H
    exact absurd H (by simp)
  rw [if_pos c2] at H
  have c2b0 : decide (0 < (l0.length : Int)) = true := decide_eq_true c2
  have c2b1 : decide (0 < l0.length) = true := decide_eq_true (by omega)
  clear c2
  by_cases c3 : 1 < (l0.length : Int)
  rotate_left
  · rw [if_neg c3] at H
    exact absurd H (by simp)
  rw [if_pos c3] at H
  have c3b0 : decide (1 < (l0.length : Int)) = true := decide_eq_true c3
  have c3b1 : decide (1 < l0.length) = true := decide_eq_true (by omega)
  clear c3
  by_cases c4 : 2 < (l0.length : Int)
  rotate_left
  · rw [if_neg c4] at H
    exact absurd H (by simp)
  rw [if_pos c4] at H
  have c4b0 : decide (2 < (l0.length : Int)) = true := decide_eq_true c4
  have c4b1 : decide (2 < l0.length) = true := decide_eq_true (by omega)
  clear c4
  by_cases c5 : 3 < (l0.length : Int)
  rotate_left
  · rw [if_neg c5] at H
    exact absurd H (by simp)
  rw [if_pos c5] at H
  have c5b0 : decide (3 < (l0.length : Int)) = true := decide_eq_true c5
  have c5b1 : decide (3 < l0.length) = true := decide_eq_true (by omega)
  clear c5
  by_cases c6 : 4 < (l0.length : Int)
  rotate_left
  · rw [if_neg c6] at H
    exact absurd H (by simp)
  rw [if_pos c6] at H
  have c6b0 : decide (4 < (l0.length : Int)) = true := decide_eq_true c6
  have c6b1 : decide (4 < l0.length) = true := decide_eq_true (by omega)
  clear c6
  by_cases c7 : 5 < (l0.length : Int)
  rotate_left
  · rw [if_neg c7] at H
    exact absurd H (by simp)
  rw [if_pos c7] at H
  have c7b0 : decide (5 < (l0.length : Int)) = true := decide_eq_true c7
  have c7b1 : decide (5 < l0.length) = true := decide_eq_true (by omega)
  clear c7
  by_cases c8 : 6 < (l0.length : Int)
  rotate_left
  · rw [if_neg c8] at H
    exact absurd H (by simp)
  rw [if_pos c8] at H
  have c8b0 : decide (6 < (l0.length : Int)) = true := decide_eq_true c8
  have c8b1 : decide (6 < l0.length) = true := decide_eq_true (by omega)
  clear c8
  by_cases c9 : 7 < (l0.length : Int)
  rotate_left
  · rw [if_neg c9] at H
    exact absurd H (by simp)
  rw [if_pos c9] at H
  have c9b0 : decide (7 < (l0.length : Int)) = true := decide_eq_true c9
  have c9b1 : decide (7 < l0.length) = true := decide_eq_true (by omega)
  clear c9
  obtain rfl := Option.some.inj H
  have p535 : 0 ≤ (0 : Int) := (by omega)
  have q535 : 0 < (l0.length : Int) := of_decide_eq_true (by first | (with_reducible assumption) | assumption)
  obtain ⟨ad535, e535, hx535_0⟩ := Kd.at_int HR0.out 0 p535 q535
  cases e535
  have qi535 : (0 < l0.length) = True := eq_true (by omega)
  (try rw [show ((0 : Int)).toNat = 0 from rfl] at hx535_0)
  (try rw [Addr.add_zero'] at hx535_0)
  replace p535 := eq_true p535
  replace q535 := eq_true q535
  have p536 : 0 ≤ (1 : Int) := (by omega)
  have q536 : 1 < (l0.length : Int) := of_decide_eq_true (by first | (with_reducible assumption) | assumption)
  obtain ⟨ad536, e536, hx536_0⟩ := Kd.at_int HR0.out 1 p536 q536
  obtain rfl : ad535 = ad536 := (by injection e536)
  (try simp only [show (1 : Int).toNat = 1 from rfl, Nat.reduceMul, Nat.reduceEqDiff, Go.Addr.add, ↓reduceIte] at hx536_0)
  have qi536 : (1 < l0.length) = True := eq_true (by omega)
  (try rw [show ((1 : Int)).toNat = 1 from rfl] at hx536_0)
  replace p536 := eq_true p536
  replace q536 := eq_true q536
  have p537 : 0 ≤ (2 : Int) := (by omega)
  have q537 : 2 < (l0.length : Int) := of_decide_eq_true (by first | (with_reducible assumption) | assumption)
  obtain ⟨ad537, e537, hx537_0⟩ := Kd.at_int HR0.out 2 p537 q537
  obtain rfl : ad535 = ad537 := (by injection e537)
  (try simp only [show (2 : Int).toNat = 2 from rfl, Nat.reduceMul, Nat.reduceEqDiff, Go.Addr.add, ↓reduceIte] at hx537_0)
  have qi537 : (2 < l0.length) = True := eq_true (by omega)
  (try rw [show ((2 : Int)).toNat = 2 from rfl] at hx537_0)
  replace p537 := eq_true p537
  replace q537 := eq_true q537
  have p538 : 0 ≤ (3 : Int) := (by omega)
  have q538 : 3 < (l0.length : Int) := of_decide_eq_true (by first | (with_reducible assumption) | assumption)
  obtain ⟨ad538, e538, hx538_0⟩ := Kd.at_int HR0.out 3 p538 q538
  obtain rfl : ad535 = ad538 := (by injection e538)
  (try simp only [show (3 : Int).toNat = 3 from rfl, Nat.reduceMul, Nat.reduceEqDiff, Go.Addr.add, ↓reduceIte] at hx538_0)
  have qi538 : (3 < l0.length) = True := eq_true (by omega)
  (try rw [show ((3 : Int)).toNat = 3 from rfl] at hx538_0)
  replace p538 := eq_true p538
  replace q538 := eq_true q538
  have p539 : 0 ≤ (4 : Int) := (by omega)
  have q539 : 4 < (l0.length : Int) := of_decide_eq_true (by first | (with_reducible assumption) | assumption)
  obtain ⟨ad539, e539, hx539_0⟩ := Kd.at_int HR0.out 4 p539 q539
  obtain rfl : ad535 = ad539 := (by injection e539)
  (try simp only [show (4 : Int).toNat = 4 from rfl, Nat.reduceMul, Nat.reduceEqDiff, Go.Addr.add, ↓reduceIte] at hx539_0)
  have qi539 : (4 < l0.length) = True := eq_true (by omega)
  (try rw [show ((4 : Int)).toNat = 4 from rfl] at hx539_0)
  replace p539 := eq_true p539
  replace q539 := eq_true q539
  have p540 : 0 ≤ (5 : Int) := (by omega)
  have q540 : 5 < (l0.length : Int) := of_decide_eq_true (by first | (with_reducible assumption) | assumption)
  obtain ⟨ad540, e540, hx540_0⟩ := Kd.at_int HR0.out 5 p540 q540
  obtain rfl : ad535 = ad540 := (by injection e540)
  (try simp only [show (5 : Int).toNat = 5 from rfl, Nat.reduceMul, Nat.reduceEqDiff, Go.Addr.add, ↓reduceIte] at hx540_0)
  have qi540 : (5 < l0.length) = True := eq_true (by omega)
  (try rw [show ((5 : Int)).toNat = 5 from rfl] at hx540_0)
  replace p540 := eq_true p540
  replace q540 := eq_true q540
  have p541 : 0 ≤ (6 : Int) := (by omega)
  have q541 : 6 < (l0.length : Int) := of_decide_eq_true (by first | (with_reducible assumption) | assumption)
  obtain ⟨ad541, e541, hx541_0⟩ := Kd.at_int HR0.out 6 p541 q541
  obtain rfl : ad535 = ad541 := (by injection e541)
  (try simp only [show (6 : Int).toNat = 6 from rfl, Nat.reduceMul, Nat.reduceEqDiff, Go.Addr.add, ↓reduceIte] at hx541_0)
  have qi541 : (6 < l0.length) = True := eq_true (by omega)
  (try rw [show ((6 : Int)).toNat = 6 from rfl] at hx541_0)
  replace p541 := eq_true p541
  replace q541 := eq_true q541
  have p542 : 0 ≤ (7 : Int) := (by omega)
  have q542 : 7 < (l0.length : Int) := of_decide_eq_true (by first | (with_reducible assumption) | assumption)
  obtain ⟨ad542, e542, hx542_0⟩ := Kd.at_int HR0.out 7 p542 q542
  obtain rfl : ad535 = ad542 := (by injection e542)
  (try simp only [show (7 : Int).toNat = 7 from rfl, Nat.reduceMul, Nat.reduceEqDiff, Go.Addr.add, ↓reduceIte] at hx542_0)
  have qi542 : (7 < l0.length) = True := eq_true (by omega)
  (try rw [show ((7 : Int)).toNat = 7 from rfl] at hx542_0)
  replace p542 := eq_true p542
  replace q542 := eq_true q542
  go_enter Tryz.func250, Tryz.ntmps250
  go_wp2
  repeat (go_quiet (fail); try go_wp2)
  go_ret
  exact ⟨by first | rfl | (simp; done) | (simp [*]; done), by repeat (first | exact Drawn0.refl _ | apply Drawn0.step)⟩
end Go.Proofs.YtkioddjjfifadaaGreatDoor.P
namespace Go.Proofs.YtkioddjjfifadaaGreatDoor.P
open Go.RowKit Go.Proofs.YtkioddjjfifadaaGreatDoorW.PrintWords Go.Proofs.YtkioddjjfifadaaGreatDoorW.PrintLast Go.Proofs.YtkioddjjfifadaaGreatDoorW.PrintMore
theorem son_size (l : List Int) : (strOfNums l).size = l.length := by
  unfold strOfNums
  simp [ByteArray.size]
theorem zs_of (l : List Int) (h : l.all isByte = true) : bytesOf (strOfNums l) = l := by
  have hx : ∀ x ∈ l, (((UInt8.ofNat x.toNat).toNat : Nat) : Int) = x := fun x hx => by
    have := List.all_eq_true.1 h x hx
    simp only [isByte, Bool.and_eq_true, decide_eq_true_eq] at this
    rw [UInt8.toNat_ofNat']
    omega
  unfold bytesOf strOfNums
  simp only [List.map_map]
  exact (List.map_congr_left (g := id) fun x hm => hx x hm).trans (List.map_id l)
/-- The bytes of s lie at A, in a slice with room c. -/
structure BS (w : World) (A : Option Addr) (c : Nat) (s : ByteArray) : Prop where
  room : s.size ≤ c
  reads : Kd.C (Kd.int .u8) w A s.size (bytesOf s)
theorem bt_get (s : ByteArray) (k : Nat) (hk : k < s.size) : bt s (k : Int) = ((s.get! k).toNat : Int) := by
  rw [Utf8W.get!_of_lt s k hk]
  unfold bt
  simp [hk]
theorem BS.cell {w w1 : World} {A : Option Addr} {c : Nat} {s : ByteArray} (h : BS w A c s) (k : Nat) (hk : k < s.size) (hb : Below w.heap.size w w1) : ∃ ad, A = some ad ∧ w1.cell? (ad.add k) = some (.int .u8 ((s.get! k).toNat : Int)) := by
  obtain ⟨ad, e, hc⟩ := Kd.at_int h.reads (k : Int) (by omega) (by omega)
  rw [Int.toNat_natCast, rd_bytesOf, bt_get s k hk] at hc
  exact ⟨ad, e, pw_cell_below hb hc⟩
theorem BS.cut {w : World} {A : Option Addr} {c : Nat} {s : ByteArray} (h : BS w A c s) (k : Nat) (hk : k ≤ s.size) :
    ∃ A' c' t, s.extract k s.size = t ∧ t.size + k = s.size ∧ BS w A' c' t ∧ ∀ W : World, (Instr.slice 22 (.slice A s.size c) (some (.int .i64 (k : Int))) none none).run Tryz.prog W = .ok (.slice A' t.size c') W := by
  obtain ⟨i0, hi0, -, hsz, -⟩ := info_parts info5
  obtain ⟨A', h1, h2⟩ := print_cut_of (P := Tryz.prog) (Value.int .u8) (0 : Int) 22 5 .i64 Tryz.underlying22 hi0 hsz A s.size c k hk
  refine ⟨A', c - k, s.extract k s.size, rfl, by rw [Lib.ext_size]; omega, ⟨by rw [Lib.ext_size]; have := h.room; omega, ?_⟩, fun W => by rw [Lib.ext_size]; exact h1 W⟩
  have hb : bytesOf (s.extract k s.size) = (bytesOf s).drop k := by unfold bytesOf; rw [Lib.ext_list, List.map_drop]
  rw [hb, Lib.ext_size]
  exact Kd.C_of_reads (h2 w _ h.room (Kd.reads_of_C h.reads))
def wordOf (t : ByteArray) : Nat := Lib.leNat [t.get! 0, t.get! 1, t.get! 2, t.get! 3, t.get! 4, t.get! 5, t.get! 6, t.get! 7]
set_option maxRecDepth 100000 in
theorem word_f (t : ByteArray) (h8 : 8 ≤ t.size) : utf8_word_byte.f (bytesOf t) = some ((wordOf t : Nat) : Int) := by
  have hl : (bytesOf t).length = t.size := bytesOf_length t
  have e0 : rd (bytesOf t) 0 = ((t.get! 0).toNat : Int) := (rd_bytesOf t 0).trans (bt_get t 0 (by omega))
  have e1 : rd (bytesOf t) 1 = ((t.get! 1).toNat : Int) := (rd_bytesOf t 1).trans (bt_get t 1 (by omega))
  have e2 : rd (bytesOf t) 2 = ((t.get! 2).toNat : Int) := (rd_bytesOf t 2).trans (bt_get t 2 (by omega))
  have e3 : rd (bytesOf t) 3 = ((t.get! 3).toNat : Int) := (rd_bytesOf t 3).trans (bt_get t 3 (by omega))
  have e4 : rd (bytesOf t) 4 = ((t.get! 4).toNat : Int) := (rd_bytesOf t 4).trans (bt_get t 4 (by omega))
  have e5 : rd (bytesOf t) 5 = ((t.get! 5).toNat : Int) := (rd_bytesOf t 5).trans (bt_get t 5 (by omega))
  have e6 : rd (bytesOf t) 6 = ((t.get! 6).toNat : Int) := (rd_bytesOf t 6).trans (bt_get t 6 (by omega))
  have e7 : rd (bytesOf t) 7 = ((t.get! 7).toNat : Int) := (rd_bytesOf t 7).trans (bt_get t 7 (by omega))
  unfold utf8_word_byte.f
  rw [if_pos (by omega), if_pos (by omega), if_pos (by omega), if_pos (by omega), if_pos (by omega), if_pos (by omega), if_pos (by omega), if_pos (by omega), e0, e1, e2, e3, e4, e5, e6, e7]
  unfold wordOf
  generalize t.get! 0 = x0
  generalize t.get! 1 = x1
  generalize t.get! 2 = x2
  generalize t.get! 3 = x3
  generalize t.get! 4 = x4
  generalize t.get! 5 = x5
  generalize t.get! 6 = x6
  generalize t.get! 7 = x7
  have h0 : x0.toNat < 256 := x0.toNat_lt
  have h1 : x1.toNat < 256 := x1.toNat_lt
  have h2 : x2.toNat < 256 := x2.toNat_lt
  have h3 : x3.toNat < 256 := x3.toNat_lt
  have h4 : x4.toNat < 256 := x4.toNat_lt
  have h5 : x5.toNat < 256 := x5.toNat_lt
  have h6 : x6.toNat < 256 := x6.toNat_lt
  have h7 : x7.toNat < 256 := x7.toNat_lt
  have hv : ((Lib.leNat [x0, x1, x2, x3, x4, x5, x6, x7] : Nat) : Int) = (x0.toNat : Int) + (x1.toNat : Int) * 256 + (x2.toNat : Int) * 65536 + (x3.toNat : Int) * 16777216 + (x4.toNat : Int) * 4294967296 + (x5.toNat : Int) * 1099511627776 + (x6.toNat : Int) * 281474976710656 + (x7.toNat : Int) * 72057594037927936 := by
    simp only [Lib.leNat]
    push_cast
    omega
  simp (disch := omega) only [u64_wrap_id, u64_or8, u64_or16, u64_or24, u64_or32, u64_or40, u64_or48, u64_or56]
  rw [hv]
theorem word_calls {w : World} {A : Option Addr} {c : Nat} {t : ByteArray} (h : BS w A c t) (h8 : 8 ≤ t.size) (W : World) (hb : Below w.heap.size w W) :
    Calls Tryz.prog 250 #[.slice A t.size c] W fun e w' => e = .returned (.int .u64 ((wordOf t : Nat) : Int)) ∧ ∃ q, w' = W.drewN q := by
  have hl : (bytesOf t).length = t.size := bytesOf_length t
  have hC : Kd.C (Kd.int .u8) W A (bytesOf t).length (bytesOf t) := by rw [hl]; exact Kd.C_below h.reads hb
  have := utf8_word_byte.calls A c (bytesOf t) _ W hC (by rw [hl]; exact h.room) (word_f t h8)
  rw [hl] at this
  refine this.mono ?_
  rintro e w' ⟨rfl, hd⟩
  exact ⟨rfl, hd.out⟩
end Go.Proofs.YtkioddjjfifadaaGreatDoor.P
