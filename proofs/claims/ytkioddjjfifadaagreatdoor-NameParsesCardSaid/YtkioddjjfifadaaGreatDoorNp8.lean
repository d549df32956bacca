/- What the proof of NameParses needs of: Pxf83, Pxf81, Lq5, Hq0, Pxf142, Hp3, Pxf79, Pxf35. -/
import Derived.Test.YtkioddjjfifadaaGreatDoorNp2
import Derived.Test.YtkioddjjfifadaaGreatDoorNp3
import Derived.Test.YtkioddjjfifadaaGreatDoorNp5
import Derived.Test.YtkioddjjfifadaaGreatDoorNp6
import Derived.Test.YtkioddjjfifadaaGreatDoorNp7
namespace Go.Proofs.YtkioddjjfifadaaGreatDoor.P
open Go.RowKit Go.Proofs.YtkioddjjfifadaaGreatDoorW.PrintWords Go.Proofs.YtkioddjjfifadaaGreatDoorW.PrintLast Go.Proofs.YtkioddjjfifadaaGreatDoorW.PrintMore
attribute [local go_sem] max2_int min2_int max_two min_two max_three min_three max_four min_four
set_option linter.unusedVariables false
set_option linter.unusedSimpArgs false
def chirographref07_part.j0 : Nat → List (S77) → Bool → Option (ByteArray × Int × List Int × Int)
  | 0, _, _ => none
  | k + 1, x4, x51 => if x51 = true then (some ((⟨#[]⟩ : ByteArray), 0, ([] : List Int), 30)) else (if 0 < (x4.length : Int) then ((chirographref04_Oid.f k ((rd_T77 x4 0).f3)).bind fun bt568 => (if bt568.2 = 0 then (if 1 < (x4.length : Int) then (some (bt568.1, (rd_T77 x4 1).f1, (rd_T77 x4 1).f3, 0)) else (none)) else (some ((⟨#[]⟩ : ByteArray), 0, ([] : List Int), bt568.2)))) else (none))
def chirographref07_part.f (k : Nat) (a0_0 : Int) (a0_1 : Int) (a0_2 : Bool) (l0_3 : List Int) (l0_4 : List Int) : Option (ByteArray × Int × List Int × Int) := (chirographref07_in.f k a0_0 a0_1 a0_2 l0_3 l0_4 16).bind fun bt558 => (if bt558.2 = 0 then (if (bt558.1.length : Int) = 2 then (if 0 < (bt558.1.length : Int) then (if ((rd_T77 bt558.1 0).f0) = 0 then (if ((rd_T77 bt558.1 0).f1) = 6 then (if 1 < (bt558.1.length : Int) then (if ((rd_T77 bt558.1 1).f0) = 0 then (if (rd_T77 bt558.1 0).f2 = true then (chirographref07_part.j0 k bt558.1 true) else (chirographref07_part.j0 k bt558.1 ((rd_T77 bt558.1 1).f2))) else (chirographref07_part.j0 k bt558.1 true)) else (none)) else (chirographref07_part.j0 k bt558.1 true)) else (chirographref07_part.j0 k bt558.1 true)) else (none)) else (chirographref07_part.j0 k bt558.1 true)) else (some ((⟨#[]⟩ : ByteArray), 0, ([] : List Int), bt558.2)))
def chirographref07_part.T9 : Bool × List (List Nat × List Nat) := (true, [([], []), ([], []), ([1], [1]), ([2], [2]), ([3], [3]), ([], []), ([5], [5]), ([6], [6]), ([7], [7]), ([0, 4, 8], [0, 4, 8]), ([9, 0, 1, 2, 3, 4, 5, 6, 7, 8, 9], [9]), ([10, 0, 1, 2, 3, 4, 5, 6, 7, 8, 9, 10], [])])
def chirographref07_part.B9 : List Nat := [0, 0, 2, 6, 14, 0, 32, 96, 224, 511, 1023, 2047]
theorem chirographref07_part.tab9 : rtab .any (opsOf Tryz.f83 9) = chirographref07_part.T9 := by kernel_rfl
theorem chirographref07_part.bits9 : waitsOk chirographref07_part.T9.2 chirographref07_part.B9 = true := by kernel_rfl
set_option maxHeartbeats 8000000 in
set_option maxRecDepth 100000 in
theorem chirographref07_part.calls (k : Nat) (a0_0 : Int) (a0_1 : Int) (a0_2 : Bool) (A0_3 : Option Addr) (c0_3 : Nat) (l0_3 : List Int) (A0_4 : Option Addr) (c0_4 : Nat) (l0_4 : List Int) (r1 : ByteArray) (r2 : Int) (r3 : List Int) (r4 : Int) (w : World) (hr0_3 : Kd.C (Kd.int .u8) w A0_3 l0_3.length l0_3) (hc0_3 : l0_3.length ≤ c0_3) (hr0_4 : Kd.C (Kd.int .u8) w A0_4 l0_4.length l0_4) (hc0_4 : l0_4.length ≤ c0_4) (h : chirographref07_part.f k a0_0 a0_1 a0_2 l0_3 l0_4 = some (r1, r2, r3, r4)) :
    Calls Tryz.prog 83 #[.agg #[.int .i64 a0_0, .int .i64 a0_1, .bool a0_2, .slice A0_3 l0_3.length c0_3, .slice A0_4 l0_4.length c0_4]] w fun e w' => ∃ v2_ : Value, e = .returned (.tuple #[.agg #[.string r1, .int .i64 r2, v2_], .int .i64 r4]) ∧ Kd.R (Kd.int .u8) 5 w' w.heap.size (fun _ => True) v2_ r3 ∧ Below w.heap.size w w' := by
  have hu77 := Tryz.underlying77
  have hu64 := Tryz.underlying64
  have HR0_3 := Aside0.mk hr0_3
  have HC0_3 := Aside0.mk hc0_3
  clear hr0_3 hc0_3
  have HR0_4 := Aside0.mk hr0_4
  have HC0_4 := Aside0.mk hc0_4
  clear hr0_4 hc0_4
  have HB := Aside0.mk (Below.refl w.heap.size w)
  have H : ((chirographref07_in.f k a0_0 a0_1 a0_2 l0_3 l0_4 16).bind fun bt558 => (if bt558.2 = 0 then (if (bt558.1.length : Int) = 2 then (if 0 < (bt558.1.length : Int) then (if ((rd_T77 bt558.1 0).f0) = 0 then (if ((rd_T77 bt558.1 0).f1) = 6 then (if 1 < (bt558.1.length : Int) then (if ((rd_T77 bt558.1 1).f0) = 0 then (if (rd_T77 bt558.1 0).f2 = true then (chirographref07_part.j0 k bt558.1 true) else (chirographref07_part.j0 k bt558.1 ((rd_T77 bt558.1 1).f2))) else (chirographref07_part.j0 k bt558.1 true)) else (none)) else (chirographref07_part.j0 k bt558.1 true)) else (chirographref07_part.j0 k bt558.1 true)) else (none)) else (chirographref07_part.j0 k bt558.1 true)) else (some ((⟨#[]⟩ : ByteArray), 0, ([] : List Int), bt558.2)))) = some (r1, r2, r3, r4) := h
  clear h
  replace H := Option.bind_eq_some_iff.mp H
  obtain ⟨⟨t558, t561⟩, A20, H⟩ := H
  try dsimp only at H
  have A2 := Aside0.mk A20
  clear A20
  by_cases c3 : t561 = 0
  rotate_left
  · rw [if_neg c3] at H
    have c3b0 : (t561 == 0) = false := beq_eq_false_iff_ne.mpr c3
    have c3b1 : (t561 != 0) = true := bne_iff_ne.mpr c3
    simp only [Option.some.injEq, Prod.mk.injEq] at H
    obtain ⟨rfl, rfl, rfl, rfl⟩ := H
    go_enter Tryz.func83, Tryz.ntmps83
    go_wp2_with (first | ((with_reducible refine gate_dst (N := 1) rfl ?_); refine box_event ?hg (N := 1) ?hd (cs := #[.int .i64 a0_0, .int .i64 a0_1, .bool a0_2, .slice A0_3 l0_3.length c0_3, .slice A0_4 l0_4.length c0_4]) (t := 77) ?hr ?_; (case hd => rfl); (case hg => rfl); (case hr => first | (go_simp; done) | (go_simp; rfl)); intro gb556 hg w41 hbox hb; have n0_ := Aside0.mk (below_step (bU HB.out) hb); have n1_ := Aside0.mk (hbox); have n2_ := Aside0.mk ((by rw [hg]; exact (below_size (bU HB.out)) : w.heap.size ≤ gb556)); have n3_ := Aside0.mk ((by rw [hg]; exact (below_size (bU HB.out)) : w.heap.size ≤ gb556)); replace HB := n0_; have BK556 := n1_; have GW556 := n2_; have GE556 := n3_; clear n0_ n1_ n2_ n3_; clear hb hbox hg) | ((with_reducible refine gate_dst (N := 2) rfl ?_); refine box_event ?hg (N := 2) ?hd (cs := #[.string (⟨#[]⟩ : ByteArray), .int .i64 0, .slice none 0 0]) (t := 64) ?hr ?_; (case hd => rfl); (case hg => rfl); (case hr => first | (go_simp; done) | (go_simp; rfl)); intro gb557 hg w42 hbox hb; have n0_ := Aside0.mk (blk_below (blk_u BK556.out) hb); have n1_ := Aside0.mk (below_step (by repeat (first | exact HB.out | apply below_alloc | apply pw_below_drewN | apply below_drew1 | refine below_set ?_ GE556.out)) hb); have n2_ := Aside0.mk (hbox); have n3_ := Aside0.mk ((by rw [hg]; exact (below_size (by repeat (first | exact HB.out | apply below_alloc | apply pw_below_drewN | apply below_drew1 | refine below_set ?_ GE556.out))) : w.heap.size ≤ gb557)); have n4_ := Aside0.mk ((by rw [hg]; exact (below_size (by repeat (first | exact HB.out | apply below_alloc | apply pw_below_drewN | apply below_drew1 | refine below_set ?_ GE556.out))) : w.heap.size ≤ gb557)); have n5_ := Aside0.mk ((by rw [hg]; exact Nat.ne_of_lt (blk_lt (blk_u BK556.out)) : gb556 ≠ gb557)); have n6_ := Aside0.mk ((by rw [hg]; exact Nat.ne_of_gt (blk_lt (blk_u BK556.out)) : gb557 ≠ gb556)); clear BK556; clear HB; have BK556 := n0_; have HB := n1_; have BK557 := n2_; have GW557 := n3_; have GE557 := n4_; have NB556_557 := n5_; have NB557_556 := n6_; clear n0_ n1_ n2_ n3_ n4_ n5_ n6_; clear hb hbox hg; have hnb43 := NB556_557.out; have hnc43 := NB557_556.out; have hcz44_0 : w42.cell? ⟨gb556, 0, none⟩ = some (.int .i64 a0_0) := (blk_cell BK556.out 0).trans rfl; have hcz44_1 : w42.cell? ⟨gb556, 1, none⟩ = some (.int .i64 a0_1) := (blk_cell BK556.out 1).trans rfl; have hcz44_2 : w42.cell? ⟨gb556, 2, none⟩ = some (.bool a0_2) := (blk_cell BK556.out 2).trans rfl; have hcz44_3 : w42.cell? ⟨gb556, 3, none⟩ = some (.slice A0_3 l0_3.length c0_3) := (blk_cell BK556.out 3).trans rfl; have hcz44_4 : w42.cell? ⟨gb556, 4, none⟩ = some (.slice A0_4 l0_4.length c0_4) := (blk_cell BK556.out 4).trans rfl; have hfz44_0 := blk_frozen BK556.out 0; have hfz44_1 := blk_frozen BK556.out 1; have hfz44_2 := blk_frozen BK556.out 2; have hfz44_3 := blk_frozen BK556.out 3; have hfz44_4 := blk_frozen BK556.out 4) | ((with_reducible refine gate_callee (f := 82) rfl ?_); refine goesL_ (some 9) rfl rfl Tryz.func82 (by kernel_rfl) rfl #[.agg #[.int .i64 a0_0, .int .i64 a0_1, .bool a0_2, .slice A0_3 l0_3.length c0_3, .slice A0_4 l0_4.length c0_4], .int .i64 16] rfl (by (try simp only [List.map_toArray, List.map_cons, List.map_nil]); first | done | rfl | (simp only [List.length_drop, List.length_take]; rfl)) ?_; (with_reducible refine (chirographref07_in.calls k a0_0 a0_1 a0_2 _ _ l0_3 _ _ l0_4 16 t558 t561 _ ?side1 ?side2 ?side3 ?side4 A2.out).mono ?_); (case side1 => exact Kd.C_u (Kd.C_below HR0_3.out HB.out)); (case side2 => exact HC0_3.out); (case side3 => exact Kd.C_u (Kd.C_below HR0_4.out HB.out)); (case side4 => exact HC0_4.out); rintro e w45 ⟨v559, rfl, ho0, hb⟩; refine ⟨_, rfl, ?_⟩; have n0_ := Aside0.mk (Kd.S_lower (Kd.S_newB ho0 (blk_u BK556.out)) (below_size (by repeat (first | exact HB.out | apply below_alloc | apply pw_below_drewN | apply below_drew1 | refine below_set ?_ GE556.out | refine below_set ?_ GE557.out)))); have n1_ := Aside0.mk (blk_below (blk_u BK556.out) hb); have n2_ := Aside0.mk (blk_below (g := gb557) (o := .cells #[.string (⟨#[]⟩ : ByteArray), .int .i64 0, .slice none 0 0] 64 (0, 0)) (blk_u BK557.out) hb); have n3_ := Aside0.mk (below_step (by repeat (first | exact HB.out | apply below_alloc | apply pw_below_drewN | apply below_drew1 | refine below_set ?_ GE556.out | refine below_set ?_ GE557.out)) hb); clear BK556; clear BK557; clear HB; have HO560 := n0_; have BK556 := n1_; have BK557 := n2_; have HB := n3_; clear n0_ n1_ n2_ n3_; (try clear hb); (try clear hb2); (try clear hk); (try clear hi); (try clear ho0); have hcz46_0 : w45.cell? ⟨gb557, 0, none⟩ = some (.string (⟨#[]⟩ : ByteArray)) := (blk_cell BK557.out 0).trans rfl; have hcz46_1 : w45.cell? ⟨gb557, 1, none⟩ = some (.int .i64 0) := (blk_cell BK557.out 1).trans rfl; have hcz46_2 : w45.cell? ⟨gb557, 2, none⟩ = some (.slice none 0 0) := (blk_cell BK557.out 2).trans rfl; have hfz46_0 := blk_frozen BK557.out 0; have hfz46_1 := blk_frozen BK557.out 1; have hfz46_2 := blk_frozen BK557.out 2))
    refine bodyPost_ret (results_ct rfl _ _ gb557 64 #[.string (⟨#[]⟩ : ByteArray), .int .i64 0, .slice none 0 0] (0, 0) _ rfl (by (with_reducible repeat (first | refine blk_drewN ?_ _ | refine blk_drew ?_ | refine blk_alloc ?_ _)); refine blk_put (cs := #[.string (⟨#[]⟩ : ByteArray), .int .i64 0, .slice none 0 0]) ?_ 2 _ rfl; (with_reducible repeat (first | refine blk_drewN ?_ _ | refine blk_drew ?_ | refine blk_alloc ?_ _)); refine blk_put (cs := #[.string (⟨#[]⟩ : ByteArray), .int .i64 0, .slice none 0 0]) ?_ 1 _ rfl; (with_reducible repeat (first | refine blk_drewN ?_ _ | refine blk_drew ?_ | refine blk_alloc ?_ _)); refine blk_put (cs := #[.string (⟨#[]⟩ : ByteArray), .int .i64 0, .slice none 0 0]) ?_ 0 _ rfl; (with_reducible repeat (first | refine blk_drewN ?_ _ | refine blk_drew ?_ | refine blk_alloc ?_ _)); exact BK557.out) Tryz.underlying64 rfl (by kernel_rfl)) rfl ?_
    exact ⟨_, by first | rfl | (simp [errW_none, errW_some] <;> rfl), by first | exact Kd.R_nil _ _ _ _ _ | exact Kd.N_nil _ _ _ _ _ | exact Kd.V_nil _ _ _ _ _ | exact Kd.Q_nil _ _ _ _ _ | exact Kd.S_nil _ _ _ _ _, by repeat (first | exact HB.out | apply below_alloc | apply pw_below_drewN | apply below_drew1 | refine below_set ?_ GE556.out | refine below_set ?_ GE557.out)⟩
  rw [if_pos c3] at H
  have c3b0 : (t561 == 0) = true := beq_iff_eq.mpr c3
  have c3b1 : (t561 != 0) = false := bne_eq_false_iff_eq.mpr c3
  clear c3
  have HC4 := Aside0.mk H
  clear H
  go_enter Tryz.func83, Tryz.ntmps83
  go_upto_region 4 with (first | ((with_reducible refine gate_dst (N := 1) rfl ?_); refine box_event ?hg (N := 1) ?hd (cs := #[.int .i64 a0_0, .int .i64 a0_1, .bool a0_2, .slice A0_3 l0_3.length c0_3, .slice A0_4 l0_4.length c0_4]) (t := 77) ?hr ?_; (case hd => rfl); (case hg => rfl); (case hr => first | (go_simp; done) | (go_simp; rfl)); intro gb556 hg w5 hbox hb; have n0_ := Aside0.mk (below_step (bU HB.out) hb); have n1_ := Aside0.mk (hbox); have n2_ := Aside0.mk ((by rw [hg]; exact (below_size (bU HB.out)) : w.heap.size ≤ gb556)); have n3_ := Aside0.mk ((by rw [hg]; exact (below_size (bU HB.out)) : w.heap.size ≤ gb556)); replace HB := n0_; have BK556 := n1_; have GW556 := n2_; have GE556 := n3_; clear n0_ n1_ n2_ n3_; clear hb hbox hg) | ((with_reducible refine gate_dst (N := 2) rfl ?_); refine box_event ?hg (N := 2) ?hd (cs := #[.string (⟨#[]⟩ : ByteArray), .int .i64 0, .slice none 0 0]) (t := 64) ?hr ?_; (case hd => rfl); (case hg => rfl); (case hr => first | (go_simp; done) | (go_simp; rfl)); intro gb557 hg w6 hbox hb; have n0_ := Aside0.mk (blk_below (blk_u BK556.out) hb); have n1_ := Aside0.mk (below_step (by repeat (first | exact HB.out | apply below_alloc | apply pw_below_drewN | apply below_drew1 | refine below_set ?_ GE556.out)) hb); have n2_ := Aside0.mk (hbox); have n3_ := Aside0.mk ((by rw [hg]; exact (below_size (by repeat (first | exact HB.out | apply below_alloc | apply pw_below_drewN | apply below_drew1 | refine below_set ?_ GE556.out))) : w.heap.size ≤ gb557)); have n4_ := Aside0.mk ((by rw [hg]; exact (below_size (by repeat (first | exact HB.out | apply below_alloc | apply pw_below_drewN | apply below_drew1 | refine below_set ?_ GE556.out))) : w.heap.size ≤ gb557)); have n5_ := Aside0.mk ((by rw [hg]; exact Nat.ne_of_lt (blk_lt (blk_u BK556.out)) : gb556 ≠ gb557)); have n6_ := Aside0.mk ((by rw [hg]; exact Nat.ne_of_gt (blk_lt (blk_u BK556.out)) : gb557 ≠ gb556)); clear BK556; clear HB; have BK556 := n0_; have HB := n1_; have BK557 := n2_; have GW557 := n3_; have GE557 := n4_; have NB556_557 := n5_; have NB557_556 := n6_; clear n0_ n1_ n2_ n3_ n4_ n5_ n6_; clear hb hbox hg; have hnb7 := NB556_557.out; have hnc7 := NB557_556.out; have hcz8_0 : w6.cell? ⟨gb556, 0, none⟩ = some (.int .i64 a0_0) := (blk_cell BK556.out 0).trans rfl; have hcz8_1 : w6.cell? ⟨gb556, 1, none⟩ = some (.int .i64 a0_1) := (blk_cell BK556.out 1).trans rfl; have hcz8_2 : w6.cell? ⟨gb556, 2, none⟩ = some (.bool a0_2) := (blk_cell BK556.out 2).trans rfl; have hcz8_3 : w6.cell? ⟨gb556, 3, none⟩ = some (.slice A0_3 l0_3.length c0_3) := (blk_cell BK556.out 3).trans rfl; have hcz8_4 : w6.cell? ⟨gb556, 4, none⟩ = some (.slice A0_4 l0_4.length c0_4) := (blk_cell BK556.out 4).trans rfl; have hfz8_0 := blk_frozen BK556.out 0; have hfz8_1 := blk_frozen BK556.out 1; have hfz8_2 := blk_frozen BK556.out 2; have hfz8_3 := blk_frozen BK556.out 3; have hfz8_4 := blk_frozen BK556.out 4) | ((with_reducible refine gate_callee (f := 82) rfl ?_); refine goesL_ (some 9) rfl rfl Tryz.func82 (by kernel_rfl) rfl #[.agg #[.int .i64 a0_0, .int .i64 a0_1, .bool a0_2, .slice A0_3 l0_3.length c0_3, .slice A0_4 l0_4.length c0_4], .int .i64 16] rfl (by (try simp only [List.map_toArray, List.map_cons, List.map_nil]); first | done | rfl | (simp only [List.length_drop, List.length_take]; rfl)) ?_; (with_reducible refine (chirographref07_in.calls k a0_0 a0_1 a0_2 _ _ l0_3 _ _ l0_4 16 t558 t561 _ ?side1 ?side2 ?side3 ?side4 A2.out).mono ?_); (case side1 => exact Kd.C_u (Kd.C_below HR0_3.out HB.out)); (case side2 => exact HC0_3.out); (case side3 => exact Kd.C_u (Kd.C_below HR0_4.out HB.out)); (case side4 => exact HC0_4.out); rintro e w9 ⟨v559, rfl, ho0, hb⟩; refine ⟨_, rfl, ?_⟩; have n0_ := Aside0.mk (Kd.S_lower (Kd.S_newB ho0 (blk_u BK556.out)) (below_size (by repeat (first | exact HB.out | apply below_alloc | apply pw_below_drewN | apply below_drew1 | refine below_set ?_ GE556.out | refine below_set ?_ GE557.out)))); have n1_ := Aside0.mk (blk_below (blk_u BK556.out) hb); have n2_ := Aside0.mk (blk_below (g := gb557) (o := .cells #[.string (⟨#[]⟩ : ByteArray), .int .i64 0, .slice none 0 0] 64 (0, 0)) (blk_u BK557.out) hb); have n3_ := Aside0.mk (below_step (by repeat (first | exact HB.out | apply below_alloc | apply pw_below_drewN | apply below_drew1 | refine below_set ?_ GE556.out | refine below_set ?_ GE557.out)) hb); clear BK556; clear BK557; clear HB; have HO560 := n0_; have BK556 := n1_; have BK557 := n2_; have HB := n3_; clear n0_ n1_ n2_ n3_; (try clear hb); (try clear hb2); (try clear hk); (try clear hi); (try clear ho0)))
  (try simp only [Act.put, List.setIfInBounds_toArray, List.set_cons_zero, List.set_cons_succ])
  go_cut [51] (fun v51 wc => ∃ (kq : Nat) (x51_3 : Bool), v51 = .bool x51_3 ∧ Aside0 (chirographref07_part.j0 kq t558 x51_3 = some (r1, r2, r3, r4)) ∧ Aside0 (kq ≤ k) ∧ Aside0 (Kd.S k77 77 wc w.heap.size (fun k_ => k_ ≠ gb556) v559 t558) ∧ Aside0 (wc.heap[gb556]? = some (.cells #[.int .i64 a0_0, .int .i64 a0_1, .bool a0_2, (.slice A0_3 l0_3.length c0_3), (.slice A0_4 l0_4.length c0_4)] 77 (0, 0))) ∧ Aside0 (wc.heap[gb557]? = some (.cells #[.string (⟨#[]⟩ : ByteArray), .int .i64 0, (.slice none 0 0)] 64 (0, 0))) ∧ Aside0 (Below w.heap.size w wc))
  case first =>
    have H := HC4.out
    clear HC4
    by_cases c10 : (t558.length : Int) = 2
    rotate_left
    · rw [if_neg c10] at H
      have c10b0 : ((t558.length : Int) == 2) = false := beq_eq_false_iff_ne.mpr c10
      have c10b1 : ((t558.length : Int) != 2) = true := bne_iff_ne.mpr c10
      (first | rw [c10b0] | (simp only [i64_w, i32_w]; rw [c10b0]) | skip)
      have H' := Aside0.mk H
      clear H
      obtain ⟨Ao23, co23, eo23⟩ := Kd.S_slice HO560.out
      subst eo23
      go_wp2
      go_meet
      case rel => exact ⟨_, (true), (by first | rfl | (simp; done) | (simp [*]; done)), H', ⟨by first | omega | exact Nat.le_refl _⟩, ⟨Kd.S_u (Kd.S_mono HO560.out (fun _ hk => hk.2))⟩, ⟨blk_u BK556.out⟩, ⟨blk_u BK557.out⟩, ⟨by repeat (first | exact HB.out | apply below_alloc | apply pw_below_drewN | apply below_drew1 | refine below_set ?_ GE556.out | refine below_set ?_ GE557.out)⟩⟩
    rw [if_pos c10] at H
    have c10b0 : ((t558.length : Int) == 2) = true := beq_iff_eq.mpr c10
    have c10b1 : ((t558.length : Int) != 2) = false := bne_eq_false_iff_eq.mpr c10
    clear c10
    (first | rw [c10b0] | (simp only [i64_w, i32_w]; rw [c10b0]) | skip)
    by_cases c11 : 0 < (t558.length : Int)
    rotate_left
    · rw [if_neg c11] at H
      exact absurd H (by simp)
    rw [if_pos c11] at H
    have c11b0 : decide (0 < (t558.length : Int)) = true := decide_eq_true c11
    have c11b1 : decide (0 < t558.length) = true := decide_eq_true (by omega)
    clear c11
    by_cases c12 : ((rd_T77 t558 0).f0) = 0
    rotate_left
    · rw [if_neg c12] at H
      have c12b0 : (((rd_T77 t558 0).f0) == 0) = false := beq_eq_false_iff_ne.mpr c12
      have c12b1 : (((rd_T77 t558 0).f0) != 0) = true := bne_iff_ne.mpr c12
      have H' := Aside0.mk H
      clear H
      obtain ⟨Ao22, co22, eo22⟩ := Kd.S_slice HO560.out
      subst eo22
      have p562 : 0 ≤ (0 : Int) := (by omega)
      have q562 : 0 < (t558.length : Int) := of_decide_eq_true (by first | (with_reducible assumption) | assumption)
      obtain ⟨ad562, A562_3, c562_3, A562_4, c562_4, e562, hx562_0, hx562_1, hx562_2, hx562_3, hx562_4, hl562_3, hi562_3, hl562_4, hi562_4⟩ := at_T77 (Kd.S_reads' HO560.out).2.2 0 p562 q562
      cases e562
      obtain ⟨ce562, hce562, hMe562, hcc562⟩ := Kd.S_get HO560.out z77 0 p562 (by first | exact q562 | exact of_decide_eq_true (by first | (with_reducible assumption) | assumption) | (have e_ := (Kd.S_reads' HO560.out).1; omega))
      obtain ⟨ve562_3, ve562_4, rfl, ge562_3, ge562_4⟩ := k77_openM hMe562
      have hv562_3 := hcc562 3 _ rfl
      rw [add_field _ _ 3 (by omega)] at hv562_3
      replace hv562_3 := Option.some.inj (hv562_3.symm.trans hx562_3)
      rw [hv562_3] at ge562_3
      have HL562_3 := Aside0.mk (show Kd.R (Kd.int .u8) 5 _ _ _ _ ((rd_T77 t558 0).f3) from ge562_3)
      clear hv562_3 ge562_3
      have hv562_4 := hcc562 4 _ rfl
      rw [add_field _ _ 4 (by omega)] at hv562_4
      replace hv562_4 := Option.some.inj (hv562_4.symm.trans hx562_4)
      rw [hv562_4] at ge562_4
      have HL562_4 := Aside0.mk (show Kd.R (Kd.int .u8) 5 _ _ _ _ ((rd_T77 t558 0).f4) from ge562_4)
      clear hv562_4 ge562_4
      clear hcc562 hce562
      have qi562 : (0 < t558.length) = True := eq_true (by omega)
      (try rw [show ((0 : Int)).toNat = 0 from rfl] at hx562_0)
      (try rw [show 0 * 5 = 0 from rfl] at hx562_0)
      (try rw [Addr.add_zero'] at hx562_0)
      (try rw [show ((0 : Int)).toNat = 0 from rfl] at hx562_1)
      (try rw [show 0 * 5 = 0 from rfl] at hx562_1)
      (try rw [Addr.add_zero'] at hx562_1)
      (try rw [show ((0 : Int)).toNat = 0 from rfl] at hx562_2)
      (try rw [show 0 * 5 = 0 from rfl] at hx562_2)
      (try rw [Addr.add_zero'] at hx562_2)
      (try rw [show ((0 : Int)).toNat = 0 from rfl] at hx562_3)
      (try rw [show 0 * 5 = 0 from rfl] at hx562_3)
      (try rw [Addr.add_zero'] at hx562_3)
      (try rw [show ((0 : Int)).toNat = 0 from rfl] at hx562_4)
      (try rw [show 0 * 5 = 0 from rfl] at hx562_4)
      (try rw [Addr.add_zero'] at hx562_4)
      have HR562_3 := Aside0.mk hi562_3
      have HC562_3 := Aside0.mk hl562_3
      clear hi562_3 hl562_3
      have HR562_4 := Aside0.mk hi562_4
      have HC562_4 := Aside0.mk hl562_4
      clear hi562_4 hl562_4
      replace p562 := eq_true p562
      replace q562 := eq_true q562
      go_wp2
      go_meet
      case rel => exact ⟨_, (true), (by first | rfl | (simp; done) | (simp [*]; done)), H', ⟨by first | omega | exact Nat.le_refl _⟩, ⟨Kd.S_u (Kd.S_mono HO560.out (fun _ hk => hk.2))⟩, ⟨blk_u BK556.out⟩, ⟨blk_u BK557.out⟩, ⟨by repeat (first | exact HB.out | apply below_alloc | apply pw_below_drewN | apply below_drew1 | refine below_set ?_ GE556.out | refine below_set ?_ GE557.out)⟩⟩
    rw [if_pos c12] at H
    have c12b0 : (((rd_T77 t558 0).f0) == 0) = true := beq_iff_eq.mpr c12
    have c12b1 : (((rd_T77 t558 0).f0) != 0) = false := bne_eq_false_iff_eq.mpr c12
    clear c12
    by_cases c13 : ((rd_T77 t558 0).f1) = 6
    rotate_left
    · rw [if_neg c13] at H
      have c13b0 : (((rd_T77 t558 0).f1) == 6) = false := beq_eq_false_iff_ne.mpr c13
      have c13b1 : (((rd_T77 t558 0).f1) != 6) = true := bne_iff_ne.mpr c13
      have H' := Aside0.mk H
      clear H
      obtain ⟨Ao21, co21, eo21⟩ := Kd.S_slice HO560.out
      subst eo21
      have p562 : 0 ≤ (0 : Int) := (by omega)
      have q562 : 0 < (t558.length : Int) := of_decide_eq_true (by first | (with_reducible assumption) | assumption)
      obtain ⟨ad562, A562_3, c562_3, A562_4, c562_4, e562, hx562_0, hx562_1, hx562_2, hx562_3, hx562_4, hl562_3, hi562_3, hl562_4, hi562_4⟩ := at_T77 (Kd.S_reads' HO560.out).2.2 0 p562 q562
      cases e562
      obtain ⟨ce562, hce562, hMe562, hcc562⟩ := Kd.S_get HO560.out z77 0 p562 (by first | exact q562 | exact of_decide_eq_true (by first | (with_reducible assumption) | assumption) | (have e_ := (Kd.S_reads' HO560.out).1; omega))
      obtain ⟨ve562_3, ve562_4, rfl, ge562_3, ge562_4⟩ := k77_openM hMe562
      have hv562_3 := hcc562 3 _ rfl
      rw [add_field _ _ 3 (by omega)] at hv562_3
      replace hv562_3 := Option.some.inj (hv562_3.symm.trans hx562_3)
      rw [hv562_3] at ge562_3
      have HL562_3 := Aside0.mk (show Kd.R (Kd.int .u8) 5 _ _ _ _ ((rd_T77 t558 0).f3) from ge562_3)
      clear hv562_3 ge562_3
      have hv562_4 := hcc562 4 _ rfl
      rw [add_field _ _ 4 (by omega)] at hv562_4
      replace hv562_4 := Option.some.inj (hv562_4.symm.trans hx562_4)
      rw [hv562_4] at ge562_4
      have HL562_4 := Aside0.mk (show Kd.R (Kd.int .u8) 5 _ _ _ _ ((rd_T77 t558 0).f4) from ge562_4)
      clear hv562_4 ge562_4
      clear hcc562 hce562
      have qi562 : (0 < t558.length) = True := eq_true (by omega)
      (try rw [show ((0 : Int)).toNat = 0 from rfl] at hx562_0)
      (try rw [show 0 * 5 = 0 from rfl] at hx562_0)
      (try rw [Addr.add_zero'] at hx562_0)
      (try rw [show ((0 : Int)).toNat = 0 from rfl] at hx562_1)
      (try rw [show 0 * 5 = 0 from rfl] at hx562_1)
      (try rw [Addr.add_zero'] at hx562_1)
      (try rw [show ((0 : Int)).toNat = 0 from rfl] at hx562_2)
      (try rw [show 0 * 5 = 0 from rfl] at hx562_2)
      (try rw [Addr.add_zero'] at hx562_2)
      (try rw [show ((0 : Int)).toNat = 0 from rfl] at hx562_3)
      (try rw [show 0 * 5 = 0 from rfl] at hx562_3)
      (try rw [Addr.add_zero'] at hx562_3)
      (try rw [show ((0 : Int)).toNat = 0 from rfl] at hx562_4)
      (try rw [show 0 * 5 = 0 from rfl] at hx562_4)
      (try rw [Addr.add_zero'] at hx562_4)
      have HR562_3 := Aside0.mk hi562_3
      have HC562_3 := Aside0.mk hl562_3
      clear hi562_3 hl562_3
      have HR562_4 := Aside0.mk hi562_4
      have HC562_4 := Aside0.mk hl562_4
      clear hi562_4 hl562_4
      replace p562 := eq_true p562
      replace q562 := eq_true q562
      have p563 : 0 ≤ (0 : Int) := (by omega)
      have q563 : 0 < (t558.length : Int) := of_decide_eq_true (by first | (with_reducible assumption) | assumption)
      obtain ⟨ad563, A563_3, c563_3, A563_4, c563_4, e563, hx563_0, hx563_1, hx563_2, hx563_3, hx563_4, hl563_3, hi563_3, hl563_4, hi563_4⟩ := at_T77 (Kd.S_reads' HO560.out).2.2 0 p563 q563
      obtain rfl : ad562 = ad563 := (by injection e563)
      obtain ⟨ce563, hce563, hMe563, hcc563⟩ := Kd.S_get HO560.out z77 0 p563 (by first | exact q563 | exact of_decide_eq_true (by first | (with_reducible assumption) | assumption) | (have e_ := (Kd.S_reads' HO560.out).1; omega))
      obtain ⟨ve563_3, ve563_4, rfl, ge563_3, ge563_4⟩ := k77_openM hMe563
      have hv563_3 := hcc563 3 _ rfl
      rw [add_field _ _ 3 (by omega)] at hv563_3
      replace hv563_3 := Option.some.inj (hv563_3.symm.trans hx563_3)
      rw [hv563_3] at ge563_3
      have HL563_3 := Aside0.mk (show Kd.R (Kd.int .u8) 5 _ _ _ _ ((rd_T77 t558 0).f3) from ge563_3)
      clear hv563_3 ge563_3
      have hv563_4 := hcc563 4 _ rfl
      rw [add_field _ _ 4 (by omega)] at hv563_4
      replace hv563_4 := Option.some.inj (hv563_4.symm.trans hx563_4)
      rw [hv563_4] at ge563_4
      have HL563_4 := Aside0.mk (show Kd.R (Kd.int .u8) 5 _ _ _ _ ((rd_T77 t558 0).f4) from ge563_4)
      clear hv563_4 ge563_4
      clear hcc563 hce563
      have qi563 : (0 < t558.length) = True := eq_true (by omega)
      (try rw [show ((0 : Int)).toNat = 0 from rfl] at hx563_0)
      (try rw [show 0 * 5 = 0 from rfl] at hx563_0)
      (try rw [Addr.add_zero'] at hx563_0)
      (try rw [show ((0 : Int)).toNat = 0 from rfl] at hx563_1)
      (try rw [show 0 * 5 = 0 from rfl] at hx563_1)
      (try rw [Addr.add_zero'] at hx563_1)
      (try rw [show ((0 : Int)).toNat = 0 from rfl] at hx563_2)
      (try rw [show 0 * 5 = 0 from rfl] at hx563_2)
      (try rw [Addr.add_zero'] at hx563_2)
      (try rw [show ((0 : Int)).toNat = 0 from rfl] at hx563_3)
      (try rw [show 0 * 5 = 0 from rfl] at hx563_3)
      (try rw [Addr.add_zero'] at hx563_3)
      (try rw [show ((0 : Int)).toNat = 0 from rfl] at hx563_4)
      (try rw [show 0 * 5 = 0 from rfl] at hx563_4)
      (try rw [Addr.add_zero'] at hx563_4)
      have HR563_3 := Aside0.mk hi563_3
      have HC563_3 := Aside0.mk hl563_3
      clear hi563_3 hl563_3
      have HR563_4 := Aside0.mk hi563_4
      have HC563_4 := Aside0.mk hl563_4
      clear hi563_4 hl563_4
      replace p563 := eq_true p563
      replace q563 := eq_true q563
      have ea_ := Option.some.inj (hx562_3.symm.trans hx563_3)
      injection ea_ with ea_ en_ ec_
      subst ea_
      subst ec_
      clear en_
      have ea_ := Option.some.inj (hx562_4.symm.trans hx563_4)
      injection ea_ with ea_ en_ ec_
      subst ea_
      subst ec_
      clear en_
      go_wp2
      go_meet
      case rel => exact ⟨_, (true), (by first | rfl | (simp; done) | (simp [*]; done)), H', ⟨by first | omega | exact Nat.le_refl _⟩, ⟨Kd.S_u (Kd.S_mono HO560.out (fun _ hk => hk.2))⟩, ⟨blk_u BK556.out⟩, ⟨blk_u BK557.out⟩, ⟨by repeat (first | exact HB.out | apply below_alloc | apply pw_below_drewN | apply below_drew1 | refine below_set ?_ GE556.out | refine below_set ?_ GE557.out)⟩⟩
    rw [if_pos c13] at H
    have c13b0 : (((rd_T77 t558 0).f1) == 6) = true := beq_iff_eq.mpr c13
    have c13b1 : (((rd_T77 t558 0).f1) != 6) = false := bne_eq_false_iff_eq.mpr c13
    clear c13
    by_cases c14 : 1 < (t558.length : Int)
    rotate_left
    · rw [if_neg c14] at H
      exact absurd H (by simp)
    rw [if_pos c14] at H
    have c14b0 : decide (1 < (t558.length : Int)) = true := decide_eq_true c14
    have c14b1 : decide (1 < t558.length) = true := decide_eq_true (by omega)
    clear c14
    by_cases c15 : ((rd_T77 t558 1).f0) = 0
    rotate_left
    · rw [if_neg c15] at H
      have c15b0 : (((rd_T77 t558 1).f0) == 0) = false := beq_eq_false_iff_ne.mpr c15
      have c15b1 : (((rd_T77 t558 1).f0) != 0) = true := bne_iff_ne.mpr c15
      have H' := Aside0.mk H
      clear H
      obtain ⟨Ao20, co20, eo20⟩ := Kd.S_slice HO560.out
      subst eo20
      have p562 : 0 ≤ (0 : Int) := (by omega)
      have q562 : 0 < (t558.length : Int) := of_decide_eq_true (by first | (with_reducible assumption) | assumption)
      obtain ⟨ad562, A562_3, c562_3, A562_4, c562_4, e562, hx562_0, hx562_1, hx562_2, hx562_3, hx562_4, hl562_3, hi562_3, hl562_4, hi562_4⟩ := at_T77 (Kd.S_reads' HO560.out).2.2 0 p562 q562
      cases e562
      obtain ⟨ce562, hce562, hMe562, hcc562⟩ := Kd.S_get HO560.out z77 0 p562 (by first | exact q562 | exact of_decide_eq_true (by first | (with_reducible assumption) | assumption) | (have e_ := (Kd.S_reads' HO560.out).1; omega))
      obtain ⟨ve562_3, ve562_4, rfl, ge562_3, ge562_4⟩ := k77_openM hMe562
      have hv562_3 := hcc562 3 _ rfl
      rw [add_field _ _ 3 (by omega)] at hv562_3
      replace hv562_3 := Option.some.inj (hv562_3.symm.trans hx562_3)
      rw [hv562_3] at ge562_3
      have HL562_3 := Aside0.mk (show Kd.R (Kd.int .u8) 5 _ _ _ _ ((rd_T77 t558 0).f3) from ge562_3)
      clear hv562_3 ge562_3
      have hv562_4 := hcc562 4 _ rfl
      rw [add_field _ _ 4 (by omega)] at hv562_4
      replace hv562_4 := Option.some.inj (hv562_4.symm.trans hx562_4)
      rw [hv562_4] at ge562_4
      have HL562_4 := Aside0.mk (show Kd.R (Kd.int .u8) 5 _ _ _ _ ((rd_T77 t558 0).f4) from ge562_4)
      clear hv562_4 ge562_4
      clear hcc562 hce562
      have qi562 : (0 < t558.length) = True := eq_true (by omega)
      (try rw [show ((0 : Int)).toNat = 0 from rfl] at hx562_0)
      (try rw [show 0 * 5 = 0 from rfl] at hx562_0)
      (try rw [Addr.add_zero'] at hx562_0)
      (try rw [show ((0 : Int)).toNat = 0 from rfl] at hx562_1)
      (try rw [show 0 * 5 = 0 from rfl] at hx562_1)
      (try rw [Addr.add_zero'] at hx562_1)
      (try rw [show ((0 : Int)).toNat = 0 from rfl] at hx562_2)
      (try rw [show 0 * 5 = 0 from rfl] at hx562_2)
      (try rw [Addr.add_zero'] at hx562_2)
      (try rw [show ((0 : Int)).toNat = 0 from rfl] at hx562_3)
      (try rw [show 0 * 5 = 0 from rfl] at hx562_3)
      (try rw [Addr.add_zero'] at hx562_3)
      (try rw [show ((0 : Int)).toNat = 0 from rfl] at hx562_4)
      (try rw [show 0 * 5 = 0 from rfl] at hx562_4)
      (try rw [Addr.add_zero'] at hx562_4)
      have HR562_3 := Aside0.mk hi562_3
      have HC562_3 := Aside0.mk hl562_3
      clear hi562_3 hl562_3
      have HR562_4 := Aside0.mk hi562_4
      have HC562_4 := Aside0.mk hl562_4
      clear hi562_4 hl562_4
      replace p562 := eq_true p562
      replace q562 := eq_true q562
      have p563 : 0 ≤ (0 : Int) := (by omega)
      have q563 : 0 < (t558.length : Int) := of_decide_eq_true (by first | (with_reducible assumption) | assumption)
      obtain ⟨ad563, A563_3, c563_3, A563_4, c563_4, e563, hx563_0, hx563_1, hx563_2, hx563_3, hx563_4, hl563_3, hi563_3, hl563_4, hi563_4⟩ := at_T77 (Kd.S_reads' HO560.out).2.2 0 p563 q563
      obtain rfl : ad562 = ad563 := (by injection e563)
      obtain ⟨ce563, hce563, hMe563, hcc563⟩ := Kd.S_get HO560.out z77 0 p563 (by first | exact q563 | exact of_decide_eq_true (by first | (with_reducible assumption) | assumption) | (have e_ := (Kd.S_reads' HO560.out).1; omega))
      obtain ⟨ve563_3, ve563_4, rfl, ge563_3, ge563_4⟩ := k77_openM hMe563
      have hv563_3 := hcc563 3 _ rfl
      rw [add_field _ _ 3 (by omega)] at hv563_3
      replace hv563_3 := Option.some.inj (hv563_3.symm.trans hx563_3)
      rw [hv563_3] at ge563_3
      have HL563_3 := Aside0.mk (show Kd.R (Kd.int .u8) 5 _ _ _ _ ((rd_T77 t558 0).f3) from ge563_3)
      clear hv563_3 ge563_3
      have hv563_4 := hcc563 4 _ rfl
      rw [add_field _ _ 4 (by omega)] at hv563_4
      replace hv563_4 := Option.some.inj (hv563_4.symm.trans hx563_4)
      rw [hv563_4] at ge563_4
      have HL563_4 := Aside0.mk (show Kd.R (Kd.int .u8) 5 _ _ _ _ ((rd_T77 t558 0).f4) from ge563_4)
      clear hv563_4 ge563_4
      clear hcc563 hce563
      have qi563 : (0 < t558.length) = True := eq_true (by omega)
      (try rw [show ((0 : Int)).toNat = 0 from rfl] at hx563_0)
      (try rw [show 0 * 5 = 0 from rfl] at hx563_0)
      (try rw [Addr.add_zero'] at hx563_0)
      (try rw [show ((0 : Int)).toNat = 0 from rfl] at hx563_1)
      (try rw [show 0 * 5 = 0 from rfl] at hx563_1)
      (try rw [Addr.add_zero'] at hx563_1)
      (try rw [show ((0 : Int)).toNat = 0 from rfl] at hx563_2)
      (try rw [show 0 * 5 = 0 from rfl] at hx563_2)
      (try rw [Addr.add_zero'] at hx563_2)
      (try rw [show ((0 : Int)).toNat = 0 from rfl] at hx563_3)
      (try rw [show 0 * 5 = 0 from rfl] at hx563_3)
      (try rw [Addr.add_zero'] at hx563_3)
      (try rw [show ((0 : Int)).toNat = 0 from rfl] at hx563_4)
      (try rw [show 0 * 5 = 0 from rfl] at hx563_4)
      (try rw [Addr.add_zero'] at hx563_4)
      have HR563_3 := Aside0.mk hi563_3
      have HC563_3 := Aside0.mk hl563_3
      clear hi563_3 hl563_3
      have HR563_4 := Aside0.mk hi563_4
      have HC563_4 := Aside0.mk hl563_4
      clear hi563_4 hl563_4
      replace p563 := eq_true p563
      replace q563 := eq_true q563
      have ea_ := Option.some.inj (hx562_3.symm.trans hx563_3)
      injection ea_ with ea_ en_ ec_
      subst ea_
      subst ec_
      clear en_
      have ea_ := Option.some.inj (hx562_4.symm.trans hx563_4)
      injection ea_ with ea_ en_ ec_
      subst ea_
      subst ec_
      clear en_
      have p564 : 0 ≤ (1 : Int) := (by omega)
      have q564 : 1 < (t558.length : Int) := of_decide_eq_true (by first | (with_reducible assumption) | assumption)
      obtain ⟨ad564, A564_3, c564_3, A564_4, c564_4, e564, hx564_0, hx564_1, hx564_2, hx564_3, hx564_4, hl564_3, hi564_3, hl564_4, hi564_4⟩ := at_T77 (Kd.S_reads' HO560.out).2.2 1 p564 q564
      obtain rfl : ad562 = ad564 := (by injection e564)
      obtain ⟨ce564, hce564, hMe564, hcc564⟩ := Kd.S_get HO560.out z77 1 p564 (by first | exact q564 | exact of_decide_eq_true (by first | (with_reducible assumption) | assumption) | (have e_ := (Kd.S_reads' HO560.out).1; omega))
      obtain ⟨ve564_3, ve564_4, rfl, ge564_3, ge564_4⟩ := k77_openM hMe564
      have hv564_3 := hcc564 3 _ rfl
      rw [add_field _ _ 3 (by omega)] at hv564_3
      replace hv564_3 := Option.some.inj (hv564_3.symm.trans hx564_3)
      rw [hv564_3] at ge564_3
      have HL564_3 := Aside0.mk (show Kd.R (Kd.int .u8) 5 _ _ _ _ ((rd_T77 t558 1).f3) from ge564_3)
      clear hv564_3 ge564_3
      have hv564_4 := hcc564 4 _ rfl
      rw [add_field _ _ 4 (by omega)] at hv564_4
      replace hv564_4 := Option.some.inj (hv564_4.symm.trans hx564_4)
      rw [hv564_4] at ge564_4
      have HL564_4 := Aside0.mk (show Kd.R (Kd.int .u8) 5 _ _ _ _ ((rd_T77 t558 1).f4) from ge564_4)
      clear hv564_4 ge564_4
      clear hcc564 hce564
      (try simp only [show (1 : Int).toNat = 1 from rfl, Nat.reduceMul, Nat.reduceEqDiff, Go.Addr.add, ↓reduceIte] at hx564_0)
      (try simp only [show (1 : Int).toNat = 1 from rfl, Nat.reduceMul, Nat.reduceEqDiff, Go.Addr.add, ↓reduceIte] at hx564_1)
      (try simp only [show (1 : Int).toNat = 1 from rfl, Nat.reduceMul, Nat.reduceEqDiff, Go.Addr.add, ↓reduceIte] at hx564_2)
      (try simp only [show (1 : Int).toNat = 1 from rfl, Nat.reduceMul, Nat.reduceEqDiff, Go.Addr.add, ↓reduceIte] at hx564_3)
      (try simp only [show (1 : Int).toNat = 1 from rfl, Nat.reduceMul, Nat.reduceEqDiff, Go.Addr.add, ↓reduceIte] at hx564_4)
      have qi564 : (1 < t558.length) = True := eq_true (by omega)
      (try rw [show ((1 : Int)).toNat = 1 from rfl] at hx564_0)
      (try rw [show 1 * 5 = 5 from rfl] at hx564_0)
      (try rw [show ((1 : Int)).toNat = 1 from rfl] at hx564_1)
      (try rw [show 1 * 5 = 5 from rfl] at hx564_1)
      (try rw [show ((1 : Int)).toNat = 1 from rfl] at hx564_2)
      (try rw [show 1 * 5 = 5 from rfl] at hx564_2)
      (try rw [show ((1 : Int)).toNat = 1 from rfl] at hx564_3)
      (try rw [show 1 * 5 = 5 from rfl] at hx564_3)
      (try rw [show ((1 : Int)).toNat = 1 from rfl] at hx564_4)
      (try rw [show 1 * 5 = 5 from rfl] at hx564_4)
      have HR564_3 := Aside0.mk hi564_3
      have HC564_3 := Aside0.mk hl564_3
      clear hi564_3 hl564_3
      have HR564_4 := Aside0.mk hi564_4
      have HC564_4 := Aside0.mk hl564_4
      clear hi564_4 hl564_4
      replace p564 := eq_true p564
      replace q564 := eq_true q564
      go_wp2
      go_meet
      case rel => exact ⟨_, (true), (by first | rfl | (simp; done) | (simp [*]; done)), H', ⟨by first | omega | exact Nat.le_refl _⟩, ⟨Kd.S_u (Kd.S_mono HO560.out (fun _ hk => hk.2))⟩, ⟨blk_u BK556.out⟩, ⟨blk_u BK557.out⟩, ⟨by repeat (first | exact HB.out | apply below_alloc | apply pw_below_drewN | apply below_drew1 | refine below_set ?_ GE556.out | refine below_set ?_ GE557.out)⟩⟩
    rw [if_pos c15] at H
    have c15b0 : (((rd_T77 t558 1).f0) == 0) = true := beq_iff_eq.mpr c15
    have c15b1 : (((rd_T77 t558 1).f0) != 0) = false := bne_eq_false_iff_eq.mpr c15
    clear c15
    obtain ⟨bq16, hbq16⟩ : ∃ b_ : Bool, b_ = ((rd_T77 t558 0).f2) := ⟨_, rfl⟩
    replace H : (if bq16 = true then (chirographref07_part.j0 k t558 true) else (chirographref07_part.j0 k t558 ((rd_T77 t558 1).f2))) = some (r1, r2, r3, r4) := by rw [← hbq16] at H; exact H
    have Nbq16 := Aside0.mk hbq16
    clear hbq16
    by_cases c17 : bq16 = true
    · subst c17
      have H1 : (chirographref07_part.j0 k t558 true) = some (r1, r2, r3, r4) := by rw [if_pos rfl] at H; exact H
      clear H
      have H := H1
      clear H1
      have H' := Aside0.mk H
      clear H
      obtain ⟨Ao18, co18, eo18⟩ := Kd.S_slice HO560.out
      subst eo18
      have p562 : 0 ≤ (0 : Int) := (by omega)
      have q562 : 0 < (t558.length : Int) := of_decide_eq_true (by first | (with_reducible assumption) | assumption)
      obtain ⟨ad562, A562_3, c562_3, A562_4, c562_4, e562, hx562_0, hx562_1, hx562_2, hx562_3, hx562_4, hl562_3, hi562_3, hl562_4, hi562_4⟩ := at_T77 (Kd.S_reads' HO560.out).2.2 0 p562 q562
      (try rw [← Nbq16.out] at hx562_2)
      cases e562
      obtain ⟨ce562, hce562, hMe562, hcc562⟩ := Kd.S_get HO560.out z77 0 p562 (by first | exact q562 | exact of_decide_eq_true (by first | (with_reducible assumption) | assumption) | (have e_ := (Kd.S_reads' HO560.out).1; omega))
      obtain ⟨ve562_3, ve562_4, rfl, ge562_3, ge562_4⟩ := k77_openM hMe562
      have hv562_3 := hcc562 3 _ rfl
      rw [add_field _ _ 3 (by omega)] at hv562_3
      replace hv562_3 := Option.some.inj (hv562_3.symm.trans hx562_3)
      rw [hv562_3] at ge562_3
      have HL562_3 := Aside0.mk (show Kd.R (Kd.int .u8) 5 _ _ _ _ ((rd_T77 t558 0).f3) from ge562_3)
      clear hv562_3 ge562_3
      have hv562_4 := hcc562 4 _ rfl
      rw [add_field _ _ 4 (by omega)] at hv562_4
      replace hv562_4 := Option.some.inj (hv562_4.symm.trans hx562_4)
      rw [hv562_4] at ge562_4
      have HL562_4 := Aside0.mk (show Kd.R (Kd.int .u8) 5 _ _ _ _ ((rd_T77 t558 0).f4) from ge562_4)
      clear hv562_4 ge562_4
      clear hcc562 hce562
      have qi562 : (0 < t558.length) = True := eq_true (by omega)
      (try rw [show ((0 : Int)).toNat = 0 from rfl] at hx562_0)
      (try rw [show 0 * 5 = 0 from rfl] at hx562_0)
      (try rw [Addr.add_zero'] at hx562_0)
      (try rw [show ((0 : Int)).toNat = 0 from rfl] at hx562_1)
      (try rw [show 0 * 5 = 0 from rfl] at hx562_1)
      (try rw [Addr.add_zero'] at hx562_1)
      (try rw [show ((0 : Int)).toNat = 0 from rfl] at hx562_2)
      (try rw [show 0 * 5 = 0 from rfl] at hx562_2)
      (try rw [Addr.add_zero'] at hx562_2)
      (try rw [show ((0 : Int)).toNat = 0 from rfl] at hx562_3)
      (try rw [show 0 * 5 = 0 from rfl] at hx562_3)
      (try rw [Addr.add_zero'] at hx562_3)
      (try rw [show ((0 : Int)).toNat = 0 from rfl] at hx562_4)
      (try rw [show 0 * 5 = 0 from rfl] at hx562_4)
      (try rw [Addr.add_zero'] at hx562_4)
      have HR562_3 := Aside0.mk hi562_3
      have HC562_3 := Aside0.mk hl562_3
      clear hi562_3 hl562_3
      have HR562_4 := Aside0.mk hi562_4
      have HC562_4 := Aside0.mk hl562_4
      clear hi562_4 hl562_4
      replace p562 := eq_true p562
      replace q562 := eq_true q562
      have p563 : 0 ≤ (0 : Int) := (by omega)
      have q563 : 0 < (t558.length : Int) := of_decide_eq_true (by first | (with_reducible assumption) | assumption)
      obtain ⟨ad563, A563_3, c563_3, A563_4, c563_4, e563, hx563_0, hx563_1, hx563_2, hx563_3, hx563_4, hl563_3, hi563_3, hl563_4, hi563_4⟩ := at_T77 (Kd.S_reads' HO560.out).2.2 0 p563 q563
      (try rw [← Nbq16.out] at hx563_2)
      obtain rfl : ad562 = ad563 := (by injection e563)
      obtain ⟨ce563, hce563, hMe563, hcc563⟩ := Kd.S_get HO560.out z77 0 p563 (by first | exact q563 | exact of_decide_eq_true (by first | (with_reducible assumption) | assumption) | (have e_ := (Kd.S_reads' HO560.out).1; omega))
      obtain ⟨ve563_3, ve563_4, rfl, ge563_3, ge563_4⟩ := k77_openM hMe563
      have hv563_3 := hcc563 3 _ rfl
      rw [add_field _ _ 3 (by omega)] at hv563_3
      replace hv563_3 := Option.some.inj (hv563_3.symm.trans hx563_3)
      rw [hv563_3] at ge563_3
      have HL563_3 := Aside0.mk (show Kd.R (Kd.int .u8) 5 _ _ _ _ ((rd_T77 t558 0).f3) from ge563_3)
      clear hv563_3 ge563_3
      have hv563_4 := hcc563 4 _ rfl
      rw [add_field _ _ 4 (by omega)] at hv563_4
      replace hv563_4 := Option.some.inj (hv563_4.symm.trans hx563_4)
      rw [hv563_4] at ge563_4
      have HL563_4 := Aside0.mk (show Kd.R (Kd.int .u8) 5 _ _ _ _ ((rd_T77 t558 0).f4) from ge563_4)
      clear hv563_4 ge563_4
      clear hcc563 hce563
      have qi563 : (0 < t558.length) = True := eq_true (by omega)
      (try rw [show ((0 : Int)).toNat = 0 from rfl] at hx563_0)
      (try rw [show 0 * 5 = 0 from rfl] at hx563_0)
      (try rw [Addr.add_zero'] at hx563_0)
      (try rw [show ((0 : Int)).toNat = 0 from rfl] at hx563_1)
      (try rw [show 0 * 5 = 0 from rfl] at hx563_1)
      (try rw [Addr.add_zero'] at hx563_1)
      (try rw [show ((0 : Int)).toNat = 0 from rfl] at hx563_2)
      (try rw [show 0 * 5 = 0 from rfl] at hx563_2)
      (try rw [Addr.add_zero'] at hx563_2)
      (try rw [show ((0 : Int)).toNat = 0 from rfl] at hx563_3)
      (try rw [show 0 * 5 = 0 from rfl] at hx563_3)
      (try rw [Addr.add_zero'] at hx563_3)
      (try rw [show ((0 : Int)).toNat = 0 from rfl] at hx563_4)
      (try rw [show 0 * 5 = 0 from rfl] at hx563_4)
      (try rw [Addr.add_zero'] at hx563_4)
      have HR563_3 := Aside0.mk hi563_3
      have HC563_3 := Aside0.mk hl563_3
      clear hi563_3 hl563_3
      have HR563_4 := Aside0.mk hi563_4
      have HC563_4 := Aside0.mk hl563_4
      clear hi563_4 hl563_4
      replace p563 := eq_true p563
      replace q563 := eq_true q563
      have ea_ := Option.some.inj (hx562_3.symm.trans hx563_3)
      injection ea_ with ea_ en_ ec_
      subst ea_
      subst ec_
      clear en_
      have ea_ := Option.some.inj (hx562_4.symm.trans hx563_4)
      injection ea_ with ea_ en_ ec_
      subst ea_
      subst ec_
      clear en_
      have p564 : 0 ≤ (1 : Int) := (by omega)
      have q564 : 1 < (t558.length : Int) := of_decide_eq_true (by first | (with_reducible assumption) | assumption)
      obtain ⟨ad564, A564_3, c564_3, A564_4, c564_4, e564, hx564_0, hx564_1, hx564_2, hx564_3, hx564_4, hl564_3, hi564_3, hl564_4, hi564_4⟩ := at_T77 (Kd.S_reads' HO560.out).2.2 1 p564 q564
      (try rw [← Nbq16.out] at hx564_2)
      obtain rfl : ad562 = ad564 := (by injection e564)
      obtain ⟨ce564, hce564, hMe564, hcc564⟩ := Kd.S_get HO560.out z77 1 p564 (by first | exact q564 | exact of_decide_eq_true (by first | (with_reducible assumption) | assumption) | (have e_ := (Kd.S_reads' HO560.out).1; omega))
      obtain ⟨ve564_3, ve564_4, rfl, ge564_3, ge564_4⟩ := k77_openM hMe564
      have hv564_3 := hcc564 3 _ rfl
      rw [add_field _ _ 3 (by omega)] at hv564_3
      replace hv564_3 := Option.some.inj (hv564_3.symm.trans hx564_3)
      rw [hv564_3] at ge564_3
      have HL564_3 := Aside0.mk (show Kd.R (Kd.int .u8) 5 _ _ _ _ ((rd_T77 t558 1).f3) from ge564_3)
      clear hv564_3 ge564_3
      have hv564_4 := hcc564 4 _ rfl
      rw [add_field _ _ 4 (by omega)] at hv564_4
      replace hv564_4 := Option.some.inj (hv564_4.symm.trans hx564_4)
      rw [hv564_4] at ge564_4
      have HL564_4 := Aside0.mk (show Kd.R (Kd.int .u8) 5 _ _ _ _ ((rd_T77 t558 1).f4) from ge564_4)
      clear hv564_4 ge564_4
      clear hcc564 hce564
      (try simp only [show (1 : Int).toNat = 1 from rfl, Nat.reduceMul, Nat.reduceEqDiff, Go.Addr.add, ↓reduceIte] at hx564_0)
      (try simp only [show (1 : Int).toNat = 1 from rfl, Nat.reduceMul, Nat.reduceEqDiff, Go.Addr.add, ↓reduceIte] at hx564_1)
      (try simp only [show (1 : Int).toNat = 1 from rfl, Nat.reduceMul, Nat.reduceEqDiff, Go.Addr.add, ↓reduceIte] at hx564_2)
      (try simp only [show (1 : Int).toNat = 1 from rfl, Nat.reduceMul, Nat.reduceEqDiff, Go.Addr.add, ↓reduceIte] at hx564_3)
      (try simp only [show (1 : Int).toNat = 1 from rfl, Nat.reduceMul, Nat.reduceEqDiff, Go.Addr.add, ↓reduceIte] at hx564_4)
      have qi564 : (1 < t558.length) = True := eq_true (by omega)
      (try rw [show ((1 : Int)).toNat = 1 from rfl] at hx564_0)
      (try rw [show 1 * 5 = 5 from rfl] at hx564_0)
      (try rw [show ((1 : Int)).toNat = 1 from rfl] at hx564_1)
      (try rw [show 1 * 5 = 5 from rfl] at hx564_1)
      (try rw [show ((1 : Int)).toNat = 1 from rfl] at hx564_2)
      (try rw [show 1 * 5 = 5 from rfl] at hx564_2)
      (try rw [show ((1 : Int)).toNat = 1 from rfl] at hx564_3)
      (try rw [show 1 * 5 = 5 from rfl] at hx564_3)
      (try rw [show ((1 : Int)).toNat = 1 from rfl] at hx564_4)
      (try rw [show 1 * 5 = 5 from rfl] at hx564_4)
      have HR564_3 := Aside0.mk hi564_3
      have HC564_3 := Aside0.mk hl564_3
      clear hi564_3 hl564_3
      have HR564_4 := Aside0.mk hi564_4
      have HC564_4 := Aside0.mk hl564_4
      clear hi564_4 hl564_4
      replace p564 := eq_true p564
      replace q564 := eq_true q564
      have p565 : 0 ≤ (0 : Int) := (by omega)
      have q565 : 0 < (t558.length : Int) := of_decide_eq_true (by first | (with_reducible assumption) | assumption)
      obtain ⟨ad565, A565_3, c565_3, A565_4, c565_4, e565, hx565_0, hx565_1, hx565_2, hx565_3, hx565_4, hl565_3, hi565_3, hl565_4, hi565_4⟩ := at_T77 (Kd.S_reads' HO560.out).2.2 0 p565 q565
      (try rw [← Nbq16.out] at hx565_2)
      obtain rfl : ad562 = ad565 := (by injection e565)
      obtain ⟨ce565, hce565, hMe565, hcc565⟩ := Kd.S_get HO560.out z77 0 p565 (by first | exact q565 | exact of_decide_eq_true (by first | (with_reducible assumption) | assumption) | (have e_ := (Kd.S_reads' HO560.out).1; omega))
      obtain ⟨ve565_3, ve565_4, rfl, ge565_3, ge565_4⟩ := k77_openM hMe565
      have hv565_3 := hcc565 3 _ rfl
      rw [add_field _ _ 3 (by omega)] at hv565_3
      replace hv565_3 := Option.some.inj (hv565_3.symm.trans hx565_3)
      rw [hv565_3] at ge565_3
      have HL565_3 := Aside0.mk (show Kd.R (Kd.int .u8) 5 _ _ _ _ ((rd_T77 t558 0).f3) from ge565_3)
      clear hv565_3 ge565_3
      have hv565_4 := hcc565 4 _ rfl
      rw [add_field _ _ 4 (by omega)] at hv565_4
      replace hv565_4 := Option.some.inj (hv565_4.symm.trans hx565_4)
      rw [hv565_4] at ge565_4
      have HL565_4 := Aside0.mk (show Kd.R (Kd.int .u8) 5 _ _ _ _ ((rd_T77 t558 0).f4) from ge565_4)
      clear hv565_4 ge565_4
      clear hcc565 hce565
      have qi565 : (0 < t558.length) = True := eq_true (by omega)
      (try rw [show ((0 : Int)).toNat = 0 from rfl] at hx565_0)
      (try rw [show 0 * 5 = 0 from rfl] at hx565_0)
      (try rw [Addr.add_zero'] at hx565_0)
      (try rw [show ((0 : Int)).toNat = 0 from rfl] at hx565_1)
      (try rw [show 0 * 5 = 0 from rfl] at hx565_1)
      (try rw [Addr.add_zero'] at hx565_1)
      (try rw [show ((0 : Int)).toNat = 0 from rfl] at hx565_2)
      (try rw [show 0 * 5 = 0 from rfl] at hx565_2)
      (try rw [Addr.add_zero'] at hx565_2)
      (try rw [show ((0 : Int)).toNat = 0 from rfl] at hx565_3)
      (try rw [show 0 * 5 = 0 from rfl] at hx565_3)
      (try rw [Addr.add_zero'] at hx565_3)
      (try rw [show ((0 : Int)).toNat = 0 from rfl] at hx565_4)
      (try rw [show 0 * 5 = 0 from rfl] at hx565_4)
      (try rw [Addr.add_zero'] at hx565_4)
      have HR565_3 := Aside0.mk hi565_3
      have HC565_3 := Aside0.mk hl565_3
      clear hi565_3 hl565_3
      have HR565_4 := Aside0.mk hi565_4
      have HC565_4 := Aside0.mk hl565_4
      clear hi565_4 hl565_4
      replace p565 := eq_true p565
      replace q565 := eq_true q565
      have ea_ := Option.some.inj (hx562_3.symm.trans hx565_3)
      injection ea_ with ea_ en_ ec_
      subst ea_
      subst ec_
      clear en_
      have ea_ := Option.some.inj (hx562_4.symm.trans hx565_4)
      injection ea_ with ea_ en_ ec_
      subst ea_
      subst ec_
      clear en_
      go_wp2
      go_meet
      case rel => exact ⟨_, (true), (by first | rfl | (simp; done) | (simp [*]; done)), H', ⟨by first | omega | exact Nat.le_refl _⟩, ⟨Kd.S_u (Kd.S_mono HO560.out (fun _ hk => hk.2))⟩, ⟨blk_u BK556.out⟩, ⟨blk_u BK557.out⟩, ⟨by repeat (first | exact HB.out | apply below_alloc | apply pw_below_drewN | apply below_drew1 | refine below_set ?_ GE556.out | refine below_set ?_ GE557.out)⟩⟩
    replace c17 := Bool.eq_false_iff.mpr c17
    subst c17
    have H1 : (chirographref07_part.j0 k t558 ((rd_T77 t558 1).f2)) = some (r1, r2, r3, r4) := by rw [if_neg (show ¬ (false = true) by decide)] at H; exact H
    clear H
    have H := H1
    clear H1
    have H' := Aside0.mk H
    clear H
    obtain ⟨Ao19, co19, eo19⟩ := Kd.S_slice HO560.out
    subst eo19
    have p562 : 0 ≤ (0 : Int) := (by omega)
    have q562 : 0 < (t558.length : Int) := of_decide_eq_true (by first | (with_reducible assumption) | assumption)
    obtain ⟨ad562, A562_3, c562_3, A562_4, c562_4, e562, hx562_0, hx562_1, hx562_2, hx562_3, hx562_4, hl562_3, hi562_3, hl562_4, hi562_4⟩ := at_T77 (Kd.S_reads' HO560.out).2.2 0 p562 q562
    (try rw [← Nbq16.out] at hx562_2)
    cases e562
    obtain ⟨ce562, hce562, hMe562, hcc562⟩ := Kd.S_get HO560.out z77 0 p562 (by first | exact q562 | exact of_decide_eq_true (by first | (with_reducible assumption) | assumption) | (have e_ := (Kd.S_reads' HO560.out).1; omega))
    obtain ⟨ve562_3, ve562_4, rfl, ge562_3, ge562_4⟩ := k77_openM hMe562
    have hv562_3 := hcc562 3 _ rfl
    rw [add_field _ _ 3 (by omega)] at hv562_3
    replace hv562_3 := Option.some.inj (hv562_3.symm.trans hx562_3)
    rw [hv562_3] at ge562_3
    have HL562_3 := Aside0.mk (show Kd.R (Kd.int .u8) 5 _ _ _ _ ((rd_T77 t558 0).f3) from ge562_3)
    clear hv562_3 ge562_3
    have hv562_4 := hcc562 4 _ rfl
    rw [add_field _ _ 4 (by omega)] at hv562_4
    replace hv562_4 := Option.some.inj (hv562_4.symm.trans hx562_4)
    rw [hv562_4] at ge562_4
    have HL562_4 := Aside0.mk (show Kd.R (Kd.int .u8) 5 _ _ _ _ ((rd_T77 t558 0).f4) from ge562_4)
    clear hv562_4 ge562_4
    clear hcc562 hce562
    have qi562 : (0 < t558.length) = True := eq_true (by omega)
    (try rw [show ((0 : Int)).toNat = 0 from rfl] at hx562_0)
    (try rw [show 0 * 5 = 0 from rfl] at hx562_0)
    (try rw [Addr.add_zero'] at hx562_0)
    (try rw [show ((0 : Int)).toNat = 0 from rfl] at hx562_1)
    (try rw [show 0 * 5 = 0 from rfl] at hx562_1)
    (try rw [Addr.add_zero'] at hx562_1)
    (try rw [show ((0 : Int)).toNat = 0 from rfl] at hx562_2)
    (try rw [show 0 * 5 = 0 from rfl] at hx562_2)
    (try rw [Addr.add_zero'] at hx562_2)
    (try rw [show ((0 : Int)).toNat = 0 from rfl] at hx562_3)
    (try rw [show 0 * 5 = 0 from rfl] at hx562_3)
    (try rw [Addr.add_zero'] at hx562_3)
    (try rw [show ((0 : Int)).toNat = 0 from rfl] at hx562_4)
    (try rw [show 0 * 5 = 0 from rfl] at hx562_4)
    (try rw [Addr.add_zero'] at hx562_4)
    have HR562_3 := Aside0.mk hi562_3
    have HC562_3 := Aside0.mk hl562_3
    clear hi562_3 hl562_3
    have HR562_4 := Aside0.mk hi562_4
    have HC562_4 := Aside0.mk hl562_4
    clear hi562_4 hl562_4
    replace p562 := eq_true p562
    replace q562 := eq_true q562
    have p563 : 0 ≤ (0 : Int) := (by omega)
    have q563 : 0 < (t558.length : Int) := of_decide_eq_true (by first | (with_reducible assumption) | assumption)
    obtain ⟨ad563, A563_3, c563_3, A563_4, c563_4, e563, hx563_0, hx563_1, hx563_2, hx563_3, hx563_4, hl563_3, hi563_3, hl563_4, hi563_4⟩ := at_T77 (Kd.S_reads' HO560.out).2.2 0 p563 q563
    (try rw [← Nbq16.out] at hx563_2)
    obtain rfl : ad562 = ad563 := (by injection e563)
    obtain ⟨ce563, hce563, hMe563, hcc563⟩ := Kd.S_get HO560.out z77 0 p563 (by first | exact q563 | exact of_decide_eq_true (by first | (with_reducible assumption) | assumption) | (have e_ := (Kd.S_reads' HO560.out).1; omega))
    obtain ⟨ve563_3, ve563_4, rfl, ge563_3, ge563_4⟩ := k77_openM hMe563
    have hv563_3 := hcc563 3 _ rfl
    rw [add_field _ _ 3 (by omega)] at hv563_3
    replace hv563_3 := Option.some.inj (hv563_3.symm.trans hx563_3)
    rw [hv563_3] at ge563_3
    have HL563_3 := Aside0.mk (show Kd.R (Kd.int .u8) 5 _ _ _ _ ((rd_T77 t558 0).f3) from ge563_3)
    clear hv563_3 ge563_3
    have hv563_4 := hcc563 4 _ rfl
    rw [add_field _ _ 4 (by omega)] at hv563_4
    replace hv563_4 := Option.some.inj (hv563_4.symm.trans hx563_4)
    rw [hv563_4] at ge563_4
    have HL563_4 := Aside0.mk (show Kd.R (Kd.int .u8) 5 _ _ _ _ ((rd_T77 t558 0).f4) from ge563_4)
    clear hv563_4 ge563_4
    clear hcc563 hce563
    have qi563 : (0 < t558.length) = True := eq_true (by omega)
    (try rw [show ((0 : Int)).toNat = 0 from rfl] at hx563_0)
    (try rw [show 0 * 5 = 0 from rfl] at hx563_0)
    (try rw [Addr.add_zero'] at hx563_0)
    (try rw [show ((0 : Int)).toNat = 0 from rfl] at hx563_1)
    (try rw [show 0 * 5 = 0 from rfl] at hx563_1)
    (try rw [Addr.add_zero'] at hx563_1)
    (try rw [show ((0 : Int)).toNat = 0 from rfl] at hx563_2)
    (try rw [show 0 * 5 = 0 from rfl] at hx563_2)
    (try rw [Addr.add_zero'] at hx563_2)
    (try rw [show ((0 : Int)).toNat = 0 from rfl] at hx563_3)
    (try rw [show 0 * 5 = 0 from rfl] at hx563_3)
    (try rw [Addr.add_zero'] at hx563_3)
    (try rw [show ((0 : Int)).toNat = 0 from rfl] at hx563_4)
    (try rw [show 0 * 5 = 0 from rfl] at hx563_4)
    (try rw [Addr.add_zero'] at hx563_4)
    have HR563_3 := Aside0.mk hi563_3
    have HC563_3 := Aside0.mk hl563_3
    clear hi563_3 hl563_3
    have HR563_4 := Aside0.mk hi563_4
    have HC563_4 := Aside0.mk hl563_4
    clear hi563_4 hl563_4
    replace p563 := eq_true p563
    replace q563 := eq_true q563
    have ea_ := Option.some.inj (hx562_3.symm.trans hx563_3)
    injection ea_ with ea_ en_ ec_
    subst ea_
    subst ec_
    clear en_
    have ea_ := Option.some.inj (hx562_4.symm.trans hx563_4)
    injection ea_ with ea_ en_ ec_
    subst ea_
    subst ec_
    clear en_
    have p564 : 0 ≤ (1 : Int) := (by omega)
    have q564 : 1 < (t558.length : Int) := of_decide_eq_true (by first | (with_reducible assumption) | assumption)
    obtain ⟨ad564, A564_3, c564_3, A564_4, c564_4, e564, hx564_0, hx564_1, hx564_2, hx564_3, hx564_4, hl564_3, hi564_3, hl564_4, hi564_4⟩ := at_T77 (Kd.S_reads' HO560.out).2.2 1 p564 q564
    (try rw [← Nbq16.out] at hx564_2)
    obtain rfl : ad562 = ad564 := (by injection e564)
    obtain ⟨ce564, hce564, hMe564, hcc564⟩ := Kd.S_get HO560.out z77 1 p564 (by first | exact q564 | exact of_decide_eq_true (by first | (with_reducible assumption) | assumption) | (have e_ := (Kd.S_reads' HO560.out).1; omega))
    obtain ⟨ve564_3, ve564_4, rfl, ge564_3, ge564_4⟩ := k77_openM hMe564
    have hv564_3 := hcc564 3 _ rfl
    rw [add_field _ _ 3 (by omega)] at hv564_3
    replace hv564_3 := Option.some.inj (hv564_3.symm.trans hx564_3)
    rw [hv564_3] at ge564_3
    have HL564_3 := Aside0.mk (show Kd.R (Kd.int .u8) 5 _ _ _ _ ((rd_T77 t558 1).f3) from ge564_3)
    clear hv564_3 ge564_3
    have hv564_4 := hcc564 4 _ rfl
    rw [add_field _ _ 4 (by omega)] at hv564_4
    replace hv564_4 := Option.some.inj (hv564_4.symm.trans hx564_4)
    rw [hv564_4] at ge564_4
    have HL564_4 := Aside0.mk (show Kd.R (Kd.int .u8) 5 _ _ _ _ ((rd_T77 t558 1).f4) from ge564_4)
    clear hv564_4 ge564_4
    clear hcc564 hce564
    (try simp only [show (1 : Int).toNat = 1 from rfl, Nat.reduceMul, Nat.reduceEqDiff, Go.Addr.add, ↓reduceIte] at hx564_0)
    (try simp only [show (1 : Int).toNat = 1 from rfl, Nat.reduceMul, Nat.reduceEqDiff, Go.Addr.add, ↓reduceIte] at hx564_1)
    (try simp only [show (1 : Int).toNat = 1 from rfl, Nat.reduceMul, Nat.reduceEqDiff, Go.Addr.add, ↓reduceIte] at hx564_2)
    (try simp only [show (1 : Int).toNat = 1 from rfl, Nat.reduceMul, Nat.reduceEqDiff, Go.Addr.add, ↓reduceIte] at hx564_3)
    (try simp only [show (1 : Int).toNat = 1 from rfl, Nat.reduceMul, Nat.reduceEqDiff, Go.Addr.add, ↓reduceIte] at hx564_4)
    have qi564 : (1 < t558.length) = True := eq_true (by omega)
    (try rw [show ((1 : Int)).toNat = 1 from rfl] at hx564_0)
    (try rw [show 1 * 5 = 5 from rfl] at hx564_0)
    (try rw [show ((1 : Int)).toNat = 1 from rfl] at hx564_1)
    (try rw [show 1 * 5 = 5 from rfl] at hx564_1)
    (try rw [show ((1 : Int)).toNat = 1 from rfl] at hx564_2)
    (try rw [show 1 * 5 = 5 from rfl] at hx564_2)
    (try rw [show ((1 : Int)).toNat = 1 from rfl] at hx564_3)
    (try rw [show 1 * 5 = 5 from rfl] at hx564_3)
    (try rw [show ((1 : Int)).toNat = 1 from rfl] at hx564_4)
    (try rw [show 1 * 5 = 5 from rfl] at hx564_4)
    have HR564_3 := Aside0.mk hi564_3
    have HC564_3 := Aside0.mk hl564_3
    clear hi564_3 hl564_3
    have HR564_4 := Aside0.mk hi564_4
    have HC564_4 := Aside0.mk hl564_4
    clear hi564_4 hl564_4
    replace p564 := eq_true p564
    replace q564 := eq_true q564
    have p565 : 0 ≤ (0 : Int) := (by omega)
    have q565 : 0 < (t558.length : Int) := of_decide_eq_true (by first | (with_reducible assumption) | assumption)
    obtain ⟨ad565, A565_3, c565_3, A565_4, c565_4, e565, hx565_0, hx565_1, hx565_2, hx565_3, hx565_4, hl565_3, hi565_3, hl565_4, hi565_4⟩ := at_T77 (Kd.S_reads' HO560.out).2.2 0 p565 q565
    (try rw [← Nbq16.out] at hx565_2)
    obtain rfl : ad562 = ad565 := (by injection e565)
    obtain ⟨ce565, hce565, hMe565, hcc565⟩ := Kd.S_get HO560.out z77 0 p565 (by first | exact q565 | exact of_decide_eq_true (by first | (with_reducible assumption) | assumption) | (have e_ := (Kd.S_reads' HO560.out).1; omega))
    obtain ⟨ve565_3, ve565_4, rfl, ge565_3, ge565_4⟩ := k77_openM hMe565
    have hv565_3 := hcc565 3 _ rfl
    rw [add_field _ _ 3 (by omega)] at hv565_3
    replace hv565_3 := Option.some.inj (hv565_3.symm.trans hx565_3)
    rw [hv565_3] at ge565_3
    have HL565_3 := Aside0.mk (show Kd.R (Kd.int .u8) 5 _ _ _ _ ((rd_T77 t558 0).f3) from ge565_3)
    clear hv565_3 ge565_3
    have hv565_4 := hcc565 4 _ rfl
    rw [add_field _ _ 4 (by omega)] at hv565_4
    replace hv565_4 := Option.some.inj (hv565_4.symm.trans hx565_4)
    rw [hv565_4] at ge565_4
    have HL565_4 := Aside0.mk (show Kd.R (Kd.int .u8) 5 _ _ _ _ ((rd_T77 t558 0).f4) from ge565_4)
    clear hv565_4 ge565_4
    clear hcc565 hce565
    have qi565 : (0 < t558.length) = True := eq_true (by omega)
    (try rw [show ((0 : Int)).toNat = 0 from rfl] at hx565_0)
    (try rw [show 0 * 5 = 0 from rfl] at hx565_0)
    (try rw [Addr.add_zero'] at hx565_0)
    (try rw [show ((0 : Int)).toNat = 0 from rfl] at hx565_1)
    (try rw [show 0 * 5 = 0 from rfl] at hx565_1)
    (try rw [Addr.add_zero'] at hx565_1)
    (try rw [show ((0 : Int)).toNat = 0 from rfl] at hx565_2)
    (try rw [show 0 * 5 = 0 from rfl] at hx565_2)
    (try rw [Addr.add_zero'] at hx565_2)
    (try rw [show ((0 : Int)).toNat = 0 from rfl] at hx565_3)
    (try rw [show 0 * 5 = 0 from rfl] at hx565_3)
    (try rw [Addr.add_zero'] at hx565_3)
    (try rw [show ((0 : Int)).toNat = 0 from rfl] at hx565_4)
    (try rw [show 0 * 5 = 0 from rfl] at hx565_4)
    (try rw [Addr.add_zero'] at hx565_4)
    have HR565_3 := Aside0.mk hi565_3
    have HC565_3 := Aside0.mk hl565_3
    clear hi565_3 hl565_3
    have HR565_4 := Aside0.mk hi565_4
    have HC565_4 := Aside0.mk hl565_4
    clear hi565_4 hl565_4
    replace p565 := eq_true p565
    replace q565 := eq_true q565
    have ea_ := Option.some.inj (hx562_3.symm.trans hx565_3)
    injection ea_ with ea_ en_ ec_
    subst ea_
    subst ec_
    clear en_
    have ea_ := Option.some.inj (hx562_4.symm.trans hx565_4)
    injection ea_ with ea_ en_ ec_
    subst ea_
    subst ec_
    clear en_
    have p566 : 0 ≤ (1 : Int) := (by omega)
    have q566 : 1 < (t558.length : Int) := of_decide_eq_true (by first | (with_reducible assumption) | assumption)
    obtain ⟨ad566, A566_3, c566_3, A566_4, c566_4, e566, hx566_0, hx566_1, hx566_2, hx566_3, hx566_4, hl566_3, hi566_3, hl566_4, hi566_4⟩ := at_T77 (Kd.S_reads' HO560.out).2.2 1 p566 q566
    (try rw [← Nbq16.out] at hx566_2)
    obtain rfl : ad562 = ad566 := (by injection e566)
    obtain ⟨ce566, hce566, hMe566, hcc566⟩ := Kd.S_get HO560.out z77 1 p566 (by first | exact q566 | exact of_decide_eq_true (by first | (with_reducible assumption) | assumption) | (have e_ := (Kd.S_reads' HO560.out).1; omega))
    obtain ⟨ve566_3, ve566_4, rfl, ge566_3, ge566_4⟩ := k77_openM hMe566
    have hv566_3 := hcc566 3 _ rfl
    rw [add_field _ _ 3 (by omega)] at hv566_3
    replace hv566_3 := Option.some.inj (hv566_3.symm.trans hx566_3)
    rw [hv566_3] at ge566_3
    have HL566_3 := Aside0.mk (show Kd.R (Kd.int .u8) 5 _ _ _ _ ((rd_T77 t558 1).f3) from ge566_3)
    clear hv566_3 ge566_3
    have hv566_4 := hcc566 4 _ rfl
    rw [add_field _ _ 4 (by omega)] at hv566_4
    replace hv566_4 := Option.some.inj (hv566_4.symm.trans hx566_4)
    rw [hv566_4] at ge566_4
    have HL566_4 := Aside0.mk (show Kd.R (Kd.int .u8) 5 _ _ _ _ ((rd_T77 t558 1).f4) from ge566_4)
    clear hv566_4 ge566_4
    clear hcc566 hce566
    (try simp only [show (1 : Int).toNat = 1 from rfl, Nat.reduceMul, Nat.reduceEqDiff, Go.Addr.add, ↓reduceIte] at hx566_0)
    (try simp only [show (1 : Int).toNat = 1 from rfl, Nat.reduceMul, Nat.reduceEqDiff, Go.Addr.add, ↓reduceIte] at hx566_1)
    (try simp only [show (1 : Int).toNat = 1 from rfl, Nat.reduceMul, Nat.reduceEqDiff, Go.Addr.add, ↓reduceIte] at hx566_2)
    (try simp only [show (1 : Int).toNat = 1 from rfl, Nat.reduceMul, Nat.reduceEqDiff, Go.Addr.add, ↓reduceIte] at hx566_3)
    (try simp only [show (1 : Int).toNat = 1 from rfl, Nat.reduceMul, Nat.reduceEqDiff, Go.Addr.add, ↓reduceIte] at hx566_4)
    have qi566 : (1 < t558.length) = True := eq_true (by omega)
    (try rw [show ((1 : Int)).toNat = 1 from rfl] at hx566_0)
    (try rw [show 1 * 5 = 5 from rfl] at hx566_0)
    (try rw [show ((1 : Int)).toNat = 1 from rfl] at hx566_1)
    (try rw [show 1 * 5 = 5 from rfl] at hx566_1)
    (try rw [show ((1 : Int)).toNat = 1 from rfl] at hx566_2)
    (try rw [show 1 * 5 = 5 from rfl] at hx566_2)
    (try rw [show ((1 : Int)).toNat = 1 from rfl] at hx566_3)
    (try rw [show 1 * 5 = 5 from rfl] at hx566_3)
    (try rw [show ((1 : Int)).toNat = 1 from rfl] at hx566_4)
    (try rw [show 1 * 5 = 5 from rfl] at hx566_4)
    have HR566_3 := Aside0.mk hi566_3
    have HC566_3 := Aside0.mk hl566_3
    clear hi566_3 hl566_3
    have HR566_4 := Aside0.mk hi566_4
    have HC566_4 := Aside0.mk hl566_4
    clear hi566_4 hl566_4
    replace p566 := eq_true p566
    replace q566 := eq_true q566
    have ea_ := Option.some.inj (hx564_3.symm.trans hx566_3)
    injection ea_ with ea_ en_ ec_
    subst ea_
    subst ec_
    clear en_
    have ea_ := Option.some.inj (hx564_4.symm.trans hx566_4)
    injection ea_ with ea_ en_ ec_
    subst ea_
    subst ec_
    clear en_
    go_wp2
    go_meet
    case rel => exact ⟨_, ((rd_T77 t558 1).f2), (by first | rfl | (simp; done) | (simp [*]; done)), H', ⟨by first | omega | exact Nat.le_refl _⟩, ⟨Kd.S_u (Kd.S_mono HO560.out (fun _ hk => hk.2))⟩, ⟨blk_u BK556.out⟩, ⟨blk_u BK557.out⟩, ⟨by repeat (first | exact HB.out | apply below_alloc | apply pw_below_drewN | apply below_drew1 | refine below_set ?_ GE556.out | refine below_set ?_ GE557.out)⟩⟩
  clear HC4
  try clear c1
  try clear q1
  try clear p2
  try clear c5
  try clear p5
  try clear q5
  try clear hx5
  try clear qi5
  try clear c10
  try clear c10b0
  try clear c10b1
  try clear c11
  try clear c12
  try clear c12b0
  try clear c12b1
  try clear c13
  try clear c13b0
  try clear c13b1
  try clear c14
  try clear c15
  try clear c15b0
  try clear c15b1
  try clear q16
  try clear c17
  try clear hx562_0
  try clear hx562_1
  try clear hx562_2
  try clear hx562_3
  try clear hx562_4
  try clear hx563_0
  try clear hx563_1
  try clear hx563_2
  try clear hx563_3
  try clear hx563_4
  try clear hx564_0
  try clear hx564_1
  try clear hx564_2
  try clear hx564_3
  try clear hx564_4
  try clear hx565_0
  try clear hx565_1
  try clear hx565_2
  try clear hx565_3
  try clear hx565_4
  try clear hx566_0
  try clear hx566_1
  try clear hx566_2
  try clear hx566_3
  try clear hx566_4
  try clear p562
  try clear p563
  try clear p564
  try clear p565
  try clear p566
  try clear q562
  try clear q563
  try clear q564
  try clear q565
  try clear q566
  obtain ⟨kq, x51_3, rfl, HA, HJ3, HO_4, BK556, BK557, HB⟩ := hcut
  cases kq with
  | zero => exact absurd HA.out (by simp [chirographref07_part.j0])
  | succ kj3 =>
    have H := HA.out
    clear HA
    simp only [chirographref07_part.j0] at H
    by_cases c24 : x51_3 = true
    · subst c24
      have H1 : (some ((⟨#[]⟩ : ByteArray), 0, ([] : List Int), 30)) = some (r1, r2, r3, r4) := by rw [if_pos rfl] at H; exact H
      clear H
      have H := H1
      clear H1
      simp only [Option.some.injEq, Prod.mk.injEq] at H
      obtain ⟨rfl, rfl, rfl, rfl⟩ := H
      have hnb25 := NB557_556.out
      have hnc25 := NB556_557.out
      have hcz26_0 : wc.cell? ⟨gb557, 0, none⟩ = some (.string (⟨#[]⟩ : ByteArray)) := (blk_cell BK557.out 0).trans rfl
      have hcz26_1 : wc.cell? ⟨gb557, 1, none⟩ = some (.int .i64 0) := (blk_cell BK557.out 1).trans rfl
      have hcz26_2 : wc.cell? ⟨gb557, 2, none⟩ = some (.slice none 0 0) := (blk_cell BK557.out 2).trans rfl
      have hfz26_0 := blk_frozen BK557.out 0
      have hfz26_1 := blk_frozen BK557.out 1
      have hfz26_2 := blk_frozen BK557.out 2
      go_wp2
      refine bodyPost_ret (results_ct rfl _ _ gb557 64 #[.string (⟨#[]⟩ : ByteArray), .int .i64 0, .slice none 0 0] (0, 0) _ rfl (by (with_reducible repeat (first | refine blk_drewN ?_ _ | refine blk_drew ?_ | refine blk_alloc ?_ _)); refine blk_put (cs := #[.string (⟨#[]⟩ : ByteArray), .int .i64 0, .slice none 0 0]) ?_ 2 _ rfl; (with_reducible repeat (first | refine blk_drewN ?_ _ | refine blk_drew ?_ | refine blk_alloc ?_ _)); refine blk_put (cs := #[.string (⟨#[]⟩ : ByteArray), .int .i64 0, .slice none 0 0]) ?_ 1 _ rfl; (with_reducible repeat (first | refine blk_drewN ?_ _ | refine blk_drew ?_ | refine blk_alloc ?_ _)); refine blk_put (cs := #[.string (⟨#[]⟩ : ByteArray), .int .i64 0, .slice none 0 0]) ?_ 0 _ rfl; (with_reducible repeat (first | refine blk_drewN ?_ _ | refine blk_drew ?_ | refine blk_alloc ?_ _)); exact BK557.out) Tryz.underlying64 rfl (by kernel_rfl)) rfl ?_
      exact ⟨_, by first | rfl | (simp [errW_none, errW_some] <;> rfl), by first | exact Kd.R_nil _ _ _ _ _ | exact Kd.N_nil _ _ _ _ _ | exact Kd.V_nil _ _ _ _ _ | exact Kd.Q_nil _ _ _ _ _ | exact Kd.S_nil _ _ _ _ _, by repeat (first | exact HB.out | apply below_alloc | apply pw_below_drewN | apply below_drew1 | refine below_set ?_ GE556.out | refine below_set ?_ GE557.out)⟩
    replace c24 := Bool.eq_false_iff.mpr c24
    subst c24
    have H1 : (if 0 < (t558.length : Int) then ((chirographref04_Oid.f kj3 ((rd_T77 t558 0).f3)).bind fun bt568 => (if bt568.2 = 0 then (if 1 < (t558.length : Int) then (some (bt568.1, (rd_T77 t558 1).f1, (rd_T77 t558 1).f3, 0)) else (none)) else (some ((⟨#[]⟩ : ByteArray), 0, ([] : List Int), bt568.2)))) else (none)) = some (r1, r2, r3, r4) := by rw [if_neg (show ¬ (false = true) by decide)] at H; exact H
    clear H
    have H := H1
    clear H1
    by_cases c27 : 0 < (t558.length : Int)
    rotate_left
    · rw [if_neg c27] at H
      exact absurd H (by simp)
    rw [if_pos c27] at H
    have c27b0 : decide (0 < (t558.length : Int)) = true := decide_eq_true c27
    have c27b1 : decide (0 < t558.length) = true := decide_eq_true (by omega)
    clear c27
    replace H := Option.bind_eq_some_iff.mp H
    obtain ⟨⟨t568, t569⟩, A280, H⟩ := H
    try dsimp only at H
    have A28 := Aside0.mk A280
    clear A280
    by_cases c29 : t569 = 0
    rotate_left
    · rw [if_neg c29] at H
      have c29b0 : (t569 == 0) = false := beq_eq_false_iff_ne.mpr c29
      have c29b1 : (t569 != 0) = true := bne_iff_ne.mpr c29
      simp only [Option.some.injEq, Prod.mk.injEq] at H
      obtain ⟨rfl, rfl, rfl, rfl⟩ := H
      obtain ⟨Ao37, co37, eo37⟩ := Kd.S_slice HO_4.out
      subst eo37
      have p567 : 0 ≤ (0 : Int) := (by omega)
      have q567 : 0 < (t558.length : Int) := of_decide_eq_true (by first | (with_reducible assumption) | assumption)
      obtain ⟨ad567, A567_3, c567_3, A567_4, c567_4, e567, hx567_0, hx567_1, hx567_2, hx567_3, hx567_4, hl567_3, hi567_3, hl567_4, hi567_4⟩ := at_T77 (Kd.S_reads' HO_4.out).2.2 0 p567 q567
      cases e567
      obtain ⟨ce567, hce567, hMe567, hcc567⟩ := Kd.S_get HO_4.out z77 0 p567 (by first | exact q567 | exact of_decide_eq_true (by first | (with_reducible assumption) | assumption) | (have e_ := (Kd.S_reads' HO_4.out).1; omega))
      obtain ⟨ve567_3, ve567_4, rfl, ge567_3, ge567_4⟩ := k77_openM hMe567
      have hv567_3 := hcc567 3 _ rfl
      rw [add_field _ _ 3 (by omega)] at hv567_3
      replace hv567_3 := Option.some.inj (hv567_3.symm.trans hx567_3)
      rw [hv567_3] at ge567_3
      have HL567_3 := Aside0.mk (show Kd.R (Kd.int .u8) 5 _ _ _ _ ((rd_T77 t558 0).f3) from ge567_3)
      clear hv567_3 ge567_3
      have hv567_4 := hcc567 4 _ rfl
      rw [add_field _ _ 4 (by omega)] at hv567_4
      replace hv567_4 := Option.some.inj (hv567_4.symm.trans hx567_4)
      rw [hv567_4] at ge567_4
      have HL567_4 := Aside0.mk (show Kd.R (Kd.int .u8) 5 _ _ _ _ ((rd_T77 t558 0).f4) from ge567_4)
      clear hv567_4 ge567_4
      clear hcc567 hce567
      have qi567 : (0 < t558.length) = True := eq_true (by omega)
      (try rw [show ((0 : Int)).toNat = 0 from rfl] at hx567_0)
      (try rw [show 0 * 5 = 0 from rfl] at hx567_0)
      (try rw [Addr.add_zero'] at hx567_0)
      (try rw [show ((0 : Int)).toNat = 0 from rfl] at hx567_1)
      (try rw [show 0 * 5 = 0 from rfl] at hx567_1)
      (try rw [Addr.add_zero'] at hx567_1)
      (try rw [show ((0 : Int)).toNat = 0 from rfl] at hx567_2)
      (try rw [show 0 * 5 = 0 from rfl] at hx567_2)
      (try rw [Addr.add_zero'] at hx567_2)
      (try rw [show ((0 : Int)).toNat = 0 from rfl] at hx567_3)
      (try rw [show 0 * 5 = 0 from rfl] at hx567_3)
      (try rw [Addr.add_zero'] at hx567_3)
      (try rw [show ((0 : Int)).toNat = 0 from rfl] at hx567_4)
      (try rw [show 0 * 5 = 0 from rfl] at hx567_4)
      (try rw [Addr.add_zero'] at hx567_4)
      have HR567_3 := Aside0.mk hi567_3
      have HC567_3 := Aside0.mk hl567_3
      clear hi567_3 hl567_3
      have HR567_4 := Aside0.mk hi567_4
      have HC567_4 := Aside0.mk hl567_4
      clear hi567_4 hl567_4
      replace p567 := eq_true p567
      replace q567 := eq_true q567
      go_wp2_with (first | ((with_reducible refine gate_callee (f := 146) rfl ?_); refine goesL_ (some 58) rfl rfl Tryz.func146 (by kernel_rfl) rfl #[.slice A567_3 ((rd_T77 t558 0).f3).length c567_3] rfl (by (try simp only [List.map_toArray, List.map_cons, List.map_nil]); first | done | rfl | (simp only [List.length_drop, List.length_take]; rfl)) ?_; (with_reducible refine (chirographref04_Oid.calls kj3 _ _ ((rd_T77 t558 0).f3) t568 t569 _ ?side1 ?side2 A28.out).mono ?_); (case side1 => repeat (first | exact (by exact Kd.C_u HR567_3.out) | (with_reducible refine Kd.C_alloc ?_ _) | (with_reducible refine Kd.C_drewN ?_ _) | (with_reducible refine Kd.C_drew ?_))); (case side2 => exact HC567_3.out); rintro e w38 ⟨rfl, hb⟩; refine ⟨_, rfl, ?_⟩; have n0_ := Aside0.mk (Kd.S_below (Kd.S_u HO_4.out) hb); have n1_ := Aside0.mk (Kd.R_below (Kd.R_u HL567_3.out) hb); have n2_ := Aside0.mk (Kd.R_below (Kd.R_u HL567_4.out) hb); have n3_ := Aside0.mk (blk_below (blk_u BK556.out) hb); have n4_ := Aside0.mk (blk_below (g := gb557) (o := .cells #[.string (⟨#[]⟩ : ByteArray), .int .i64 0, .slice none 0 0] 64 (0, 0)) (blk_u BK557.out) hb); have n5_ := Aside0.mk (Kd.C_below (by exact Kd.C_u HR567_3.out) hb); have n6_ := Aside0.mk (Kd.C_below (by exact Kd.C_u HR567_4.out) hb); have n7_ := Aside0.mk (below_step (by repeat (first | exact HB.out | apply below_alloc | apply pw_below_drewN | apply below_drew1 | refine below_set ?_ GE556.out | refine below_set ?_ GE557.out)) hb); clear HO_4; clear HL567_3; clear HL567_4; clear BK556; clear BK557; clear HR567_3; clear HR567_4; clear HB; have HO_4 := n0_; have HL567_3 := n1_; have HL567_4 := n2_; have BK556 := n3_; have BK557 := n4_; have HR567_3 := n5_; have HR567_4 := n6_; have HB := n7_; clear n0_ n1_ n2_ n3_ n4_ n5_ n6_ n7_; (try clear hb); (try clear hb2); (try clear hk); (try clear hi); have hnb39 := NB557_556.out; have hnc39 := NB556_557.out; have hcz40_0 : w38.cell? ⟨gb557, 0, none⟩ = some (.string (⟨#[]⟩ : ByteArray)) := (blk_cell BK557.out 0).trans rfl; have hcz40_1 : w38.cell? ⟨gb557, 1, none⟩ = some (.int .i64 0) := (blk_cell BK557.out 1).trans rfl; have hcz40_2 : w38.cell? ⟨gb557, 2, none⟩ = some (.slice none 0 0) := (blk_cell BK557.out 2).trans rfl; have hfz40_0 := blk_frozen BK557.out 0; have hfz40_1 := blk_frozen BK557.out 1; have hfz40_2 := blk_frozen BK557.out 2))
      refine bodyPost_ret (results_ct rfl _ _ gb557 64 #[.string (⟨#[]⟩ : ByteArray), .int .i64 0, .slice none 0 0] (0, 0) _ rfl (by (with_reducible repeat (first | refine blk_drewN ?_ _ | refine blk_drew ?_ | refine blk_alloc ?_ _)); refine blk_put (cs := #[.string (⟨#[]⟩ : ByteArray), .int .i64 0, .slice none 0 0]) ?_ 2 _ rfl; (with_reducible repeat (first | refine blk_drewN ?_ _ | refine blk_drew ?_ | refine blk_alloc ?_ _)); refine blk_put (cs := #[.string (⟨#[]⟩ : ByteArray), .int .i64 0, .slice none 0 0]) ?_ 1 _ rfl; (with_reducible repeat (first | refine blk_drewN ?_ _ | refine blk_drew ?_ | refine blk_alloc ?_ _)); refine blk_put (cs := #[.string (⟨#[]⟩ : ByteArray), .int .i64 0, .slice none 0 0]) ?_ 0 _ rfl; (with_reducible repeat (first | refine blk_drewN ?_ _ | refine blk_drew ?_ | refine blk_alloc ?_ _)); exact BK557.out) Tryz.underlying64 rfl (by kernel_rfl)) rfl ?_
      exact ⟨_, by first | rfl | (simp [errW_none, errW_some] <;> rfl), by first | exact Kd.R_nil _ _ _ _ _ | exact Kd.N_nil _ _ _ _ _ | exact Kd.V_nil _ _ _ _ _ | exact Kd.Q_nil _ _ _ _ _ | exact Kd.S_nil _ _ _ _ _, by repeat (first | exact HB.out | apply below_alloc | apply pw_below_drewN | apply below_drew1 | refine below_set ?_ GE556.out | refine below_set ?_ GE557.out)⟩
    rw [if_pos c29] at H
    have c29b0 : (t569 == 0) = true := beq_iff_eq.mpr c29
    have c29b1 : (t569 != 0) = false := bne_eq_false_iff_eq.mpr c29
    clear c29
    by_cases c30 : 1 < (t558.length : Int)
    rotate_left
    · rw [if_neg c30] at H
      exact absurd H (by simp)
    rw [if_pos c30] at H
    have c30b0 : decide (1 < (t558.length : Int)) = true := decide_eq_true c30
    have c30b1 : decide (1 < t558.length) = true := decide_eq_true (by omega)
    clear c30
    simp only [Option.some.injEq, Prod.mk.injEq] at H
    obtain ⟨rfl, rfl, rfl, rfl⟩ := H
    obtain ⟨Ao31, co31, eo31⟩ := Kd.S_slice HO_4.out
    subst eo31
    have p567 : 0 ≤ (0 : Int) := (by omega)
    have q567 : 0 < (t558.length : Int) := of_decide_eq_true (by first | (with_reducible assumption) | assumption)
    obtain ⟨ad567, A567_3, c567_3, A567_4, c567_4, e567, hx567_0, hx567_1, hx567_2, hx567_3, hx567_4, hl567_3, hi567_3, hl567_4, hi567_4⟩ := at_T77 (Kd.S_reads' HO_4.out).2.2 0 p567 q567
    cases e567
    obtain ⟨ce567, hce567, hMe567, hcc567⟩ := Kd.S_get HO_4.out z77 0 p567 (by first | exact q567 | exact of_decide_eq_true (by first | (with_reducible assumption) | assumption) | (have e_ := (Kd.S_reads' HO_4.out).1; omega))
    obtain ⟨ve567_3, ve567_4, rfl, ge567_3, ge567_4⟩ := k77_openM hMe567
    have hv567_3 := hcc567 3 _ rfl
    rw [add_field _ _ 3 (by omega)] at hv567_3
    replace hv567_3 := Option.some.inj (hv567_3.symm.trans hx567_3)
    rw [hv567_3] at ge567_3
    have HL567_3 := Aside0.mk (show Kd.R (Kd.int .u8) 5 _ _ _ _ ((rd_T77 t558 0).f3) from ge567_3)
    clear hv567_3 ge567_3
    have hv567_4 := hcc567 4 _ rfl
    rw [add_field _ _ 4 (by omega)] at hv567_4
    replace hv567_4 := Option.some.inj (hv567_4.symm.trans hx567_4)
    rw [hv567_4] at ge567_4
    have HL567_4 := Aside0.mk (show Kd.R (Kd.int .u8) 5 _ _ _ _ ((rd_T77 t558 0).f4) from ge567_4)
    clear hv567_4 ge567_4
    clear hcc567 hce567
    have qi567 : (0 < t558.length) = True := eq_true (by omega)
    (try rw [show ((0 : Int)).toNat = 0 from rfl] at hx567_0)
    (try rw [show 0 * 5 = 0 from rfl] at hx567_0)
    (try rw [Addr.add_zero'] at hx567_0)
    (try rw [show ((0 : Int)).toNat = 0 from rfl] at hx567_1)
    (try rw [show 0 * 5 = 0 from rfl] at hx567_1)
    (try rw [Addr.add_zero'] at hx567_1)
    (try rw [show ((0 : Int)).toNat = 0 from rfl] at hx567_2)
    (try rw [show 0 * 5 = 0 from rfl] at hx567_2)
    (try rw [Addr.add_zero'] at hx567_2)
    (try rw [show ((0 : Int)).toNat = 0 from rfl] at hx567_3)
    (try rw [show 0 * 5 = 0 from rfl] at hx567_3)
    (try rw [Addr.add_zero'] at hx567_3)
    (try rw [show ((0 : Int)).toNat = 0 from rfl] at hx567_4)
    (try rw [show 0 * 5 = 0 from rfl] at hx567_4)
    (try rw [Addr.add_zero'] at hx567_4)
    have HR567_3 := Aside0.mk hi567_3
    have HC567_3 := Aside0.mk hl567_3
    clear hi567_3 hl567_3
    have HR567_4 := Aside0.mk hi567_4
    have HC567_4 := Aside0.mk hl567_4
    clear hi567_4 hl567_4
    replace p567 := eq_true p567
    replace q567 := eq_true q567
    try go_wp2_with (first | ((with_reducible refine gate_callee (f := 146) rfl ?_); refine goesL_ (some 58) rfl rfl Tryz.func146 (by kernel_rfl) rfl #[.slice A567_3 ((rd_T77 t558 0).f3).length c567_3] rfl (by (try simp only [List.map_toArray, List.map_cons, List.map_nil]); first | done | rfl | (simp only [List.length_drop, List.length_take]; rfl)) ?_; (with_reducible refine (chirographref04_Oid.calls kj3 _ _ ((rd_T77 t558 0).f3) t568 t569 _ ?side1 ?side2 A28.out).mono ?_); (case side1 => repeat (first | exact (by exact Kd.C_u HR567_3.out) | (with_reducible refine Kd.C_alloc ?_ _) | (with_reducible refine Kd.C_drewN ?_ _) | (with_reducible refine Kd.C_drew ?_))); (case side2 => exact HC567_3.out); rintro e w32 ⟨rfl, hb⟩; refine ⟨_, rfl, ?_⟩; have n0_ := Aside0.mk (Kd.S_below (Kd.S_u HO_4.out) hb); have n1_ := Aside0.mk (Kd.R_below (Kd.R_u HL567_3.out) hb); have n2_ := Aside0.mk (Kd.R_below (Kd.R_u HL567_4.out) hb); have n3_ := Aside0.mk (blk_below (blk_u BK556.out) hb); have n4_ := Aside0.mk (blk_below (g := gb557) (o := .cells #[.string (⟨#[]⟩ : ByteArray), .int .i64 0, .slice none 0 0] 64 (0, 0)) (blk_u BK557.out) hb); have n5_ := Aside0.mk (Kd.C_below (by exact Kd.C_u HR567_3.out) hb); have n6_ := Aside0.mk (Kd.C_below (by exact Kd.C_u HR567_4.out) hb); have n7_ := Aside0.mk (below_step (by repeat (first | exact HB.out | apply below_alloc | apply pw_below_drewN | apply below_drew1 | refine below_set ?_ GE556.out | refine below_set ?_ GE557.out)) hb); clear HO_4; clear HL567_3; clear HL567_4; clear BK556; clear BK557; clear HR567_3; clear HR567_4; clear HB; have HO_4 := n0_; have HL567_3 := n1_; have HL567_4 := n2_; have BK556 := n3_; have BK557 := n4_; have HR567_3 := n5_; have HR567_4 := n6_; have HB := n7_; clear n0_ n1_ n2_ n3_ n4_ n5_ n6_ n7_; (try clear hb); (try clear hb2); (try clear hk); (try clear hi)))
    have n0_ := Aside0.mk (Kd.S_drew HO_4.out)
    have n1_ := Aside0.mk (Kd.R_drew HL567_3.out)
    have n2_ := Aside0.mk (Kd.R_drew HL567_4.out)
    have n3_ := Aside0.mk (blk_drew BK556.out)
    have n4_ := Aside0.mk (blk_drew BK557.out)
    have n5_ := Aside0.mk (Kd.C_drew HR567_3.out)
    have n6_ := Aside0.mk (Kd.C_drew HR567_4.out)
    have n7_ := Aside0.mk (below_drew1 HB.out)
    clear HO_4
    clear HL567_3
    clear HL567_4
    clear BK556
    clear BK557
    clear HR567_3
    clear HR567_4
    clear HB
    have HO_4 := n0_
    have HL567_3 := n1_
    have HL567_4 := n2_
    have BK556 := n3_
    have BK557 := n4_
    have HR567_3 := n5_
    have HR567_4 := n6_
    have HB := n7_
    clear n0_ n1_ n2_ n3_ n4_ n5_ n6_ n7_
    have p570 : 0 ≤ (1 : Int) := (by omega)
    have q570 : 1 < (t558.length : Int) := of_decide_eq_true (by first | (with_reducible assumption) | assumption)
    obtain ⟨ad570, A570_3, c570_3, A570_4, c570_4, e570, hx570_0, hx570_1, hx570_2, hx570_3, hx570_4, hl570_3, hi570_3, hl570_4, hi570_4⟩ := at_T77 (Kd.S_reads' HO_4.out).2.2 1 p570 q570
    obtain rfl : ad567 = ad570 := (by injection e570)
    obtain ⟨ce570, hce570, hMe570, hcc570⟩ := Kd.S_get HO_4.out z77 1 p570 (by first | exact q570 | exact of_decide_eq_true (by first | (with_reducible assumption) | assumption) | (have e_ := (Kd.S_reads' HO_4.out).1; omega))
    obtain ⟨ve570_3, ve570_4, rfl, ge570_3, ge570_4⟩ := k77_openM hMe570
    have hv570_3 := hcc570 3 _ rfl
    rw [add_field _ _ 3 (by omega)] at hv570_3
    replace hv570_3 := Option.some.inj (hv570_3.symm.trans hx570_3)
    rw [hv570_3] at ge570_3
    have HL570_3 := Aside0.mk (show Kd.R (Kd.int .u8) 5 _ _ _ _ ((rd_T77 t558 1).f3) from ge570_3)
    clear hv570_3 ge570_3
    have hv570_4 := hcc570 4 _ rfl
    rw [add_field _ _ 4 (by omega)] at hv570_4
    replace hv570_4 := Option.some.inj (hv570_4.symm.trans hx570_4)
    rw [hv570_4] at ge570_4
    have HL570_4 := Aside0.mk (show Kd.R (Kd.int .u8) 5 _ _ _ _ ((rd_T77 t558 1).f4) from ge570_4)
    clear hv570_4 ge570_4
    clear hcc570 hce570
    (try simp only [show (1 : Int).toNat = 1 from rfl, Nat.reduceMul, Nat.reduceEqDiff, Go.Addr.add, ↓reduceIte] at hx570_0)
    (try simp only [show (1 : Int).toNat = 1 from rfl, Nat.reduceMul, Nat.reduceEqDiff, Go.Addr.add, ↓reduceIte] at hx570_1)
    (try simp only [show (1 : Int).toNat = 1 from rfl, Nat.reduceMul, Nat.reduceEqDiff, Go.Addr.add, ↓reduceIte] at hx570_2)
    (try simp only [show (1 : Int).toNat = 1 from rfl, Nat.reduceMul, Nat.reduceEqDiff, Go.Addr.add, ↓reduceIte] at hx570_3)
    (try simp only [show (1 : Int).toNat = 1 from rfl, Nat.reduceMul, Nat.reduceEqDiff, Go.Addr.add, ↓reduceIte] at hx570_4)
    have qi570 : (1 < t558.length) = True := eq_true (by omega)
    (try rw [show ((1 : Int)).toNat = 1 from rfl] at hx570_0)
    (try rw [show 1 * 5 = 5 from rfl] at hx570_0)
    (try rw [show ((1 : Int)).toNat = 1 from rfl] at hx570_1)
    (try rw [show 1 * 5 = 5 from rfl] at hx570_1)
    (try rw [show ((1 : Int)).toNat = 1 from rfl] at hx570_2)
    (try rw [show 1 * 5 = 5 from rfl] at hx570_2)
    (try rw [show ((1 : Int)).toNat = 1 from rfl] at hx570_3)
    (try rw [show 1 * 5 = 5 from rfl] at hx570_3)
    (try rw [show ((1 : Int)).toNat = 1 from rfl] at hx570_4)
    (try rw [show 1 * 5 = 5 from rfl] at hx570_4)
    have HR570_3 := Aside0.mk hi570_3
    have HC570_3 := Aside0.mk hl570_3
    clear hi570_3 hl570_3
    have HR570_4 := Aside0.mk hi570_4
    have HC570_4 := Aside0.mk hl570_4
    clear hi570_4 hl570_4
    replace p570 := eq_true p570
    replace q570 := eq_true q570
    have p571 : 0 ≤ (1 : Int) := (by omega)
    have q571 : 1 < (t558.length : Int) := of_decide_eq_true (by first | (with_reducible assumption) | assumption)
    obtain ⟨ad571, A571_3, c571_3, A571_4, c571_4, e571, hx571_0, hx571_1, hx571_2, hx571_3, hx571_4, hl571_3, hi571_3, hl571_4, hi571_4⟩ := at_T77 (Kd.S_reads' HO_4.out).2.2 1 p571 q571
    obtain rfl : ad567 = ad571 := (by injection e571)
    obtain ⟨ce571, hce571, hMe571, hcc571⟩ := Kd.S_get HO_4.out z77 1 p571 (by first | exact q571 | exact of_decide_eq_true (by first | (with_reducible assumption) | assumption) | (have e_ := (Kd.S_reads' HO_4.out).1; omega))
    obtain ⟨ve571_3, ve571_4, rfl, ge571_3, ge571_4⟩ := k77_openM hMe571
    have hv571_3 := hcc571 3 _ rfl
    rw [add_field _ _ 3 (by omega)] at hv571_3
    replace hv571_3 := Option.some.inj (hv571_3.symm.trans hx571_3)
    rw [hv571_3] at ge571_3
    have HL571_3 := Aside0.mk (show Kd.R (Kd.int .u8) 5 _ _ _ _ ((rd_T77 t558 1).f3) from ge571_3)
    clear hv571_3 ge571_3
    have hv571_4 := hcc571 4 _ rfl
    rw [add_field _ _ 4 (by omega)] at hv571_4
    replace hv571_4 := Option.some.inj (hv571_4.symm.trans hx571_4)
    rw [hv571_4] at ge571_4
    have HL571_4 := Aside0.mk (show Kd.R (Kd.int .u8) 5 _ _ _ _ ((rd_T77 t558 1).f4) from ge571_4)
    clear hv571_4 ge571_4
    clear hcc571 hce571
    (try simp only [show (1 : Int).toNat = 1 from rfl, Nat.reduceMul, Nat.reduceEqDiff, Go.Addr.add, ↓reduceIte] at hx571_0)
    (try simp only [show (1 : Int).toNat = 1 from rfl, Nat.reduceMul, Nat.reduceEqDiff, Go.Addr.add, ↓reduceIte] at hx571_1)
    (try simp only [show (1 : Int).toNat = 1 from rfl, Nat.reduceMul, Nat.reduceEqDiff, Go.Addr.add, ↓reduceIte] at hx571_2)
    (try simp only [show (1 : Int).toNat = 1 from rfl, Nat.reduceMul, Nat.reduceEqDiff, Go.Addr.add, ↓reduceIte] at hx571_3)
    (try simp only [show (1 : Int).toNat = 1 from rfl, Nat.reduceMul, Nat.reduceEqDiff, Go.Addr.add, ↓reduceIte] at hx571_4)
    have qi571 : (1 < t558.length) = True := eq_true (by omega)
    (try rw [show ((1 : Int)).toNat = 1 from rfl] at hx571_0)
    (try rw [show 1 * 5 = 5 from rfl] at hx571_0)
    (try rw [show ((1 : Int)).toNat = 1 from rfl] at hx571_1)
    (try rw [show 1 * 5 = 5 from rfl] at hx571_1)
    (try rw [show ((1 : Int)).toNat = 1 from rfl] at hx571_2)
    (try rw [show 1 * 5 = 5 from rfl] at hx571_2)
    (try rw [show ((1 : Int)).toNat = 1 from rfl] at hx571_3)
    (try rw [show 1 * 5 = 5 from rfl] at hx571_3)
    (try rw [show ((1 : Int)).toNat = 1 from rfl] at hx571_4)
    (try rw [show 1 * 5 = 5 from rfl] at hx571_4)
    have HR571_3 := Aside0.mk hi571_3
    have HC571_3 := Aside0.mk hl571_3
    clear hi571_3 hl571_3
    have HR571_4 := Aside0.mk hi571_4
    have HC571_4 := Aside0.mk hl571_4
    clear hi571_4 hl571_4
    replace p571 := eq_true p571
    replace q571 := eq_true q571
    have ea_ := Option.some.inj (hx570_3.symm.trans hx571_3)
    injection ea_ with ea_ en_ ec_
    subst ea_
    subst ec_
    clear en_
    have ea_ := Option.some.inj (hx570_4.symm.trans hx571_4)
    injection ea_ with ea_ en_ ec_
    subst ea_
    subst ec_
    clear en_
    refine start_ (n := 12) (S := fun w' => w'.cell? ⟨ad567.block, ad567.off + 5, none⟩ = some (.int .i64 ((rd_T77 t558 1).f0)) ∧ w'.cell? ⟨ad567.block, ad567.off + 5 + 1, none⟩ = some (.int .i64 ((rd_T77 t558 1).f1)) ∧ w'.cell? ⟨ad567.block, ad567.off + 5 + 2, none⟩ = some (.bool ((rd_T77 t558 1).f2)) ∧ w'.cell? ⟨ad567.block, ad567.off + 5 + 3, none⟩ = some (.slice A570_3 ((rd_T77 t558 1).f3).length c570_3) ∧ w'.cell? ⟨ad567.block, ad567.off + 5 + 4, none⟩ = some (.slice A570_4 ((rd_T77 t558 1).f4).length c570_4) ∧ w'.cell? ⟨ad567.block, ad567.off + 5, none⟩ = some (.int .i64 ((rd_T77 t558 1).f0)) ∧ w'.cell? ⟨ad567.block, ad567.off + 5 + 1, none⟩ = some (.int .i64 ((rd_T77 t558 1).f1)) ∧ w'.cell? ⟨ad567.block, ad567.off + 5 + 2, none⟩ = some (.bool ((rd_T77 t558 1).f2)) ∧ w'.cell? ⟨ad567.block, ad567.off + 5 + 3, none⟩ = some (.slice A570_3 ((rd_T77 t558 1).f3).length c570_3) ∧ w'.cell? ⟨ad567.block, ad567.off + 5 + 4, none⟩ = some (.slice A570_4 ((rd_T77 t558 1).f4).length c570_4)) (ds := []) #[false, false, false, false, false, false, false, false, false, false, false, false] (by kernel_rfl) rfl rfl ⟨hx570_0, hx570_1, hx570_2, hx570_3, hx570_4, hx571_0, hx571_1, hx571_2, hx571_3, hx571_4⟩ (fun hHeld => ?_); refine with_tabW chirographref07_part.tab9 chirographref07_part.bits9 (fun HT_ HW_ => ?_)
    generalize w32.drew = w33 at HO_4 HL567_3 HL567_4 BK556 BK557 HR567_3 HR567_4 HB HL570_3 HL570_4 HL571_3 HL571_4 HR570_3 HR570_4 HR571_3 HR571_4 hx570_0 hx570_1 hx570_2 hx570_3 hx570_4 hx571_0 hx571_1 hx571_2 hx571_3 hx571_4 hHeld ⊢
    refine pure_ (i := 0) (N := some 65) (v := ?_) (a' := ?_) #[true, false, false, false, false, false, false, false, false, false, false, false] rfl rfl (any_of HT_.out (by kernel_rfl)) (fun _ _ _ h => h) (Or.inl ⟨by rfl, ?_⟩) ?_ ?_; rotate_left; (intro w'; go_simp; with_reducible rfl); rotate_left; (simp only [Act.put, List.setIfInBounds_toArray, List.set_cons_zero, List.set_cons_succ, i64_w, i32_w]; rfl)
    refine pure_ (i := 1) (N := some 66) (v := ?_) (a' := ?_) #[true, true, false, false, false, false, false, false, false, false, false, false] rfl rfl (any_of HT_.out (by kernel_rfl)) (fun _ _ _ h => h) (Or.inl ⟨by rfl, ?_⟩) ?_ ?_; rotate_left; (intro w'; go_simp; with_reducible rfl); rotate_left; (simp only [Act.put, List.setIfInBounds_toArray, List.set_cons_zero, List.set_cons_succ, i64_w, i32_w]; rfl)
    refine pure_ (i := 2) (N := some 67) (v := ?_) (a' := ?_) #[true, true, true, false, false, false, false, false, false, false, false, false] rfl rfl (any_of HT_.out (by kernel_rfl)) (fun _ _ _ h => h) (Or.inl ⟨by rfl, ?_⟩) ?_ ?_; rotate_left; (intro w'; go_simp; with_reducible rfl); rotate_left; (simp only [Act.put, List.setIfInBounds_toArray, List.set_cons_zero, List.set_cons_succ, i64_w, i32_w]; rfl)
    refine pure_ (i := 3) (N := some 68) (v := ?_) (a' := ?_) #[true, true, true, true, false, false, false, false, false, false, false, false] rfl rfl (any_of HT_.out (by kernel_rfl)) (fun _ _ _ h => h) (Or.inl ⟨by rfl, ?_⟩) ?_ ?_; rotate_left; (intro w'; go_simp; with_reducible rfl); rotate_left; (simp only [Act.put, List.setIfInBounds_toArray, List.set_cons_zero, List.set_cons_succ, i64_w, i32_w]; rfl)
    refine pure_ (i := 5) (N := some 70) (v := ?_) (a' := ?_) #[true, true, true, true, false, true, false, false, false, false, false, false] rfl rfl (any_of HT_.out (by kernel_rfl)) (fun _ _ _ h => h) (Or.inl ⟨by rfl, ?_⟩) ?_ ?_; rotate_left; (intro w'; go_simp; with_reducible rfl); rotate_left; (simp only [Act.put, List.setIfInBounds_toArray, List.set_cons_zero, List.set_cons_succ, i64_w, i32_w]; rfl)
    refine pure_ (i := 6) (N := some 71) (v := ?_) (a' := ?_) #[true, true, true, true, false, true, true, false, false, false, false, false] rfl rfl (any_of HT_.out (by kernel_rfl)) (fun _ _ _ h => h) (Or.inl ⟨by rfl, ?_⟩) ?_ ?_; rotate_left; (intro w'; go_simp; with_reducible rfl); rotate_left; (simp only [Act.put, List.setIfInBounds_toArray, List.set_cons_zero, List.set_cons_succ, i64_w, i32_w]; rfl)
    refine pure_ (i := 7) (N := some 72) (v := ?_) (a' := ?_) #[true, true, true, true, false, true, true, true, false, false, false, false] rfl rfl (any_of HT_.out (by kernel_rfl)) (fun _ _ _ h => h) (Or.inl ⟨by rfl, ?_⟩) ?_ ?_; rotate_left; (intro w'; go_simp; with_reducible rfl); rotate_left; (simp only [Act.put, List.setIfInBounds_toArray, List.set_cons_zero, List.set_cons_succ, i64_w, i32_w]; rfl)
    refine take_ (i := 4) (N := some 69) (v := ?_) (a' := ?_) #[true, true, true, true, true, true, true, true, false, false, false, false] rfl rfl (take_ofW HT_.out HW_.out (by kernel_rfl)) (fun _ _ _ h => h) (Or.inl ⟨by rfl, ?_⟩) hHeld ?_ ?_; rotate_left; (rintro w' ⟨s0, s1, s2, s3, s4, s5, s6, s7, s8, s9⟩; go_simp; with_reducible rfl); rotate_left; (simp only [Act.put, List.setIfInBounds_toArray, List.set_cons_zero, List.set_cons_succ, i64_w, i32_w]; rfl)
    refine take_ (i := 8) (N := some 73) (v := ?_) (a' := ?_) #[true, true, true, true, true, true, true, true, true, false, false, false] rfl rfl (take_ofW HT_.out HW_.out (by kernel_rfl)) (fun _ _ _ h => h) (Or.inl ⟨by rfl, ?_⟩) hHeld ?_ ?_; rotate_left; (rintro w' ⟨s0, s1, s2, s3, s4, s5, s6, s7, s8, s9⟩; go_simp; with_reducible rfl); rotate_left; (simp only [Act.put, List.setIfInBounds_toArray, List.set_cons_zero, List.set_cons_succ, i64_w, i32_w]; rfl)
    refine pure_ (i := 9) (N := some 74) (v := ?_) (a' := ?_) #[true, true, true, true, true, true, true, true, true, true, false, false] rfl rfl (any_of HT_.out (by kernel_rfl)) (fun _ _ _ h => h) (Or.inl ⟨by rfl, ?_⟩) ?_ ?_; rotate_left; (intro w'; go_simp; with_reducible rfl); rotate_left; (simp only [Act.put, List.setIfInBounds_toArray, List.set_cons_zero, List.set_cons_succ, i64_w, i32_w]; rfl)
    refine one_ (i := 10) (N := none) #[true, true, true, true, true, true, true, true, true, true, true, false] rfl rfl (one_of HT_.out (by kernel_rfl)) (by decide) (fun K hK => ?_)
    have hs34 : w33.cell? ⟨gb557, 0, none⟩ = some (.string (⟨#[]⟩ : ByteArray)) := (blk_cell BK557.out 0).trans rfl
    have hfs34 := blk_frozen BK557.out 0
    have hns34_0 := NB556_557.out
    have hms34_0 := NB557_556.out
    have hs35 : w33.cell? ⟨gb557, 1, none⟩ = some (.int .i64 0) := (blk_cell BK557.out 1).trans rfl
    have hfs35 := blk_frozen BK557.out 1
    have hns35_0 := NB556_557.out
    have hms35_0 := NB557_556.out
    have hs36 : w33.cell? ⟨gb557, 2, none⟩ = some (.slice none 0 0) := (blk_cell BK557.out 2).trans rfl
    have hfs36 := blk_frozen BK557.out 2
    have hns36_0 := NB556_557.out
    have hms36_0 := NB557_556.out
    refine skip_ (w1 := ?_) (by rfl) rfl ?_ ?_; rotate_left; (go_simp; rfl)
    refine hK.out _ _ ⟨((cell_far (p := ⟨gb557, _, none⟩) (by first | exact Kd.own_blk (Kd.S_ne HO_4.out BK557.out (by decide)) | (rw [add_block]; exact Kd.own_blk (Kd.S_ne HO_4.out BK557.out (by decide))) | (show (Addr.add _ _).block ≠ _; rw [add_block]; exact Kd.own_blk (Kd.S_ne HO_4.out BK557.out (by decide))) | (dsimp only; exact Kd.own_blk (Kd.S_ne HO_4.out BK557.out (by decide)))) _).trans (((cell_far (p := ⟨gb557, _, none⟩) (by first | exact Kd.own_blk (Kd.S_ne HO_4.out BK557.out (by decide)) | (rw [add_block]; exact Kd.own_blk (Kd.S_ne HO_4.out BK557.out (by decide))) | (show (Addr.add _ _).block ≠ _; rw [add_block]; exact Kd.own_blk (Kd.S_ne HO_4.out BK557.out (by decide))) | (dsimp only; exact Kd.own_blk (Kd.S_ne HO_4.out BK557.out (by decide)))) _).trans (((cell_far (p := ⟨gb557, _, none⟩) (by first | exact Kd.own_blk (Kd.S_ne HO_4.out BK557.out (by decide)) | (rw [add_block]; exact Kd.own_blk (Kd.S_ne HO_4.out BK557.out (by decide))) | (show (Addr.add _ _).block ≠ _; rw [add_block]; exact Kd.own_blk (Kd.S_ne HO_4.out BK557.out (by decide))) | (dsimp only; exact Kd.own_blk (Kd.S_ne HO_4.out BK557.out (by decide)))) _).trans (hHeld.1)))))), ((cell_far (p := ⟨gb557, _, none⟩) (by first | exact Kd.own_blk (Kd.S_ne HO_4.out BK557.out (by decide)) | (rw [add_block]; exact Kd.own_blk (Kd.S_ne HO_4.out BK557.out (by decide))) | (show (Addr.add _ _).block ≠ _; rw [add_block]; exact Kd.own_blk (Kd.S_ne HO_4.out BK557.out (by decide))) | (dsimp only; exact Kd.own_blk (Kd.S_ne HO_4.out BK557.out (by decide)))) _).trans (((cell_far (p := ⟨gb557, _, none⟩) (by first | exact Kd.own_blk (Kd.S_ne HO_4.out BK557.out (by decide)) | (rw [add_block]; exact Kd.own_blk (Kd.S_ne HO_4.out BK557.out (by decide))) | (show (Addr.add _ _).block ≠ _; rw [add_block]; exact Kd.own_blk (Kd.S_ne HO_4.out BK557.out (by decide))) | (dsimp only; exact Kd.own_blk (Kd.S_ne HO_4.out BK557.out (by decide)))) _).trans (((cell_far (p := ⟨gb557, _, none⟩) (by first | exact Kd.own_blk (Kd.S_ne HO_4.out BK557.out (by decide)) | (rw [add_block]; exact Kd.own_blk (Kd.S_ne HO_4.out BK557.out (by decide))) | (show (Addr.add _ _).block ≠ _; rw [add_block]; exact Kd.own_blk (Kd.S_ne HO_4.out BK557.out (by decide))) | (dsimp only; exact Kd.own_blk (Kd.S_ne HO_4.out BK557.out (by decide)))) _).trans (hHeld.2.1)))))), ((cell_far (p := ⟨gb557, _, none⟩) (by first | exact Kd.own_blk (Kd.S_ne HO_4.out BK557.out (by decide)) | (rw [add_block]; exact Kd.own_blk (Kd.S_ne HO_4.out BK557.out (by decide))) | (show (Addr.add _ _).block ≠ _; rw [add_block]; exact Kd.own_blk (Kd.S_ne HO_4.out BK557.out (by decide))) | (dsimp only; exact Kd.own_blk (Kd.S_ne HO_4.out BK557.out (by decide)))) _).trans (((cell_far (p := ⟨gb557, _, none⟩) (by first | exact Kd.own_blk (Kd.S_ne HO_4.out BK557.out (by decide)) | (rw [add_block]; exact Kd.own_blk (Kd.S_ne HO_4.out BK557.out (by decide))) | (show (Addr.add _ _).block ≠ _; rw [add_block]; exact Kd.own_blk (Kd.S_ne HO_4.out BK557.out (by decide))) | (dsimp only; exact Kd.own_blk (Kd.S_ne HO_4.out BK557.out (by decide)))) _).trans (((cell_far (p := ⟨gb557, _, none⟩) (by first | exact Kd.own_blk (Kd.S_ne HO_4.out BK557.out (by decide)) | (rw [add_block]; exact Kd.own_blk (Kd.S_ne HO_4.out BK557.out (by decide))) | (show (Addr.add _ _).block ≠ _; rw [add_block]; exact Kd.own_blk (Kd.S_ne HO_4.out BK557.out (by decide))) | (dsimp only; exact Kd.own_blk (Kd.S_ne HO_4.out BK557.out (by decide)))) _).trans (hHeld.2.2.1)))))), ((cell_far (p := ⟨gb557, _, none⟩) (by first | exact Kd.own_blk (Kd.S_ne HO_4.out BK557.out (by decide)) | (rw [add_block]; exact Kd.own_blk (Kd.S_ne HO_4.out BK557.out (by decide))) | (show (Addr.add _ _).block ≠ _; rw [add_block]; exact Kd.own_blk (Kd.S_ne HO_4.out BK557.out (by decide))) | (dsimp only; exact Kd.own_blk (Kd.S_ne HO_4.out BK557.out (by decide)))) _).trans (((cell_far (p := ⟨gb557, _, none⟩) (by first | exact Kd.own_blk (Kd.S_ne HO_4.out BK557.out (by decide)) | (rw [add_block]; exact Kd.own_blk (Kd.S_ne HO_4.out BK557.out (by decide))) | (show (Addr.add _ _).block ≠ _; rw [add_block]; exact Kd.own_blk (Kd.S_ne HO_4.out BK557.out (by decide))) | (dsimp only; exact Kd.own_blk (Kd.S_ne HO_4.out BK557.out (by decide)))) _).trans (((cell_far (p := ⟨gb557, _, none⟩) (by first | exact Kd.own_blk (Kd.S_ne HO_4.out BK557.out (by decide)) | (rw [add_block]; exact Kd.own_blk (Kd.S_ne HO_4.out BK557.out (by decide))) | (show (Addr.add _ _).block ≠ _; rw [add_block]; exact Kd.own_blk (Kd.S_ne HO_4.out BK557.out (by decide))) | (dsimp only; exact Kd.own_blk (Kd.S_ne HO_4.out BK557.out (by decide)))) _).trans (hHeld.2.2.2.1)))))), ((cell_far (p := ⟨gb557, _, none⟩) (by first | exact Kd.own_blk (Kd.S_ne HO_4.out BK557.out (by decide)) | (rw [add_block]; exact Kd.own_blk (Kd.S_ne HO_4.out BK557.out (by decide))) | (show (Addr.add _ _).block ≠ _; rw [add_block]; exact Kd.own_blk (Kd.S_ne HO_4.out BK557.out (by decide))) | (dsimp only; exact Kd.own_blk (Kd.S_ne HO_4.out BK557.out (by decide)))) _).trans (((cell_far (p := ⟨gb557, _, none⟩) (by first | exact Kd.own_blk (Kd.S_ne HO_4.out BK557.out (by decide)) | (rw [add_block]; exact Kd.own_blk (Kd.S_ne HO_4.out BK557.out (by decide))) | (show (Addr.add _ _).block ≠ _; rw [add_block]; exact Kd.own_blk (Kd.S_ne HO_4.out BK557.out (by decide))) | (dsimp only; exact Kd.own_blk (Kd.S_ne HO_4.out BK557.out (by decide)))) _).trans (((cell_far (p := ⟨gb557, _, none⟩) (by first | exact Kd.own_blk (Kd.S_ne HO_4.out BK557.out (by decide)) | (rw [add_block]; exact Kd.own_blk (Kd.S_ne HO_4.out BK557.out (by decide))) | (show (Addr.add _ _).block ≠ _; rw [add_block]; exact Kd.own_blk (Kd.S_ne HO_4.out BK557.out (by decide))) | (dsimp only; exact Kd.own_blk (Kd.S_ne HO_4.out BK557.out (by decide)))) _).trans (hHeld.2.2.2.2.1)))))), ((cell_far (p := ⟨gb557, _, none⟩) (by first | exact Kd.own_blk (Kd.S_ne HO_4.out BK557.out (by decide)) | (rw [add_block]; exact Kd.own_blk (Kd.S_ne HO_4.out BK557.out (by decide))) | (show (Addr.add _ _).block ≠ _; rw [add_block]; exact Kd.own_blk (Kd.S_ne HO_4.out BK557.out (by decide))) | (dsimp only; exact Kd.own_blk (Kd.S_ne HO_4.out BK557.out (by decide)))) _).trans (((cell_far (p := ⟨gb557, _, none⟩) (by first | exact Kd.own_blk (Kd.S_ne HO_4.out BK557.out (by decide)) | (rw [add_block]; exact Kd.own_blk (Kd.S_ne HO_4.out BK557.out (by decide))) | (show (Addr.add _ _).block ≠ _; rw [add_block]; exact Kd.own_blk (Kd.S_ne HO_4.out BK557.out (by decide))) | (dsimp only; exact Kd.own_blk (Kd.S_ne HO_4.out BK557.out (by decide)))) _).trans (((cell_far (p := ⟨gb557, _, none⟩) (by first | exact Kd.own_blk (Kd.S_ne HO_4.out BK557.out (by decide)) | (rw [add_block]; exact Kd.own_blk (Kd.S_ne HO_4.out BK557.out (by decide))) | (show (Addr.add _ _).block ≠ _; rw [add_block]; exact Kd.own_blk (Kd.S_ne HO_4.out BK557.out (by decide))) | (dsimp only; exact Kd.own_blk (Kd.S_ne HO_4.out BK557.out (by decide)))) _).trans (hHeld.2.2.2.2.2.1)))))), ((cell_far (p := ⟨gb557, _, none⟩) (by first | exact Kd.own_blk (Kd.S_ne HO_4.out BK557.out (by decide)) | (rw [add_block]; exact Kd.own_blk (Kd.S_ne HO_4.out BK557.out (by decide))) | (show (Addr.add _ _).block ≠ _; rw [add_block]; exact Kd.own_blk (Kd.S_ne HO_4.out BK557.out (by decide))) | (dsimp only; exact Kd.own_blk (Kd.S_ne HO_4.out BK557.out (by decide)))) _).trans (((cell_far (p := ⟨gb557, _, none⟩) (by first | exact Kd.own_blk (Kd.S_ne HO_4.out BK557.out (by decide)) | (rw [add_block]; exact Kd.own_blk (Kd.S_ne HO_4.out BK557.out (by decide))) | (show (Addr.add _ _).block ≠ _; rw [add_block]; exact Kd.own_blk (Kd.S_ne HO_4.out BK557.out (by decide))) | (dsimp only; exact Kd.own_blk (Kd.S_ne HO_4.out BK557.out (by decide)))) _).trans (((cell_far (p := ⟨gb557, _, none⟩) (by first | exact Kd.own_blk (Kd.S_ne HO_4.out BK557.out (by decide)) | (rw [add_block]; exact Kd.own_blk (Kd.S_ne HO_4.out BK557.out (by decide))) | (show (Addr.add _ _).block ≠ _; rw [add_block]; exact Kd.own_blk (Kd.S_ne HO_4.out BK557.out (by decide))) | (dsimp only; exact Kd.own_blk (Kd.S_ne HO_4.out BK557.out (by decide)))) _).trans (hHeld.2.2.2.2.2.2.1)))))), ((cell_far (p := ⟨gb557, _, none⟩) (by first | exact Kd.own_blk (Kd.S_ne HO_4.out BK557.out (by decide)) | (rw [add_block]; exact Kd.own_blk (Kd.S_ne HO_4.out BK557.out (by decide))) | (show (Addr.add _ _).block ≠ _; rw [add_block]; exact Kd.own_blk (Kd.S_ne HO_4.out BK557.out (by decide))) | (dsimp only; exact Kd.own_blk (Kd.S_ne HO_4.out BK557.out (by decide)))) _).trans (((cell_far (p := ⟨gb557, _, none⟩) (by first | exact Kd.own_blk (Kd.S_ne HO_4.out BK557.out (by decide)) | (rw [add_block]; exact Kd.own_blk (Kd.S_ne HO_4.out BK557.out (by decide))) | (show (Addr.add _ _).block ≠ _; rw [add_block]; exact Kd.own_blk (Kd.S_ne HO_4.out BK557.out (by decide))) | (dsimp only; exact Kd.own_blk (Kd.S_ne HO_4.out BK557.out (by decide)))) _).trans (((cell_far (p := ⟨gb557, _, none⟩) (by first | exact Kd.own_blk (Kd.S_ne HO_4.out BK557.out (by decide)) | (rw [add_block]; exact Kd.own_blk (Kd.S_ne HO_4.out BK557.out (by decide))) | (show (Addr.add _ _).block ≠ _; rw [add_block]; exact Kd.own_blk (Kd.S_ne HO_4.out BK557.out (by decide))) | (dsimp only; exact Kd.own_blk (Kd.S_ne HO_4.out BK557.out (by decide)))) _).trans (hHeld.2.2.2.2.2.2.2.1)))))), ((cell_far (p := ⟨gb557, _, none⟩) (by first | exact Kd.own_blk (Kd.S_ne HO_4.out BK557.out (by decide)) | (rw [add_block]; exact Kd.own_blk (Kd.S_ne HO_4.out BK557.out (by decide))) | (show (Addr.add _ _).block ≠ _; rw [add_block]; exact Kd.own_blk (Kd.S_ne HO_4.out BK557.out (by decide))) | (dsimp only; exact Kd.own_blk (Kd.S_ne HO_4.out BK557.out (by decide)))) _).trans (((cell_far (p := ⟨gb557, _, none⟩) (by first | exact Kd.own_blk (Kd.S_ne HO_4.out BK557.out (by decide)) | (rw [add_block]; exact Kd.own_blk (Kd.S_ne HO_4.out BK557.out (by decide))) | (show (Addr.add _ _).block ≠ _; rw [add_block]; exact Kd.own_blk (Kd.S_ne HO_4.out BK557.out (by decide))) | (dsimp only; exact Kd.own_blk (Kd.S_ne HO_4.out BK557.out (by decide)))) _).trans (((cell_far (p := ⟨gb557, _, none⟩) (by first | exact Kd.own_blk (Kd.S_ne HO_4.out BK557.out (by decide)) | (rw [add_block]; exact Kd.own_blk (Kd.S_ne HO_4.out BK557.out (by decide))) | (show (Addr.add _ _).block ≠ _; rw [add_block]; exact Kd.own_blk (Kd.S_ne HO_4.out BK557.out (by decide))) | (dsimp only; exact Kd.own_blk (Kd.S_ne HO_4.out BK557.out (by decide)))) _).trans (hHeld.2.2.2.2.2.2.2.2.1)))))), ((cell_far (p := ⟨gb557, _, none⟩) (by first | exact Kd.own_blk (Kd.S_ne HO_4.out BK557.out (by decide)) | (rw [add_block]; exact Kd.own_blk (Kd.S_ne HO_4.out BK557.out (by decide))) | (show (Addr.add _ _).block ≠ _; rw [add_block]; exact Kd.own_blk (Kd.S_ne HO_4.out BK557.out (by decide))) | (dsimp only; exact Kd.own_blk (Kd.S_ne HO_4.out BK557.out (by decide)))) _).trans (((cell_far (p := ⟨gb557, _, none⟩) (by first | exact Kd.own_blk (Kd.S_ne HO_4.out BK557.out (by decide)) | (rw [add_block]; exact Kd.own_blk (Kd.S_ne HO_4.out BK557.out (by decide))) | (show (Addr.add _ _).block ≠ _; rw [add_block]; exact Kd.own_blk (Kd.S_ne HO_4.out BK557.out (by decide))) | (dsimp only; exact Kd.own_blk (Kd.S_ne HO_4.out BK557.out (by decide)))) _).trans (((cell_far (p := ⟨gb557, _, none⟩) (by first | exact Kd.own_blk (Kd.S_ne HO_4.out BK557.out (by decide)) | (rw [add_block]; exact Kd.own_blk (Kd.S_ne HO_4.out BK557.out (by decide))) | (show (Addr.add _ _).block ≠ _; rw [add_block]; exact Kd.own_blk (Kd.S_ne HO_4.out BK557.out (by decide))) | (dsimp only; exact Kd.own_blk (Kd.S_ne HO_4.out BK557.out (by decide)))) _).trans (hHeld.2.2.2.2.2.2.2.2.2))))))⟩ (fun hHeld => ?_)
    clear hK K
    refine pure_ (i := 11) (N := some 3) (v := ?_) (a' := ?_) #[true, true, true, true, true, true, true, true, true, true, true, true] rfl rfl (any_of HT_.out (by kernel_rfl)) (fun _ _ _ h => h) (Or.inl ⟨by rfl, ?_⟩) ?_ ?_; rotate_left; (intro w'; go_simp; with_reducible rfl); rotate_left; (simp only [Act.put, List.setIfInBounds_toArray, List.set_cons_zero, List.set_cons_succ, i64_w, i32_w]; rfl)
    refine done_ (done_of HT_.out (by kernel_rfl)) ?_
    try go_wp2
    refine bodyPost_ret (results_ct rfl _ _ gb557 64 #[.string t568, .int .i64 ((rd_T77 t558 1).f1), .slice A570_3 ((rd_T77 t558 1).f3).length c570_3] (0, 0) _ rfl (by (with_reducible repeat (first | refine blk_drewN ?_ _ | refine blk_drew ?_ | refine blk_alloc ?_ _)); refine blk_put (cs := #[.string t568, .int .i64 ((rd_T77 t558 1).f1), .slice none 0 0]) ?_ 2 _ rfl; (with_reducible repeat (first | refine blk_drewN ?_ _ | refine blk_drew ?_ | refine blk_alloc ?_ _)); refine blk_put (cs := #[.string t568, .int .i64 0, .slice none 0 0]) ?_ 1 _ rfl; (with_reducible repeat (first | refine blk_drewN ?_ _ | refine blk_drew ?_ | refine blk_alloc ?_ _)); refine blk_put (cs := #[.string (⟨#[]⟩ : ByteArray), .int .i64 0, .slice none 0 0]) ?_ 0 _ rfl; (with_reducible repeat (first | refine blk_drewN ?_ _ | refine blk_drew ?_ | refine blk_alloc ?_ _)); exact BK557.out) Tryz.underlying64 rfl (by kernel_rfl)) rfl ?_
    exact ⟨_, by first | rfl | (simp [errW_none, errW_some] <;> rfl), by (with_reducible repeat (first | apply Kd.R_alloc | apply Kd.R_drewN | apply Kd.R_drew)); exact Kd.R_mono (Kd.R_far (p := ⟨gb557, 2, none⟩) (Kd.R_far (p := ⟨gb557, 1, none⟩) (Kd.R_far (p := ⟨gb557, 0, none⟩) (Kd.R_types HL571_3.out BK557.out (by decide)) (fun _ hk => hk.2) (.string t568)) (fun _ hk => hk.2) (.int .i64 ((rd_T77 t558 1).f1))) (fun _ hk => hk.2) (.slice A570_3 ((rd_T77 t558 1).f3).length c570_3)) (fun _ hk => trivial), by repeat (first | exact HB.out | apply below_alloc | apply pw_below_drewN | apply below_drew1 | refine below_set ?_ GE556.out | refine below_set ?_ GE557.out)⟩
end Go.Proofs.YtkioddjjfifadaaGreatDoor.P
namespace Go.Proofs.YtkioddjjfifadaaGreatDoor.P
open Go.RowKit Go.Proofs.YtkioddjjfifadaaGreatDoorW.PrintWords Go.Proofs.YtkioddjjfifadaaGreatDoorW.PrintLast Go.Proofs.YtkioddjjfifadaaGreatDoorW.PrintMore
attribute [local go_sem] max2_int min2_int max_two min_two max_three min_three max_four min_four
set_option linter.unusedVariables false
set_option linter.unusedSimpArgs false
def chirographref04_One.f (k : Nat) (l0 : List Int) : Option (Int × Int × Bool × List Int × List Int × Int) := (chirographref04_Split.f k l0).bind fun bt529 => (if bt529.2.1 = 0 then (if (bt529.1.length : Int) = 0 then (some (0, 0, false, ([] : List Int), ([] : List Int), 5)) else (if (bt529.1.length : Int) > 1 then (some (0, 0, false, ([] : List Int), ([] : List Int), 4)) else (if 0 < (bt529.1.length : Int) then (some ((rd_T77 bt529.1 0).f0, (rd_T77 bt529.1 0).f1, (rd_T77 bt529.1 0).f2, (rd_T77 bt529.1 0).f3, (rd_T77 bt529.1 0).f4, 0)) else (none)))) else (some (0, 0, false, ([] : List Int), ([] : List Int), bt529.2.1)))
set_option maxHeartbeats 8000000 in
set_option maxRecDepth 100000 in
theorem chirographref04_One.calls (k : Nat) (A0 : Option Addr) (c0 : Nat) (l0 : List Int) (r1 : Int) (r2 : Int) (r3 : Bool) (r4 : List Int) (r5 : List Int) (r6 : Int) (w : World) (hr0 : Kd.C (Kd.int .u8) w A0 l0.length l0) (hc0 : l0.length ≤ c0) (h : chirographref04_One.f k l0 = some (r1, r2, r3, r4, r5, r6)) :
    Calls Tryz.prog 81 #[.slice A0 l0.length c0] w fun e w' => ∃ v3_ v4_ : Value, e = .returned (.tuple #[.agg #[.int .i64 r1, .int .i64 r2, .bool r3, v3_, v4_], .int .i64 r6]) ∧ Kd.V (Kd.int .u8) 5 w' w.heap.size (fun k_ => (w.heap.size ≤ k_)) v3_ r4 ∧ Kd.V (Kd.int .u8) 5 w' w.heap.size (fun k_ => (w.heap.size ≤ k_)) v4_ r5 ∧ Below w.heap.size w w' := by
  have hu77 := Tryz.underlying77
  have HR0 := Aside0.mk hr0
  have HC0 := Aside0.mk hc0
  clear hr0 hc0
  have HB := Aside0.mk (Below.refl w.heap.size w)
  have H : ((chirographref04_Split.f k l0).bind fun bt529 => (if bt529.2.1 = 0 then (if (bt529.1.length : Int) = 0 then (some (0, 0, false, ([] : List Int), ([] : List Int), 5)) else (if (bt529.1.length : Int) > 1 then (some (0, 0, false, ([] : List Int), ([] : List Int), 4)) else (if 0 < (bt529.1.length : Int) then (some ((rd_T77 bt529.1 0).f0, (rd_T77 bt529.1 0).f1, (rd_T77 bt529.1 0).f2, (rd_T77 bt529.1 0).f3, (rd_T77 bt529.1 0).f4, 0)) else (none)))) else (some (0, 0, false, ([] : List Int), ([] : List Int), bt529.2.1)))) = some (r1, r2, r3, r4, r5, r6) := h
  clear h
  replace H := Option.bind_eq_some_iff.mp H
  obtain ⟨⟨t529, t530, t531⟩, A20, H⟩ := H
  try dsimp only at H
  have A2 := Aside0.mk A20
  clear A20
  by_cases c3 : t530 = 0
  rotate_left
  · rw [if_neg c3] at H
    have c3b0 : (t530 == 0) = false := beq_eq_false_iff_ne.mpr c3
    have c3b1 : (t530 != 0) = true := bne_iff_ne.mpr c3
    simp only [Option.some.injEq, Prod.mk.injEq] at H
    obtain ⟨rfl, rfl, rfl, rfl, rfl, rfl⟩ := H
    go_enter Tryz.func81, Tryz.ntmps81
    go_wp2_with (first | ((with_reducible refine gate_dst (N := 2) rfl ?_); refine box_event ?hg (N := 2) ?hd (cs := #[.int .i64 0, .int .i64 0, .bool false, .slice none 0 0, .slice none 0 0]) (t := 77) ?hr ?_; (case hd => rfl); (case hg => rfl); (case hr => first | (go_simp; done) | (go_simp; rfl)); intro gb528 hg w19 hbox hb; have n0_ := Aside0.mk (below_step (bU HB.out) hb); have n1_ := Aside0.mk (hbox); have n2_ := Aside0.mk ((by rw [hg]; exact (below_size (bU HB.out)) : w.heap.size ≤ gb528)); have n3_ := Aside0.mk ((by rw [hg]; exact (below_size (bU HB.out)) : w.heap.size ≤ gb528)); replace HB := n0_; have BK528 := n1_; have GW528 := n2_; have GE528 := n3_; clear n0_ n1_ n2_ n3_; clear hb hbox hg) | ((with_reducible refine gate_callee (f := 145) rfl ?_); refine goesL_ (some 9) rfl rfl Tryz.func145 (by kernel_rfl) rfl #[.slice A0 l0.length c0] rfl (by (try simp only [List.map_toArray, List.map_cons, List.map_nil]); first | done | rfl | (simp only [List.length_drop, List.length_take]; rfl)) ?_; (with_reducible refine (chirographref04_Split.calls k _ _ l0 t529 t530 t531 _ ?side1 ?side2 A2.out).mono ?_); (case side1 => exact Kd.C_u (Kd.C_below HR0.out HB.out)); (case side2 => exact HC0.out); rintro e w20 ⟨v532, rfl, ho0, hb⟩; refine ⟨_, rfl, ?_⟩; have n0_ := Aside0.mk (Kd.N_lower (Kd.N_mono (ok' := fun k_ => (w.heap.size ≤ k_) ∧ k_ ≠ gb528) (Kd.S_N (Kd.S_bound ho0)) (fun k_ hk_ => ⟨(Nat.le_trans (below_size (by repeat (first | exact HB.out | apply below_alloc | apply pw_below_drewN | apply below_drew1 | refine below_set ?_ GE528.out))) hk_.2.1), (Kd.freshB (blk_u BK528.out) k_ hk_.2.1)⟩)) (below_size (by repeat (first | exact HB.out | apply below_alloc | apply pw_below_drewN | apply below_drew1 | refine below_set ?_ GE528.out)))); have n1_ := Aside0.mk (blk_below (blk_u BK528.out) hb); have n2_ := Aside0.mk (below_step (by repeat (first | exact HB.out | apply below_alloc | apply pw_below_drewN | apply below_drew1 | refine below_set ?_ GE528.out)) hb); clear BK528; clear HB; have HO533 := n0_; have BK528 := n1_; have HB := n2_; clear n0_ n1_ n2_; (try clear hb); (try clear hb2); (try clear hk); (try clear hi); (try clear ho0); have hcz21_0 : w20.cell? ⟨gb528, 0, none⟩ = some (.int .i64 0) := (blk_cell BK528.out 0).trans rfl; have hcz21_1 : w20.cell? ⟨gb528, 1, none⟩ = some (.int .i64 0) := (blk_cell BK528.out 1).trans rfl; have hcz21_2 : w20.cell? ⟨gb528, 2, none⟩ = some (.bool false) := (blk_cell BK528.out 2).trans rfl; have hcz21_3 : w20.cell? ⟨gb528, 3, none⟩ = some (.slice none 0 0) := (blk_cell BK528.out 3).trans rfl; have hcz21_4 : w20.cell? ⟨gb528, 4, none⟩ = some (.slice none 0 0) := (blk_cell BK528.out 4).trans rfl; have hfz21_0 := blk_frozen BK528.out 0; have hfz21_1 := blk_frozen BK528.out 1; have hfz21_2 := blk_frozen BK528.out 2; have hfz21_3 := blk_frozen BK528.out 3; have hfz21_4 := blk_frozen BK528.out 4))
    refine bodyPost_ret (results_ct rfl _ _ gb528 77 #[.int .i64 0, .int .i64 0, .bool false, .slice none 0 0, .slice none 0 0] (0, 0) _ rfl (by (with_reducible repeat (first | refine blk_drewN ?_ _ | refine blk_drew ?_ | refine blk_alloc ?_ _)); refine blk_put (cs := #[.int .i64 0, .int .i64 0, .bool false, .slice none 0 0, .slice none 0 0]) ?_ 4 _ rfl; (with_reducible repeat (first | refine blk_drewN ?_ _ | refine blk_drew ?_ | refine blk_alloc ?_ _)); refine blk_put (cs := #[.int .i64 0, .int .i64 0, .bool false, .slice none 0 0, .slice none 0 0]) ?_ 3 _ rfl; (with_reducible repeat (first | refine blk_drewN ?_ _ | refine blk_drew ?_ | refine blk_alloc ?_ _)); refine blk_put (cs := #[.int .i64 0, .int .i64 0, .bool false, .slice none 0 0, .slice none 0 0]) ?_ 2 _ rfl; (with_reducible repeat (first | refine blk_drewN ?_ _ | refine blk_drew ?_ | refine blk_alloc ?_ _)); refine blk_put (cs := #[.int .i64 0, .int .i64 0, .bool false, .slice none 0 0, .slice none 0 0]) ?_ 1 _ rfl; (with_reducible repeat (first | refine blk_drewN ?_ _ | refine blk_drew ?_ | refine blk_alloc ?_ _)); refine blk_put (cs := #[.int .i64 0, .int .i64 0, .bool false, .slice none 0 0, .slice none 0 0]) ?_ 0 _ rfl; (with_reducible repeat (first | refine blk_drewN ?_ _ | refine blk_drew ?_ | refine blk_alloc ?_ _)); exact BK528.out) Tryz.underlying77 rfl (by kernel_rfl)) rfl ?_
    exact ⟨_, _, by first | rfl | (simp [errW_none, errW_some] <;> rfl), (Kd.V_nil _ _ _ _ _), (Kd.V_nil _ _ _ _ _), by repeat (first | exact HB.out | apply below_alloc | apply pw_below_drewN | apply below_drew1 | refine below_set ?_ GE528.out)⟩
  rw [if_pos c3] at H
  have c3b0 : (t530 == 0) = true := beq_iff_eq.mpr c3
  have c3b1 : (t530 != 0) = false := bne_eq_false_iff_eq.mpr c3
  clear c3
  by_cases c4 : (t529.length : Int) = 0
  · rw [if_pos c4] at H
    have c4b0 : ((t529.length : Int) == 0) = true := beq_iff_eq.mpr c4
    have c4b1 : ((t529.length : Int) != 0) = false := bne_eq_false_iff_eq.mpr c4
    clear c4
    simp only [Option.some.injEq, Prod.mk.injEq] at H
    obtain ⟨rfl, rfl, rfl, rfl, rfl, rfl⟩ := H
    go_enter Tryz.func81, Tryz.ntmps81
    go_wp2_with (first | ((with_reducible refine gate_dst (N := 2) rfl ?_); refine box_event ?hg (N := 2) ?hd (cs := #[.int .i64 0, .int .i64 0, .bool false, .slice none 0 0, .slice none 0 0]) (t := 77) ?hr ?_; (case hd => rfl); (case hg => rfl); (case hr => first | (go_simp; done) | (go_simp; rfl)); intro gb528 hg w5 hbox hb; have n0_ := Aside0.mk (below_step (bU HB.out) hb); have n1_ := Aside0.mk (hbox); have n2_ := Aside0.mk ((by rw [hg]; exact (below_size (bU HB.out)) : w.heap.size ≤ gb528)); have n3_ := Aside0.mk ((by rw [hg]; exact (below_size (bU HB.out)) : w.heap.size ≤ gb528)); replace HB := n0_; have BK528 := n1_; have GW528 := n2_; have GE528 := n3_; clear n0_ n1_ n2_ n3_; clear hb hbox hg) | ((with_reducible refine gate_callee (f := 145) rfl ?_); refine goesL_ (some 9) rfl rfl Tryz.func145 (by kernel_rfl) rfl #[.slice A0 l0.length c0] rfl (by (try simp only [List.map_toArray, List.map_cons, List.map_nil]); first | done | rfl | (simp only [List.length_drop, List.length_take]; rfl)) ?_; (with_reducible refine (chirographref04_Split.calls k _ _ l0 t529 t530 t531 _ ?side1 ?side2 A2.out).mono ?_); (case side1 => exact Kd.C_u (Kd.C_below HR0.out HB.out)); (case side2 => exact HC0.out); rintro e w6 ⟨v532, rfl, ho0, hb⟩; refine ⟨_, rfl, ?_⟩; have n0_ := Aside0.mk (Kd.N_lower (Kd.N_mono (ok' := fun k_ => (w.heap.size ≤ k_) ∧ k_ ≠ gb528) (Kd.S_N (Kd.S_bound ho0)) (fun k_ hk_ => ⟨(Nat.le_trans (below_size (by repeat (first | exact HB.out | apply below_alloc | apply pw_below_drewN | apply below_drew1 | refine below_set ?_ GE528.out))) hk_.2.1), (Kd.freshB (blk_u BK528.out) k_ hk_.2.1)⟩)) (below_size (by repeat (first | exact HB.out | apply below_alloc | apply pw_below_drewN | apply below_drew1 | refine below_set ?_ GE528.out)))); have n1_ := Aside0.mk (blk_below (blk_u BK528.out) hb); have n2_ := Aside0.mk (below_step (by repeat (first | exact HB.out | apply below_alloc | apply pw_below_drewN | apply below_drew1 | refine below_set ?_ GE528.out)) hb); clear BK528; clear HB; have HO533 := n0_; have BK528 := n1_; have HB := n2_; clear n0_ n1_ n2_; (try clear hb); (try clear hb2); (try clear hk); (try clear hi); (try clear ho0); obtain ⟨Ao7, co7, eo7⟩ := Kd.N_slice HO533.out; subst eo7; have hcz8_0 : w6.cell? ⟨gb528, 0, none⟩ = some (.int .i64 0) := (blk_cell BK528.out 0).trans rfl; have hcz8_1 : w6.cell? ⟨gb528, 1, none⟩ = some (.int .i64 0) := (blk_cell BK528.out 1).trans rfl; have hcz8_2 : w6.cell? ⟨gb528, 2, none⟩ = some (.bool false) := (blk_cell BK528.out 2).trans rfl; have hcz8_3 : w6.cell? ⟨gb528, 3, none⟩ = some (.slice none 0 0) := (blk_cell BK528.out 3).trans rfl; have hcz8_4 : w6.cell? ⟨gb528, 4, none⟩ = some (.slice none 0 0) := (blk_cell BK528.out 4).trans rfl; have hfz8_0 := blk_frozen BK528.out 0; have hfz8_1 := blk_frozen BK528.out 1; have hfz8_2 := blk_frozen BK528.out 2; have hfz8_3 := blk_frozen BK528.out 3; have hfz8_4 := blk_frozen BK528.out 4))
    refine bodyPost_ret (results_ct rfl _ _ gb528 77 #[.int .i64 0, .int .i64 0, .bool false, .slice none 0 0, .slice none 0 0] (0, 0) _ rfl (by (with_reducible repeat (first | refine blk_drewN ?_ _ | refine blk_drew ?_ | refine blk_alloc ?_ _)); refine blk_put (cs := #[.int .i64 0, .int .i64 0, .bool false, .slice none 0 0, .slice none 0 0]) ?_ 4 _ rfl; (with_reducible repeat (first | refine blk_drewN ?_ _ | refine blk_drew ?_ | refine blk_alloc ?_ _)); refine blk_put (cs := #[.int .i64 0, .int .i64 0, .bool false, .slice none 0 0, .slice none 0 0]) ?_ 3 _ rfl; (with_reducible repeat (first | refine blk_drewN ?_ _ | refine blk_drew ?_ | refine blk_alloc ?_ _)); refine blk_put (cs := #[.int .i64 0, .int .i64 0, .bool false, .slice none 0 0, .slice none 0 0]) ?_ 2 _ rfl; (with_reducible repeat (first | refine blk_drewN ?_ _ | refine blk_drew ?_ | refine blk_alloc ?_ _)); refine blk_put (cs := #[.int .i64 0, .int .i64 0, .bool false, .slice none 0 0, .slice none 0 0]) ?_ 1 _ rfl; (with_reducible repeat (first | refine blk_drewN ?_ _ | refine blk_drew ?_ | refine blk_alloc ?_ _)); refine blk_put (cs := #[.int .i64 0, .int .i64 0, .bool false, .slice none 0 0, .slice none 0 0]) ?_ 0 _ rfl; (with_reducible repeat (first | refine blk_drewN ?_ _ | refine blk_drew ?_ | refine blk_alloc ?_ _)); exact BK528.out) Tryz.underlying77 rfl (by kernel_rfl)) rfl ?_
    exact ⟨_, _, by first | rfl | (simp [errW_none, errW_some] <;> rfl), (Kd.V_nil _ _ _ _ _), (Kd.V_nil _ _ _ _ _), by repeat (first | exact HB.out | apply below_alloc | apply pw_below_drewN | apply below_drew1 | refine below_set ?_ GE528.out)⟩
  rw [if_neg c4] at H
  have c4b0 : ((t529.length : Int) == 0) = false := beq_eq_false_iff_ne.mpr c4
  have c4b1 : ((t529.length : Int) != 0) = true := bne_iff_ne.mpr c4
  have c4b2 : ¬ (t529 = []) := fun h_ => c4 (by rw [h_]; rfl)
  by_cases c9 : (t529.length : Int) > 1
  · rw [if_pos c9] at H
    have c9b0 : decide (1 < (t529.length : Int)) = true := decide_eq_true c9
    have c9b1 : decide (1 < t529.length) = true := decide_eq_true (by omega)
    clear c9
    simp only [Option.some.injEq, Prod.mk.injEq] at H
    obtain ⟨rfl, rfl, rfl, rfl, rfl, rfl⟩ := H
    go_enter Tryz.func81, Tryz.ntmps81
    go_wp2_with (first | ((with_reducible refine gate_dst (N := 2) rfl ?_); refine box_event ?hg (N := 2) ?hd (cs := #[.int .i64 0, .int .i64 0, .bool false, .slice none 0 0, .slice none 0 0]) (t := 77) ?hr ?_; (case hd => rfl); (case hg => rfl); (case hr => first | (go_simp; done) | (go_simp; rfl)); intro gb528 hg w10 hbox hb; have n0_ := Aside0.mk (below_step (bU HB.out) hb); have n1_ := Aside0.mk (hbox); have n2_ := Aside0.mk ((by rw [hg]; exact (below_size (bU HB.out)) : w.heap.size ≤ gb528)); have n3_ := Aside0.mk ((by rw [hg]; exact (below_size (bU HB.out)) : w.heap.size ≤ gb528)); replace HB := n0_; have BK528 := n1_; have GW528 := n2_; have GE528 := n3_; clear n0_ n1_ n2_ n3_; clear hb hbox hg) | ((with_reducible refine gate_callee (f := 145) rfl ?_); refine goesL_ (some 9) rfl rfl Tryz.func145 (by kernel_rfl) rfl #[.slice A0 l0.length c0] rfl (by (try simp only [List.map_toArray, List.map_cons, List.map_nil]); first | done | rfl | (simp only [List.length_drop, List.length_take]; rfl)) ?_; (with_reducible refine (chirographref04_Split.calls k _ _ l0 t529 t530 t531 _ ?side1 ?side2 A2.out).mono ?_); (case side1 => exact Kd.C_u (Kd.C_below HR0.out HB.out)); (case side2 => exact HC0.out); rintro e w11 ⟨v532, rfl, ho0, hb⟩; refine ⟨_, rfl, ?_⟩; have n0_ := Aside0.mk (Kd.N_lower (Kd.N_mono (ok' := fun k_ => (w.heap.size ≤ k_) ∧ k_ ≠ gb528) (Kd.S_N (Kd.S_bound ho0)) (fun k_ hk_ => ⟨(Nat.le_trans (below_size (by repeat (first | exact HB.out | apply below_alloc | apply pw_below_drewN | apply below_drew1 | refine below_set ?_ GE528.out))) hk_.2.1), (Kd.freshB (blk_u BK528.out) k_ hk_.2.1)⟩)) (below_size (by repeat (first | exact HB.out | apply below_alloc | apply pw_below_drewN | apply below_drew1 | refine below_set ?_ GE528.out)))); have n1_ := Aside0.mk (blk_below (blk_u BK528.out) hb); have n2_ := Aside0.mk (below_step (by repeat (first | exact HB.out | apply below_alloc | apply pw_below_drewN | apply below_drew1 | refine below_set ?_ GE528.out)) hb); clear BK528; clear HB; have HO533 := n0_; have BK528 := n1_; have HB := n2_; clear n0_ n1_ n2_; (try clear hb); (try clear hb2); (try clear hk); (try clear hi); (try clear ho0); obtain ⟨Ao12, co12, eo12⟩ := Kd.N_slice HO533.out; subst eo12; have hcz13_0 : w11.cell? ⟨gb528, 0, none⟩ = some (.int .i64 0) := (blk_cell BK528.out 0).trans rfl; have hcz13_1 : w11.cell? ⟨gb528, 1, none⟩ = some (.int .i64 0) := (blk_cell BK528.out 1).trans rfl; have hcz13_2 : w11.cell? ⟨gb528, 2, none⟩ = some (.bool false) := (blk_cell BK528.out 2).trans rfl; have hcz13_3 : w11.cell? ⟨gb528, 3, none⟩ = some (.slice none 0 0) := (blk_cell BK528.out 3).trans rfl; have hcz13_4 : w11.cell? ⟨gb528, 4, none⟩ = some (.slice none 0 0) := (blk_cell BK528.out 4).trans rfl; have hfz13_0 := blk_frozen BK528.out 0; have hfz13_1 := blk_frozen BK528.out 1; have hfz13_2 := blk_frozen BK528.out 2; have hfz13_3 := blk_frozen BK528.out 3; have hfz13_4 := blk_frozen BK528.out 4))
    refine bodyPost_ret (results_ct rfl _ _ gb528 77 #[.int .i64 0, .int .i64 0, .bool false, .slice none 0 0, .slice none 0 0] (0, 0) _ rfl (by (with_reducible repeat (first | refine blk_drewN ?_ _ | refine blk_drew ?_ | refine blk_alloc ?_ _)); refine blk_put (cs := #[.int .i64 0, .int .i64 0, .bool false, .slice none 0 0, .slice none 0 0]) ?_ 4 _ rfl; (with_reducible repeat (first | refine blk_drewN ?_ _ | refine blk_drew ?_ | refine blk_alloc ?_ _)); refine blk_put (cs := #[.int .i64 0, .int .i64 0, .bool false, .slice none 0 0, .slice none 0 0]) ?_ 3 _ rfl; (with_reducible repeat (first | refine blk_drewN ?_ _ | refine blk_drew ?_ | refine blk_alloc ?_ _)); refine blk_put (cs := #[.int .i64 0, .int .i64 0, .bool false, .slice none 0 0, .slice none 0 0]) ?_ 2 _ rfl; (with_reducible repeat (first | refine blk_drewN ?_ _ | refine blk_drew ?_ | refine blk_alloc ?_ _)); refine blk_put (cs := #[.int .i64 0, .int .i64 0, .bool false, .slice none 0 0, .slice none 0 0]) ?_ 1 _ rfl; (with_reducible repeat (first | refine blk_drewN ?_ _ | refine blk_drew ?_ | refine blk_alloc ?_ _)); refine blk_put (cs := #[.int .i64 0, .int .i64 0, .bool false, .slice none 0 0, .slice none 0 0]) ?_ 0 _ rfl; (with_reducible repeat (first | refine blk_drewN ?_ _ | refine blk_drew ?_ | refine blk_alloc ?_ _)); exact BK528.out) Tryz.underlying77 rfl (by kernel_rfl)) rfl ?_
    exact ⟨_, _, by first | rfl | (simp [errW_none, errW_some] <;> rfl), (Kd.V_nil _ _ _ _ _), (Kd.V_nil _ _ _ _ _), by repeat (first | exact HB.out | apply below_alloc | apply pw_below_drewN | apply below_drew1 | refine below_set ?_ GE528.out)⟩
  rw [if_neg c9] at H
  have c9b0 : decide (1 < (t529.length : Int)) = false := decide_eq_false c9
  have c9b1 : decide (1 < t529.length) = false := decide_eq_false (by omega)
  clear c9
  by_cases c14 : 0 < (t529.length : Int)
  rotate_left
  · rw [if_neg c14] at H
    exact absurd H (by simp)
  rw [if_pos c14] at H
  have c14b0 : decide (0 < (t529.length : Int)) = true := decide_eq_true c14
  have c14b1 : decide (0 < t529.length) = true := decide_eq_true (by omega)
  clear c14
  simp only [Option.some.injEq, Prod.mk.injEq] at H
  obtain ⟨rfl, rfl, rfl, rfl, rfl, rfl⟩ := H
  go_enter Tryz.func81, Tryz.ntmps81
  go_wp2_with (first | ((with_reducible refine gate_dst (N := 2) rfl ?_); refine box_event ?hg (N := 2) ?hd (cs := #[.int .i64 0, .int .i64 0, .bool false, .slice none 0 0, .slice none 0 0]) (t := 77) ?hr ?_; (case hd => rfl); (case hg => rfl); (case hr => first | (go_simp; done) | (go_simp; rfl)); intro gb528 hg w15 hbox hb; have n0_ := Aside0.mk (below_step (bU HB.out) hb); have n1_ := Aside0.mk (hbox); have n2_ := Aside0.mk ((by rw [hg]; exact (below_size (bU HB.out)) : w.heap.size ≤ gb528)); have n3_ := Aside0.mk ((by rw [hg]; exact (below_size (bU HB.out)) : w.heap.size ≤ gb528)); replace HB := n0_; have BK528 := n1_; have GW528 := n2_; have GE528 := n3_; clear n0_ n1_ n2_ n3_; clear hb hbox hg) | ((with_reducible refine gate_callee (f := 145) rfl ?_); refine goesL_ (some 9) rfl rfl Tryz.func145 (by kernel_rfl) rfl #[.slice A0 l0.length c0] rfl (by (try simp only [List.map_toArray, List.map_cons, List.map_nil]); first | done | rfl | (simp only [List.length_drop, List.length_take]; rfl)) ?_; (with_reducible refine (chirographref04_Split.calls k _ _ l0 t529 t530 t531 _ ?side1 ?side2 A2.out).mono ?_); (case side1 => exact Kd.C_u (Kd.C_below HR0.out HB.out)); (case side2 => exact HC0.out); rintro e w16 ⟨v532, rfl, ho0, hb⟩; refine ⟨_, rfl, ?_⟩; have n0_ := Aside0.mk (Kd.N_lower (Kd.N_mono (ok' := fun k_ => (w.heap.size ≤ k_) ∧ k_ ≠ gb528) (Kd.S_N (Kd.S_bound ho0)) (fun k_ hk_ => ⟨(Nat.le_trans (below_size (by repeat (first | exact HB.out | apply below_alloc | apply pw_below_drewN | apply below_drew1 | refine below_set ?_ GE528.out))) hk_.2.1), (Kd.freshB (blk_u BK528.out) k_ hk_.2.1)⟩)) (below_size (by repeat (first | exact HB.out | apply below_alloc | apply pw_below_drewN | apply below_drew1 | refine below_set ?_ GE528.out)))); have n1_ := Aside0.mk (blk_below (blk_u BK528.out) hb); have n2_ := Aside0.mk (below_step (by repeat (first | exact HB.out | apply below_alloc | apply pw_below_drewN | apply below_drew1 | refine below_set ?_ GE528.out)) hb); clear BK528; clear HB; have HO533 := n0_; have BK528 := n1_; have HB := n2_; clear n0_ n1_ n2_; (try clear hb); (try clear hb2); (try clear hk); (try clear hi); (try clear ho0); obtain ⟨Ao17, co17, eo17⟩ := Kd.N_slice HO533.out; subst eo17; have p534 : 0 ≤ (0 : Int) := (by omega); have q534 : 0 < (t529.length : Int) := of_decide_eq_true (by first | (with_reducible assumption) | assumption); obtain ⟨ad534, A534_3, c534_3, A534_4, c534_4, e534, hx534_0, hx534_1, hx534_2, hx534_3, hx534_4, hl534_3, hi534_3, hl534_4, hi534_4⟩ := at_T77 (Kd.N_reads' HO533.out).2.2 0 p534 q534; cases e534; obtain ⟨ce534, hce534, hMe534, hcc534⟩ := Kd.N_get HO533.out z77 0 p534 (by first | exact q534 | exact of_decide_eq_true (by first | (with_reducible assumption) | assumption) | (have e_ := (Kd.N_reads' HO533.out).1; omega)); obtain ⟨ua534_3, uc534_3, ua534_4, uc534_4, rfl, ul534_3, ge534_3, ul534_4, ge534_4⟩ := k77_openF hMe534; have hv534_3 := hcc534 3 _ rfl; rw [add_field _ _ 3 (by omega)] at hv534_3; replace hv534_3 := Option.some.inj (hv534_3.symm.trans hx534_3); injection hv534_3 with hva_ hvn_ hvc_; rw [hva_] at ge534_3; rw [hvc_] at ul534_3; have HL534_3 := Aside0.mk (show Kd.V (Kd.int .u8) 5 _ w.heap.size _ _ ((rd_T77 t529 0).f3) from Kd.V_mk ul534_3 ge534_3); clear hva_ hvn_ hvc_ ge534_3 ul534_3; have hv534_4 := hcc534 4 _ rfl; rw [add_field _ _ 4 (by omega)] at hv534_4; replace hv534_4 := Option.some.inj (hv534_4.symm.trans hx534_4); injection hv534_4 with hva_ hvn_ hvc_; rw [hva_] at ge534_4; rw [hvc_] at ul534_4; have HL534_4 := Aside0.mk (show Kd.V (Kd.int .u8) 5 _ w.heap.size _ _ ((rd_T77 t529 0).f4) from Kd.V_mk ul534_4 ge534_4); clear hva_ hvn_ hvc_ ge534_4 ul534_4; clear hcc534 hce534; have qi534 : (0 < t529.length) = True := eq_true (by omega); (try rw [show ((0 : Int)).toNat = 0 from rfl] at hx534_0); (try rw [show 0 * 5 = 0 from rfl] at hx534_0); (try rw [Addr.add_zero'] at hx534_0); (try rw [show ((0 : Int)).toNat = 0 from rfl] at hx534_1); (try rw [show 0 * 5 = 0 from rfl] at hx534_1); (try rw [Addr.add_zero'] at hx534_1); (try rw [show ((0 : Int)).toNat = 0 from rfl] at hx534_2); (try rw [show 0 * 5 = 0 from rfl] at hx534_2); (try rw [Addr.add_zero'] at hx534_2); (try rw [show ((0 : Int)).toNat = 0 from rfl] at hx534_3); (try rw [show 0 * 5 = 0 from rfl] at hx534_3); (try rw [Addr.add_zero'] at hx534_3); (try rw [show ((0 : Int)).toNat = 0 from rfl] at hx534_4); (try rw [show 0 * 5 = 0 from rfl] at hx534_4); (try rw [Addr.add_zero'] at hx534_4); have HR534_3 := Aside0.mk hi534_3; have HC534_3 := Aside0.mk hl534_3; clear hi534_3 hl534_3; have HR534_4 := Aside0.mk hi534_4; have HC534_4 := Aside0.mk hl534_4; clear hi534_4 hl534_4; replace p534 := eq_true p534; replace q534 := eq_true q534; have hcz18_0 : w16.cell? ⟨gb528, 0, none⟩ = some (.int .i64 0) := (blk_cell BK528.out 0).trans rfl; have hcz18_1 : w16.cell? ⟨gb528, 1, none⟩ = some (.int .i64 0) := (blk_cell BK528.out 1).trans rfl; have hcz18_2 : w16.cell? ⟨gb528, 2, none⟩ = some (.bool false) := (blk_cell BK528.out 2).trans rfl; have hcz18_3 : w16.cell? ⟨gb528, 3, none⟩ = some (.slice none 0 0) := (blk_cell BK528.out 3).trans rfl; have hcz18_4 : w16.cell? ⟨gb528, 4, none⟩ = some (.slice none 0 0) := (blk_cell BK528.out 4).trans rfl; have hfz18_0 := blk_frozen BK528.out 0; have hfz18_1 := blk_frozen BK528.out 1; have hfz18_2 := blk_frozen BK528.out 2; have hfz18_3 := blk_frozen BK528.out 3; have hfz18_4 := blk_frozen BK528.out 4))
  refine bodyPost_ret (results_ct rfl _ _ gb528 77 #[.int .i64 ((rd_T77 t529 0).f0), .int .i64 ((rd_T77 t529 0).f1), .bool ((rd_T77 t529 0).f2), .slice A534_3 ((rd_T77 t529 0).f3).length c534_3, .slice A534_4 ((rd_T77 t529 0).f4).length c534_4] (0, 0) _ rfl (by (with_reducible repeat (first | refine blk_drewN ?_ _ | refine blk_drew ?_ | refine blk_alloc ?_ _)); refine blk_put (cs := #[.int .i64 ((rd_T77 t529 0).f0), .int .i64 ((rd_T77 t529 0).f1), .bool ((rd_T77 t529 0).f2), .slice A534_3 ((rd_T77 t529 0).f3).length c534_3, .slice none 0 0]) ?_ 4 _ rfl; (with_reducible repeat (first | refine blk_drewN ?_ _ | refine blk_drew ?_ | refine blk_alloc ?_ _)); refine blk_put (cs := #[.int .i64 ((rd_T77 t529 0).f0), .int .i64 ((rd_T77 t529 0).f1), .bool ((rd_T77 t529 0).f2), .slice none 0 0, .slice none 0 0]) ?_ 3 _ rfl; (with_reducible repeat (first | refine blk_drewN ?_ _ | refine blk_drew ?_ | refine blk_alloc ?_ _)); refine blk_put (cs := #[.int .i64 ((rd_T77 t529 0).f0), .int .i64 ((rd_T77 t529 0).f1), .bool false, .slice none 0 0, .slice none 0 0]) ?_ 2 _ rfl; (with_reducible repeat (first | refine blk_drewN ?_ _ | refine blk_drew ?_ | refine blk_alloc ?_ _)); refine blk_put (cs := #[.int .i64 ((rd_T77 t529 0).f0), .int .i64 0, .bool false, .slice none 0 0, .slice none 0 0]) ?_ 1 _ rfl; (with_reducible repeat (first | refine blk_drewN ?_ _ | refine blk_drew ?_ | refine blk_alloc ?_ _)); refine blk_put (cs := #[.int .i64 0, .int .i64 0, .bool false, .slice none 0 0, .slice none 0 0]) ?_ 0 _ rfl; (with_reducible repeat (first | refine blk_drewN ?_ _ | refine blk_drew ?_ | refine blk_alloc ?_ _)); exact BK528.out) Tryz.underlying77 rfl (by kernel_rfl)) rfl ?_
  exact ⟨_, _, by first | rfl | (simp [errW_none, errW_some] <;> rfl), by (with_reducible repeat (first | apply Kd.V_alloc | apply Kd.V_drewN | apply Kd.V_drew)); exact Kd.V_mono (Kd.V_far (p := ⟨gb528, 4, none⟩) (Kd.V_far (p := ⟨gb528, 3, none⟩) (Kd.V_far (p := ⟨gb528, 2, none⟩) (Kd.V_far (p := ⟨gb528, 1, none⟩) (Kd.V_far (p := ⟨gb528, 0, none⟩) (Kd.V_mono HL534_3.out (fun k_ hk => (⟨hk, hk.1.2⟩ : _ ∧ k_ ≠ gb528))) (fun _ hk => hk.2) (.int .i64 ((rd_T77 t529 0).f0))) (fun _ hk => hk.2) (.int .i64 ((rd_T77 t529 0).f1))) (fun _ hk => hk.2) (.bool ((rd_T77 t529 0).f2))) (fun _ hk => hk.2) (.slice A534_3 ((rd_T77 t529 0).f3).length c534_3)) (fun _ hk => hk.2) (.slice A534_4 ((rd_T77 t529 0).f4).length c534_4)) (fun _ hk => hk.1.1.1), by (with_reducible repeat (first | apply Kd.V_alloc | apply Kd.V_drewN | apply Kd.V_drew)); exact Kd.V_mono (Kd.V_far (p := ⟨gb528, 4, none⟩) (Kd.V_far (p := ⟨gb528, 3, none⟩) (Kd.V_far (p := ⟨gb528, 2, none⟩) (Kd.V_far (p := ⟨gb528, 1, none⟩) (Kd.V_far (p := ⟨gb528, 0, none⟩) (Kd.V_mono HL534_4.out (fun k_ hk => (⟨hk, hk.1.2⟩ : _ ∧ k_ ≠ gb528))) (fun _ hk => hk.2) (.int .i64 ((rd_T77 t529 0).f0))) (fun _ hk => hk.2) (.int .i64 ((rd_T77 t529 0).f1))) (fun _ hk => hk.2) (.bool ((rd_T77 t529 0).f2))) (fun _ hk => hk.2) (.slice A534_3 ((rd_T77 t529 0).f3).length c534_3)) (fun _ hk => hk.2) (.slice A534_4 ((rd_T77 t529 0).f4).length c534_4)) (fun _ hk => hk.1.1.1), by repeat (first | exact HB.out | apply below_alloc | apply pw_below_drewN | apply below_drew1 | refine below_set ?_ GE528.out)⟩
end Go.Proofs.YtkioddjjfifadaaGreatDoor.P
namespace Go.Proofs.YtkioddjjfifadaaGreatDoor.P
open Go.RowKit Go.Proofs.YtkioddjjfifadaaGreatDoorW.PrintWords Go.Proofs.YtkioddjjfifadaaGreatDoorW.PrintMore
theorem rd77_mem (L : List S77) (i : Int) (h0 : 0 ≤ i) (h1 : i < (L.length : Int)) : rd_T77 L i ∈ L := by
  unfold rd_T77
  rw [List.getD_eq_getElem?_getD, List.getElem?_eq_getElem (by omega)]
  exact List.getElem_mem _
theorem one_both (x0 : List Int) (hb : ByL x0) (k : Nat) (hk : 3 * x0.length + 600 ≤ k) :
    ∃ c t s d r e, der_One.f k x0 = some (c, t, s, d, r, e) ∧ chirographref04_One.f k x0 = some (c, t, s, d, r, e) ∧ ByL d ∧ d.length ≤ x0.length ∧ 0 ≤ c ∧ c ≤ 3 := by
  obtain ⟨L, e, a, h1, h2, h3, h4⟩ := split_both x0 hb k hk
  have nil : ByL ([] : List Int) ∧ ([] : List Int).length ≤ x0.length ∧ (0 : Int) ≤ 0 ∧ (0 : Int) ≤ 3 := ⟨(fun c hc => by cases hc), Nat.zero_le _, by decide, by decide⟩
  have same : der_One.f k x0 = chirographref04_One.f k x0 := by
    unfold der_One.f chirographref04_One.f
    rw [h1, h2]
  rw [same]
  unfold chirographref04_One.f
  rw [h2, Option.bind_some]
  dsimp only
  by_cases ce : e = 0
  rotate_left
  · rw [if_neg ce]
    exact ⟨_, _, _, _, _, _, rfl, rfl, nil⟩
  rw [if_pos ce]
  by_cases c0 : (L.length : Int) = 0
  · rw [if_pos c0]
    exact ⟨_, _, _, _, _, _, rfl, rfl, nil⟩
  rw [if_neg c0]
  by_cases c1 : (L.length : Int) > 1
  · rw [if_pos c1]
    exact ⟨_, _, _, _, _, _, rfl, rfl, nil⟩
  have c2 : 0 < (L.length : Int) := by omega
  rw [if_neg c1, if_pos c2]
  exact ⟨_, _, _, _, _, _, rfl, rfl, h4 _ (rd77_mem L 0 (Int.le_refl _) c2)⟩
theorem in_both (c t : Int) (s : Bool) (d r : List Int) (hd : ByL d) (tag : Int) (k : Nat) (hk : 3 * d.length + 601 ≤ k) :
    ∃ L e, name_inside.f k c t s d r tag = some (L, e) ∧ chirographref07_in.f k c t s d r tag = some (L, e) ∧ (∀ x ∈ L, OkT d.length x) := by
  obtain ⟨k, rfl⟩ : ∃ k1, k = k1 + 1 := ⟨k - 1, by omega⟩
  have h3 : 3 * d.length + 600 ≤ k := by omega
  obtain ⟨L, e, a, h1, h2, e3, h4⟩ := split_both d hd k h3
  have g2 : chirographref04_Split.f (k + 1) d = some (L, e, a) := chirographref04_Split.mono d k _ h2
  have no : ∀ x ∈ ([] : List S77), OkT d.length x := fun x hx => by cases hx
  have t1 : name_inside.j0 (k + 1) true c t s d r = some ([], 30) := by rw [name_inside.j0, if_pos rfl]
  unfold name_inside.f chirographref07_in.f
  by_cases c0 : c = 0
  rotate_left
  · rw [if_neg c0, if_neg c0]
    exact ⟨_, _, t1, rfl, no⟩
  rw [if_pos c0, if_pos c0]
  by_cases c1 : t = tag
  rotate_left
  · rw [if_neg c1, if_neg c1]
    exact ⟨_, _, t1, rfl, no⟩
  rw [if_pos c1, if_pos c1]
  cases s with
  | false =>
    rw [if_neg (show ¬ (false = true) by decide)]
    exact ⟨_, _, t1, rfl, no⟩
  | true =>
    rw [if_pos rfl, g2, Option.bind_some, show (!true) = false from rfl, name_inside.j0, if_neg (show ¬ (false = true) by decide), h1, Option.bind_some]
    dsimp only
    by_cases ce : e = 0
    rotate_left
    · rw [if_neg ce]
      exact ⟨_, _, rfl, by rw [e3 ce], no⟩
    rw [if_pos ce]
    exact ⟨_, _, rfl, by rw [ce], h4⟩
theorem part_both (c t : Int) (s : Bool) (d r : List Int) (hd : ByL d) (hl : d.length ≤ 100000000) (k : Nat) (hk : 3 * d.length + 602 ≤ k) :
    ∃ o g v e, name_part.f k c t s d r = some (o, g, v, e) ∧ chirographref07_part.f k c t s d r = some (o, g, v, e) := by
  obtain ⟨k, rfl⟩ : ∃ k1, k = k1 + 1 := ⟨k - 1, by omega⟩
  obtain ⟨L, e, h1, h2, h4⟩ := in_both c t s d r hd 16 (k + 1) (by omega)
  have t1 : name_part.j0 (k + 1) L true = some (⟨#[]⟩, 0, [], 30) := by rw [name_part.j0, if_pos rfl]
  have t2 : chirographref07_part.j0 (k + 1) L true = some (⟨#[]⟩, 0, [], 30) := by rw [chirographref07_part.j0, if_pos rfl]
  unfold name_part.f chirographref07_part.f
  rw [h1, h2, Option.bind_some, Option.bind_some]
  dsimp only
  by_cases ce : e = 0
  rotate_left
  · rw [if_neg ce, if_neg ce]
    exact ⟨_, _, _, _, rfl, rfl⟩
  rw [if_pos ce, if_pos ce]
  by_cases c2 : (L.length : Int) = 2
  rotate_left
  · rw [if_neg c2, if_neg c2]
    exact ⟨_, _, _, _, t1, t2⟩
  have l0 : 0 < (L.length : Int) := by omega
  have l1 : 1 < (L.length : Int) := by omega
  obtain ⟨a1, a2, a3, a4⟩ := h4 _ (rd77_mem L 0 (Int.le_refl _) l0)
  obtain ⟨b1, b2, b3, b4⟩ := h4 _ (rd77_mem L 1 (by decide) l1)
  obtain ⟨o, e2, o1, o2⟩ := oid_both (rd_T77 L 0).f3 (by omega) a1 k (by omega)
  have w : wrap64 ((rd_T77 L 0).f0 + (rd_T77 L 1).f0) = (rd_T77 L 0).f0 + (rd_T77 L 1).f0 := wb (by omega) (by omega)
  have tail : ∃ o g v e, name_part.j0 (k + 1) L false = some (o, g, v, e) ∧ chirographref07_part.j0 (k + 1) L false = some (o, g, v, e) := by
    rw [name_part.j0, chirographref07_part.j0, if_neg (show ¬ (false = true) by decide), if_neg (show ¬ (false = true) by decide), if_pos l0, if_pos l0, o1, o2]
    simp only [Option.bind_some, if_pos l1]
    by_cases ce2 : e2 = 0
    rotate_left
    · rw [if_neg ce2]
      exact ⟨_, _, _, _, rfl, rfl⟩
    rw [if_pos ce2]
    exact ⟨_, _, _, _, rfl, rfl⟩
  have last : ∀ b : Bool, ∃ o g v e, name_part.j0 (k + 1) L b = some (o, g, v, e) ∧ chirographref07_part.j0 (k + 1) L b = some (o, g, v, e) := fun b => by
    cases b with
    | false => exact tail
    | true => exact ⟨_, _, _, _, t1, t2⟩
  have bad := last true
  rw [if_pos c2, if_pos c2, if_pos l0, if_pos l0, if_pos l1, if_pos l1, w]
  by_cases f0 : (rd_T77 L 0).f0 = 0
  rotate_left
  · rw [if_neg (show ¬ (rd_T77 L 0).f0 + (rd_T77 L 1).f0 = 0 by omega), if_neg f0]
    exact bad
  by_cases f1 : (rd_T77 L 1).f0 = 0
  rotate_left
  · rw [if_neg (show ¬ (rd_T77 L 0).f0 + (rd_T77 L 1).f0 = 0 by omega), if_pos f0, if_neg f1]
    by_cases ft : (rd_T77 L 0).f1 = 6
    rotate_left
    · rw [if_neg ft]
      exact bad
    rw [if_pos ft]
    exact bad
  rw [if_pos (show (rd_T77 L 0).f0 + (rd_T77 L 1).f0 = 0 by omega), if_pos f0, if_pos f1]
  by_cases ft : (rd_T77 L 0).f1 = 6
  rotate_left
  · rw [if_neg ft, if_neg ft]
    exact bad
  rw [if_pos ft, if_pos ft]
  by_cases fc : (rd_T77 L 0).f2 = true
  rotate_left
  · rw [if_neg fc, if_neg fc]
    exact last _
  rw [if_pos fc, if_pos fc]
  exact bad
end Go.Proofs.YtkioddjjfifadaaGreatDoor.P
namespace Go.Proofs.YtkioddjjfifadaaGreatDoor.P
theorem sz_alloc (w : World) (o : Obj) : (w.alloc o).heap.size = w.heap.size + 1 := by show (w.heap.push _).size = _; simp
end Go.Proofs.YtkioddjjfifadaaGreatDoor.P
namespace Go.Proofs.YtkioddjjfifadaaGreatDoor.P
open Go.RowKit Go.Proofs.YtkioddjjfifadaaGreatDoorW.PrintWords Go.Proofs.YtkioddjjfifadaaGreatDoorW.PrintLast Go.Proofs.YtkioddjjfifadaaGreatDoorW.PrintMore
attribute [local go_sem] max2_int min2_int max_two min_two max_three min_three max_four min_four
set_option linter.unusedVariables false
set_option linter.unusedSimpArgs false
def name_set.l0 : Nat → List (S64) → List (S77) → Int → Int → Option ((List (S64)) × Int)
  | 0, _, _, _, _ => none
  | k + 1, x6, x30, x31, x32 => if x32 < x31 then (if 0 ≤ x32 then (if x32 < (x30.length : Int) then ((name_part.f k ((rd_T77 x30 x32).f0) ((rd_T77 x30 x32).f1) ((rd_T77 x30 x32).f2) ((rd_T77 x30 x32).f3) ((rd_T77 x30 x32).f4)).bind fun bt216 => (if bt216.2.2.2 = 0 then (if x6.length < 2932031007402 then (name_set.l0 k (x6 ++ [(⟨bt216.1, bt216.2.1, bt216.2.2.1⟩ : S64)]) x30 x31 (wrap64 (x32 + 1))) else (none)) else (some (([] : List (S64)), bt216.2.2.2)))) else (none)) else (none)) else (some (x6, 0))
def name_set.f (k : Nat) (a0_0 : Int) (a0_1 : Int) (a0_2 : Bool) (l0_3 : List Int) (l0_4 : List Int) : Option ((List (S64)) × Int) := (name_inside.f k a0_0 a0_1 a0_2 l0_3 l0_4 17).bind fun bt210 => (if bt210.2 = 0 then (if (bt210.1.length : Int) = 0 then (some (([] : List (S64)), 5)) else (if (bt210.1.length : Int) > 64 then (some (([] : List (S64)), 4)) else (name_set.l0 k ([] : List (S64)) bt210.1 (bt210.1.length : Int) 0))) else (some (([] : List (S64)), bt210.2)))
set_option maxHeartbeats 8000000 in
set_option maxRecDepth 100000 in
theorem name_set.calls (k : Nat) (a0_0 : Int) (a0_1 : Int) (a0_2 : Bool) (A0_3 : Option Addr) (c0_3 : Nat) (l0_3 : List Int) (A0_4 : Option Addr) (c0_4 : Nat) (l0_4 : List Int) (r1 : List (S64)) (r2 : Int) (w : World) (hr0_3 : Kd.C (Kd.int .u8) w A0_3 l0_3.length l0_3) (hc0_3 : l0_3.length ≤ c0_3) (hr0_4 : Kd.C (Kd.int .u8) w A0_4 l0_4.length l0_4) (hc0_4 : l0_4.length ≤ c0_4) (h : name_set.f k a0_0 a0_1 a0_2 l0_3 l0_4 = some (r1, r2)) (hH : Tb w) :
    Calls Tryz.prog 142 #[.agg #[.int .i64 a0_0, .int .i64 a0_1, .bool a0_2, .slice A0_3 l0_3.length c0_3, .slice A0_4 l0_4.length c0_4]] w fun e w' => ∃ v0_ ev_ : Value, e = .returned (.tuple #[v0_, ev_]) ∧ EV ev_ r2 ∧ Kd.S k64 64 w' w.heap.size (fun _ => True) v0_ r1 ∧ Below w.heap.size w w' := by
  have hu77 := Tryz.underlying77
  have hu64 := Tryz.underlying64
  have HR3 := Aside0.mk hr0_3
  have HC3 := Aside0.mk hc0_3
  have HR4 := Aside0.mk hr0_4
  have HC4 := Aside0.mk hc0_4
  have HT := Aside0.mk hH
  clear hr0_3 hc0_3 hr0_4 hc0_4 hH
  unfold name_set.f at h
  obtain ⟨⟨L, e1⟩, hin, hf⟩ := Option.bind_eq_some_iff.1 h
  replace hf : (if e1 = 0 then (if (L.length : Int) = 0 then (some (([] : List (S64)), 5)) else (if (L.length : Int) > 64 then (some (([] : List (S64)), 4)) else (name_set.l0 k ([] : List (S64)) L (L.length : Int) 0))) else (some (([] : List (S64)), e1))) = some (r1, r2) := hf
  have AI := Aside0.mk hin
  clear h hin
  by_cases f1 : e1 = 0
  rotate_left
  · rw [if_neg f1] at hf
    have N1 : (e1 == 0) = false := beq_eq_false_iff_ne.mpr f1
    have N2 : (e1 != 0) = true := bne_iff_ne.mpr f1
    obtain ⟨rfl, rfl⟩ : ([] : List S64) = r1 ∧ e1 = r2 := by injection (Option.some.inj hf) with x y; exact ⟨x, y⟩
    clear hf
    clear f1
    go_enter Tryz.func142, Tryz.ntmps142
    go_wp2_with ((with_reducible refine gate_dst (N := 1) rfl ?_); refine box_event ?hg (N := 1) ?hd (cs := #[.int .i64 a0_0, .int .i64 a0_1, .bool a0_2, .slice A0_3 l0_3.length c0_3, .slice A0_4 l0_4.length c0_4]) (t := 77) ?hr ?_; (case hd => rfl); (case hg => rfl); (case hr => first | (go_simp; done) | (go_simp; rfl)); intro g1 hg w1 hbox hb; have HB := Aside0.mk hb; have hc0 : w1.cell? ⟨g1, 0, none⟩ = some (.int .i64 a0_0) := (blk_cell hbox 0).trans rfl; have hc1 : w1.cell? ⟨g1, 1, none⟩ = some (.int .i64 a0_1) := (blk_cell hbox 1).trans rfl; have hc2 : w1.cell? ⟨g1, 2, none⟩ = some (.bool a0_2) := (blk_cell hbox 2).trans rfl; have hc3 : w1.cell? ⟨g1, 3, none⟩ = some (.slice A0_3 l0_3.length c0_3) := (blk_cell hbox 3).trans rfl; have hc4 : w1.cell? ⟨g1, 4, none⟩ = some (.slice A0_4 l0_4.length c0_4) := (blk_cell hbox 4).trans rfl; clear hb hbox hg)
    refine (name_inside.calls k a0_0 a0_1 a0_2 _ _ l0_3 _ _ l0_4 17 L e1 _ (Kd.C_below HR3.out HB.out) HC3.out (Kd.C_below HR4.out HB.out) HC4.out AI.out).mono ?_
    rintro e w51 ⟨v, ev_, rfl, hev_, ho0, hb⟩
    obtain ⟨et_, eu_, rfl⟩ := EV.some_of hev_ N1
    have HEV_ := Aside0.mk hev_
    clear hev_
    obtain ⟨C, cL, rfl⟩ := Kd.S_slice ho0
    have HLn := Aside0.mk (Kd.S_reads' ho0).2.2
    replace HB := Aside0.mk (below_step HB.out hb)
    clear hb ho0 hc0 hc1 hc2 hc3 hc4
    go_wp2_with fail
    go_ret2
    exact ⟨_, _, (by first | rfl | (simp [errW_none, errW_some] <;> rfl)), (by first | exact EV.nil | exact EV.f5 | exact EV.f4 | exact HEV_.out | exact EV.part HEV_.out), Kd.S_nil _ _ _ _ _, (bU HB.out)⟩
  subst f1
  rw [if_pos rfl] at hf
  by_cases g0 : (L.length : Int) = 0
  · rw [if_pos g0] at hf
    have Z0 : ((L.length : Int) == 0) = true := beq_iff_eq.mpr g0
    clear g0
    obtain ⟨rfl, rfl⟩ : ([] : List S64) = r1 ∧ (5 : Int) = r2 := by injection (Option.some.inj hf) with x y; exact ⟨x, y⟩
    clear hf
    go_enter Tryz.func142, Tryz.ntmps142
    go_wp2_with ((with_reducible refine gate_dst (N := 1) rfl ?_); refine box_event ?hg (N := 1) ?hd (cs := #[.int .i64 a0_0, .int .i64 a0_1, .bool a0_2, .slice A0_3 l0_3.length c0_3, .slice A0_4 l0_4.length c0_4]) (t := 77) ?hr ?_; (case hd => rfl); (case hg => rfl); (case hr => first | (go_simp; done) | (go_simp; rfl)); intro g1 hg w1 hbox hb; have HB := Aside0.mk hb; have hc0 : w1.cell? ⟨g1, 0, none⟩ = some (.int .i64 a0_0) := (blk_cell hbox 0).trans rfl; have hc1 : w1.cell? ⟨g1, 1, none⟩ = some (.int .i64 a0_1) := (blk_cell hbox 1).trans rfl; have hc2 : w1.cell? ⟨g1, 2, none⟩ = some (.bool a0_2) := (blk_cell hbox 2).trans rfl; have hc3 : w1.cell? ⟨g1, 3, none⟩ = some (.slice A0_3 l0_3.length c0_3) := (blk_cell hbox 3).trans rfl; have hc4 : w1.cell? ⟨g1, 4, none⟩ = some (.slice A0_4 l0_4.length c0_4) := (blk_cell hbox 4).trans rfl; clear hb hbox hg)
    refine (name_inside.calls k a0_0 a0_1 a0_2 _ _ l0_3 _ _ l0_4 17 L 0 _ (Kd.C_below HR3.out HB.out) HC3.out (Kd.C_below HR4.out HB.out) HC4.out AI.out).mono ?_
    rintro e w51 ⟨v, ev_, rfl, hev_, ho0, hb⟩
    obtain rfl := EV.nil_of hev_ rfl
    clear hev_
    obtain ⟨C, cL, rfl⟩ := Kd.S_slice ho0
    have HLn := Aside0.mk (Kd.S_reads' ho0).2.2
    replace HB := Aside0.mk (below_step HB.out hb)
    clear hb ho0 hc0 hc1 hc2 hc3 hc4
    go_wp2_with fail
    go_ret2
    exact ⟨_, _, (by first | rfl | (simp [errW_none, errW_some] <;> rfl)), (by first | exact EV.nil | exact EV.f5 | exact EV.f4 | exact HEV_.out | exact EV.part HEV_.out), Kd.S_nil _ _ _ _ _, (bU HB.out)⟩
  rw [if_neg g0] at hf
  have Z0 : ((L.length : Int) == 0) = false := beq_eq_false_iff_ne.mpr g0
  clear g0
  by_cases g1 : (L.length : Int) > 64
  · rw [if_pos g1] at hf
    have Z1 : decide (64 < (L.length : Int)) = true := decide_eq_true g1
    have Z2 : decide (64 < L.length) = true := decide_eq_true (by omega)
    clear g1
    obtain ⟨rfl, rfl⟩ : ([] : List S64) = r1 ∧ (4 : Int) = r2 := by injection (Option.some.inj hf) with x y; exact ⟨x, y⟩
    clear hf
    go_enter Tryz.func142, Tryz.ntmps142
    go_wp2_with ((with_reducible refine gate_dst (N := 1) rfl ?_); refine box_event ?hg (N := 1) ?hd (cs := #[.int .i64 a0_0, .int .i64 a0_1, .bool a0_2, .slice A0_3 l0_3.length c0_3, .slice A0_4 l0_4.length c0_4]) (t := 77) ?hr ?_; (case hd => rfl); (case hg => rfl); (case hr => first | (go_simp; done) | (go_simp; rfl)); intro g1 hg w1 hbox hb; have HB := Aside0.mk hb; have hc0 : w1.cell? ⟨g1, 0, none⟩ = some (.int .i64 a0_0) := (blk_cell hbox 0).trans rfl; have hc1 : w1.cell? ⟨g1, 1, none⟩ = some (.int .i64 a0_1) := (blk_cell hbox 1).trans rfl; have hc2 : w1.cell? ⟨g1, 2, none⟩ = some (.bool a0_2) := (blk_cell hbox 2).trans rfl; have hc3 : w1.cell? ⟨g1, 3, none⟩ = some (.slice A0_3 l0_3.length c0_3) := (blk_cell hbox 3).trans rfl; have hc4 : w1.cell? ⟨g1, 4, none⟩ = some (.slice A0_4 l0_4.length c0_4) := (blk_cell hbox 4).trans rfl; clear hb hbox hg)
    refine (name_inside.calls k a0_0 a0_1 a0_2 _ _ l0_3 _ _ l0_4 17 L 0 _ (Kd.C_below HR3.out HB.out) HC3.out (Kd.C_below HR4.out HB.out) HC4.out AI.out).mono ?_
    rintro e w51 ⟨v, ev_, rfl, hev_, ho0, hb⟩
    obtain rfl := EV.nil_of hev_ rfl
    clear hev_
    obtain ⟨C, cL, rfl⟩ := Kd.S_slice ho0
    have HLn := Aside0.mk (Kd.S_reads' ho0).2.2
    replace HB := Aside0.mk (below_step HB.out hb)
    clear hb ho0 hc0 hc1 hc2 hc3 hc4
    go_wp2_with fail
    go_ret2
    exact ⟨_, _, (by first | rfl | (simp [errW_none, errW_some] <;> rfl)), (by first | exact EV.nil | exact EV.f5 | exact EV.f4 | exact HEV_.out | exact EV.part HEV_.out), Kd.S_nil _ _ _ _ _, (bU HB.out)⟩
  rw [if_neg g1] at hf
  have Z1 : decide (64 < (L.length : Int)) = false := decide_eq_false g1
  have Z2 : decide (64 < L.length) = false := decide_eq_false (by omega)
  clear g1
  have AL := Aside0.mk hf
  clear hf
  go_enter Tryz.func142, Tryz.ntmps142
  go_wp2_with ((with_reducible refine gate_dst (N := 1) rfl ?_); refine box_event ?hg (N := 1) ?hd (cs := #[.int .i64 a0_0, .int .i64 a0_1, .bool a0_2, .slice A0_3 l0_3.length c0_3, .slice A0_4 l0_4.length c0_4]) (t := 77) ?hr ?_; (case hd => rfl); (case hg => rfl); (case hr => first | (go_simp; done) | (go_simp; rfl)); intro g1 hg w1 hbox hb; have HB := Aside0.mk hb; have hc0 : w1.cell? ⟨g1, 0, none⟩ = some (.int .i64 a0_0) := (blk_cell hbox 0).trans rfl; have hc1 : w1.cell? ⟨g1, 1, none⟩ = some (.int .i64 a0_1) := (blk_cell hbox 1).trans rfl; have hc2 : w1.cell? ⟨g1, 2, none⟩ = some (.bool a0_2) := (blk_cell hbox 2).trans rfl; have hc3 : w1.cell? ⟨g1, 3, none⟩ = some (.slice A0_3 l0_3.length c0_3) := (blk_cell hbox 3).trans rfl; have hc4 : w1.cell? ⟨g1, 4, none⟩ = some (.slice A0_4 l0_4.length c0_4) := (blk_cell hbox 4).trans rfl; clear hb hbox hg)
  refine (name_inside.calls k a0_0 a0_1 a0_2 _ _ l0_3 _ _ l0_4 17 L 0 _ (Kd.C_below HR3.out HB.out) HC3.out (Kd.C_below HR4.out HB.out) HC4.out AI.out).mono ?_
  rintro e w51 ⟨v, ev_, rfl, hev_, ho0, hb⟩
  obtain rfl := EV.nil_of hev_ rfl
  clear hev_
  obtain ⟨C, cL, rfl⟩ := Kd.S_slice ho0
  have HLn := Aside0.mk (Kd.S_reads' ho0).2.2
  replace HB := Aside0.mk (below_step HB.out hb)
  clear hb ho0 hc0 hc1 hc2 hc3 hc4
  go_wp2_with fail
  go_loopg [6, 32] k (fun kq v6 v32 w' => ∃ (acc : List S64) (j : Int), v32 = .int .i64 j ∧ Aside0 (name_set.l0 kq acc L (L.length : Int) j = some (r1, r2)) ∧ Aside0 (kq ≤ k) ∧ Aside0 (Kd.S k64 64 w' w51.heap.size (fun _ => True) v6 acc) ∧ Aside0 (Below w51.heap.size w51 w'))
  case atStart => exact ⟨([] : List S64), 0, rfl, AL, ⟨Nat.le_refl _⟩, ⟨Kd.S_nil _ _ _ _ _⟩, ⟨(by repeat (first | (with_reducible first | exact (Below.refl _ _) | apply below_alloc | apply pw_below_drewN | apply below_drew1) | exact (Below.refl _ _)))⟩⟩
  case round =>
    obtain ⟨acc, j, rfl, HA2, HK2, HS, HV⟩ := hrel
    cases gk with
    | zero => exact absurd HA2.out (by simp [name_set.l0])
    | succ k2 =>
      have H := HA2.out
      clear HA2
      simp only [name_set.l0] at H
      by_cases d1 : j < (L.length : Int)
      rotate_left
      · have d1b : decide (j < (L.length : Int)) = false := decide_eq_false d1
        rw [if_neg d1] at H
        clear d1
        obtain ⟨rfl, rfl⟩ : acc = r1 ∧ (0 : Int) = r2 := by injection (Option.some.inj H) with x y; exact ⟨x, y⟩
        go_wp2
        go_ret2
        exact ⟨_, _, (by first | rfl | (simp [errW_none, errW_some] <;> rfl)), EV.nil, Kd.S_lower (Kd.S_u HS.out) (below_size HB.out), below_step HB.out (bU HV.out)⟩
      have d1b : decide (j < (L.length : Int)) = true := decide_eq_true d1
      rw [if_pos d1] at H
      by_cases d2 : 0 ≤ j
      rotate_left
      · rw [if_neg d2] at H
        exact absurd H (by simp)
      have d2b : decide (0 ≤ j) = true := decide_eq_true d2
      rw [if_pos d2, if_pos d1] at H
      clear d1 d2
      obtain ⟨⟨t0, t1, t2, t3⟩, hp, H⟩ := Option.bind_eq_some_iff.1 H
      try dsimp only at H
      have AP := Aside0.mk hp
      clear hp
      by_cases d3 : t3 = 0
      rotate_left
      · rw [if_neg d3] at H
        have N1 : (t3 == 0) = false := beq_eq_false_iff_ne.mpr d3
        have N2 : (t3 != 0) = true := bne_iff_ne.mpr d3
        have T0 := N1
        have T1 := N2
        obtain ⟨rfl, rfl⟩ : ([] : List S64) = r1 ∧ t3 = r2 := by injection (Option.some.inj H) with x y; exact ⟨x, y⟩
        clear H
        clear d3
        have pj : 0 ≤ (j : Int) := of_decide_eq_true d2b
        have qj : j < (L.length : Int) := of_decide_eq_true d1b
        obtain ⟨adj, A3j, c3j, A4j, c4j, ej, h0j, h1j, h2j, h3j, h4j, l3j, i3j, l4j, i4j⟩ := at_T77 (Kd.C_below HLn.out HV.out) j pj qj
        cases ej
        have E3j := Aside0.mk i3j
        have D3j := Aside0.mk l3j
        have E4j := Aside0.mk i4j
        have D4j := Aside0.mk l4j
        clear i3j l3j i4j l4j
        replace pj := eq_true pj
        replace qj := eq_true qj
        go_wp2_with fail
        refine (name_part.calls k2 ((rd_T77 L j).f0) ((rd_T77 L j).f1) ((rd_T77 L j).f2) _ _ ((rd_T77 L j).f3) _ _ ((rd_T77 L j).f4) t0 t1 t2 t3 _ (by repeat (first | exact E3j.out | (with_reducible refine Kd.C_drewN ?_ _) | (with_reducible refine Kd.C_alloc ?_ _) | (with_reducible refine Kd.C_drew ?_))) D3j.out (by repeat (first | exact E4j.out | (with_reducible refine Kd.C_drewN ?_ _) | (with_reducible refine Kd.C_alloc ?_ _) | (with_reducible refine Kd.C_drew ?_))) D4j.out AP.out (Tb.below HT.out (by repeat (first | (with_reducible first | exact (below_step HB.out HV.out) | apply below_alloc | apply pw_below_drewN | apply below_drew1) | exact (below_step HB.out HV.out))))).mono ?_
        rintro e w52 ⟨v, ev_, rfl, hev_, ho0, hb⟩
        obtain ⟨et_, eu_, rfl⟩ := EV.some_of hev_ N1
        have HEV_ := Aside0.mk hev_
        clear hev_
        obtain ⟨P, p_, eP⟩ := Kd.R_slice ho0
        subst eP
        have n2_ := Aside0.mk (below_step (bU HV.out) hb)
        clear HV hb ho0
        have HV := n2_
        clear n2_
        go_wp2_with fail
        go_ret2
        exact ⟨_, _, (by first | rfl | (simp [errW_none, errW_some] <;> rfl)), (by first | exact EV.nil | exact EV.f5 | exact EV.f4 | exact HEV_.out | exact EV.part HEV_.out), Kd.S_nil _ _ _ _ _, (by repeat (first | (with_reducible first | exact (below_step HB.out HV.out) | apply below_alloc | apply pw_below_drewN | apply below_drew1) | exact (below_step HB.out HV.out)))⟩
      have T0 : (t3 == 0) = true := beq_iff_eq.mpr d3
      have T1 : (t3 != 0) = false := bne_eq_false_iff_eq.mpr d3
      rw [if_pos d3] at H
      subst d3
      by_cases d4 : acc.length < 2932031007402
      rotate_left
      · rw [if_neg d4] at H
        exact absurd H (by simp)
      rw [if_pos d4] at H
      have LM := Aside0.mk d4
      clear d4
      obtain ⟨y, hy⟩ : ∃ y_ : List S64, y_ = (acc ++ [(⟨t0, t1, t2⟩ : S64)]) := ⟨_, rfl⟩
      rw [← hy] at H
      have NY := Aside0.mk hy
      clear hy
      have H' := Aside0.mk H
      clear H
      have pj : 0 ≤ (j : Int) := of_decide_eq_true d2b
      have qj : j < (L.length : Int) := of_decide_eq_true d1b
      obtain ⟨adj, A3j, c3j, A4j, c4j, ej, h0j, h1j, h2j, h3j, h4j, l3j, i3j, l4j, i4j⟩ := at_T77 (Kd.C_below HLn.out HV.out) j pj qj
      cases ej
      have E3j := Aside0.mk i3j
      have D3j := Aside0.mk l3j
      have E4j := Aside0.mk i4j
      have D4j := Aside0.mk l4j
      clear i3j l3j i4j l4j
      replace pj := eq_true pj
      replace qj := eq_true qj
      go_wp2_with fail
      refine (name_part.calls k2 ((rd_T77 L j).f0) ((rd_T77 L j).f1) ((rd_T77 L j).f2) _ _ ((rd_T77 L j).f3) _ _ ((rd_T77 L j).f4) t0 t1 t2 0 _ (by repeat (first | exact E3j.out | (with_reducible refine Kd.C_drewN ?_ _) | (with_reducible refine Kd.C_alloc ?_ _) | (with_reducible refine Kd.C_drew ?_))) D3j.out (by repeat (first | exact E4j.out | (with_reducible refine Kd.C_drewN ?_ _) | (with_reducible refine Kd.C_alloc ?_ _) | (with_reducible refine Kd.C_drew ?_))) D4j.out AP.out (Tb.below HT.out (by repeat (first | (with_reducible first | exact (below_step HB.out HV.out) | apply below_alloc | apply pw_below_drewN | apply below_drew1) | exact (below_step HB.out HV.out))))).mono ?_
      rintro e w52 ⟨v, ev_, rfl, hev_, ho0, hb⟩
      obtain rfl := EV.nil_of hev_ rfl
      clear hev_
      have n0_ := Aside0.mk (Kd.S_elder' (Kd.S_u HS.out) (Kd.R_base ho0) hb)
      have n1_ := Aside0.mk (Kd.R_lower ho0 (below_size (bU HV.out)))
      have n2_ := Aside0.mk (below_step (bU HV.out) hb)
      clear HS HV hb ho0 h0j h1j h2j h3j h4j E3j E4j D3j D4j
      have HS := n0_
      have HP := n1_
      have HV := n2_
      clear n0_ n1_ n2_
      obtain ⟨P, p_, eP⟩ := Kd.R_slice HP.out
      subst eP
      go_wp2_with ((with_reducible refine gate_builtin (b := .append) (xs := #[.tmp 48, .tmp 50]) rfl ?_); at_builtin; refine Kd.S_append k64 (w0 := w51) w51.heap.size rfl (.tmp 48) (.tmp 50) 62 64 (.agg #[(.string ⟨#[]⟩), (.int .i64 0), (.slice none 0 0)]) 48 rfl Tryz.underlying62 info64 rfl (by decide) (by omega) u6 acc (⟨t0, t1, t2⟩ : S64) [.string t0, .int .i64 t1, .slice P t2.length p_] (fun _ => True) (fun k_ => some k_ = (.slice P t2.length p_ : Value).ownBlock) rfl ?aX ?aP ?aH (fun _ _ => trivial) ?aO ?aB ?aS ?aL ?_; (case aX => simp only [sz_alloc]; rfl); (case aP => exact k64_mkM _ _ _ (⟨t0, t1, t2⟩ : S64) (Kd.R_tight rfl (Kd.R_u HP.out))); (case aH => have h_ := Kd.R_apart' HP.out (Kd.S_typed HS.out) (by decide); exact fun k_ hk_ => h_.1 k_ hk_.symm); (case aB => exact (bU HV.out)); (case aO => (with_reducible repeat (first | apply Kd.S_alloc | apply Kd.S_drewN | apply Kd.S_drew)); exact Kd.S_mono HS.out (fun k_ hk => ⟨trivial, fun e_ => hk.2 e_⟩)); (case aS => exact (below_size (bU HV.out))); (case aL => have := LM.out; omega); intro v224 w55 ho hb hg hat; rw [← NY.out] at ho; have n6_ := Aside0.mk hb; have n7_ := Aside0.mk ho; clear HV HS HP; have HV := n6_; have HS := n7_; clear n6_ n7_ ho hb hg hat)
      go_roundg k2
      case measure => have := HK2.out; omega
      case rel => exact ⟨y, (wrap64 (j + 1)), (by first | rfl | (simp; done)), H', ⟨by have := HK2.out; omega⟩, ⟨(Kd.S_u HS.out)⟩, ⟨(bU HV.out)⟩⟩
end Go.Proofs.YtkioddjjfifadaaGreatDoor.P
namespace Go.Proofs.YtkioddjjfifadaaGreatDoor.P
open Go.RowKit Go.Proofs.YtkioddjjfifadaaGreatDoorW.PrintWords Go.Proofs.YtkioddjjfifadaaGreatDoorW.PrintLast Go.Proofs.YtkioddjjfifadaaGreatDoorW.PrintMore
def ref_set.l0 : Nat → List (S64) → List (S77) → Int → Int → Option ((List (S64)) × Int)
  | 0, _, _, _, _ => none
  | k + 1, x6, x30, x31, x32 => if x32 < x31 then (if 0 ≤ x32 then (if x32 < (x30.length : Int) then ((chirographref07_part.f k ((rd_T77 x30 x32).f0) ((rd_T77 x30 x32).f1) ((rd_T77 x30 x32).f2) ((rd_T77 x30 x32).f3) ((rd_T77 x30 x32).f4)).bind fun bt216 => (if bt216.2.2.2 = 0 then (if x6.length < 2932031007402 then (ref_set.l0 k (x6 ++ [(⟨bt216.1, bt216.2.1, bt216.2.2.1⟩ : S64)]) x30 x31 (wrap64 (x32 + 1))) else (none)) else (some (([] : List (S64)), bt216.2.2.2)))) else (none)) else (none)) else (some (x6, 0))
def ref_set.f (k : Nat) (a0_0 : Int) (a0_1 : Int) (a0_2 : Bool) (l0_3 : List Int) (l0_4 : List Int) : Option ((List (S64)) × Int) := (chirographref07_in.f k a0_0 a0_1 a0_2 l0_3 l0_4 17).bind fun bt210 => (if bt210.2 = 0 then (if (bt210.1.length : Int) = 0 then (some (([] : List (S64)), 5)) else (if (bt210.1.length : Int) > 64 then (some (([] : List (S64)), 4)) else (ref_set.l0 k ([] : List (S64)) bt210.1 (bt210.1.length : Int) 0))) else (some (([] : List (S64)), bt210.2)))
end Go.Proofs.YtkioddjjfifadaaGreatDoor.P
namespace Go.Proofs.YtkioddjjfifadaaGreatDoor.P
open Go.RowKit Go.Proofs.YtkioddjjfifadaaGreatDoorW.PrintWords Go.Proofs.YtkioddjjfifadaaGreatDoorW.PrintLast Go.Proofs.YtkioddjjfifadaaGreatDoorW.PrintMore
attribute [local go_sem] max2_int min2_int max_two min_two max_three min_three max_four min_four
set_option linter.unusedVariables false
set_option linter.unusedSimpArgs false
def name_read.l0 : Nat → List (List (S64)) → List (S77) → Int → Int → Option ((List (List (S64))) × Int)
  | 0, _, _, _, _ => none
  | k + 1, x8, x35, x36, x37 => if x37 < x36 then (if 0 ≤ x37 then (if x37 < (x35.length : Int) then ((name_set.f k ((rd_T77 x35 x37).f0) ((rd_T77 x35 x37).f1) ((rd_T77 x35 x37).f2) ((rd_T77 x35 x37).f3) ((rd_T77 x35 x37).f4)).bind fun bt243 => (if bt243.2 = 0 then (if x8.length < 5864062014805 then (name_read.l0 k (x8 ++ [bt243.1]) x35 x36 (wrap64 (x37 + 1))) else (none)) else (some (([] : List (List (S64))), bt243.2)))) else (none)) else (none)) else (some (x8, 0))
def name_read.f (k : Nat) (l0 : List Int) : Option ((List (List (S64))) × Int) := (der_One.f k l0).bind fun bt226 => (if bt226.2.2.2.2.2 = 0 then ((name_inside.f k bt226.1 bt226.2.1 bt226.2.2.1 bt226.2.2.2.1 bt226.2.2.2.2.1 16).bind fun bt237 => (if bt237.2 = 0 then (if (bt237.1.length : Int) > 64 then (some (([] : List (List (S64))), 4)) else (name_read.l0 k ([] : List (List (S64))) bt237.1 (bt237.1.length : Int) 0)) else (some (([] : List (List (S64))), bt237.2)))) else (some (([] : List (List (S64))), bt226.2.2.2.2.2)))
set_option maxHeartbeats 8000000 in
set_option maxRecDepth 100000 in
theorem name_read.calls (k : Nat) (A0 : Option Addr) (c0 : Nat) (l0 : List Int) (r1 : List (List (S64))) (r2 : Int) (w : World) (hr0 : Kd.C (Kd.int .u8) w A0 l0.length l0) (hc0 : l0.length ≤ c0) (h : name_read.f k l0 = some (r1, r2)) (hH : Tb w) :
    Calls Tryz.prog 79 #[.slice A0 l0.length c0] w fun e w' => ∃ v0_ ev_ : Value, e = .returned (.tuple #[v0_, ev_]) ∧ EV ev_ r2 ∧ Kd.R (Kd.slice 64 k64) 62 w' w.heap.size (fun _ => True) v0_ r1 ∧ Below w.heap.size w w' := by
  have hu77 := Tryz.underlying77
  have hu64 := Tryz.underlying64
  have HR0 := Aside0.mk hr0
  have HC0 := Aside0.mk hc0
  have HT := Aside0.mk hH
  clear hr0 hc0 hH
  unfold name_read.f at h
  obtain ⟨⟨s0, s1, s2, s3, s4, o1⟩, hone, ho⟩ := Option.bind_eq_some_iff.1 h
  replace ho : (if o1 = 0 then ((name_inside.f k s0 s1 s2 s3 s4 16).bind fun bt => (if bt.2 = 0 then (if (bt.1.length : Int) > 64 then (some (([] : List (List S64)), 4)) else (name_read.l0 k ([] : List (List S64)) bt.1 (bt.1.length : Int) 0)) else (some (([] : List (List S64)), bt.2)))) else (some (([] : List (List S64)), o1))) = some (r1, r2) := ho
  have AO := Aside0.mk hone
  clear h hone
  by_cases z1 : o1 = 0
  rotate_left
  · rw [if_neg z1] at ho
    have N1 : (o1 == 0) = false := beq_eq_false_iff_ne.mpr z1
    have N2 : (o1 != 0) = true := bne_iff_ne.mpr z1
    obtain ⟨rfl, rfl⟩ : ([] : List (List S64)) = r1 ∧ o1 = r2 := by injection (Option.some.inj ho) with x y; exact ⟨x, y⟩
    clear ho
    have HLOW := Aside0.mk z1
    clear z1
    go_enter Tryz.func79, Tryz.ntmps79
    go_wp2_with fail
    refine (der_One.calls k A0 c0 l0 s0 s1 s2 s3 s4 o1 _ HR0.out HC0.out AO.out).mono ?_
    rintro e w18 ⟨v3, v4, rfl, hv3, hv4, hb⟩
    obtain ⟨A3, c3, rfl⟩ := Kd.V_slice hv3
    obtain ⟨A4, c4, rfl⟩ := Kd.V_slice hv4
    have HX3 := Aside0.mk (Kd.V_reads' hv3).2
    have HX4 := Aside0.mk (Kd.V_reads' hv4).2
    have HB := Aside0.mk hb
    clear hb hv3 hv4
    go_wp2_with fail
    go_ret2
    exact ⟨_, _, (by first | rfl | (simp [errW_none, errW_some] <;> rfl)), (EV.low HLOW.out), Kd.R_nil _ _ _ _ _, (bU HB.out)⟩
  subst z1
  rw [if_pos rfl] at ho
  obtain ⟨⟨D, d1⟩, hin, ho⟩ := Option.bind_eq_some_iff.1 ho
  replace ho : (if d1 = 0 then (if (D.length : Int) > 64 then (some (([] : List (List S64)), 4)) else (name_read.l0 k ([] : List (List S64)) D (D.length : Int) 0)) else (some (([] : List (List S64)), d1))) = some (r1, r2) := ho
  have AI := Aside0.mk hin
  clear hin
  by_cases z2 : d1 = 0
  rotate_left
  · rw [if_neg z2] at ho
    have N1 : (d1 == 0) = false := beq_eq_false_iff_ne.mpr z2
    have N2 : (d1 != 0) = true := bne_iff_ne.mpr z2
    obtain ⟨rfl, rfl⟩ : ([] : List (List S64)) = r1 ∧ d1 = r2 := by injection (Option.some.inj ho) with x y; exact ⟨x, y⟩
    clear ho
    clear z2
    go_enter Tryz.func79, Tryz.ntmps79
    go_wp2_with fail
    refine (der_One.calls k A0 c0 l0 s0 s1 s2 s3 s4 0 _ HR0.out HC0.out AO.out).mono ?_
    rintro e w18 ⟨v3, v4, rfl, hv3, hv4, hb⟩
    obtain ⟨A3, c3, rfl⟩ := Kd.V_slice hv3
    obtain ⟨A4, c4, rfl⟩ := Kd.V_slice hv4
    have HX3 := Aside0.mk (Kd.V_reads' hv3).2
    have HX4 := Aside0.mk (Kd.V_reads' hv4).2
    have HB := Aside0.mk hb
    clear hb hv3 hv4
    go_wp2_with fail
    refine (name_inside.calls k s0 s1 s2 A3 c3 s3 A4 c4 s4 16 D d1 _ (by repeat (first | exact HX3.out.2 | (with_reducible refine Kd.C_drewN ?_ _) | (with_reducible refine Kd.C_alloc ?_ _) | (with_reducible refine Kd.C_drew ?_))) HX3.out.1 (by repeat (first | exact HX4.out.2 | (with_reducible refine Kd.C_drewN ?_ _) | (with_reducible refine Kd.C_alloc ?_ _) | (with_reducible refine Kd.C_drew ?_))) HX4.out.1 AI.out).mono ?_
    rintro e w19 ⟨v, ev_, rfl, hev_, ho0, hb⟩
    obtain ⟨et_, eu_, rfl⟩ := EV.some_of hev_ N1
    have HEV_ := Aside0.mk hev_
    clear hev_
    obtain ⟨C0, cD, rfl⟩ := Kd.S_slice ho0
    have HS1 := Aside0.mk (Kd.S_reads' ho0).2.2
    have HBW := Aside0.mk (below_step (bU HB.out) hb)
    clear hb ho0 HB HX3 HX4
    go_wp2_with fail
    go_ret2
    exact ⟨_, _, (by first | rfl | (simp [errW_none, errW_some] <;> rfl)), (by first | exact EV.nil | exact EV.f5 | exact EV.f4 | exact HEV_.out | exact EV.part HEV_.out), Kd.R_nil _ _ _ _ _, (bU HBW.out)⟩
  subst z2
  rw [if_pos rfl] at ho
  by_cases y1 : (D.length : Int) > 64
  · rw [if_pos y1] at ho
    have Y1 : decide (64 < (D.length : Int)) = true := decide_eq_true y1
    have Y2 : decide (64 < D.length) = true := decide_eq_true (by omega)
    clear y1
    obtain ⟨rfl, rfl⟩ : ([] : List (List S64)) = r1 ∧ (4 : Int) = r2 := by injection (Option.some.inj ho) with x y; exact ⟨x, y⟩
    clear ho
    go_enter Tryz.func79, Tryz.ntmps79
    go_wp2_with fail
    refine (der_One.calls k A0 c0 l0 s0 s1 s2 s3 s4 0 _ HR0.out HC0.out AO.out).mono ?_
    rintro e w18 ⟨v3, v4, rfl, hv3, hv4, hb⟩
    obtain ⟨A3, c3, rfl⟩ := Kd.V_slice hv3
    obtain ⟨A4, c4, rfl⟩ := Kd.V_slice hv4
    have HX3 := Aside0.mk (Kd.V_reads' hv3).2
    have HX4 := Aside0.mk (Kd.V_reads' hv4).2
    have HB := Aside0.mk hb
    clear hb hv3 hv4
    go_wp2_with fail
    refine (name_inside.calls k s0 s1 s2 A3 c3 s3 A4 c4 s4 16 D 0 _ (by repeat (first | exact HX3.out.2 | (with_reducible refine Kd.C_drewN ?_ _) | (with_reducible refine Kd.C_alloc ?_ _) | (with_reducible refine Kd.C_drew ?_))) HX3.out.1 (by repeat (first | exact HX4.out.2 | (with_reducible refine Kd.C_drewN ?_ _) | (with_reducible refine Kd.C_alloc ?_ _) | (with_reducible refine Kd.C_drew ?_))) HX4.out.1 AI.out).mono ?_
    rintro e w19 ⟨v, ev_, rfl, hev_, ho0, hb⟩
    obtain rfl := EV.nil_of hev_ rfl
    clear hev_
    obtain ⟨C0, cD, rfl⟩ := Kd.S_slice ho0
    have HS1 := Aside0.mk (Kd.S_reads' ho0).2.2
    have HBW := Aside0.mk (below_step (bU HB.out) hb)
    clear hb ho0 HB HX3 HX4
    go_wp2_with fail
    go_ret2
    exact ⟨_, _, (by first | rfl | (simp [errW_none, errW_some] <;> rfl)), (by first | exact EV.nil | exact EV.f5 | exact EV.f4 | exact HEV_.out | exact EV.part HEV_.out), Kd.R_nil _ _ _ _ _, (bU HBW.out)⟩
  rw [if_neg y1] at ho
  have Y1 : decide (64 < (D.length : Int)) = false := decide_eq_false y1
  have Y2 : decide (64 < D.length) = false := decide_eq_false (by omega)
  clear y1
  have AD := Aside0.mk ho
  clear ho
  go_enter Tryz.func79, Tryz.ntmps79
  go_wp2_with fail
  refine (der_One.calls k A0 c0 l0 s0 s1 s2 s3 s4 0 _ HR0.out HC0.out AO.out).mono ?_
  rintro e w18 ⟨v3, v4, rfl, hv3, hv4, hb⟩
  obtain ⟨A3, c3, rfl⟩ := Kd.V_slice hv3
  obtain ⟨A4, c4, rfl⟩ := Kd.V_slice hv4
  have HX3 := Aside0.mk (Kd.V_reads' hv3).2
  have HX4 := Aside0.mk (Kd.V_reads' hv4).2
  have HB := Aside0.mk hb
  clear hb hv3 hv4
  go_wp2_with fail
  refine (name_inside.calls k s0 s1 s2 A3 c3 s3 A4 c4 s4 16 D 0 _ (by repeat (first | exact HX3.out.2 | (with_reducible refine Kd.C_drewN ?_ _) | (with_reducible refine Kd.C_alloc ?_ _) | (with_reducible refine Kd.C_drew ?_))) HX3.out.1 (by repeat (first | exact HX4.out.2 | (with_reducible refine Kd.C_drewN ?_ _) | (with_reducible refine Kd.C_alloc ?_ _) | (with_reducible refine Kd.C_drew ?_))) HX4.out.1 AI.out).mono ?_
  rintro e w19 ⟨v, ev_, rfl, hev_, ho0, hb⟩
  obtain rfl := EV.nil_of hev_ rfl
  clear hev_
  obtain ⟨C0, cD, rfl⟩ := Kd.S_slice ho0
  have HS1 := Aside0.mk (Kd.S_reads' ho0).2.2
  have HBW := Aside0.mk (below_step (bU HB.out) hb)
  clear hb ho0 HB HX3 HX4
  go_wp2_with fail
  go_loopg [8, 37] k (fun kq v8 v37 w' => ∃ (out : List (List S64)) (i : Int), v37 = .int .i64 i ∧ Aside0 (name_read.l0 kq out D (D.length : Int) i = some (r1, r2)) ∧ Aside0 (kq ≤ k) ∧ Aside0 (Kd.R (Kd.slice 64 k64) 62 w' w19.heap.size (fun _ => True) v8 out) ∧ Aside0 (Below w19.heap.size w19 w'))
  case atStart => exact ⟨([] : List (List S64)), 0, rfl, AD, ⟨Nat.le_refl _⟩, ⟨Kd.R_nil _ _ _ _ _⟩, ⟨(by repeat (first | (with_reducible first | exact (Below.refl _ _) | apply below_alloc | apply pw_below_drewN | apply below_drew1) | exact (Below.refl _ _)))⟩⟩
  case round =>
    obtain ⟨out, i, rfl, HA, HK1, HO, HB⟩ := hrel
    cases gk with
    | zero => exact absurd HA.out (by simp [name_read.l0])
    | succ k1 =>
      have H := HA.out
      clear HA
      simp only [name_read.l0] at H
      by_cases c1 : i < (D.length : Int)
      rotate_left
      · have c1b : decide (i < (D.length : Int)) = false := decide_eq_false c1
        rw [if_neg c1] at H
        clear c1
        obtain ⟨rfl, rfl⟩ : out = r1 ∧ (0 : Int) = r2 := by injection (Option.some.inj H) with x y; exact ⟨x, y⟩
        go_wp2
        go_ret2
        exact ⟨_, _, (by first | rfl | (simp [errW_none, errW_some] <;> rfl)), EV.nil, Kd.R_lower (Kd.R_u HO.out) (below_size HBW.out), below_step HBW.out (bU HB.out)⟩
      have c1b : decide (i < (D.length : Int)) = true := decide_eq_true c1
      rw [if_pos c1] at H
      by_cases c2 : 0 ≤ i
      rotate_left
      · rw [if_neg c2] at H
        exact absurd H (by simp)
      have c2b : decide (0 ≤ i) = true := decide_eq_true c2
      rw [if_pos c2] at H
      rw [if_pos c1] at H
      clear c1 c2
      obtain ⟨⟨S0, t3⟩, hset, H⟩ := Option.bind_eq_some_iff.1 H
      try dsimp only at H
      have AS := Aside0.mk hset
      clear hset
      by_cases d3 : t3 = 0
      rotate_left
      · rw [if_neg d3] at H
        have N1 : (t3 == 0) = false := beq_eq_false_iff_ne.mpr d3
        have N2 : (t3 != 0) = true := bne_iff_ne.mpr d3
        obtain ⟨rfl, rfl⟩ : ([] : List (List S64)) = r1 ∧ t3 = r2 := by injection (Option.some.inj H) with x y; exact ⟨x, y⟩
        clear H d3
        have pi : 0 ≤ (i : Int) := of_decide_eq_true c2b
        have qi : i < (D.length : Int) := of_decide_eq_true c1b
        obtain ⟨adi, A3i, c3i, A4i, c4i, ei, h0i, h1i, h2i, h3i, h4i, l3i, i3i, l4i, i4i⟩ := at_T77 (Kd.C_below HS1.out HB.out) i pi qi
        cases ei
        have E3i := Aside0.mk i3i
        have D3i := Aside0.mk l3i
        have E4i := Aside0.mk i4i
        have D4i := Aside0.mk l4i
        clear i3i l3i i4i l4i
        replace pi := eq_true pi
        replace qi := eq_true qi
        go_wp2_with fail
        refine (name_set.calls k1 ((rd_T77 D i).f0) ((rd_T77 D i).f1) ((rd_T77 D i).f2) _ _ ((rd_T77 D i).f3) _ _ ((rd_T77 D i).f4) S0 t3 _ (by repeat (first | exact E3i.out | (with_reducible refine Kd.C_drewN ?_ _) | (with_reducible refine Kd.C_alloc ?_ _) | (with_reducible refine Kd.C_drew ?_))) D3i.out (by repeat (first | exact E4i.out | (with_reducible refine Kd.C_drewN ?_ _) | (with_reducible refine Kd.C_alloc ?_ _) | (with_reducible refine Kd.C_drew ?_))) D4i.out AS.out (Tb.below HT.out (by repeat (first | (with_reducible first | exact (below_step HBW.out HB.out) | apply below_alloc | apply pw_below_drewN | apply below_drew1) | exact (below_step HBW.out HB.out))))).mono ?_
        rintro e w51 ⟨v, ev_, rfl, hev_, ho0, hb⟩
        obtain ⟨et_, eu_, rfl⟩ := EV.some_of hev_ N1
        have HEV_ := Aside0.mk hev_
        clear hev_
        obtain ⟨S_, s_, rfl⟩ := Kd.S_slice ho0
        have n1_ := Aside0.mk (below_step (bU HB.out) hb)
        clear HB hb ho0
        have HB := n1_
        clear n1_
        go_wp2_with fail
        go_ret2
        exact ⟨_, _, (by first | rfl | (simp [errW_none, errW_some] <;> rfl)), (by first | exact EV.nil | exact EV.f5 | exact EV.f4 | exact HEV_.out | exact EV.part HEV_.out), Kd.R_nil _ _ _ _ _, (by repeat (first | (with_reducible first | exact (below_step HBW.out HB.out) | apply below_alloc | apply pw_below_drewN | apply below_drew1) | exact (below_step HBW.out HB.out)))⟩
      subst d3
      rw [if_pos rfl] at H
      by_cases d6 : out.length < 5864062014805
      rotate_left
      · rw [if_neg d6] at H
        exact absurd H (by simp)
      rw [if_pos d6] at H
      have LMo := Aside0.mk d6
      clear d6
      obtain ⟨yo, hyo⟩ : ∃ y_ : List (List S64), y_ = (out ++ [S0]) := ⟨_, rfl⟩
      rw [← hyo] at H
      have NYo := Aside0.mk hyo
      clear hyo
      have H' := Aside0.mk H
      clear H
      have pi : 0 ≤ (i : Int) := of_decide_eq_true c2b
      have qi : i < (D.length : Int) := of_decide_eq_true c1b
      obtain ⟨adi, A3i, c3i, A4i, c4i, ei, h0i, h1i, h2i, h3i, h4i, l3i, i3i, l4i, i4i⟩ := at_T77 (Kd.C_below HS1.out HB.out) i pi qi
      cases ei
      have E3i := Aside0.mk i3i
      have D3i := Aside0.mk l3i
      have E4i := Aside0.mk i4i
      have D4i := Aside0.mk l4i
      clear i3i l3i i4i l4i
      replace pi := eq_true pi
      replace qi := eq_true qi
      go_wp2_with fail
      refine (name_set.calls k1 ((rd_T77 D i).f0) ((rd_T77 D i).f1) ((rd_T77 D i).f2) _ _ ((rd_T77 D i).f3) _ _ ((rd_T77 D i).f4) S0 0 _ (by repeat (first | exact E3i.out | (with_reducible refine Kd.C_drewN ?_ _) | (with_reducible refine Kd.C_alloc ?_ _) | (with_reducible refine Kd.C_drew ?_))) D3i.out (by repeat (first | exact E4i.out | (with_reducible refine Kd.C_drewN ?_ _) | (with_reducible refine Kd.C_alloc ?_ _) | (with_reducible refine Kd.C_drew ?_))) D4i.out AS.out (Tb.below HT.out (by repeat (first | (with_reducible first | exact (below_step HBW.out HB.out) | apply below_alloc | apply pw_below_drewN | apply below_drew1) | exact (below_step HBW.out HB.out))))).mono ?_
      rintro e w51 ⟨v, ev_, rfl, hev_, ho0, hb⟩
      obtain rfl := EV.nil_of hev_ rfl
      clear hev_
      have n0_ := Aside0.mk (Kd.R_below (Kd.R_u HO.out) hb)
      have n1_ := Aside0.mk (below_step (bU HB.out) hb)
      have HE := Aside0.mk (Kd.S_lower ho0 (below_size (bU HB.out)))
      clear HO HB hb ho0 h0i h1i h2i h3i h4i E3i E4i D3i D4i
      have HO := n0_
      have HB := n1_
      clear n0_ n1_
      obtain ⟨S_, s_, eS⟩ := Kd.S_slice HE.out
      subst eS
      go_wp2_with ((with_reducible refine gate_builtin (b := .append) (xs := #[.tmp 53, .tmp 55]) rfl ?_); at_builtin; refine Kd.R_append (Kd.slice 64 k64) (w0 := w19) w19.heap.size rfl (.tmp 53) (.tmp 55) 23 62 (.slice none 0 0) 24 rfl Tryz.underlying23 info62 rfl (by decide) (by omega) u8 out S0 [.slice S_ S0.length s_] (fun _ => True) (fun k_ => ((fun _ => True)) k_ ∧ some k_ ≠ (u8 : Value).ownBlock) rfl rfl ?aP (fun _ hk => hk) (fun _ _ => trivial) ?aO ?aB ?aS ?aL ?_; (case aP => exact Kd.M_row (Kd.R_mono (Kd.R_apart' (Kd.S_R (Kd.S_u HE.out)) (Kd.R_typed (Kd.R_u HO.out)) (by decide)) (fun k_ hk => ⟨trivial, hk.2⟩))); (case aB => exact (bU HB.out)); (case aO => exact Kd.R_mono (Kd.R_u HO.out) (fun _ hk => trivial)); (case aS => exact (below_size (bU HB.out))); (case aL => have := LMo.out; omega); intro v592 w56 ho hb hg hat; rw [← NYo.out] at ho; have n6_ := Aside0.mk hb; have n7_ := Aside0.mk ho; clear HB HO; have HB := n6_; have HO := n7_; clear n6_ n7_ ho hb hg hat)
      go_roundg k1
      case measure => have := HK1.out; omega
      case rel => exact ⟨yo, (wrap64 (i + 1)), (by first | rfl | (simp; done)), H', ⟨by have := HK1.out; omega⟩, ⟨(Kd.R_u HO.out)⟩, ⟨(bU HB.out)⟩⟩
end Go.Proofs.YtkioddjjfifadaaGreatDoor.P
set_option linter.unusedVariables false
namespace Go.Proofs.YtkioddjjfifadaaGreatDoor.P
open Go.RowKit Go.Proofs.YtkioddjjfifadaaGreatDoorW.PrintWords Go.Proofs.YtkioddjjfifadaaGreatDoorW.PrintLast Go.Proofs.YtkioddjjfifadaaGreatDoorW.PrintMore
def name_Parse.f (k : Nat) (l0 : List Int) : Option ((List (List (S64))) × Int) := name_read.f k l0
set_option maxRecDepth 100000 in
set_option maxHeartbeats 4000000 in
theorem name_Parse.calls (k : Nat) (A0 : Option Addr) (c0 : Nat) (l0 : List Int) (r1 : List (List (S64))) (r2 : Int) (w : World) (hr0 : Kd.C (Kd.int .u8) w A0 l0.length l0) (hc0 : l0.length ≤ c0) (h : name_Parse.f k l0 = some (r1, r2)) (hH : Tb w) (hD : Hd w) :
    Calls Tryz.prog 35 #[.slice A0 l0.length c0] w fun e w' => ∃ v0_ : Value, e = .returned (.tuple #[v0_, .int .i64 r2]) ∧ Kd.R (Kd.slice 64 k64) 62 w' w.heap.size (fun _ => True) v0_ r1 ∧ Below w.heap.size w w' := by
  have HR0 := Aside0.mk hr0
  have HC0 := Aside0.mk hc0
  have HT := Aside0.mk hH
  have HD := Aside0.mk hD
  have A2 := Aside0.mk (show name_read.f k l0 = some (r1, r2) from h)
  clear hr0 hc0 hH hD h
  go_enter Tryz.func35, Tryz.ntmps35
  go_wp2_with fail
  refine (name_read.calls k A0 c0 l0 r1 r2 _ HR0.out HC0.out A2.out HT.out).mono ?_
  rintro e w1 ⟨v, ev, rfl, hev, ho, hb⟩
  have HE := Aside0.mk hev
  have HO := Aside0.mk ho
  have HB := Aside0.mk hb
  have HD1 := Aside0.mk (HD.out.below hb)
  clear hev ho hb HD HT HR0
  go_wp2_with fail
  refine (name_number_ev HE.out _ HD1.out).mono ?_
  rintro e w2 ⟨rfl, hb⟩
  have HO2 := Aside0.mk (Kd.R_below HO.out hb)
  have HB2 := Aside0.mk (below_step HB.out hb)
  clear hb HO HB
  go_wp2_with fail
  go_ret2
  exact ⟨_, rfl, HO2.out, HB2.out⟩
end Go.Proofs.YtkioddjjfifadaaGreatDoor.P
