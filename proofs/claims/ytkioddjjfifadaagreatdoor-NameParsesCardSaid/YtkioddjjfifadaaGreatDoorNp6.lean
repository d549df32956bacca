/- What the proof of NameParses needs of: Pxf145, Lq1, Lq2, Pxf163, Lq3, Lp2, Pxf229, Pxf183, Lt0. -/
import Derived.Lib.ItoaLen
import Derived.Lib.ItoaNum
import Derived.Test.YtkioddjjfifadaaGreatDoorNp2
import Derived.Test.YtkioddjjfifadaaGreatDoorNp3
import Derived.Test.YtkioddjjfifadaaGreatDoorNp5
namespace Go.Proofs.YtkioddjjfifadaaGreatDoor.P
open Go.RowKit Go.Proofs.YtkioddjjfifadaaGreatDoorW.PrintWords Go.Proofs.YtkioddjjfifadaaGreatDoorW.PrintLast Go.Proofs.YtkioddjjfifadaaGreatDoorW.PrintMore
attribute [local go_sem] max2_int min2_int max_two min_two max_three min_three max_four min_four
set_option linter.unusedVariables false
set_option linter.unusedSimpArgs false
theorem u8_shift (x : Int) : wrap64 (IntKind.u8.wrap x) = x % 256 := by
  have h : IntKind.u8.wrap x = x % 256 := by simp [IntKind.wrap, show IntKind.u8.signed = false from rfl, show IntKind.u8.bits = 8 from rfl]
  rw [h]; unfold wrap64; omega
theorem u8_odd (x : Int) : ((IntKind.u8.wrap x).tmod 2 == 1) = (x % 256 % 2 == 1) := by
  have h : IntKind.u8.wrap x = x % 256 := by simp [IntKind.wrap, show IntKind.u8.signed = false from rfl, show IntKind.u8.bits = 8 from rfl]
  rw [h, Int.tmod_eq_emod_of_nonneg (by omega)]
def chirographref04_Split.l0 : Nat → List Int → List (S77) → Int → Option ((List (S77)) × Int × Int)
  | 0, _, _, _ => none
  | k + 1, x0, x5, x6 => if x6 < (x0.length : Int) then (if (x5.length : Int) ≥ 65536 then (some (([] : List (S77)), 4, x6)) else ((chirographref04_tag.f k x0 x6).bind fun bt843 => (if bt843.2.2.1 = 0 then ((chirographref04_length.f k x0 bt843.2.1).bind fun bt847 => (if bt847.2.2.1 = 0 then (if 0 ≤ x6 then ((some (([] : List Int) : List Int)).bind fun y853 => (if 0 ≤ bt847.2.1 then (if bt847.2.1 ≤ (wrap64 (bt847.2.1 + bt847.1)) then (if (wrap64 (bt847.2.1 + bt847.1)) ≤ (x0.length : Int) then ((some ((x0.take ((wrap64 (bt847.2.1 + bt847.1)) : Int).toNat).drop (bt847.2.1 : Int).toNat : List Int)).bind fun y856 => (if y853.length + y856.length < 140737488355328 then ((some (([] : List Int) : List Int)).bind fun y863 => (if x6 ≤ (wrap64 (bt847.2.1 + bt847.1)) then ((some ((x0.take ((wrap64 (bt847.2.1 + bt847.1)) : Int).toNat).drop (x6 : Int).toNat : List Int)).bind fun y866 => (if y863.length + y866.length < 140737488355328 then (if x5.length < 1954687338268 then (chirographref04_Split.l0 k x0 (x5 ++ [(⟨(Int.tdiv (rd x0 x6) 64) % 256, bt843.1, ((((Int.tdiv (rd x0 x6) 32) % 256) % 2) == 1), (y853 ++ y856), (y863 ++ y866)⟩ : S77)]) (wrap64 (bt847.2.1 + bt847.1))) else (none)) else (none))) else (none))) else (none))) else (none)) else (none)) else (none))) else (none)) else (some (([] : List (S77)), bt847.2.2.1, bt847.2.2.2)))) else (some (([] : List (S77)), bt843.2.2.1, bt843.2.2.2))))) else (some (x5, 0, (x0.length : Int)))
def chirographref04_Split.f (k : Nat) (l0 : List Int) : Option ((List (S77)) × Int × Int) := if (l0.length : Int) > 16777216 then (some (([] : List (S77)), 3, 0)) else (chirographref04_Split.l0 k l0 ([] : List (S77)) 0)
theorem chirographref04_Split.mono_l : ∀ k, (∀ y0 y1 y2, LeO (chirographref04_Split.l0 k y0 y1 y2) (chirographref04_Split.l0 (k + 1) y0 y1 y2))
  | 0 => fun _ _ _ r h => by simp [chirographref04_Split.l0] at h
  | k + 1 => by
    have ih0 := chirographref04_Split.mono_l k
    · intro y0 y1 y2
      unfold chirographref04_Split.l0
      repeat' first
      | (with_reducible exact ih0 _ _ _)
      | (with_reducible exact chirographref04_length.mono _ _ _)
      | (with_reducible exact chirographref04_tag.mono _ _ _)
      | (with_reducible exact LeO.refl _)
      | (with_reducible exact LeO.none _)
      | (with_reducible refine LeO.ite ?_ ?_)
      | (with_reducible refine LeO.bind ?_ (fun _ => ?_))
      | exact ih0 _ _ _
      | exact chirographref04_length.mono _ _ _
      | exact chirographref04_tag.mono _ _ _
      | exact LeO.none _
      | refine LeO.ite ?_ ?_
      | refine LeO.bind ?_ (fun _ => ?_)
theorem chirographref04_Split.mono : ∀ a0 k, LeO (chirographref04_Split.f k a0) (chirographref04_Split.f (k + 1) a0) := by
  intro a0 k
  have ih0 := chirographref04_Split.mono_l k
  unfold chirographref04_Split.f
  repeat' first
      | (with_reducible exact ih0 _ _ _)
      | (with_reducible exact chirographref04_length.mono _ _ _)
      | (with_reducible exact chirographref04_tag.mono _ _ _)
      | (with_reducible exact LeO.refl _)
      | (with_reducible exact LeO.none _)
      | (with_reducible refine LeO.ite ?_ ?_)
      | (with_reducible refine LeO.bind ?_ (fun _ => ?_))
      | exact ih0 _ _ _
      | exact chirographref04_length.mono _ _ _
      | exact chirographref04_tag.mono _ _ _
      | exact LeO.none _
      | refine LeO.ite ?_ ?_
      | refine LeO.bind ?_ (fun _ => ?_)
def chirographref04_Split.T14 : Bool × List (List Nat × List Nat) := (true, [([], []), ([], []), ([], []), ([1, 2], [1, 2]), ([3], [3]), ([4], [4]), ([5], [5]), ([], []), ([], []), ([], []), ([8, 9], [8, 9]), ([10], [10]), ([11], [11]), ([12], [12]), ([13], [13]), ([], []), ([], []), ([], []), ([], []), ([], []), ([18, 19], [18, 19]), ([16, 17, 20], [16, 17, 20]), ([15, 21], [15, 21]), ([], []), ([], []), ([], []), ([], []), ([], []), ([26, 27], [26, 27]), ([24, 25, 28], [24, 25, 28]), ([23, 29, 22], [23, 29]), ([6, 7, 14, 22, 30], [6, 7, 14, 22, 30]), ([31], [31]), ([0, 32, 30], [0, 32]), ([33, 33, 0, 1, 2, 3, 4, 5, 6, 7, 8, 9, 10, 11, 12, 13, 14, 15, 16, 17, 18, 19, 20, 21, 22, 23, 24, 25, 26, 27, 28, 29, 30, 31, 32, 33], [0, 33])])
def chirographref04_Split.B14 : List Nat := [0, 0, 0, 6, 14, 30, 62, 0, 0, 0, 768, 1792, 3840, 7936, 16128, 0, 0, 0, 0, 0, 786432, 2031616, 4161536, 0, 0, 0, 0, 0, 201326592, 520093696, 1073709056, 2147483646, 4294967294, 8589934591, 17179869183]
theorem chirographref04_Split.tab14 : rtab .any (opsOf Tryz.f145 14) = chirographref04_Split.T14 := by kernel_rfl
theorem chirographref04_Split.bits14 : waitsOk chirographref04_Split.T14.2 chirographref04_Split.B14 = true := by kernel_rfl
set_option maxHeartbeats 8000000 in
set_option maxRecDepth 100000 in
theorem chirographref04_Split.calls (k : Nat) (A0 : Option Addr) (c0 : Nat) (l0 : List Int) (r1 : List (S77)) (r2 : Int) (r3 : Int) (w : World) (hr0 : Kd.C (Kd.int .u8) w A0 l0.length l0) (hc0 : l0.length ≤ c0) (h : chirographref04_Split.f k l0 = some (r1, r2, r3)) :
    Calls Tryz.prog 145 #[.slice A0 l0.length c0] w fun e w' => ∃ v0_ : Value, e = .returned (.tuple #[v0_, .int .i64 r2, .int .i64 r3]) ∧ Kd.S k77 77 w' w.heap.size (fun _ => True) v0_ r1 ∧ Below w.heap.size w w' := by
  have hu77 := Tryz.underlying77
  have HR0 := Aside0.mk hr0
  have HC0 := Aside0.mk hc0
  clear hr0 hc0
  have HB := Aside0.mk (Below.refl w.heap.size w)
  have H : (if (l0.length : Int) > 16777216 then (some (([] : List (S77)), 3, 0)) else (chirographref04_Split.l0 k l0 ([] : List (S77)) 0)) = some (r1, r2, r3) := h
  clear h
  by_cases c2 : (l0.length : Int) > 16777216
  · rw [if_pos c2] at H
    have c2b0 : decide (16777216 < (l0.length : Int)) = true := decide_eq_true c2
    have c2b1 : decide (16777216 < l0.length) = true := decide_eq_true (by omega)
    clear c2
    simp only [Option.some.injEq, Prod.mk.injEq] at H
    obtain ⟨rfl, rfl, rfl⟩ := H
    go_enter Tryz.func145, Tryz.ntmps145
    go_wp2
    go_ret3
    exact ⟨_, by first | rfl | (simp [errW_none, errW_some] <;> rfl), by first | exact Kd.S_nil _ _ _ _ _ | exact Kd.N_nil _ _ _ _ _ | exact Kd.V_nil _ _ _ _ _ | exact Kd.Q_nil _ _ _ _ _ | exact Kd.R_nil _ _ _ _ _, bU HB.out⟩
  rw [if_neg c2] at H
  have c2b0 : decide (16777216 < (l0.length : Int)) = false := decide_eq_false c2
  have c2b1 : decide (16777216 < l0.length) = false := decide_eq_false (by omega)
  clear c2
  have H' := Aside0.mk H
  clear H
  go_enter Tryz.func145, Tryz.ntmps145
  go_wp2
  go_loopg [5, 6] k (fun kq v5 v6 w' => ∃ (x5_1 : List (S77)) (x6_1 : Int), v6 = .int .i64 x6_1 ∧ Aside0 (chirographref04_Split.l0 kq l0 x5_1 x6_1 = some (r1, r2, r3)) ∧ Aside0 (kq ≤ k) ∧ Aside0 (Kd.S k77 77 w' w.heap.size (fun _ => True) v5 x5_1) ∧ Aside0 (Below w.heap.size w w'))
  case atStart => exact ⟨(([] : List (S77))), (0), (by first | rfl | (simp; done) | (simp [*]; done)), H', ⟨Nat.le_refl _⟩, ⟨by first | exact Kd.S_nil _ _ _ _ _ | exact Kd.N_nil _ _ _ _ _ | exact Kd.V_nil _ _ _ _ _ | exact Kd.Q_nil _ _ _ _ _ | exact Kd.R_nil _ _ _ _ _⟩, ⟨bU HB.out⟩⟩
  case round =>
    clear H'
    try clear c1
    try clear c2
    try clear c2b0
    try clear c2b1
    try clear p2
    obtain ⟨x5_1, x6_1, rfl, HA, HK1, HO_5, HB⟩ := hrel
    cases gk with
    | zero => exact absurd HA.out (by simp [chirographref04_Split.l0])
    | succ k1 =>
      have H := HA.out
      clear HA
      simp only [chirographref04_Split.l0] at H
      by_cases c3 : x6_1 < (l0.length : Int)
      rotate_left
      · rw [if_neg c3] at H
        have c3b0 : decide (x6_1 < (l0.length : Int)) = false := decide_eq_false c3
        clear c3
        simp only [Option.some.injEq, Prod.mk.injEq] at H
        obtain ⟨rfl, rfl, rfl⟩ := H
        go_wp2
        go_ret3
        exact ⟨_, by first | rfl | (simp [errW_none, errW_some] <;> rfl), by (with_reducible repeat (first | apply Kd.S_alloc | apply Kd.S_drewN | apply Kd.S_drew)); exact HO_5.out, bU HB.out⟩
      rw [if_pos c3] at H
      have c3b0 : decide (x6_1 < (l0.length : Int)) = true := decide_eq_true c3
      clear c3
      by_cases c4 : (x5_1.length : Int) ≥ 65536
      · rw [if_pos c4] at H
        have c4b0 : decide (65536 ≤ (x5_1.length : Int)) = true := decide_eq_true c4
        have c4b1 : decide (65536 ≤ x5_1.length) = true := decide_eq_true (by omega)
        clear c4
        simp only [Option.some.injEq, Prod.mk.injEq] at H
        obtain ⟨rfl, rfl, rfl⟩ := H
        obtain ⟨Ao5, co5, eo5⟩ := Kd.S_slice HO_5.out
        subst eo5
        go_wp2
        go_ret3
        exact ⟨_, by first | rfl | (simp [errW_none, errW_some] <;> rfl), by first | exact Kd.S_nil _ _ _ _ _ | exact Kd.N_nil _ _ _ _ _ | exact Kd.V_nil _ _ _ _ _ | exact Kd.Q_nil _ _ _ _ _ | exact Kd.R_nil _ _ _ _ _, bU HB.out⟩
      rw [if_neg c4] at H
      have c4b0 : decide (65536 ≤ (x5_1.length : Int)) = false := decide_eq_false c4
      have c4b1 : decide (65536 ≤ x5_1.length) = false := decide_eq_false (by omega)
      clear c4
      replace H := Option.bind_eq_some_iff.mp H
      obtain ⟨⟨t843, t844, t845, t846⟩, A60, H⟩ := H
      try dsimp only at H
      have A6 := Aside0.mk A60
      clear A60
      by_cases c7 : t845 = 0
      rotate_left
      · rw [if_neg c7] at H
        have c7b0 : (t845 == 0) = false := beq_eq_false_iff_ne.mpr c7
        have c7b1 : (t845 != 0) = true := bne_iff_ne.mpr c7
        simp only [Option.some.injEq, Prod.mk.injEq] at H
        obtain ⟨rfl, rfl, rfl⟩ := H
        obtain ⟨Ao35, co35, eo35⟩ := Kd.S_slice HO_5.out
        subst eo35
        go_wp2_with (first | ((with_reducible refine gate_callee (f := 196) rfl ?_); refine goesL_ (some 27) rfl rfl Tryz.func196 (by kernel_rfl) rfl #[.slice A0 l0.length c0, .int .i64 x6_1] rfl (by (try simp only [List.map_toArray, List.map_cons, List.map_nil]); first | done | rfl | (simp only [List.length_drop, List.length_take]; rfl)) ?_; (with_reducible refine (chirographref04_tag.calls k1 _ _ l0 x6_1 t843 t844 t845 t846 _ ?side1 ?side2 A6.out).mono ?_); (case side1 => exact Kd.C_u (Kd.C_below HR0.out HB.out)); (case side2 => exact HC0.out); rintro e w' ⟨rfl, ⟨nd, rfl⟩⟩; refine ⟨_, rfl, ?_⟩))
        go_ret3
        exact ⟨_, by first | rfl | (simp [errW_none, errW_some] <;> rfl), by first | exact Kd.S_nil _ _ _ _ _ | exact Kd.N_nil _ _ _ _ _ | exact Kd.V_nil _ _ _ _ _ | exact Kd.Q_nil _ _ _ _ _ | exact Kd.R_nil _ _ _ _ _, bU HB.out⟩
      rw [if_pos c7] at H
      have c7b0 : (t845 == 0) = true := beq_iff_eq.mpr c7
      have c7b1 : (t845 != 0) = false := bne_eq_false_iff_eq.mpr c7
      clear c7
      replace H := Option.bind_eq_some_iff.mp H
      obtain ⟨⟨t847, t848, t849, t850⟩, A80, H⟩ := H
      try dsimp only at H
      have A8 := Aside0.mk A80
      clear A80
      by_cases c9 : t849 = 0
      rotate_left
      · rw [if_neg c9] at H
        have c9b0 : (t849 == 0) = false := beq_eq_false_iff_ne.mpr c9
        have c9b1 : (t849 != 0) = true := bne_iff_ne.mpr c9
        simp only [Option.some.injEq, Prod.mk.injEq] at H
        obtain ⟨rfl, rfl, rfl⟩ := H
        obtain ⟨Ao34, co34, eo34⟩ := Kd.S_slice HO_5.out
        subst eo34
        go_wp2_with (first | ((with_reducible refine gate_callee (f := 196) rfl ?_); refine goesL_ (some 27) rfl rfl Tryz.func196 (by kernel_rfl) rfl #[.slice A0 l0.length c0, .int .i64 x6_1] rfl (by (try simp only [List.map_toArray, List.map_cons, List.map_nil]); first | done | rfl | (simp only [List.length_drop, List.length_take]; rfl)) ?_; (with_reducible refine (chirographref04_tag.calls k1 _ _ l0 x6_1 t843 t844 t845 t846 _ ?side1 ?side2 A6.out).mono ?_); (case side1 => exact Kd.C_u (Kd.C_below HR0.out HB.out)); (case side2 => exact HC0.out); rintro e w' ⟨rfl, ⟨nd, rfl⟩⟩; refine ⟨_, rfl, ?_⟩) | ((with_reducible refine gate_callee (f := 197) rfl ?_); refine goesL_ (some 39) rfl rfl Tryz.func197 (by kernel_rfl) rfl #[.slice A0 l0.length c0, .int .i64 t844] rfl (by (try simp only [List.map_toArray, List.map_cons, List.map_nil]); first | done | rfl | (simp only [List.length_drop, List.length_take]; rfl)) ?_; (with_reducible refine (chirographref04_length.calls k1 _ _ l0 t844 t847 t848 t849 t850 _ ?side1 ?side2 A8.out).mono ?_); (case side1 => exact Kd.C_u (Kd.C_below HR0.out HB.out)); (case side2 => exact HC0.out); rintro e w' ⟨rfl, ⟨nd, rfl⟩⟩; refine ⟨_, rfl, ?_⟩))
        go_ret3
        exact ⟨_, by first | rfl | (simp [errW_none, errW_some] <;> rfl), by first | exact Kd.S_nil _ _ _ _ _ | exact Kd.N_nil _ _ _ _ _ | exact Kd.V_nil _ _ _ _ _ | exact Kd.Q_nil _ _ _ _ _ | exact Kd.R_nil _ _ _ _ _, bU HB.out⟩
      rw [if_pos c9] at H
      have c9b0 : (t849 == 0) = true := beq_iff_eq.mpr c9
      have c9b1 : (t849 != 0) = false := bne_eq_false_iff_eq.mpr c9
      clear c9
      by_cases c10 : 0 ≤ x6_1
      rotate_left
      · rw [if_neg c10] at H
        exact absurd H (by simp)
      rw [if_pos c10] at H
      have c10b0 : decide (0 ≤ x6_1) = true := decide_eq_true c10
      clear c10
      obtain ⟨y853, hy853⟩ : ∃ y_ : List Int, y_ = (([] : List Int)) := ⟨_, rfl⟩
      replace H : (if 0 ≤ t848 then (if t848 ≤ (wrap64 (t848 + t847)) then (if (wrap64 (t848 + t847)) ≤ (l0.length : Int) then ((some ((l0.take ((wrap64 (t848 + t847)) : Int).toNat).drop (t848 : Int).toNat : List Int)).bind fun y856 => (if y853.length + y856.length < 140737488355328 then ((some (([] : List Int) : List Int)).bind fun y863 => (if x6_1 ≤ (wrap64 (t848 + t847)) then ((some ((l0.take ((wrap64 (t848 + t847)) : Int).toNat).drop (x6_1 : Int).toNat : List Int)).bind fun y866 => (if y863.length + y866.length < 140737488355328 then (if x5_1.length < 1954687338268 then (chirographref04_Split.l0 k1 l0 (x5_1 ++ [(⟨(Int.tdiv (rd l0 x6_1) 64) % 256, t843, ((((Int.tdiv (rd l0 x6_1) 32) % 256) % 2) == 1), (y853 ++ y856), (y863 ++ y866)⟩ : S77)]) (wrap64 (t848 + t847))) else (none)) else (none))) else (none))) else (none))) else (none)) else (none)) else (none)) = some (r1, r2, r3) := by first | (rw [hy853]; with_reducible exact H) | (have H2_ := (Option.bind_some _ _).symm.trans H; rw [hy853]; with_reducible exact H2_) | (have H2_ := (Option.bind_some _ _).symm.trans H; with_reducible exact H2_) | with_reducible exact H | (rw [hy853]; exact H) | exact H
      have Ny853 := Aside0.mk hy853
      clear hy853
      by_cases c11 : 0 ≤ t848
      rotate_left
      · rw [if_neg c11] at H
        exact absurd H (by simp)
      rw [if_pos c11] at H
      have c11b0 := eq_true c11
      have c11b1 : decide (0 ≤ t848) = true := decide_eq_true c11
      clear c11
      by_cases c12 : t848 ≤ (wrap64 (t848 + t847))
      rotate_left
      · rw [if_neg c12] at H
        exact absurd H (by simp)
      rw [if_pos c12] at H
      have c12b0 := eq_true c12
      have c12b1 : decide (t848 ≤ (wrap64 (t848 + t847))) = true := decide_eq_true c12
      by_cases c13 : (wrap64 (t848 + t847)) ≤ (l0.length : Int)
      rotate_left
      · rw [if_neg c13] at H
        exact absurd H (by simp)
      rw [if_pos c13] at H
      have c13b0 := eq_true c13
      have c13b1 : decide ((wrap64 (t848 + t847)) ≤ (l0.length : Int)) = true := decide_eq_true c13
      obtain ⟨y856, hy856⟩ : ∃ y_ : List Int, y_ = ((l0.take ((wrap64 (t848 + t847)) : Int).toNat).drop (t848 : Int).toNat) := ⟨_, rfl⟩
      replace H : (if y853.length + y856.length < 140737488355328 then ((some (([] : List Int) : List Int)).bind fun y863 => (if x6_1 ≤ (wrap64 (t848 + t847)) then ((some ((l0.take ((wrap64 (t848 + t847)) : Int).toNat).drop (x6_1 : Int).toNat : List Int)).bind fun y866 => (if y863.length + y866.length < 140737488355328 then (if x5_1.length < 1954687338268 then (chirographref04_Split.l0 k1 l0 (x5_1 ++ [(⟨(Int.tdiv (rd l0 x6_1) 64) % 256, t843, ((((Int.tdiv (rd l0 x6_1) 32) % 256) % 2) == 1), (y853 ++ y856), (y863 ++ y866)⟩ : S77)]) (wrap64 (t848 + t847))) else (none)) else (none))) else (none))) else (none)) = some (r1, r2, r3) := by first | (rw [hy856]; with_reducible exact H) | (have H2_ := (Option.bind_some _ _).symm.trans H; rw [hy856]; with_reducible exact H2_) | (have H2_ := (Option.bind_some _ _).symm.trans H; with_reducible exact H2_) | with_reducible exact H | (rw [hy856]; exact H) | exact H
      have Ny856 := Aside0.mk hy856
      clear hy856
      by_cases c14 : y853.length + y856.length < 140737488355328
      rotate_left
      · rw [if_neg c14] at H
        exact absurd H (by simp)
      rw [if_pos c14] at H
      have LMc14 := Aside0.mk c14
      clear c14
      obtain ⟨y860, hy860⟩ : ∃ y_ : List Int, y_ = (y853 ++ y856) := ⟨_, rfl⟩
      replace H : ((some (([] : List Int) : List Int)).bind fun y863 => (if x6_1 ≤ (wrap64 (t848 + t847)) then ((some ((l0.take ((wrap64 (t848 + t847)) : Int).toNat).drop (x6_1 : Int).toNat : List Int)).bind fun y866 => (if y863.length + y866.length < 140737488355328 then (if x5_1.length < 1954687338268 then (chirographref04_Split.l0 k1 l0 (x5_1 ++ [(⟨(Int.tdiv (rd l0 x6_1) 64) % 256, t843, ((((Int.tdiv (rd l0 x6_1) 32) % 256) % 2) == 1), y860, (y863 ++ y866)⟩ : S77)]) (wrap64 (t848 + t847))) else (none)) else (none))) else (none))) = some (r1, r2, r3) := by first | (rw [hy860]; with_reducible exact H) | (have H2_ := (Option.bind_some _ _).symm.trans H; rw [hy860]; with_reducible exact H2_) | (have H2_ := (Option.bind_some _ _).symm.trans H; with_reducible exact H2_) | with_reducible exact H | (rw [hy860]; exact H) | exact H
      have Ny860 := Aside0.mk hy860
      clear hy860
      obtain ⟨y863, hy863⟩ : ∃ y_ : List Int, y_ = (([] : List Int)) := ⟨_, rfl⟩
      replace H : (if x6_1 ≤ (wrap64 (t848 + t847)) then ((some ((l0.take ((wrap64 (t848 + t847)) : Int).toNat).drop (x6_1 : Int).toNat : List Int)).bind fun y866 => (if y863.length + y866.length < 140737488355328 then (if x5_1.length < 1954687338268 then (chirographref04_Split.l0 k1 l0 (x5_1 ++ [(⟨(Int.tdiv (rd l0 x6_1) 64) % 256, t843, ((((Int.tdiv (rd l0 x6_1) 32) % 256) % 2) == 1), y860, (y863 ++ y866)⟩ : S77)]) (wrap64 (t848 + t847))) else (none)) else (none))) else (none)) = some (r1, r2, r3) := by first | (rw [hy863]; with_reducible exact H) | (have H2_ := (Option.bind_some _ _).symm.trans H; rw [hy863]; with_reducible exact H2_) | (have H2_ := (Option.bind_some _ _).symm.trans H; with_reducible exact H2_) | with_reducible exact H | (rw [hy863]; exact H) | exact H
      have Ny863 := Aside0.mk hy863
      clear hy863
      have c15b0 := eq_true (of_decide_eq_true (by first | (with_reducible assumption) | assumption) : 0 ≤ x6_1)
      by_cases c16 : x6_1 ≤ (wrap64 (t848 + t847))
      rotate_left
      · rw [if_neg c16] at H
        exact absurd H (by simp)
      rw [if_pos c16] at H
      have c16b0 := eq_true c16
      have c16b1 : decide (x6_1 ≤ (wrap64 (t848 + t847))) = true := decide_eq_true c16
      have c17b0 := eq_true (of_decide_eq_true (by first | (with_reducible assumption) | assumption) : (wrap64 (t848 + t847)) ≤ (l0.length : Int))
      obtain ⟨y866, hy866⟩ : ∃ y_ : List Int, y_ = ((l0.take ((wrap64 (t848 + t847)) : Int).toNat).drop (x6_1 : Int).toNat) := ⟨_, rfl⟩
      replace H : (if y863.length + y866.length < 140737488355328 then (if x5_1.length < 1954687338268 then (chirographref04_Split.l0 k1 l0 (x5_1 ++ [(⟨(Int.tdiv (rd l0 x6_1) 64) % 256, t843, ((((Int.tdiv (rd l0 x6_1) 32) % 256) % 2) == 1), y860, (y863 ++ y866)⟩ : S77)]) (wrap64 (t848 + t847))) else (none)) else (none)) = some (r1, r2, r3) := by first | (rw [hy866]; with_reducible exact H) | (have H2_ := (Option.bind_some _ _).symm.trans H; rw [hy866]; with_reducible exact H2_) | (have H2_ := (Option.bind_some _ _).symm.trans H; with_reducible exact H2_) | with_reducible exact H | (rw [hy866]; exact H) | exact H
      have Ny866 := Aside0.mk hy866
      clear hy866
      by_cases c18 : y863.length + y866.length < 140737488355328
      rotate_left
      · rw [if_neg c18] at H
        exact absurd H (by simp)
      rw [if_pos c18] at H
      have LMc18 := Aside0.mk c18
      clear c18
      obtain ⟨y870, hy870⟩ : ∃ y_ : List Int, y_ = (y863 ++ y866) := ⟨_, rfl⟩
      replace H : (if x5_1.length < 1954687338268 then (chirographref04_Split.l0 k1 l0 (x5_1 ++ [(⟨(Int.tdiv (rd l0 x6_1) 64) % 256, t843, ((((Int.tdiv (rd l0 x6_1) 32) % 256) % 2) == 1), y860, y870⟩ : S77)]) (wrap64 (t848 + t847))) else (none)) = some (r1, r2, r3) := by first | (rw [hy870]; with_reducible exact H) | (have H2_ := (Option.bind_some _ _).symm.trans H; rw [hy870]; with_reducible exact H2_) | (have H2_ := (Option.bind_some _ _).symm.trans H; with_reducible exact H2_) | with_reducible exact H | (rw [hy870]; exact H) | exact H
      have Ny870 := Aside0.mk hy870
      clear hy870
      by_cases c19 : x5_1.length < 1954687338268
      rotate_left
      · rw [if_neg c19] at H
        exact absurd H (by simp)
      rw [if_pos c19] at H
      have LMc19 := Aside0.mk c19
      clear c19
      obtain ⟨y873, hy873⟩ : ∃ y_ : List (S77), y_ = (x5_1 ++ [(⟨(Int.tdiv (rd l0 x6_1) 64) % 256, t843, ((((Int.tdiv (rd l0 x6_1) 32) % 256) % 2) == 1), y860, y870⟩ : S77)]) := ⟨_, rfl⟩
      replace H : (chirographref04_Split.l0 k1 l0 y873 (wrap64 (t848 + t847))) = some (r1, r2, r3) := by first | (rw [hy873]; with_reducible exact H) | (have H2_ := (Option.bind_some _ _).symm.trans H; rw [hy873]; with_reducible exact H2_) | (have H2_ := (Option.bind_some _ _).symm.trans H; with_reducible exact H2_) | with_reducible exact H | (rw [hy873]; exact H) | exact H
      have Ny873 := Aside0.mk hy873
      clear hy873
      have H' := Aside0.mk H
      clear H
      obtain ⟨Ao20, co20, eo20⟩ := Kd.S_slice HO_5.out
      subst eo20
      try go_wp2_with (first | ((with_reducible refine gate_callee (f := 196) rfl ?_); refine goesL_ (some 27) rfl rfl Tryz.func196 (by kernel_rfl) rfl #[.slice A0 l0.length c0, .int .i64 x6_1] rfl (by (try simp only [List.map_toArray, List.map_cons, List.map_nil]); first | done | rfl | (simp only [List.length_drop, List.length_take]; rfl)) ?_; (with_reducible refine (chirographref04_tag.calls k1 _ _ l0 x6_1 t843 t844 t845 t846 _ ?side1 ?side2 A6.out).mono ?_); (case side1 => exact Kd.C_u (Kd.C_below HR0.out HB.out)); (case side2 => exact HC0.out); rintro e w' ⟨rfl, ⟨nd, rfl⟩⟩; refine ⟨_, rfl, ?_⟩) | ((with_reducible refine gate_callee (f := 197) rfl ?_); refine goesL_ (some 39) rfl rfl Tryz.func197 (by kernel_rfl) rfl #[.slice A0 l0.length c0, .int .i64 t844] rfl (by (try simp only [List.map_toArray, List.map_cons, List.map_nil]); first | done | rfl | (simp only [List.length_drop, List.length_take]; rfl)) ?_; (with_reducible refine (chirographref04_length.calls k1 _ _ l0 t844 t847 t848 t849 t850 _ ?side1 ?side2 A8.out).mono ?_); (case side1 => exact Kd.C_u (Kd.C_below HR0.out HB.out)); (case side2 => exact HC0.out); rintro e w' ⟨rfl, ⟨nd, rfl⟩⟩; refine ⟨_, rfl, ?_⟩))
      (try (rw [drewN_self wr]; generalize hq_ : World.drewN wr _ = wr; have n0_ : Aside0 (Kd.S k77 77 wr w.heap.size (fun _ => True) (.slice Ao20 x5_1.length co20) x5_1) := ⟨by rw [← hq_]; exact (Kd.S_u HO_5.out)⟩; have n1_ : Aside0 (Below w.heap.size w wr) := ⟨by rw [← hq_]; exact (bU HB.out)⟩; clear HO_5 HB hq_; have HO_5 := n0_; have HB := n1_; clear n0_ n1_))
      have n0_ := Aside0.mk (Kd.S_drew HO_5.out)
      have n1_ := Aside0.mk (below_drew1 HB.out)
      clear HO_5
      clear HB
      have HO_5 := n0_
      have HB := n1_
      clear n0_ n1_
      have p851 : 0 ≤ (x6_1 : Int) := of_decide_eq_true (by first | (with_reducible assumption) | assumption)
      have q851 : x6_1 < (l0.length : Int) := of_decide_eq_true (by first | (with_reducible assumption) | assumption)
      obtain ⟨ad851, e851, hx851_0⟩ := Kd.at_int HR0.out x6_1 p851 q851
      have hw851_0 := hx851_0
      cases e851
      replace hx851_0 := (HB.out.cell (World.block_lt_of_cell? w _ hx851_0)).trans hx851_0
      replace p851 := eq_true p851
      replace q851 := eq_true q851
      have p852 : 0 ≤ (x6_1 : Int) := of_decide_eq_true (by first | (with_reducible assumption) | assumption)
      have q852 : x6_1 < (l0.length : Int) := of_decide_eq_true (by first | (with_reducible assumption) | assumption)
      obtain ⟨ad852, e852, hx852_0⟩ := Kd.at_int HR0.out x6_1 p852 q852
      have hw852_0 := hx852_0
      obtain rfl : ad851 = ad852 := (by injection e852)
      replace hx852_0 := (HB.out.cell (World.block_lt_of_cell? w _ hx852_0)).trans hx852_0
      replace p852 := eq_true p852
      replace q852 := eq_true q852
      have q22 : ((wrap64 (t848 + t847)) : Int) ≤ ((l0.length : Int) : Int) := of_decide_eq_true (by first | (with_reducible assumption) | assumption)
      obtain ⟨i022, hi022, _, hsz22, _⟩ := info_parts info5
      have hroom22 : l0.length ≤ c0 := HC0.out
      have hC22 : Kd.C (Kd.int .u8) _ (some ad851) l0.length l0 := HR0.out
      have ql22 : (t848 : Int) ≤ ((wrap64 (t848 + t847)) : Int) := of_decide_eq_true (by first | (with_reducible assumption) | assumption)
      have q022 : (0 : Int) ≤ (t848 : Int) := of_decide_eq_true (by first | (with_reducible assumption) | assumption)
      have hcut22 := cut_mid (P := Tryz.prog) 22 5 .i64 .i64 Tryz.underlying22 hi022 1 hsz22 (some ad851) l0.length c0 t848 (wrap64 (t848 + t847)) q022 ql22 q22 hroom22
      have hr22 := Kd.C_mid (lo := (t848 : Int).toNat) (hi := ((wrap64 (t848 + t847)) : Int).toNat) (c := c0) hC22 (by omega) (by omega) hroom22
      obtain ⟨A22, hA22⟩ : ∃ A1, A1 = (if c0 = (t848 : Int).toNat then (some ad851) else ((some ad851) : Option Addr).map (·.add ((t848 : Int).toNat * 1))) := ⟨_, rfl⟩
      obtain ⟨c22, hc22⟩ : ∃ c1, c1 = c0 - (t848 : Int).toNat := ⟨_, rfl⟩
      have hy22 : y856.length = ((wrap64 (t848 + t847)) : Int).toNat - (t848 : Int).toNat := (by rw [Ny856.out, List.length_drop, List.length_take] <;> omega)
      rw [show ((l0).take ((wrap64 (t848 + t847)) : Int).toNat).drop (t848 : Int).toNat = y856 from Ny856.out.symm] at hr22
      replace hr22 : Kd.C (Kd.int .u8) _ A22 y856.length y856 := (by rw [hA22]; exact hr22)
      rw [← hy22, ← hA22, ← hc22] at hcut22
      have HR859 := Aside0.mk hr22
      have HC859 := Aside0.mk (show y856.length ≤ c22 from by rw [hy22, hc22]; exact Nat.sub_le_sub_right (Nat.le_trans (by omega) hroom22) _)
      clear hr22 hC22 hroom22 hi022 hsz22 hc22
      have KY22 := Aside0.mk hy22
      have KA22 := Aside0.mk hA22
      clear hy22 hA22
      replace q22 := eq_true q22
      have q23 : ((wrap64 (t848 + t847)) : Int) ≤ ((l0.length : Int) : Int) := of_decide_eq_true (by first | (with_reducible assumption) | assumption)
      obtain ⟨i023, hi023, _, hsz23, _⟩ := info_parts info5
      have hroom23 : l0.length ≤ c0 := HC0.out
      have hC23 : Kd.C (Kd.int .u8) _ (some ad851) l0.length l0 := HR0.out
      have ql23 : (x6_1 : Int) ≤ ((wrap64 (t848 + t847)) : Int) := of_decide_eq_true (by first | (with_reducible assumption) | assumption)
      have q023 : (0 : Int) ≤ (x6_1 : Int) := of_decide_eq_true (by first | (with_reducible assumption) | assumption)
      have hcut23 := cut_mid (P := Tryz.prog) 22 5 .i64 .i64 Tryz.underlying22 hi023 1 hsz23 (some ad851) l0.length c0 x6_1 (wrap64 (t848 + t847)) q023 ql23 q23 hroom23
      have hr23 := Kd.C_mid (lo := (x6_1 : Int).toNat) (hi := ((wrap64 (t848 + t847)) : Int).toNat) (c := c0) hC23 (by omega) (by omega) hroom23
      obtain ⟨A23, hA23⟩ : ∃ A1, A1 = (if c0 = (x6_1 : Int).toNat then (some ad851) else ((some ad851) : Option Addr).map (·.add ((x6_1 : Int).toNat * 1))) := ⟨_, rfl⟩
      obtain ⟨c23, hc23⟩ : ∃ c1, c1 = c0 - (x6_1 : Int).toNat := ⟨_, rfl⟩
      have hy23 : y866.length = ((wrap64 (t848 + t847)) : Int).toNat - (x6_1 : Int).toNat := (by rw [Ny866.out, List.length_drop, List.length_take] <;> omega)
      rw [show ((l0).take ((wrap64 (t848 + t847)) : Int).toNat).drop (x6_1 : Int).toNat = y866 from Ny866.out.symm] at hr23
      replace hr23 : Kd.C (Kd.int .u8) _ A23 y866.length y866 := (by rw [hA23]; exact hr23)
      rw [← hy23, ← hA23, ← hc23] at hcut23
      have HR869 := Aside0.mk hr23
      have HC869 := Aside0.mk (show y866.length ≤ c23 from by rw [hy23, hc23]; exact Nat.sub_le_sub_right (Nat.le_trans (by omega) hroom23) _)
      clear hr23 hC23 hroom23 hi023 hsz23 hc23
      have KY23 := Aside0.mk hy23
      have KA23 := Aside0.mk hA23
      clear hy23 hA23
      replace q23 := eq_true q23
      refine start_ (n := 35) (S := fun w' => w'.cell? (ad851.add (x6_1).toNat) = some (.int .u8 (rd l0 x6_1)) ∧ w'.cell? (ad851.add (x6_1).toNat) = some (.int .u8 (rd l0 x6_1))) (ds := []) #[false, false, false, false, false, false, false, false, false, false, false, false, false, false, false, false, false, false, false, false, false, false, false, false, false, false, false, false, false, false, false, false, false, false, false] (by kernel_rfl) rfl rfl ⟨((HB.out.cell (World.block_lt_of_cell? w _ hw851_0)).trans hw851_0), ((HB.out.cell (World.block_lt_of_cell? w _ hw852_0)).trans hw852_0)⟩ (fun hHeld => ?_); refine with_tabW chirographref04_Split.tab14 chirographref04_Split.bits14 (fun HT_ HW_ => ?_)
      generalize wr.drew = w21 at HO_5 HB HR859 HR869 hx851_0 hx852_0 hHeld ⊢
      refine pure_ (i := 0) (N := some 48) (v := ?_) (a' := ?_) #[true, false, false, false, false, false, false, false, false, false, false, false, false, false, false, false, false, false, false, false, false, false, false, false, false, false, false, false, false, false, false, false, false, false, false] rfl rfl (any_of HT_.out (by kernel_rfl)) (fun _ _ _ h => h) (Or.inl ⟨by rfl, ?_⟩) ?_ ?_; rotate_left; (intro w'; go_simp; with_reducible rfl); rotate_left; (simp only [Act.put, List.setIfInBounds_toArray, List.set_cons_zero, List.set_cons_succ, i64_w, i32_w]; rfl)
      refine pure_ (i := 1) (N := some 49) (v := ?_) (a' := ?_) #[true, true, false, false, false, false, false, false, false, false, false, false, false, false, false, false, false, false, false, false, false, false, false, false, false, false, false, false, false, false, false, false, false, false, false] rfl rfl (any_of HT_.out (by kernel_rfl)) (fun _ _ _ h => h) (Or.inl ⟨by rfl, ?_⟩) ?_ ?_; rotate_left; (intro w'; go_simp; with_reducible rfl); rotate_left; (simp only [Act.put, List.setIfInBounds_toArray, List.set_cons_zero, List.set_cons_succ, i64_w, i32_w]; rfl)
      refine pure_ (i := 2) (N := some 50) (v := ?_) (a' := ?_) #[true, true, true, false, false, false, false, false, false, false, false, false, false, false, false, false, false, false, false, false, false, false, false, false, false, false, false, false, false, false, false, false, false, false, false] rfl rfl (any_of HT_.out (by kernel_rfl)) (fun _ _ _ h => h) (Or.inl ⟨by rfl, ?_⟩) ?_ ?_; rotate_left; (intro w'; go_simp; with_reducible rfl); rotate_left; (simp only [Act.put, List.setIfInBounds_toArray, List.set_cons_zero, List.set_cons_succ, i64_w, i32_w]; rfl)
      refine pure_ (i := 3) (N := some 51) (v := ?_) (a' := ?_) #[true, true, true, true, false, false, false, false, false, false, false, false, false, false, false, false, false, false, false, false, false, false, false, false, false, false, false, false, false, false, false, false, false, false, false] rfl rfl (any_of HT_.out (by kernel_rfl)) (fun _ _ _ h => h) (Or.inl ⟨by rfl, ?_⟩) ?_ ?_; rotate_left; (intro w'; go_simp; with_reducible rfl); rotate_left; (simp only [Act.put, List.setIfInBounds_toArray, List.set_cons_zero, List.set_cons_succ, i64_w, i32_w]; rfl)
      refine pure_ (i := 7) (N := some 55) (v := ?_) (a' := ?_) #[true, true, true, true, false, false, false, true, false, false, false, false, false, false, false, false, false, false, false, false, false, false, false, false, false, false, false, false, false, false, false, false, false, false, false] rfl rfl (any_of HT_.out (by kernel_rfl)) (fun _ _ _ h => h) (Or.inl ⟨by rfl, ?_⟩) ?_ ?_; rotate_left; (intro w'; go_simp; with_reducible rfl); rotate_left; (simp only [Act.put, List.setIfInBounds_toArray, List.set_cons_zero, List.set_cons_succ, i64_w, i32_w]; rfl)
      refine pure_ (i := 8) (N := some 56) (v := ?_) (a' := ?_) #[true, true, true, true, false, false, false, true, true, false, false, false, false, false, false, false, false, false, false, false, false, false, false, false, false, false, false, false, false, false, false, false, false, false, false] rfl rfl (any_of HT_.out (by kernel_rfl)) (fun _ _ _ h => h) (Or.inl ⟨by rfl, ?_⟩) ?_ ?_; rotate_left; (intro w'; go_simp; with_reducible rfl); rotate_left; (simp only [Act.put, List.setIfInBounds_toArray, List.set_cons_zero, List.set_cons_succ, i64_w, i32_w]; rfl)
      refine pure_ (i := 9) (N := some 57) (v := ?_) (a' := ?_) #[true, true, true, true, false, false, false, true, true, true, false, false, false, false, false, false, false, false, false, false, false, false, false, false, false, false, false, false, false, false, false, false, false, false, false] rfl rfl (any_of HT_.out (by kernel_rfl)) (fun _ _ _ h => h) (Or.inl ⟨by rfl, ?_⟩) ?_ ?_; rotate_left; (intro w'; go_simp; with_reducible rfl); rotate_left; (simp only [Act.put, List.setIfInBounds_toArray, List.set_cons_zero, List.set_cons_succ, i64_w, i32_w]; rfl)
      refine pure_ (i := 10) (N := some 58) (v := ?_) (a' := ?_) #[true, true, true, true, false, false, false, true, true, true, true, false, false, false, false, false, false, false, false, false, false, false, false, false, false, false, false, false, false, false, false, false, false, false, false] rfl rfl (any_of HT_.out (by kernel_rfl)) (fun _ _ _ h => h) (Or.inl ⟨by rfl, ?_⟩) ?_ ?_; rotate_left; (intro w'; go_simp; with_reducible rfl); rotate_left; (simp only [Act.put, List.setIfInBounds_toArray, List.set_cons_zero, List.set_cons_succ, i64_w, i32_w]; rfl)
      refine pure_ (i := 16) (N := some 64) (v := ?_) (a' := ?_) #[true, true, true, true, false, false, false, true, true, true, true, false, false, false, false, false, true, false, false, false, false, false, false, false, false, false, false, false, false, false, false, false, false, false, false] rfl rfl (any_of HT_.out (by kernel_rfl)) (fun _ _ _ h => h) (Or.inl ⟨by rfl, ?_⟩) ?_ ?_; rotate_left; (intro w'; go_simp; with_reducible rfl); rotate_left; (simp only [Act.put, List.setIfInBounds_toArray, List.set_cons_zero, List.set_cons_succ, i64_w, i32_w]; rfl)
      refine pure_ (i := 17) (N := some 65) (v := ?_) (a' := ?_) #[true, true, true, true, false, false, false, true, true, true, true, false, false, false, false, false, true, true, false, false, false, false, false, false, false, false, false, false, false, false, false, false, false, false, false] rfl rfl (any_of HT_.out (by kernel_rfl)) (fun _ _ _ h => h) (Or.inl ⟨by rfl, ?_⟩) ?_ ?_; rotate_left; (intro w'; go_simp; with_reducible rfl); rotate_left; (simp only [Act.put, List.setIfInBounds_toArray, List.set_cons_zero, List.set_cons_succ, i64_w, i32_w]; rfl)
      refine pure_ (i := 18) (N := some 66) (v := ?_) (a' := ?_) #[true, true, true, true, false, false, false, true, true, true, true, false, false, false, false, false, true, true, true, false, false, false, false, false, false, false, false, false, false, false, false, false, false, false, false] rfl rfl (any_of HT_.out (by kernel_rfl)) (fun _ _ _ h => h) (Or.inl ⟨by rfl, ?_⟩) ?_ ?_; rotate_left; (intro w'; go_simp; with_reducible rfl); rotate_left; (simp only [Act.put, List.setIfInBounds_toArray, List.set_cons_zero, List.set_cons_succ, i64_w, i32_w]; rfl)
      refine pure_ (i := 19) (N := some 67) (v := ?_) (a' := ?_) #[true, true, true, true, false, false, false, true, true, true, true, false, false, false, false, false, true, true, true, true, false, false, false, false, false, false, false, false, false, false, false, false, false, false, false] rfl rfl (any_of HT_.out (by kernel_rfl)) (fun _ _ _ h => h) (Or.inl ⟨by rfl, ?_⟩) ?_ ?_; rotate_left; (intro w'; go_simp; with_reducible rfl); rotate_left; (simp only [Act.put, List.setIfInBounds_toArray, List.set_cons_zero, List.set_cons_succ, i64_w, i32_w]; rfl)
      refine pure_ (i := 20) (N := some 68) (v := ?_) (a' := ?_) #[true, true, true, true, false, false, false, true, true, true, true, false, false, false, false, false, true, true, true, true, true, false, false, false, false, false, false, false, false, false, false, false, false, false, false] rfl rfl (any_of HT_.out (by kernel_rfl)) (fun _ _ _ h => h) (Or.inl ⟨by rfl, ?_⟩) ?_ ?_; rotate_left; (intro w'; go_simp; with_reducible rfl); rotate_left; (simp only [Act.put, List.setIfInBounds_toArray, List.set_cons_zero, List.set_cons_succ, i64_w, i32_w]; rfl)
      refine pure_ (i := 21) (N := some 69) (v := ?_) (a' := ?_) #[true, true, true, true, false, false, false, true, true, true, true, false, false, false, false, false, true, true, true, true, true, true, false, false, false, false, false, false, false, false, false, false, false, false, false] rfl rfl (any_of HT_.out (by kernel_rfl)) (fun _ _ _ h => h) (Or.inl ⟨by rfl, ?_⟩) ?_ ?_; rotate_left; (intro w'; go_simp; with_reducible rfl); rotate_left; (simp only [Act.put, List.setIfInBounds_toArray, List.set_cons_zero, List.set_cons_succ, i64_w, i32_w]; rfl)
      refine pure_ (i := 24) (N := some 72) (v := ?_) (a' := ?_) #[true, true, true, true, false, false, false, true, true, true, true, false, false, false, false, false, true, true, true, true, true, true, false, false, true, false, false, false, false, false, false, false, false, false, false] rfl rfl (any_of HT_.out (by kernel_rfl)) (fun _ _ _ h => h) (Or.inl ⟨by rfl, ?_⟩) ?_ ?_; rotate_left; (intro w'; go_simp; with_reducible rfl); rotate_left; (simp only [Act.put, List.setIfInBounds_toArray, List.set_cons_zero, List.set_cons_succ, i64_w, i32_w]; rfl)
      refine pure_ (i := 25) (N := some 73) (v := ?_) (a' := ?_) #[true, true, true, true, false, false, false, true, true, true, true, false, false, false, false, false, true, true, true, true, true, true, false, false, true, true, false, false, false, false, false, false, false, false, false] rfl rfl (any_of HT_.out (by kernel_rfl)) (fun _ _ _ h => h) (Or.inl ⟨by rfl, ?_⟩) ?_ ?_; rotate_left; (intro w'; go_simp; with_reducible rfl); rotate_left; (simp only [Act.put, List.setIfInBounds_toArray, List.set_cons_zero, List.set_cons_succ, i64_w, i32_w]; rfl)
      refine pure_ (i := 26) (N := some 74) (v := ?_) (a' := ?_) #[true, true, true, true, false, false, false, true, true, true, true, false, false, false, false, false, true, true, true, true, true, true, false, false, true, true, true, false, false, false, false, false, false, false, false] rfl rfl (any_of HT_.out (by kernel_rfl)) (fun _ _ _ h => h) (Or.inl ⟨by rfl, ?_⟩) ?_ ?_; rotate_left; (intro w'; go_simp; with_reducible rfl); rotate_left; (simp only [Act.put, List.setIfInBounds_toArray, List.set_cons_zero, List.set_cons_succ, i64_w, i32_w]; rfl)
      refine pure_ (i := 27) (N := some 75) (v := ?_) (a' := ?_) #[true, true, true, true, false, false, false, true, true, true, true, false, false, false, false, false, true, true, true, true, true, true, false, false, true, true, true, true, false, false, false, false, false, false, false] rfl rfl (any_of HT_.out (by kernel_rfl)) (fun _ _ _ h => h) (Or.inl ⟨by rfl, ?_⟩) ?_ ?_; rotate_left; (intro w'; go_simp; with_reducible rfl); rotate_left; (simp only [Act.put, List.setIfInBounds_toArray, List.set_cons_zero, List.set_cons_succ, i64_w, i32_w]; rfl)
      refine pure_ (i := 28) (N := some 76) (v := ?_) (a' := ?_) #[true, true, true, true, false, false, false, true, true, true, true, false, false, false, false, false, true, true, true, true, true, true, false, false, true, true, true, true, true, false, false, false, false, false, false] rfl rfl (any_of HT_.out (by kernel_rfl)) (fun _ _ _ h => h) (Or.inl ⟨by rfl, ?_⟩) ?_ ?_; rotate_left; (intro w'; go_simp; with_reducible rfl); rotate_left; (simp only [Act.put, List.setIfInBounds_toArray, List.set_cons_zero, List.set_cons_succ, i64_w, i32_w]; rfl)
      refine pure_ (i := 29) (N := some 77) (v := ?_) (a' := ?_) #[true, true, true, true, false, false, false, true, true, true, true, false, false, false, false, false, true, true, true, true, true, true, false, false, true, true, true, true, true, true, false, false, false, false, false] rfl rfl (any_of HT_.out (by kernel_rfl)) (fun _ _ _ h => h) (Or.inl ⟨by rfl, ?_⟩) ?_ ?_; rotate_left; (intro w'; go_simp; with_reducible rfl); rotate_left; (simp only [Act.put, List.setIfInBounds_toArray, List.set_cons_zero, List.set_cons_succ, i64_w, i32_w]; rfl)
      refine take_ (i := 4) (N := some 52) (v := ?_) (a' := ?_) #[true, true, true, true, true, false, false, true, true, true, true, false, false, false, false, false, true, true, true, true, true, true, false, false, true, true, true, true, true, true, false, false, false, false, false] rfl rfl (take_ofW HT_.out HW_.out (by kernel_rfl)) (fun _ _ _ h => h) (Or.inl ⟨by rfl, ?_⟩) hHeld ?_ ?_; rotate_left; (rintro w' ⟨s0, s1⟩; go_simp; with_reducible rfl); rotate_left; (simp only [Act.put, List.setIfInBounds_toArray, List.set_cons_zero, List.set_cons_succ, i64_w, i32_w]; rfl)
      refine pure_ (i := 5) (N := some 53) (v := ?_) (a' := ?_) #[true, true, true, true, true, true, false, true, true, true, true, false, false, false, false, false, true, true, true, true, true, true, false, false, true, true, true, true, true, true, false, false, false, false, false] rfl rfl (any_of HT_.out (by kernel_rfl)) (fun _ _ _ h => h) (Or.inl ⟨by rfl, ?_⟩) ?_ ?_; rotate_left; (intro w'; go_simp; with_reducible rfl); rotate_left; (simp only [Act.put, List.setIfInBounds_toArray, List.set_cons_zero, List.set_cons_succ, i64_w, i32_w]; rfl)
      refine pure_ (i := 6) (N := some 54) (v := ?_) (a' := ?_) #[true, true, true, true, true, true, true, true, true, true, true, false, false, false, false, false, true, true, true, true, true, true, false, false, true, true, true, true, true, true, false, false, false, false, false] rfl rfl (any_of HT_.out (by kernel_rfl)) (fun _ _ _ h => h) (Or.inl ⟨by rfl, ?_⟩) ?_ ?_; rotate_left; (intro w'; go_simp; with_reducible rfl); rotate_left; (simp only [Act.put, List.setIfInBounds_toArray, List.set_cons_zero, List.set_cons_succ, i64_w, i32_w]; rfl)
      refine take_ (i := 11) (N := some 59) (v := ?_) (a' := ?_) #[true, true, true, true, true, true, true, true, true, true, true, true, false, false, false, false, true, true, true, true, true, true, false, false, true, true, true, true, true, true, false, false, false, false, false] rfl rfl (take_ofW HT_.out HW_.out (by kernel_rfl)) (fun _ _ _ h => h) (Or.inl ⟨by rfl, ?_⟩) hHeld ?_ ?_; rotate_left; (rintro w' ⟨s0, s1⟩; go_simp; with_reducible rfl); rotate_left; (simp only [Act.put, List.setIfInBounds_toArray, List.set_cons_zero, List.set_cons_succ, i64_w, i32_w]; rfl)
      refine pure_ (i := 12) (N := some 60) (v := ?_) (a' := ?_) #[true, true, true, true, true, true, true, true, true, true, true, true, true, false, false, false, true, true, true, true, true, true, false, false, true, true, true, true, true, true, false, false, false, false, false] rfl rfl (any_of HT_.out (by kernel_rfl)) (fun _ _ _ h => h) (Or.inl ⟨by rfl, ?_⟩) ?_ ?_; rotate_left; (intro w'; go_simp; with_reducible rfl); rotate_left; (simp only [Act.put, List.setIfInBounds_toArray, List.set_cons_zero, List.set_cons_succ, i64_w, i32_w]; rfl)
      refine pure_ (i := 13) (N := some 61) (v := ?_) (a' := ?_) #[true, true, true, true, true, true, true, true, true, true, true, true, true, true, false, false, true, true, true, true, true, true, false, false, true, true, true, true, true, true, false, false, false, false, false] rfl rfl (any_of HT_.out (by kernel_rfl)) (fun _ _ _ h => h) (Or.inl ⟨by rfl, ?_⟩) ?_ ?_; rotate_left; (intro w'; go_simp; with_reducible rfl); rotate_left; (simp only [Act.put, List.setIfInBounds_toArray, List.set_cons_zero, List.set_cons_succ, i64_w, i32_w]; rfl)
      refine pure_ (i := 14) (N := some 62) (v := ?_) (a' := ?_) #[true, true, true, true, true, true, true, true, true, true, true, true, true, true, true, false, true, true, true, true, true, true, false, false, true, true, true, true, true, true, false, false, false, false, false] rfl rfl (any_of HT_.out (by kernel_rfl)) (fun _ _ _ h => h) (Or.inl ⟨by rfl, ?_⟩) ?_ ?_; rotate_left; (intro w'; go_simp; with_reducible rfl); rotate_left; (simp only [Act.put, List.setIfInBounds_toArray, List.set_cons_zero, List.set_cons_succ, i64_w, i32_w]; rfl)
      refine join_ (σ := Value × Value × Value) 5 #[true, true, true, true, true, true, true, true, true, true, true, true, true, true, true, true, true, true, true, true, true, true, true, true, true, true, true, true, true, true, false, false, false, false, false] (fun s_ => [(63, s_.1), (70, s_.2.1), (71, s_.2.2)]) (fun s_ w' => (w'.cell? (ad851.add (x6_1).toNat) = some (.int .u8 (rd l0 x6_1)) ∧ w'.cell? (ad851.add (x6_1).toNat) = some (.int .u8 (rd l0 x6_1))) ∧ (Kd.R (Kd.int .u8) 5 w' w.heap.size (fun k_ => some k_ ≠ (s_.2.2 : Value).ownBlock) s_.2.1 y860) ∧ (Kd.R (Kd.int .u8) 5 w' w.heap.size (fun k_ => some k_ ≠ (s_.2.1 : Value).ownBlock) s_.2.2 y863) ∧ (Kd.S k77 77 w' w.heap.size (fun k_ => some k_ ≠ (s_.2.1 : Value).ownBlock ∧ some k_ ≠ (s_.2.2 : Value).ownBlock) (.slice Ao20 x5_1.length co20) x5_1) ∧ (Below w.heap.size w w')) ?_ ?_
      rotate_left
      · intro hCont
        refine two_ (i := 15) (j := 23) (Ni := some 63) (Nj := some 71) #[true, true, true, true, true, true, true, true, true, true, true, true, true, true, true, true, true, true, true, true, true, true, false, false, true, true, true, true, true, true, false, false, false, false, false] #[true, true, true, true, true, true, true, true, true, true, true, true, true, true, true, false, true, true, true, true, true, true, false, true, true, true, true, true, true, true, false, false, false, false, false] rfl rfl rfl rfl (two_of HT_.out (by kernel_rfl)) (by decide) (by decide) (fun K hK => ?_) (fun K hK => ?_)
        rotate_left
        · skip
          refine Kd.R_lit_step (Kd.int .u8) _ 5 ?hg (N := 71) ?hd (xs := ([] : List Int)) (inner := []) (ok := fun _ => True) (okp := fun _ => True) ?hr ?hp (fun _ hk => hk) trivial (Below.refl _ _) (Nat.le_refl _) (by simp) ?_; (case hd => rfl); (case hg => rfl); (case hr => first | (go_simp; done) | (go_simp; rfl)); (case hp => exact (Reps.none _ _))
          intro v864 w24 ho25 hb hg_ hnew_
          clear hg_ hnew_
          (first | rw [← Ny863.out] at ho25 | (simp only [Int.reduceToNat] at ho25; rw [← Ny863.out] at ho25))
          have n0_ := Aside0.mk (Kd.S_elder' (Kd.S_u HO_5.out) (Kd.R_base ho25) hb)
          have n1_ := Aside0.mk (Kd.R_lower ho25 (below_size (bU HB.out)))
          have n2_ := Aside0.mk (below_step (bU HB.out) hb)
          clear HO_5
          clear HB
          have HO_5 := n0_
          have HO865 := n1_
          have HB := n2_
          clear n0_ n1_ n2_
          clear hb ho25
          refine hK.out _ _ ⟨((HB.out.cell (World.block_lt_of_cell? w _ hw851_0)).trans hw851_0), ((HB.out.cell (World.block_lt_of_cell? w _ hw852_0)).trans hw852_0)⟩ (fun hHeld => ?_)
          clear hK K
          refine norm_ (a' := ?_) ?_ ?_; rotate_left; (show Act.put _ (some 71) _ = _; simp only [Act.put, List.setIfInBounds_toArray, List.set_cons_zero, List.set_cons_succ, i64_w, i32_w]; rfl)
          refine one_ (i := 15) (N := some 63) #[true, true, true, true, true, true, true, true, true, true, true, true, true, true, true, true, true, true, true, true, true, true, false, true, true, true, true, true, true, true, false, false, false, false, false] rfl rfl (one_of HT_.out (by kernel_rfl)) (by decide) (fun K hK => ?_)
          refine Kd.R_lit_step (Kd.int .u8) _ 5 ?hg (N := 63) ?hd (xs := ([] : List Int)) (inner := []) (ok := fun _ => True) (okp := fun _ => True) ?hr ?hp (fun _ hk => hk) trivial (Below.refl _ _) (Nat.le_refl _) (by simp) ?_; (case hd => rfl); (case hg => rfl); (case hr => first | (go_simp; done) | (go_simp; rfl)); (case hp => exact (Reps.none _ _))
          intro v854 w26 ho27 hb hg_ hnew_
          clear hg_ hnew_
          (first | rw [← Ny853.out] at ho27 | (simp only [Int.reduceToNat] at ho27; rw [← Ny853.out] at ho27))
          have n0_ := Aside0.mk (Kd.S_elder' (Kd.S_u HO_5.out) (Kd.R_base ho27) hb)
          have n1_ := Aside0.mk (Kd.R_elder' (Kd.R_u HO865.out) (Kd.R_base ho27) hb)
          have n2_ := Aside0.mk (Kd.R_lower (Kd.R_new' ho27 (Kd.R_lt (Kd.R_u HO865.out))) (below_size (bU HB.out)))
          have n3_ := Aside0.mk (below_step (bU HB.out) hb)
          clear HO_5
          clear HO865
          clear HB
          have HO_5 := n0_
          have HO865 := n1_
          have HO855 := n2_
          have HB := n3_
          clear n0_ n1_ n2_ n3_
          clear hb ho27
          refine hK.out _ _ ⟨((HB.out.cell (World.block_lt_of_cell? w _ hw851_0)).trans hw851_0), ((HB.out.cell (World.block_lt_of_cell? w _ hw852_0)).trans hw852_0)⟩ (fun hHeld => ?_)
          clear hK K
          refine norm_ (a' := ?_) ?_ ?_; rotate_left; (show Act.put _ (some 63) _ = _; simp only [Act.put, List.setIfInBounds_toArray, List.set_cons_zero, List.set_cons_succ, i64_w, i32_w]; rfl)
          refine one_ (i := 22) (N := some 70) #[true, true, true, true, true, true, true, true, true, true, true, true, true, true, true, true, true, true, true, true, true, true, true, true, true, true, true, true, true, true, false, false, false, false, false] rfl rfl (one_of HT_.out (by kernel_rfl)) (by decide) (fun K hK => ?_)
          refine Kd.R_append_rows_step (Kd.int .u8) (w0 := w) w.heap.size (by rfl) (.tmp 63) (.tmp 69) 22 5 (.int .u8 0) 1 rfl Tryz.underlying22 info5 rfl (by decide) (by omega) v854 y853 y856 _ _ _ (fun k_ => some k_ ≠ (v864 : Value).ownBlock) (fun _ => False) rfl rfl ?aO ?aR (fun _ _ h => h) (fun _ h => h.elim) ?aF ?aB ?aS ?aL ?_
          (case aR => exact Kd.C_u (Kd.C_below HR859.out HB.out))
          (case aB => exact (bU HB.out))
          (case aF => exact (fun k_ hk => Kd.fresh' (Kd.R_lt (Kd.R_u HO865.out)) k_ hk))
          (case aO => exact (Kd.R_u (Kd.R_mono HO855.out (fun _ hk => hk.2))))
          (case aS => exact (below_size (bU HB.out)))
          (case aL => have := LMc14.out; omega)
          intro v861 w28 ho hb hg hat
          rw [← Ny860.out] at ho
          have n0_ := Aside0.mk (Kd.S_after (ok := (fun k_ => some k_ ≠ (v864 : Value).ownBlock)) (Kd.S_u (Kd.S_mono HO_5.out (fun _ hk => ⟨hk.1.2, hk.2⟩))) hg hat)
          have n1_ := Aside0.mk (Kd.R_after (ok := (fun _ => True)) (Kd.R_u HO865.out) hg hat)
          have n2_ := Aside0.mk (hb)
          have n3_ := Aside0.mk (ho)
          clear HO_5
          clear HO865
          clear HB
          clear HO855
          have HO_5 := n0_
          have HO865 := n1_
          have HB := n2_
          have HO862 := n3_
          clear n0_ n1_ n2_ n3_
          clear ho hb hg hat
          refine hK.out _ _ ⟨((HB.out.cell (World.block_lt_of_cell? w _ hw851_0)).trans hw851_0), ((HB.out.cell (World.block_lt_of_cell? w _ hw852_0)).trans hw852_0)⟩ (fun hHeld => ?_)
          clear hK K
          refine norm_ (a' := ?_) ?_ ?_; rotate_left; (show Act.put _ (some 70) _ = _; simp only [Act.put, List.setIfInBounds_toArray, List.set_cons_zero, List.set_cons_succ, i64_w, i32_w]; rfl)
          exact norm_ (by simp only [putAll, Act.put, List.setIfInBounds_toArray, List.set_cons_zero, List.set_cons_succ]) (hCont (v854, v861, v864) _ ⟨hHeld, (Kd.R_u HO862.out), (Kd.R_u (Kd.R_mono HO865.out (fun _ hk => hk.2))), (Kd.S_u (Kd.S_mono HO_5.out (fun _ hk => ⟨hk.2, hk.1⟩))), (bU HB.out)⟩)
        skip
        refine Kd.R_lit_step (Kd.int .u8) _ 5 ?hg (N := 63) ?hd (xs := ([] : List Int)) (inner := []) (ok := fun _ => True) (okp := fun _ => True) ?hr ?hp (fun _ hk => hk) trivial (Below.refl _ _) (Nat.le_refl _) (by simp) ?_; (case hd => rfl); (case hg => rfl); (case hr => first | (go_simp; done) | (go_simp; rfl)); (case hp => exact (Reps.none _ _))
        intro v854 w24 ho25 hb hg_ hnew_
        clear hg_ hnew_
        (first | rw [← Ny853.out] at ho25 | (simp only [Int.reduceToNat] at ho25; rw [← Ny853.out] at ho25))
        have n0_ := Aside0.mk (Kd.S_elder' (Kd.S_u HO_5.out) (Kd.R_base ho25) hb)
        have n1_ := Aside0.mk (Kd.R_lower ho25 (below_size (bU HB.out)))
        have n2_ := Aside0.mk (below_step (bU HB.out) hb)
        clear HO_5
        clear HB
        have HO_5 := n0_
        have HO855 := n1_
        have HB := n2_
        clear n0_ n1_ n2_
        clear hb ho25
        refine hK.out _ _ ⟨((HB.out.cell (World.block_lt_of_cell? w _ hw851_0)).trans hw851_0), ((HB.out.cell (World.block_lt_of_cell? w _ hw852_0)).trans hw852_0)⟩ (fun hHeld => ?_)
        clear hK K
        refine norm_ (a' := ?_) ?_ ?_; rotate_left; (show Act.put _ (some 63) _ = _; simp only [Act.put, List.setIfInBounds_toArray, List.set_cons_zero, List.set_cons_succ, i64_w, i32_w]; rfl)
        refine two_ (i := 22) (j := 23) (Ni := some 70) (Nj := some 71) #[true, true, true, true, true, true, true, true, true, true, true, true, true, true, true, true, true, true, true, true, true, true, true, false, true, true, true, true, true, true, false, false, false, false, false] #[true, true, true, true, true, true, true, true, true, true, true, true, true, true, true, true, true, true, true, true, true, true, false, true, true, true, true, true, true, true, false, false, false, false, false] rfl rfl rfl rfl (two_of HT_.out (by kernel_rfl)) (by decide) (by decide) (fun K hK => ?_) (fun K hK => ?_)
        · skip
          refine Kd.R_append_rows_step (Kd.int .u8) (w0 := w) w.heap.size (by rfl) (.tmp 63) (.tmp 69) 22 5 (.int .u8 0) 1 rfl Tryz.underlying22 info5 rfl (by decide) (by omega) v854 y853 y856 _ _ _ (fun _ => True) (fun _ => False) rfl rfl ?aO ?aR (fun _ _ h => h) (fun _ h => h.elim) ?aF ?aB ?aS ?aL ?_
          (case aR => exact Kd.C_u (Kd.C_below HR859.out HB.out))
          (case aB => exact (bU HB.out))
          (case aF => exact (fun _ _ => trivial))
          (case aO => exact (Kd.R_u HO855.out))
          (case aS => exact (below_size (bU HB.out)))
          (case aL => have := LMc14.out; omega)
          intro v861 w26 ho hb hg hat
          rw [← Ny860.out] at ho
          have n0_ := Aside0.mk (Kd.S_after (ok := (fun _ => True)) (Kd.S_u HO_5.out) hg hat)
          have n1_ := Aside0.mk (hb)
          have n2_ := Aside0.mk (ho)
          clear HO_5
          clear HB
          clear HO855
          have HO_5 := n0_
          have HB := n1_
          have HO862 := n2_
          clear n0_ n1_ n2_
          clear ho hb hg hat
          refine hK.out _ _ ⟨((HB.out.cell (World.block_lt_of_cell? w _ hw851_0)).trans hw851_0), ((HB.out.cell (World.block_lt_of_cell? w _ hw852_0)).trans hw852_0)⟩ (fun hHeld => ?_)
          clear hK K
          refine norm_ (a' := ?_) ?_ ?_; rotate_left; (show Act.put _ (some 70) _ = _; simp only [Act.put, List.setIfInBounds_toArray, List.set_cons_zero, List.set_cons_succ, i64_w, i32_w]; rfl)
          refine one_ (i := 23) (N := some 71) #[true, true, true, true, true, true, true, true, true, true, true, true, true, true, true, true, true, true, true, true, true, true, true, true, true, true, true, true, true, true, false, false, false, false, false] rfl rfl (one_of HT_.out (by kernel_rfl)) (by decide) (fun K hK => ?_)
          refine Kd.R_lit_step (Kd.int .u8) _ 5 ?hg (N := 71) ?hd (xs := ([] : List Int)) (inner := []) (ok := fun _ => True) (okp := fun _ => True) ?hr ?hp (fun _ hk => hk) trivial (Below.refl _ _) (Nat.le_refl _) (by simp) ?_; (case hd => rfl); (case hg => rfl); (case hr => first | (go_simp; done) | (go_simp; rfl)); (case hp => exact (Reps.none _ _))
          intro v864 w27 ho28 hb hg_ hnew_
          clear hg_ hnew_
          (first | rw [← Ny863.out] at ho28 | (simp only [Int.reduceToNat] at ho28; rw [← Ny863.out] at ho28))
          have n0_ := Aside0.mk (Kd.S_elder' (Kd.S_u HO_5.out) (Kd.R_base ho28) hb)
          have n1_ := Aside0.mk (Kd.R_elder' (Kd.R_u HO862.out) (Kd.R_base ho28) hb)
          have n2_ := Aside0.mk (Kd.R_lower (Kd.R_new' ho28 (Kd.R_lt (Kd.R_u HO862.out))) (below_size (bU HB.out)))
          have n3_ := Aside0.mk (below_step (bU HB.out) hb)
          clear HO_5
          clear HO862
          clear HB
          have HO_5 := n0_
          have HO862 := n1_
          have HO865 := n2_
          have HB := n3_
          clear n0_ n1_ n2_ n3_
          clear hb ho28
          refine hK.out _ _ ⟨((HB.out.cell (World.block_lt_of_cell? w _ hw851_0)).trans hw851_0), ((HB.out.cell (World.block_lt_of_cell? w _ hw852_0)).trans hw852_0)⟩ (fun hHeld => ?_)
          clear hK K
          refine norm_ (a' := ?_) ?_ ?_; rotate_left; (show Act.put _ (some 71) _ = _; simp only [Act.put, List.setIfInBounds_toArray, List.set_cons_zero, List.set_cons_succ, i64_w, i32_w]; rfl)
          exact norm_ (by simp only [putAll, Act.put, List.setIfInBounds_toArray, List.set_cons_zero, List.set_cons_succ]) (hCont (v854, v861, v864) _ ⟨hHeld, (Kd.R_u (Kd.R_mono HO862.out (fun _ hk => hk.2))), (Kd.R_u (Kd.R_mono HO865.out (fun _ hk => hk.2))), (Kd.S_u (Kd.S_mono HO_5.out (fun _ hk => ⟨hk.1.2, hk.2⟩))), (bU HB.out)⟩)
        skip
        refine Kd.R_lit_step (Kd.int .u8) _ 5 ?hg (N := 71) ?hd (xs := ([] : List Int)) (inner := []) (ok := fun _ => True) (okp := fun _ => True) ?hr ?hp (fun _ hk => hk) trivial (Below.refl _ _) (Nat.le_refl _) (by simp) ?_; (case hd => rfl); (case hg => rfl); (case hr => first | (go_simp; done) | (go_simp; rfl)); (case hp => exact (Reps.none _ _))
        intro v864 w26 ho27 hb hg_ hnew_
        clear hg_ hnew_
        (first | rw [← Ny863.out] at ho27 | (simp only [Int.reduceToNat] at ho27; rw [← Ny863.out] at ho27))
        have n0_ := Aside0.mk (Kd.S_elder' (Kd.S_u HO_5.out) (Kd.R_base ho27) hb)
        have n1_ := Aside0.mk (Kd.R_elder' (Kd.R_u HO855.out) (Kd.R_base ho27) hb)
        have n2_ := Aside0.mk (Kd.R_lower (Kd.R_new' ho27 (Kd.R_lt (Kd.R_u HO855.out))) (below_size (bU HB.out)))
        have n3_ := Aside0.mk (below_step (bU HB.out) hb)
        clear HO_5
        clear HO855
        clear HB
        have HO_5 := n0_
        have HO855 := n1_
        have HO865 := n2_
        have HB := n3_
        clear n0_ n1_ n2_ n3_
        clear hb ho27
        refine hK.out _ _ ⟨((HB.out.cell (World.block_lt_of_cell? w _ hw851_0)).trans hw851_0), ((HB.out.cell (World.block_lt_of_cell? w _ hw852_0)).trans hw852_0)⟩ (fun hHeld => ?_)
        clear hK K
        refine norm_ (a' := ?_) ?_ ?_; rotate_left; (show Act.put _ (some 71) _ = _; simp only [Act.put, List.setIfInBounds_toArray, List.set_cons_zero, List.set_cons_succ, i64_w, i32_w]; rfl)
        refine one_ (i := 22) (N := some 70) #[true, true, true, true, true, true, true, true, true, true, true, true, true, true, true, true, true, true, true, true, true, true, true, true, true, true, true, true, true, true, false, false, false, false, false] rfl rfl (one_of HT_.out (by kernel_rfl)) (by decide) (fun K hK => ?_)
        refine Kd.R_append_rows_step (Kd.int .u8) (w0 := w) w.heap.size (by rfl) (.tmp 63) (.tmp 69) 22 5 (.int .u8 0) 1 rfl Tryz.underlying22 info5 rfl (by decide) (by omega) v854 y853 y856 _ _ _ (fun k_ => some k_ ≠ (v864 : Value).ownBlock) (fun _ => False) rfl rfl ?aO ?aR (fun _ _ h => h) (fun _ h => h.elim) ?aF ?aB ?aS ?aL ?_
        (case aR => exact Kd.C_u (Kd.C_below HR859.out HB.out))
        (case aB => exact (bU HB.out))
        (case aF => exact (fun k_ hk => Kd.fresh' (Kd.R_lt (Kd.R_u HO865.out)) k_ hk))
        (case aO => exact (Kd.R_u (Kd.R_mono HO855.out (fun _ hk => hk.2))))
        (case aS => exact (below_size (bU HB.out)))
        (case aL => have := LMc14.out; omega)
        intro v861 w28 ho hb hg hat
        rw [← Ny860.out] at ho
        have n0_ := Aside0.mk (Kd.S_after (ok := (fun k_ => some k_ ≠ (v864 : Value).ownBlock)) (Kd.S_u (Kd.S_mono HO_5.out (fun _ hk => ⟨hk.2, hk.1.2⟩))) hg hat)
        have n1_ := Aside0.mk (Kd.R_after (ok := (fun _ => True)) (Kd.R_u HO865.out) hg hat)
        have n2_ := Aside0.mk (hb)
        have n3_ := Aside0.mk (ho)
        clear HO_5
        clear HO865
        clear HB
        clear HO855
        have HO_5 := n0_
        have HO865 := n1_
        have HB := n2_
        have HO862 := n3_
        clear n0_ n1_ n2_ n3_
        clear ho hb hg hat
        refine hK.out _ _ ⟨((HB.out.cell (World.block_lt_of_cell? w _ hw851_0)).trans hw851_0), ((HB.out.cell (World.block_lt_of_cell? w _ hw852_0)).trans hw852_0)⟩ (fun hHeld => ?_)
        clear hK K
        refine norm_ (a' := ?_) ?_ ?_; rotate_left; (show Act.put _ (some 70) _ = _; simp only [Act.put, List.setIfInBounds_toArray, List.set_cons_zero, List.set_cons_succ, i64_w, i32_w]; rfl)
        exact norm_ (by simp only [putAll, Act.put, List.setIfInBounds_toArray, List.set_cons_zero, List.set_cons_succ]) (hCont (v854, v861, v864) _ ⟨hHeld, (Kd.R_u HO862.out), (Kd.R_u (Kd.R_mono HO865.out (fun _ hk => hk.2))), (Kd.S_u (Kd.S_mono HO_5.out (fun _ hk => ⟨hk.2, hk.1⟩))), (bU HB.out)⟩)
      rintro ⟨v854, v861, v864⟩ w29 ⟨hS_, h0_, h1_, h2_, h3_⟩
      have n0_ : Aside0 (Kd.R (Kd.int .u8) 5 w29 w.heap.size (fun k_ => some k_ ≠ (v864 : Value).ownBlock) v861 y860) := ⟨h0_⟩
      have n1_ : Aside0 (Kd.R (Kd.int .u8) 5 w29 w.heap.size (fun k_ => some k_ ≠ (v861 : Value).ownBlock) v864 y863) := ⟨h1_⟩
      have n2_ : Aside0 (Kd.S k77 77 w29 w.heap.size (fun k_ => some k_ ≠ (v861 : Value).ownBlock ∧ some k_ ≠ (v864 : Value).ownBlock) (.slice Ao20 x5_1.length co20) x5_1) := ⟨h2_⟩
      have n3_ : Aside0 (Below w.heap.size w w29) := ⟨h3_⟩
      clear HO_5
      clear HB
      clear h0_ h1_ h2_ h3_
      have HO862 := n0_
      have HO865 := n1_
      have HO_5 := n2_
      have HB := n3_
      clear n0_ n1_ n2_ n3_
      have hHeld : w29.cell? (ad851.add (x6_1).toNat) = some (.int .u8 (rd l0 x6_1)) ∧ w29.cell? (ad851.add (x6_1).toNat) = some (.int .u8 (rd l0 x6_1)) := hS_
      refine norm_ (a' := ?_) ?_ ?_; rotate_left; (simp only [putAll, Act.put, List.setIfInBounds_toArray, List.set_cons_zero, List.set_cons_succ]; rfl)
      refine one_ (i := 30) (N := some 78) #[true, true, true, true, true, true, true, true, true, true, true, true, true, true, true, true, true, true, true, true, true, true, true, true, true, true, true, true, true, true, true, false, false, false, false] rfl rfl (one_of HT_.out (by kernel_rfl)) (by decide) (fun K hK => ?_)
      refine Kd.R_append_rows_step (Kd.int .u8) (w0 := w) w.heap.size (by rfl) (.tmp 71) (.tmp 77) 22 5 (.int .u8 0) 1 rfl Tryz.underlying22 info5 rfl (by decide) (by omega) v864 y863 y866 _ _ _ (fun k_ => some k_ ≠ (v861 : Value).ownBlock) (fun _ => False) rfl rfl ?aO ?aR (fun _ _ h => h) (fun _ h => h.elim) ?aF ?aB ?aS ?aL ?_
      (case aR => exact Kd.C_u (Kd.C_below HR869.out HB.out))
      (case aB => exact (bU HB.out))
      (case aF => exact (fun k_ hk => Kd.fresh' (Kd.R_lt (Kd.R_u HO862.out)) k_ hk))
      (case aO => exact (Kd.R_u HO865.out))
      (case aS => exact (below_size (bU HB.out)))
      (case aL => have := LMc18.out; omega)
      intro v871 w30 ho hb hg hat
      rw [← Ny870.out] at ho
      have n0_ := Aside0.mk (Kd.S_after (ok := (fun k_ => some k_ ≠ (v861 : Value).ownBlock)) (Kd.S_u HO_5.out) hg hat)
      have n1_ := Aside0.mk (Kd.R_after (ok := (fun _ => True)) (Kd.R_u (Kd.R_mono HO862.out (fun _ hk => ⟨trivial, hk⟩))) hg hat)
      have n2_ := Aside0.mk (hb)
      have n3_ := Aside0.mk (ho)
      clear HO_5
      clear HO862
      clear HB
      clear HO865
      have HO_5 := n0_
      have HO862 := n1_
      have HB := n2_
      have HO872 := n3_
      clear n0_ n1_ n2_ n3_
      clear ho hb hg hat
      obtain ⟨Ao31, co31, eo31⟩ := Kd.R_slice HO872.out
      (first | subst eo31 | (injection eo31 with f1_ f2_ f3_; have f4_ := f1_.symm; have f5_ := f3_.symm; clear f1_ f2_ f3_; subst f4_; subst f5_))
      obtain ⟨Ao32, co32, eo32⟩ := Kd.R_slice HO862.out
      (first | subst eo32 | (injection eo32 with f1_ f2_ f3_; have f4_ := f1_.symm; have f5_ := f3_.symm; clear f1_ f2_ f3_; subst f4_; subst f5_))
      refine hK.out _ _ ⟨((HB.out.cell (World.block_lt_of_cell? w _ hw851_0)).trans hw851_0), ((HB.out.cell (World.block_lt_of_cell? w _ hw852_0)).trans hw852_0)⟩ (fun hHeld => ?_)
      clear hK K
      refine norm_ (a' := ?_) ?_ ?_; rotate_left; (show Act.put _ (some 78) _ = _; simp only [Act.put, List.setIfInBounds_toArray, List.set_cons_zero, List.set_cons_succ, i64_w, i32_w]; rfl)
      refine pure_ (i := 31) (N := some 79) (v := ?_) (a' := ?_) #[true, true, true, true, true, true, true, true, true, true, true, true, true, true, true, true, true, true, true, true, true, true, true, true, true, true, true, true, true, true, true, true, false, false, false] rfl rfl (any_of HT_.out (by kernel_rfl)) (fun _ _ _ h => h) (Or.inl ⟨by rfl, ?_⟩) ?_ ?_; rotate_left; (intro w'; go_simp; with_reducible rfl); rotate_left; (simp only [Act.put, List.setIfInBounds_toArray, List.set_cons_zero, List.set_cons_succ, i64_w, i32_w]; rfl)
      refine one_ (i := 32) (N := some 80) #[true, true, true, true, true, true, true, true, true, true, true, true, true, true, true, true, true, true, true, true, true, true, true, true, true, true, true, true, true, true, true, true, true, false, false] rfl rfl (one_of HT_.out (by kernel_rfl)) (by decide) (fun K hK => ?_)
      refine value_ (w1 := ?_) (v := ?_) (by rfl) rfl ?_ ?_
      rotate_left 2
      · go_simp
        constructor
        rotate_left
        · rfl
        rfl
      refine hK.out _ _ ⟨(World.cell?_alloc_lt _ _ _ (World.block_lt_of_cell? _ _ (((HB.out.cell (World.block_lt_of_cell? w _ hw851_0)).trans hw851_0)))).trans (((HB.out.cell (World.block_lt_of_cell? w _ hw851_0)).trans hw851_0)), (World.cell?_alloc_lt _ _ _ (World.block_lt_of_cell? _ _ (((HB.out.cell (World.block_lt_of_cell? w _ hw852_0)).trans hw852_0)))).trans (((HB.out.cell (World.block_lt_of_cell? w _ hw852_0)).trans hw852_0))⟩ (fun hHeld => ?_)
      clear hK K
      refine norm_ (a' := ?_) ?_ ?_; rotate_left; (show Act.put _ (some 80) _ = _; simp only [Act.put, List.setIfInBounds_toArray, List.set_cons_zero, List.set_cons_succ, i64_w, i32_w]; rfl)
      refine one_ (i := 33) (N := some 81) #[true, true, true, true, true, true, true, true, true, true, true, true, true, true, true, true, true, true, true, true, true, true, true, true, true, true, true, true, true, true, true, true, true, true, false] rfl rfl (one_of HT_.out (by kernel_rfl)) (by decide) (fun K hK => ?_)
      refine Kd.S_append_step k77 (w0 := w) w.heap.size (by rfl) (.tmp 48) (.tmp 80) 138 77 (.agg #[(.int .i64 0), (.int .i64 0), (.bool false), (.slice none 0 0), (.slice none 0 0)]) 72 rfl Tryz.underlying138 info77 rfl (by decide) (by omega) (.slice Ao20 x5_1.length co20) x5_1 (⟨(Int.tdiv (rd l0 x6_1) 64) % 256, t843, ((((Int.tdiv (rd l0 x6_1) 32) % 256) % 2) == 1), y860, y870⟩ : S77) [.int .i64 (wrap64 (IntKind.u8.wrap ((rd l0 x6_1).tdiv 64))), .int .i64 t843, .bool ((IntKind.u8.wrap ((rd l0 x6_1).tdiv 32)).tmod 2 == 1), .slice Ao32 y860.length co32, .slice Ao31 y870.length co31] (fun _ => True) (fun k_ => some k_ = (.slice Ao32 y860.length co32 : Value).ownBlock ∨ some k_ = (.slice Ao31 y870.length co31 : Value).ownBlock) rfl rfl ?aP (fun k_ hk_ => hk_.elim (fun h_ => ((Kd.R_mono (ok' := fun k_ => ((fun _ => True)) k_ ∧ some k_ ≠ (.slice Ao20 x5_1.length co20 : Value).ownBlock) (Kd.R_apart' (HO862.out) (Kd.S_typed HO_5.out) (by decide)) (fun k_ hk => ⟨trivial, hk.2⟩))).1 k_ h_.symm) (fun h_ => ((Kd.R_mono (ok' := fun k_ => ((fun _ => True)) k_ ∧ some k_ ≠ (.slice Ao20 x5_1.length co20 : Value).ownBlock) (Kd.R_apart' (HO872.out) (Kd.S_typed HO_5.out) (by decide)) (fun k_ hk => ⟨trivial, hk.2⟩))).1 k_ h_.symm)) ?aF ?aO ?aB ?aS ?aL ?_
      (case aP => rw [u8_shift, u8_odd]; exact k77_mkM _ _ _ (⟨(Int.tdiv (rd l0 x6_1) 64) % 256, t843, ((((Int.tdiv (rd l0 x6_1) 32) % 256) % 2) == 1), y860, y870⟩ : S77) (Kd.R_mono (Kd.R_tight rfl (Kd.R_mono (ok' := fun k_ => ((fun _ => True)) k_ ∧ some k_ ≠ (.slice Ao20 x5_1.length co20 : Value).ownBlock) (Kd.R_apart' (HO862.out) (Kd.S_typed HO_5.out) (by decide)) (fun k_ hk => ⟨trivial, hk.2⟩))) (fun _ h_ => Or.inl h_)) (Kd.R_mono (Kd.R_tight rfl (Kd.R_mono (ok' := fun k_ => ((fun _ => True)) k_ ∧ some k_ ≠ (.slice Ao20 x5_1.length co20 : Value).ownBlock) (Kd.R_apart' (HO872.out) (Kd.S_typed HO_5.out) (by decide)) (fun k_ hk => ⟨trivial, hk.2⟩))) (fun _ h_ => Or.inr (h_))))
      (case aB => exact (bU HB.out))
      (case aF => exact (fun _ _ => trivial))
      (case aO => exact (Kd.S_u (Kd.S_mono HO_5.out (fun k_ hk => ⟨trivial, fun e_ => e_.elim (fun h_ => hk.1 h_) (fun h_ => hk.2 h_)⟩))))
      (case aS => exact (below_size (bU HB.out)))
      (case aL => have := LMc19.out; omega)
      intro v874 w33 ho hb hg hat
      rw [← Ny873.out] at ho
      have n0_ := Aside0.mk (hb)
      have n1_ := Aside0.mk (ho)
      clear HB
      clear HO_5
      clear HO862
      clear HO872
      have HB := n0_
      have HO875 := n1_
      clear n0_ n1_
      clear ho hb hg hat
      refine hK.out _ _ ⟨((HB.out.cell (World.block_lt_of_cell? w _ hw851_0)).trans hw851_0), ((HB.out.cell (World.block_lt_of_cell? w _ hw852_0)).trans hw852_0)⟩ (fun hHeld => ?_)
      clear hK K
      refine norm_ (a' := ?_) ?_ ?_; rotate_left; (show Act.put _ (some 81) _ = _; simp only [Act.put, List.setIfInBounds_toArray, List.set_cons_zero, List.set_cons_succ, i64_w, i32_w]; rfl)
      refine pure_ (i := 34) (N := some 5) (v := ?_) (a' := ?_) #[true, true, true, true, true, true, true, true, true, true, true, true, true, true, true, true, true, true, true, true, true, true, true, true, true, true, true, true, true, true, true, true, true, true, true] rfl rfl (any_of HT_.out (by kernel_rfl)) (fun _ _ _ h => h) (Or.inl ⟨by rfl, ?_⟩) ?_ ?_; rotate_left; (intro w'; go_simp; with_reducible rfl); rotate_left; (simp only [Act.put, List.setIfInBounds_toArray, List.set_cons_zero, List.set_cons_succ, i64_w, i32_w]; rfl)
      refine done_ (done_of HT_.out (by kernel_rfl)) ?_
      try go_wp2
      go_roundg k1
      case measure => have := HK1.out; omega
      case rel => exact ⟨(y873), (wrap64 (t848 + t847)), (by first | rfl | (simp; done) | (simp [*]; done)), H', ⟨by have := HK1.out; omega⟩, ⟨Kd.S_u HO875.out⟩, ⟨bU HB.out⟩⟩
end Go.Proofs.YtkioddjjfifadaaGreatDoor.P
namespace Go.Proofs.YtkioddjjfifadaaGreatDoor.P
open Go.RowKit Go.Proofs.YtkioddjjfifadaaGreatDoorW.PrintWords Go.Proofs.YtkioddjjfifadaaGreatDoorW.PrintMore
def ByL (l : List Int) : Prop := ∀ c ∈ l, 0 ≤ c ∧ c ≤ 255
theorem tag_loop (x0 : List Int) (hl : Aside0 (x0.length ≤ 100000000)) (hb : ByL x0) (p : Int) (hp : 0 ≤ p) : ∀ (m k : Nat) (q v : Int), p < q → (x0.length : Int) - q ≤ m → 2 * m + 1 ≤ k → 0 ≤ v → v ≤ 268435455 → q ≤ (x0.length : Int) →
    ∃ t i e a, der_tag.l0 k x0 p v q = some (t, i, e, a) ∧ chirographref04_tag.l0 k x0 p v q = some (t, i, e, a) ∧ (e = 0 → q < i ∧ i ≤ (x0.length : Int) ∧ 0 ≤ t ∧ t ≤ 268435455)
  | 0, k, q, v, hq, hm, hk, v0, v1, hle => by
    obtain ⟨k1, rfl⟩ : ∃ k1, k = k1 + 1 := ⟨k - 1, by omega⟩
    refine ⟨0, 0, 2, (x0.length : Int), ?_, ?_, fun h => absurd h (by decide)⟩
    · rw [der_tag.l0, if_neg (by omega)]
    · rw [chirographref04_tag.l0, if_neg (by omega)]
  | m + 1, k, q, v, hq, hm, hk, v0, v1, hle => by
    obtain ⟨k1, rfl⟩ : ∃ k1, k = k1 + 2 := ⟨k - 2, by omega⟩
    by_cases hlt : q < (x0.length : Int)
    · have hl2 := hl.out
      obtain ⟨b0, b1⟩ := hb _ (rd_memI x0 q (by omega) hlt)
      obtain ⟨b, hbd⟩ : ∃ b, rd x0 q = b := ⟨_, rfl⟩
      rw [hbd] at b0 b1
      have e1 : Int.tmod b 128 = b % 128 := Int.tmod_eq_emod_of_nonneg b0
      have w1 : wrap64 (v * 128) = v * 128 := wb (by omega) (by omega)
      have w2 : wrap64 (b % 128) = b % 128 := wb (by omega) (by omega)
      have w3 : wrap64 (v * 128 + b % 128) = v * 128 + b % 128 := wb (by omega) (by omega)
      have w4 : wrap64 (p + 1) = p + 1 := wb (by omega) (by omega)
      have w5 : wrap64 (q + 1) = q + 1 := wb (by omega) (by omega)
      have hv : Go.bits .or .i64 (v * 128) (b % 128) = v * 128 + b % 128 := or7 v _ v0 (by omega) (by omega) (by omega)
      have ih := fun (h : v * 128 + b % 128 ≤ 268435455) => tag_loop x0 hl hb p hp m k1 (q + 1) (v * 128 + b % 128) (by omega) (by omega) (by omega) (by omega) h (by omega)
      have qp : 0 ≤ q := by omega
      have g31 : v * 128 + b % 128 < 31 ∨ ¬ v * 128 + b % 128 < 31 := by omega
      have err : ∀ {P : Prop}, (30 : Int) = 0 → P := fun h => absurd h (by decide)
      rw [der_tag.l0, chirographref04_tag.l0, if_pos hlt, if_pos hlt, if_pos qp, if_pos qp, hbd, and127b b b0 b1, e1, w1, w2, w3, w4, hv]
      clear w1 w2 w3 w4 hv e1 hm hk
      have dj : der_tag.j1 (k1 + 1) x0 p (v * 128 + b % 128) q true = some (0, 0, 30, q) := by rw [der_tag.j1, if_pos rfl]
      have rj : chirographref04_tag.j1 (k1 + 1) x0 p (v * 128 + b % 128) q true = some (0, 0, 30, q) := by rw [chirographref04_tag.j1, if_pos rfl]
      have fin : ¬ v * 128 + b % 128 > 268435455 → ∃ t i e a, (if b < 128 then der_tag.j1 (k1 + 1) x0 p (v * 128 + b % 128) q (decide (v * 128 + b % 128 < 31)) else der_tag.j1 (k1 + 1) x0 p (v * 128 + b % 128) q false) = some (t, i, e, a) ∧ chirographref04_tag.j1 (k1 + 1) x0 p (v * 128 + b % 128) q false = some (t, i, e, a) ∧ (e = 0 → q < i ∧ i ≤ (x0.length : Int) ∧ 0 ≤ t ∧ t ≤ 268435455) := fun hM => by
        rw [chirographref04_tag.j1, if_neg (show ¬ (false = true) by decide), if_pos qp, if_pos hlt, hbd]
        by_cases c : b < 128
        · rw [if_pos c, if_pos c]
          rcases g31 with g | g
          · rw [decide_eq_true g, dj, if_pos g]
            exact ⟨_, _, _, _, rfl, rfl, err⟩
          · rw [decide_eq_false g, if_neg g, der_tag.j1, if_neg (show ¬ (false = true) by decide), if_pos qp, if_pos hlt, hbd, if_pos c, w5]
            exact ⟨_, _, _, _, rfl, rfl, fun _ => by omega⟩
        · rw [if_neg c, if_neg c, der_tag.j1, if_neg (show ¬ (false = true) by decide), if_pos qp, if_pos hlt, hbd, if_neg c, w5]
          obtain ⟨t, i, e, a, h1, h2, h3⟩ := ih (by omega)
          exact ⟨t, i, e, a, h1, h2, fun h => by have := h3 h; omega⟩
      by_cases cM : v * 128 + b % 128 > 268435455
      · simp only [if_pos cM]
        rw [rj]
        by_cases cq : q = p + 1
        · rw [if_pos cq]
          by_cases c8 : b = 128
          · rw [if_pos c8, dj]
            exact ⟨_, _, _, _, rfl, rfl, err⟩
          · rw [if_neg c8, dj]
            exact ⟨_, _, _, _, rfl, rfl, err⟩
        · rw [if_neg cq, dj]
          exact ⟨_, _, _, _, rfl, rfl, err⟩
      · simp only [if_neg cM]
        by_cases cq : q = p + 1
        · rw [if_pos cq, if_pos cq]
          by_cases c8 : b = 128
          · rw [if_pos c8, dj, beq_iff_eq.mpr c8, rj]
            exact ⟨_, _, _, _, rfl, rfl, err⟩
          · rw [if_neg c8, beq_eq_false_iff_ne.mpr c8]
            exact fin cM
        · rw [if_neg cq, if_neg cq]
          exact fin cM
    · refine ⟨0, 0, 2, (x0.length : Int), ?_, ?_, fun h => absurd h (by decide)⟩
      · rw [der_tag.l0, if_neg hlt]
      · rw [chirographref04_tag.l0, if_neg hlt]
theorem tmod32 (b : Int) (h0 : 0 ≤ b) (h1 : b ≤ 255) : Go.bits .and .u8 b 31 = b % 32 := by
  obtain ⟨n, rfl⟩ : ∃ n : Nat, b = (n : Int) := ⟨b.toNat, by omega⟩
  have key : ∀ m : Fin 256, Go.bits .and .u8 (m.val : Int) 31 = (m.val : Int) % 32 := by decide +kernel
  exact key ⟨n, by omega⟩
theorem tag_both (x0 : List Int) (hl : x0.length ≤ 100000000) (hb : ByL x0) (p : Int) (h0 : 0 ≤ p) (h1 : p < (x0.length : Int)) (k : Nat) (hk : 2 * x0.length + 3 ≤ k) :
    ∃ t i e a, der_tag.f k x0 p = some (t, i, e, a) ∧ chirographref04_tag.f k x0 p = some (t, i, e, a) ∧ (e = 0 → p < i ∧ i ≤ (x0.length : Int) ∧ 0 ≤ t ∧ t ≤ 268435455) := by
  obtain ⟨b0, b1⟩ := hb _ (rd_memI x0 p h0 h1)
  obtain ⟨b, hbd⟩ : ∃ b, rd x0 p = b := ⟨_, rfl⟩
  rw [hbd] at b0 b1
  have e1 : Int.tmod b 32 = b % 32 := Int.tmod_eq_emod_of_nonneg b0
  have w1 : wrap64 (b % 32) = b % 32 := wb (by omega) (by omega)
  have w2 : wrap64 (p + 1) = p + 1 := wb (by omega) (by omega)
  unfold der_tag.f chirographref04_tag.f
  rw [if_pos h0, if_pos h0, if_pos h1, if_pos h1, hbd, tmod32 b b0 b1, e1, w1, w2]
  clear w1 w2 e1
  by_cases c : b % 32 = 31
  · rw [if_neg (by omega), if_pos c]
    obtain ⟨t, i, e, a, g1, g2, g3⟩ := tag_loop x0 ⟨hl⟩ hb p h0 (x0.length) k (p + 1) 0 (by omega) (by omega) (by omega) (Int.le_refl _) (by decide) (by omega)
    exact ⟨t, i, e, a, g1, g2, fun h => by have := g3 h; omega⟩
  rw [if_pos (by omega), if_neg c]
  by_cases c0 : b % 32 = 0
  rotate_left
  · rw [if_neg c0, if_neg c0]
    exact ⟨_, _, _, _, rfl, rfl, fun _ => by omega⟩
  rw [if_pos c0, if_pos c0]
  by_cases c1 : b < 64
  rotate_left
  · rw [if_neg (by omega), if_neg c1]
    exact ⟨_, _, _, _, rfl, rfl, fun _ => by omega⟩
  by_cases c2 : b / 64 = 0
  rotate_left
  · omega
  rw [if_pos c2, if_pos c1]
  exact ⟨_, _, _, _, rfl, rfl, fun h => absurd h (by decide)⟩
end Go.Proofs.YtkioddjjfifadaaGreatDoor.P
namespace Go.Proofs.YtkioddjjfifadaaGreatDoor.P
open Go.RowKit Go.Proofs.YtkioddjjfifadaaGreatDoorW.PrintWords Go.Proofs.YtkioddjjfifadaaGreatDoorW.PrintMore
def valF : Int → List Int → Int
  | v, [] => v
  | v, b :: r => valF (min (v * 256 + b) 16777217) r
theorem valF_rng : ∀ (l : List Int) (v : Int), ByL l → 0 ≤ v → v ≤ 16777217 → 0 ≤ valF v l ∧ valF v l ≤ 16777217
  | [], v, _, h0, h1 => ⟨h0, h1⟩
  | b :: r, v, h, h0, h1 => by
    have hb := h b List.mem_cons_self
    rw [valF]
    exact valF_rng r _ (fun c hc => h c (List.mem_cons_of_mem _ hc)) (by omega) (by omega)
theorem dl_loop (x0 : List Int) (a i m : Int) (y : List Int) (hy : ByL y) (hyl : y.length ≤ 1000) (r : Int × Int × Int × Int) (K : Nat) : ∀ (s k : Nat) (j v : Int), 0 ≤ j → (y.length : Int) - j = s → s + 1 + K ≤ k → 0 ≤ v → v ≤ 16777217 →
    (∀ k', K ≤ k' → (if 0 ≤ i then (if i < (x0.length : Int) then (if (rd x0 i) = 0 then (der_length.j2 k' x0 a (valF v (y.drop j.toNat)) i m true) else (der_length.j2 k' x0 a (valF v (y.drop j.toNat)) i m (decide (valF v (y.drop j.toNat) < 128)))) else none) else none) = some r) →
    der_length.l0 k x0 a v i m y (y.length : Int) j = some r
  | 0, k, j, v, h0, hs, hk, v0, v1, hr => by
    obtain ⟨k1, rfl⟩ : ∃ k1, k = k1 + 1 := ⟨k - 1, by omega⟩
    rw [List.drop_eq_nil_of_le (by omega)] at hr
    rw [der_length.l0, if_neg (by omega)]
    exact hr k1 (by omega)
  | s + 1, k, j, v, h0, hs, hk, v0, v1, hr => by
    obtain ⟨k1, rfl⟩ : ∃ k1, k = k1 + 1 := ⟨k - 1, by omega⟩
    obtain ⟨b0, b1⟩ := hy _ (rd_memI y j h0 (by omega))
    rw [drop_rdI y j h0 (by omega)] at hr
    obtain ⟨b, hbd⟩ : ∃ b, rd y j = b := ⟨_, rfl⟩
    rw [hbd] at b0 b1 hr
    rw [valF] at hr
    have hm : mn (v * 256 + b) 16777217 = min (v * 256 + b) 16777217 := by unfold mn; split <;> omega
    have w5 : wrap64 (j + 1) = j + 1 := wb (by omega) (by omega)
    rw [der_length.l0, if_pos (by omega), if_pos h0, if_pos (by omega), hbd, wb (n := b) (by omega) (by omega), wb (n := v * 256) (by omega) (by omega), or8 v b v0 (by omega) b0 (by omega), hm, w5]
    clear w5 hm
    exact dl_loop x0 a i m y hy hyl r K s k1 (j + 1) _ (by omega) (by omega) (by omega) (by omega) (by omega) hr
theorem rl_loop (x0 : List Int) (hl : Aside0 (x0.length ≤ 100000000)) (hb : ByL x0) (a m : Int) (ha : 0 ≤ a) (hm : 1 ≤ m) (hm2 : m ≤ 127) (hle : a + m < (x0.length : Int)) (r : Int × Int × Int × Int) (K : Nat) : ∀ (s k : Nat) (j v : Int), a < j → a + m + 1 - j = s → s + 1 + K ≤ k → 0 ≤ v → v ≤ 16777217 →
    (∀ k', K ≤ k' → (if valF v ((x0.take (a + m + 1).toNat).drop j.toNat) < 128 then (chirographref04_length.j2 k' x0 a (valF v ((x0.take (a + m + 1).toNat).drop j.toNat)) m true) else (if 0 ≤ (wrap64 (a + 1)) then (if (wrap64 (a + 1)) < (x0.length : Int) then (chirographref04_length.j2 k' x0 a (valF v ((x0.take (a + m + 1).toNat).drop j.toNat)) m ((rd x0 (wrap64 (a + 1))) == 0)) else (none)) else (none))) = some r) →
    chirographref04_length.l0 k x0 a v m j = some r
  | 0, k, j, v, hj, hs, hk, v0, v1, hr => by
    obtain ⟨k1, rfl⟩ : ∃ k1, k = k1 + 1 := ⟨k - 1, by omega⟩
    have hl2 := hl.out
    have e : (x0.take (a + m + 1).toNat).drop j.toNat = [] := List.drop_eq_nil_of_le (by rw [List.length_take]; omega)
    rw [e] at hr
    rw [chirographref04_length.l0, wb (n := a + m) (by omega) (by omega), if_neg (by omega)]
    exact hr k1 (by omega)
  | s + 1, k, j, v, hj, hs, hk, v0, v1, hr => by
    obtain ⟨k1, rfl⟩ : ∃ k1, k = k1 + 1 := ⟨k - 1, by omega⟩
    have hl2 := hl.out
    obtain ⟨b0, b1⟩ := hb _ (rd_memI x0 j (by omega) (by omega))
    have e : (x0.take (a + m + 1).toNat).drop j.toNat = rd x0 j :: (x0.take (a + m + 1).toNat).drop (j + 1).toNat := by
      have h1 := drop_rdI (x0.take (a + m + 1).toNat) j (by omega) (by rw [List.length_take]; omega)
      rw [h1]
      congr 1
      unfold rd
      rw [List.getD_eq_getElem?_getD, List.getD_eq_getElem?_getD, List.getElem?_take_of_lt (by omega)]
    rw [e] at hr
    obtain ⟨b, hbd⟩ : ∃ b, rd x0 j = b := ⟨_, rfl⟩
    rw [hbd] at b0 b1 hr
    rw [valF] at hr
    have w5 : wrap64 (j + 1) = j + 1 := wb (by omega) (by omega)
    rw [chirographref04_length.l0, wb (n := a + m) (by omega) (by omega), if_pos (by omega), if_pos (by omega), if_pos (by omega), hbd, wb (n := b) (by omega) (by omega), wb (n := v * 256) (by omega) (by omega), wb (n := v * 256 + b) (by omega) (by omega), w5]
    clear w5 e
    by_cases c : v * 256 + b > 16777216
    · rw [if_pos c]
      rw [show min (v * 256 + b) 16777217 = 16777217 by omega] at hr
      exact rl_loop x0 hl hb a m ha hm hm2 hle r K s k1 (j + 1) _ (by omega) (by omega) (by omega) (by decide) (by decide) hr
    · rw [if_neg c]
      rw [show min (v * 256 + b) 16777217 = v * 256 + b by omega] at hr
      exact rl_loop x0 hl hb a m ha hm hm2 hle r K s k1 (j + 1) _ (by omega) (by omega) (by omega) (by omega) (by omega) hr
theorem length_both (x0 : List Int) (hl : x0.length ≤ 100000000) (hb : ByL x0) (a : Int) (h0 : 0 ≤ a) (h1 : a ≤ (x0.length : Int)) (k : Nat) (hk : 400 ≤ k) :
    ∃ n i e t, der_length.f k x0 a = some (n, i, e, t) ∧ chirographref04_length.f k x0 a = some (n, i, e, t) ∧ (e = 0 → a < i ∧ 0 ≤ n ∧ i + n ≤ (x0.length : Int)) := by
  obtain ⟨k1, rfl⟩ : ∃ k1, k = k1 + 1 := ⟨k - 1, by omega⟩
  have err : ∀ {P : Prop}, (31 : Int) = 0 → P := fun h => absurd h (by decide)
  have err2 : ∀ {P : Prop}, (2 : Int) = 0 → P := fun h => absurd h (by decide)
  unfold der_length.f chirographref04_length.f
  by_cases c : a = (x0.length : Int)
  · rw [if_pos c, if_pos (by omega)]
    exact ⟨_, _, _, _, congrArg (fun z => some (0, 0, 2, z)) c, rfl, err2⟩
  obtain ⟨b0, b1⟩ := hb _ (rd_memI x0 a h0 (by omega))
  obtain ⟨b, hbd⟩ : ∃ b, rd x0 a = b := ⟨_, rfl⟩
  rw [hbd] at b0 b1
  have w0 : wrap64 b = b := wb (by omega) (by omega)
  have w1 : wrap64 (a + 1) = a + 1 := wb (by omega) (by omega)
  have w2 : wrap64 ((x0.length : Int) - (a + 1)) = (x0.length : Int) - (a + 1) := wb (by omega) (by omega)
  have w3 : wrap64 (b - 128) = b - 128 := wb (by omega) (by omega)
  have hge : ¬ a ≥ (x0.length : Int) := by omega
  have hlt : a < (x0.length : Int) := by omega
  simp only [if_neg c, if_neg hge, if_pos h0, if_pos hlt, hbd, w0, w1, and127i b b0 b1]
  clear w0
  by_cases cs : b ≥ 128
  rotate_left
  · have n1 : ¬ b = 128 := by omega
    have n2 : ¬ b > 128 := by omega
    rw [beq_eq_false_iff_ne.mpr (show b ≠ 255 by omega)]
    by_cases cb : b > (x0.length : Int) - (a + 1)
    rotate_left
    · simp only [if_neg cs, if_neg n1, if_neg n2, w2, if_neg cb, chirographref04_length.j0, if_neg (show ¬ (false = true) by decide)]
      exact ⟨_, _, _, _, rfl, rfl, fun _ => by omega⟩
    simp only [if_neg cs, if_neg n1, if_neg n2, w2, if_pos cb, chirographref04_length.j0, if_neg (show ¬ (false = true) by decide)]
    exact ⟨_, _, _, _, rfl, rfl, err⟩
  rw [if_pos cs]
  by_cases c8 : b = 128
  · rw [if_pos c8, if_pos (by omega), der_length.j0, if_pos rfl, chirographref04_length.j0, if_pos rfl]
    exact ⟨_, _, _, _, rfl, rfl, err⟩
  rw [if_neg c8, if_neg (by omega), show b % 128 = b - 128 by omega]
  by_cases c5 : b = 255
  · rw [c5, show ((255 : Int) - 128 == 127) = true by decide, show ((255 : Int) == 255) = true by decide, der_length.j0, if_pos rfl, chirographref04_length.j0, if_pos rfl]
    exact ⟨_, _, _, _, rfl, rfl, err⟩
  rw [beq_eq_false_iff_ne.mpr (show b - 128 ≠ 127 by omega), beq_eq_false_iff_ne.mpr c5, der_length.j0, if_neg (show ¬ (false = true) by decide), chirographref04_length.j0, if_neg (show ¬ (false = true) by decide), if_pos (show b > 128 by omega), w2, w1, w3]
  have w4 : wrap64 (a + 1 + (b - 128)) = a + 1 + (b - 128) := wb (by omega) (by omega)
  rw [w4]
  by_cases cl : b - 128 > (x0.length : Int) - (a + 1)
  · rw [if_pos cl, if_pos (show a + 1 + (b - 128) > (x0.length : Int) by omega)]
    exact ⟨_, _, _, _, rfl, rfl, err2⟩
  rw [if_neg cl, if_neg (show ¬ a + 1 + (b - 128) > (x0.length : Int) by omega), if_pos (by omega), if_pos (by omega), if_pos (by omega), Option.bind_some]
  obtain ⟨m, hm⟩ : ∃ m, m = b - 128 := ⟨_, rfl⟩
  rw [← hm]
  have hm1 : 1 ≤ m ∧ m ≤ 126 ∧ a + 1 + m ≤ (x0.length : Int) := by omega
  obtain ⟨Y, hY⟩ : ∃ Y, (x0.take (a + 1 + m).toNat).drop (a + 1).toNat = Y := ⟨_, rfl⟩
  have hYl : Y.length = m.toNat := by rw [← hY, List.length_drop, List.length_take]; omega
  have hYb : ByL Y := fun z hz => hb z (List.mem_of_mem_take (List.mem_of_mem_drop (hY ▸ hz)))
  obtain ⟨v0, v1⟩ := valF_rng Y 0 hYb (Int.le_refl _) (by decide)
  obtain ⟨V, hV⟩ : ∃ V, valF 0 Y = V := ⟨_, rfl⟩
  rw [hV] at v0 v1
  rw [hY]
  clear w2 w3 w4 c5 c8 cs cl hm
  have main : ∀ (B1 B2 : Bool) (R : Int × Int × Int × Int), True := fun _ _ _ => trivial
  have goal2 : ∀ R : Int × Int × Int × Int, (∀ k', 1 ≤ k' → (if 0 ≤ a + 1 then (if a + 1 < (x0.length : Int) then (if (rd x0 (a + 1)) = 0 then (der_length.j2 k' x0 a V (a + 1) m true) else (der_length.j2 k' x0 a V (a + 1) m (decide (V < 128)))) else none) else none) = some R) → (∀ k', 1 ≤ k' → (if V < 128 then (chirographref04_length.j2 k' x0 a V m true) else (if 0 ≤ (wrap64 (a + 1)) then (if (wrap64 (a + 1)) < (x0.length : Int) then (chirographref04_length.j2 k' x0 a V m ((rd x0 (wrap64 (a + 1))) == 0)) else (none)) else (none))) = some R) →
      der_length.l0 k1 x0 a 0 (a + 1) m Y (Y.length : Int) 0 = some R ∧ chirographref04_length.l0 k1 x0 a 0 m (a + 1) = some R := fun R g1 g2 => by
    refine ⟨dl_loop x0 a (a + 1) m Y hYb (by omega) R 1 Y.length k1 0 0 (Int.le_refl _) (by omega) (by omega) (Int.le_refl _) (by decide) (fun k' hk' => ?_), rl_loop x0 ⟨hl⟩ hb a m h0 hm1.1 (by omega) (by omega) R 1 m.toNat k1 (a + 1) 0 (by omega) (by omega) (by omega) (Int.le_refl _) (by decide) (fun k' hk' => ?_)⟩
    · rw [show (0 : Int).toNat = 0 from rfl, List.drop_zero, hV]
      exact g1 k' hk'
    · rw [show a + m + 1 = a + 1 + m by omega, hY, hV]
      exact g2 k' hk'
  have wA : wrap64 (a + 1) = a + 1 := w1
  have hA0 : 0 ≤ a + 1 := by omega
  have hA1 : a + 1 < (x0.length : Int) := by omega
  by_cases cz : rd x0 (a + 1) = 0
  · obtain ⟨q1, q2⟩ := goal2 (0, 0, 31, a) (fun k' hk' => by
      obtain ⟨k2, rfl⟩ : ∃ k2, k' = k2 + 1 := ⟨k' - 1, by omega⟩
      rw [if_pos hA0, if_pos hA1, if_pos cz, der_length.j2, if_pos rfl]) (fun k' hk' => by
      obtain ⟨k2, rfl⟩ : ∃ k2, k' = k2 + 1 := ⟨k' - 1, by omega⟩
      rw [wA, cz, show ((0 : Int) == 0) = true from rfl, if_pos hA0, if_pos hA1, chirographref04_length.j2, if_pos rfl]
      split <;> rfl)
    exact ⟨_, _, _, _, q1, q2, err⟩
  by_cases cv : V < 128
  · obtain ⟨q1, q2⟩ := goal2 (0, 0, 31, a) (fun k' hk' => by
      obtain ⟨k2, rfl⟩ : ∃ k2, k' = k2 + 1 := ⟨k' - 1, by omega⟩
      rw [if_pos hA0, if_pos hA1, if_neg cz, decide_eq_true cv, der_length.j2, if_pos rfl]) (fun k' hk' => by
      obtain ⟨k2, rfl⟩ : ∃ k2, k' = k2 + 1 := ⟨k' - 1, by omega⟩
      rw [if_pos cv, chirographref04_length.j2, if_pos rfl])
    exact ⟨_, _, _, _, q1, q2, err⟩
  have wB : wrap64 (a + 1 + m) = a + 1 + m := wb (by omega) (by omega)
  have wC : wrap64 ((x0.length : Int) - (a + 1 + m)) = (x0.length : Int) - (a + 1 + m) := wb (by omega) (by omega)
  by_cases cb : V > (x0.length : Int) - (a + 1 + m)
  rotate_left
  · obtain ⟨q1, q2⟩ := goal2 (V, a + 1 + m, 0, 0) (fun k' hk' => by
      obtain ⟨k2, rfl⟩ : ∃ k2, k' = k2 + 1 := ⟨k' - 1, by omega⟩
      rw [if_pos hA0, if_pos hA1, if_neg cz, decide_eq_false cv, der_length.j2, if_neg (show ¬ (false = true) by decide), wB, wC, if_neg cb]) (fun k' hk' => by
      obtain ⟨k2, rfl⟩ : ∃ k2, k' = k2 + 1 := ⟨k' - 1, by omega⟩
      rw [if_neg cv, wA, if_pos hA0, if_pos hA1, beq_eq_false_iff_ne.mpr cz, chirographref04_length.j2, if_neg (show ¬ (false = true) by decide), wA, wB, wC, if_neg cb])
    exact ⟨_, _, _, _, q1, q2, fun _ => by omega⟩
  obtain ⟨q1, q2⟩ := goal2 (0, 0, 31, a) (fun k' hk' => by
    obtain ⟨k2, rfl⟩ : ∃ k2, k' = k2 + 1 := ⟨k' - 1, by omega⟩
    rw [if_pos hA0, if_pos hA1, if_neg cz, decide_eq_false cv, der_length.j2, if_neg (show ¬ (false = true) by decide), wB, wC, if_pos cb]) (fun k' hk' => by
    obtain ⟨k2, rfl⟩ : ∃ k2, k' = k2 + 1 := ⟨k' - 1, by omega⟩
    rw [if_neg cv, wA, if_pos hA0, if_pos hA1, beq_eq_false_iff_ne.mpr cz, chirographref04_length.j2, if_neg (show ¬ (false = true) by decide), wA, wB, wC, if_pos cb])
  exact ⟨_, _, _, _, q1, q2, err⟩
end Go.Proofs.YtkioddjjfifadaaGreatDoor.P
namespace Go.Proofs.YtkioddjjfifadaaGreatDoor.P
open Go.RowKit Go.Proofs.YtkioddjjfifadaaGreatDoorW.PrintWords Go.Proofs.YtkioddjjfifadaaGreatDoorW.PrintLast Go.Proofs.YtkioddjjfifadaaGreatDoorW.PrintMore
attribute [local go_sem] max2_int min2_int max_two min_two max_three min_three max_four min_four
set_option linter.unusedVariables false
set_option linter.unusedSimpArgs false
mutual
def der_Oid.j0 : Nat → List Int → Bool → Option (ByteArray × Int)
  | 0, _, _ => none
  | k + 1, x0, x22 => if x22 = true then (some ((⟨#[]⟩ : ByteArray), 6)) else (der_Oid.l0 k x0 x0 (x0.length : Int) 0)
def der_Oid.l0 : Nat → List Int → List Int → Int → Int → Option (ByteArray × Int)
  | 0, _, _, _, _ => none
  | k + 1, x0, x23, x24, x25 => if x25 < x24 then (if 0 ≤ x25 then (if x25 < (x23.length : Int) then (if (rd x23 x25) = 128 then (if x25 = 0 then (some ((⟨#[]⟩ : ByteArray), 6)) else (if 0 ≤ (wrap64 (x25 - 1)) then (if (wrap64 (x25 - 1)) < (x0.length : Int) then (if (rd x0 (wrap64 (x25 - 1))) < 128 then (some ((⟨#[]⟩ : ByteArray), 6)) else (der_Oid.l0 k x0 x23 x24 (wrap64 (x25 + 1)))) else (none)) else (none))) else (der_Oid.l0 k x0 x23 x24 (wrap64 (x25 + 1)))) else (none)) else (none)) else (der_Oid.l1 k (⟨#[]⟩ : ByteArray) 0 x0 (x0.length : Int) 0)
def der_Oid.l1 : Nat → ByteArray → Int → List Int → Int → Int → Option (ByteArray × Int)
  | 0, _, _, _, _, _ => none
  | k + 1, x6, x7, x45, x46, x47 => if x47 < x46 then (if 0 ≤ x47 then (if x47 < (x45.length : Int) then (if (rd x45 x47) ≥ 128 then (der_Oid.l1 k x6 (mn (Go.bits .or .u64 (IntKind.u64.wrap (x7 * 128)) (IntKind.u64.wrap (Go.bits .and .u8 (rd x45 x47) 127))) 1099511627776) x45 x46 (wrap64 (x47 + 1))) else (if x6.toList = ([] : List UInt8) then ((strconv_Itoa.f (wrap64 (mn (IntKind.u64.wrap (Int.tdiv (mn (Go.bits .or .u64 (IntKind.u64.wrap (x7 * 128)) (IntKind.u64.wrap (Go.bits .and .u8 (rd x45 x47) 127))) 1099511627776) 40)) 2))).bind fun t179 => (if (IntKind.u64.wrap ((mn (Go.bits .or .u64 (IntKind.u64.wrap (x7 * 128)) (IntKind.u64.wrap (Go.bits .and .u8 (rd x45 x47) 127))) 1099511627776) - (IntKind.u64.wrap (40 * (mn (IntKind.u64.wrap (Int.tdiv (mn (Go.bits .or .u64 (IntKind.u64.wrap (x7 * 128)) (IntKind.u64.wrap (Go.bits .and .u8 (rd x45 x47) 127))) 1099511627776) 40)) 2))))) > 2147483647 then (some ((⟨#[]⟩ : ByteArray), 3)) else ((strconv_Itoa.f (wrap64 (IntKind.u64.wrap ((mn (Go.bits .or .u64 (IntKind.u64.wrap (x7 * 128)) (IntKind.u64.wrap (Go.bits .and .u8 (rd x45 x47) 127))) 1099511627776) - (IntKind.u64.wrap (40 * (mn (IntKind.u64.wrap (Int.tdiv (mn (Go.bits .or .u64 (IntKind.u64.wrap (x7 * 128)) (IntKind.u64.wrap (Go.bits .and .u8 (rd x45 x47) 127))) 1099511627776) 40)) 2))))))).bind fun t180 => (if 1 + t180.size ≤ 9223372036854775807 then (if t179.size + ((⟨#[46]⟩ : ByteArray) ++ t180).size ≤ 9223372036854775807 then (der_Oid.l1 k (t179 ++ ((⟨#[46]⟩ : ByteArray) ++ t180)) 0 x45 x46 (wrap64 (x47 + 1))) else (none)) else (none))))) else (if (mn (Go.bits .or .u64 (IntKind.u64.wrap (x7 * 128)) (IntKind.u64.wrap (Go.bits .and .u8 (rd x45 x47) 127))) 1099511627776) > 2147483647 then (some ((⟨#[]⟩ : ByteArray), 3)) else ((strconv_Itoa.f (wrap64 (mn (Go.bits .or .u64 (IntKind.u64.wrap (x7 * 128)) (IntKind.u64.wrap (Go.bits .and .u8 (rd x45 x47) 127))) 1099511627776))).bind fun t181 => (if 1 + t181.size ≤ 9223372036854775807 then (if x6.size + ((⟨#[46]⟩ : ByteArray) ++ t181).size ≤ 9223372036854775807 then (der_Oid.l1 k (x6 ++ ((⟨#[46]⟩ : ByteArray) ++ t181)) 0 x45 x46 (wrap64 (x47 + 1))) else (none)) else (none)))))) else (none)) else (none)) else (some (x6, 0))
end
def der_Oid.f (k : Nat) (l0 : List Int) : Option (ByteArray × Int) := if (l0.length : Int) = 0 then (der_Oid.j0 k l0 true) else (if 0 ≤ (wrap64 ((l0.length : Int) - 1)) then (if (wrap64 ((l0.length : Int) - 1)) < (l0.length : Int) then (der_Oid.j0 k l0 (decide ((rd l0 (wrap64 ((l0.length : Int) - 1))) ≥ 128))) else (none)) else (none))
set_option maxHeartbeats 8000000 in
set_option maxRecDepth 100000 in
theorem der_Oid.calls (k : Nat) (A0 : Option Addr) (c0 : Nat) (l0 : List Int) (r1 : ByteArray) (r2 : Int) (w : World) (hr0 : Kd.C (Kd.int .u8) w A0 l0.length l0) (hc0 : l0.length ≤ c0) (h : der_Oid.f k l0 = some (r1, r2)) (hH : Tb w) :
    Calls Tryz.prog 163 #[.slice A0 l0.length c0] w fun e w' => e = .returned (.tuple #[.string r1, .int .i64 r2]) ∧ Below w.heap.size w w' := by
  have HR0 := Aside0.mk hr0
  have HC0 := Aside0.mk hc0
  clear hr0 hc0
  have HB := Aside0.mk (Below.refl w.heap.size w)
  have HHd := Aside0.mk hH
  clear hH
  have H : (if (l0.length : Int) = 0 then (der_Oid.j0 k l0 true) else (if 0 ≤ (wrap64 ((l0.length : Int) - 1)) then (if (wrap64 ((l0.length : Int) - 1)) < (l0.length : Int) then (der_Oid.j0 k l0 (decide ((rd l0 (wrap64 ((l0.length : Int) - 1))) ≥ 128))) else (none)) else (none))) = some (r1, r2) := h
  clear h
  have HC2 := Aside0.mk H
  clear H
  go_enter Tryz.func163, Tryz.ntmps163
  go_upto_region 1 with (fail)
  go_cut [22] (fun v22 wc => ∃ (kq : Nat) (x22_1 : Bool), v22 = .bool x22_1 ∧ Aside0 (der_Oid.j0 kq l0 x22_1 = some (r1, r2)) ∧ Aside0 (kq ≤ k) ∧ Aside0 (Below w.heap.size w wc))
  case first =>
    have H := HC2.out
    clear HC2
    by_cases c3 : (l0.length : Int) = 0
    · rw [if_pos c3] at H
      have c3b0 : ((l0.length : Int) == 0) = true := beq_iff_eq.mpr c3
      have c3b1 : ((l0.length : Int) != 0) = false := bne_eq_false_iff_eq.mpr c3
      clear c3
      (first | rw [c3b0] | (simp only [i64_w, i32_w]; rw [c3b0]) | skip)
      have H' := Aside0.mk H
      clear H
      go_wp2
      go_meet
      case rel => exact ⟨_, (true), (by first | rfl | (simp; done) | (simp [*]; done)), H', ⟨by first | omega | exact Nat.le_refl _⟩, ⟨bU HB.out⟩⟩
    rw [if_neg c3] at H
    have c3b0 : ((l0.length : Int) == 0) = false := beq_eq_false_iff_ne.mpr c3
    have c3b1 : ((l0.length : Int) != 0) = true := bne_iff_ne.mpr c3
    have c3b2 : ¬ (l0 = []) := fun h_ => c3 (by rw [h_]; rfl)
    (first | rw [c3b0] | (simp only [i64_w, i32_w]; rw [c3b0]) | skip)
    by_cases c4 : 0 ≤ (wrap64 ((l0.length : Int) - 1))
    rotate_left
    · rw [if_neg c4] at H
      exact absurd H (by simp)
    rw [if_pos c4] at H
    have c4b0 : decide (0 ≤ (wrap64 ((l0.length : Int) - 1))) = true := decide_eq_true c4
    clear c4
    by_cases c5 : (wrap64 ((l0.length : Int) - 1)) < (l0.length : Int)
    rotate_left
    · rw [if_neg c5] at H
      exact absurd H (by simp)
    rw [if_pos c5] at H
    have c5b0 : decide ((wrap64 ((l0.length : Int) - 1)) < (l0.length : Int)) = true := decide_eq_true c5
    clear c5
    have H' := Aside0.mk H
    clear H
    have p175 : 0 ≤ ((wrap64 ((l0.length : Int) - 1)) : Int) := of_decide_eq_true (by first | (with_reducible assumption) | assumption)
    have q175 : (wrap64 ((l0.length : Int) - 1)) < (l0.length : Int) := of_decide_eq_true (by first | (with_reducible assumption) | assumption)
    obtain ⟨ad175, e175, hx175_0⟩ := Kd.at_int HR0.out (wrap64 ((l0.length : Int) - 1)) p175 q175
    cases e175
    replace hx175_0 := (HB.out.cell (World.block_lt_of_cell? w _ hx175_0)).trans hx175_0
    replace p175 := eq_true p175
    replace q175 := eq_true q175
    go_wp2
    go_meet
    case rel => exact ⟨_, (decide ((rd l0 (wrap64 ((l0.length : Int) - 1))) ≥ 128)), (by first | rfl | (simp; done) | (simp [*]; done)), H', ⟨by first | omega | exact Nat.le_refl _⟩, ⟨bU HB.out⟩⟩
  clear HC2
  try clear c1
  try clear p1
  try clear q1
  try clear hx1
  try clear p2
  try clear c3
  try clear c3b0
  try clear c3b1
  try clear c3b2
  try clear c4
  try clear c4b0
  try clear c5
  try clear c5b0
  try clear hx175_0
  try clear p175
  try clear q175
  obtain ⟨kq, x22_1, rfl, HA, HJ1, HB⟩ := hcut
  cases kq with
  | zero => exact absurd HA.out (by simp [der_Oid.j0])
  | succ kj1 =>
    have H := HA.out
    clear HA
    simp only [der_Oid.j0] at H
    by_cases c6 : x22_1 = true
    · subst c6
      have H1 : (some ((⟨#[]⟩ : ByteArray), 6)) = some (r1, r2) := by rw [if_pos rfl] at H; exact H
      clear H
      have H := H1
      clear H1
      simp only [Option.some.injEq, Prod.mk.injEq] at H
      obtain ⟨rfl, rfl⟩ := H
      go_wp2
      go_ret2
      exact ⟨by first | rfl | (simp [errW_none, errW_some] <;> rfl), bU HB.out⟩
    replace c6 := Bool.eq_false_iff.mpr c6
    subst c6
    have H1 : (der_Oid.l0 kj1 l0 l0 (l0.length : Int) 0) = some (r1, r2) := by rw [if_neg (show ¬ (false = true) by decide)] at H; exact H
    clear H
    have H := H1
    clear H1
    have H' := Aside0.mk H
    clear H
    go_wp2
    go_loopg [25] kj1 (fun kq v25 w' => ∃ (x25_2 : Int), v25 = .int .i64 x25_2 ∧ Aside0 (der_Oid.l0 kq l0 l0 (l0.length : Int) x25_2 = some (r1, r2)) ∧ Aside0 (kq ≤ kj1) ∧ Aside0 (Below w.heap.size w w'))
    case atStart => exact ⟨(0), (by first | rfl | (simp; done) | (simp [*]; done)), H', ⟨Nat.le_refl _⟩, ⟨bU HB.out⟩⟩
    case round =>
      clear H'
      try clear c1
      try clear p1
      try clear q1
      try clear hx1
      try clear p2
      try clear c3
      try clear c3b0
      try clear c3b1
      try clear c3b2
      try clear c4
      try clear c4b0
      try clear c5
      try clear c5b0
      try clear c6
      try clear p6
      try clear hx175_0
      try clear p1
      try clear p175
      try clear p2
      try clear q1
      try clear q175
      obtain ⟨x25_2, rfl, HA, HK2, HB⟩ := hrel
      cases gk with
      | zero => exact absurd HA.out (by simp [der_Oid.l0])
      | succ k2 =>
        have H := HA.out
        clear HA
        simp only [der_Oid.l0] at H
        by_cases c7 : x25_2 < (l0.length : Int)
        · rw [if_pos c7] at H
          have c7b0 : decide (x25_2 < (l0.length : Int)) = true := decide_eq_true c7
          clear c7
          by_cases c8 : 0 ≤ x25_2
          rotate_left
          · rw [if_neg c8] at H
            exact absurd H (by simp)
          rw [if_pos c8] at H
          have c8b0 : decide (0 ≤ x25_2) = true := decide_eq_true c8
          clear c8
          by_cases c9 : x25_2 < (l0.length : Int)
          rotate_left
          · rw [if_neg c9] at H
            exact absurd H (by simp)
          rw [if_pos c9] at H
          have c9b0 : decide (x25_2 < (l0.length : Int)) = true := decide_eq_true c9
          clear c9
          by_cases c10 : (rd l0 x25_2) = 128
          rotate_left
          · rw [if_neg c10] at H
            have c10b0 : ((rd l0 x25_2) == 128) = false := beq_eq_false_iff_ne.mpr c10
            have c10b1 : ((rd l0 x25_2) != 128) = true := bne_iff_ne.mpr c10
            have H' := Aside0.mk H
            clear H
            have p176 : 0 ≤ (x25_2 : Int) := of_decide_eq_true (by first | (with_reducible assumption) | assumption)
            have q176 : x25_2 < (l0.length : Int) := of_decide_eq_true (by first | (with_reducible assumption) | assumption)
            obtain ⟨ad176, e176, hx176_0⟩ := Kd.at_int HR0.out x25_2 p176 q176
            cases e176
            replace hx176_0 := (HB.out.cell (World.block_lt_of_cell? w _ hx176_0)).trans hx176_0
            replace p176 := eq_true p176
            replace q176 := eq_true q176
            go_wp2
            go_roundg k2
            case measure => have := HJ1.out; have := HK2.out; omega
            case rel => exact ⟨(wrap64 (x25_2 + 1)), (by first | rfl | (simp; done) | (simp [*]; done)), H', ⟨by have := HJ1.out; have := HK2.out; omega⟩, ⟨bU HB.out⟩⟩
          rw [if_pos c10] at H
          have c10b0 : ((rd l0 x25_2) == 128) = true := beq_iff_eq.mpr c10
          have c10b1 : ((rd l0 x25_2) != 128) = false := bne_eq_false_iff_eq.mpr c10
          clear c10
          by_cases c11 : x25_2 = 0
          · rw [if_pos c11] at H
            have c11b0 : (x25_2 == 0) = true := beq_iff_eq.mpr c11
            have c11b1 : (x25_2 != 0) = false := bne_eq_false_iff_eq.mpr c11
            clear c11
            simp only [Option.some.injEq, Prod.mk.injEq] at H
            obtain ⟨rfl, rfl⟩ := H
            have p176 : 0 ≤ (x25_2 : Int) := of_decide_eq_true (by first | (with_reducible assumption) | assumption)
            have q176 : x25_2 < (l0.length : Int) := of_decide_eq_true (by first | (with_reducible assumption) | assumption)
            obtain ⟨ad176, e176, hx176_0⟩ := Kd.at_int HR0.out x25_2 p176 q176
            cases e176
            replace hx176_0 := (HB.out.cell (World.block_lt_of_cell? w _ hx176_0)).trans hx176_0
            replace p176 := eq_true p176
            replace q176 := eq_true q176
            go_wp2
            go_ret2
            exact ⟨by first | rfl | (simp [errW_none, errW_some] <;> rfl), bU HB.out⟩
          rw [if_neg c11] at H
          have c11b0 : (x25_2 == 0) = false := beq_eq_false_iff_ne.mpr c11
          have c11b1 : (x25_2 != 0) = true := bne_iff_ne.mpr c11
          by_cases c12 : 0 ≤ (wrap64 (x25_2 - 1))
          rotate_left
          · rw [if_neg c12] at H
            exact absurd H (by simp)
          rw [if_pos c12] at H
          have c12b0 : decide (0 ≤ (wrap64 (x25_2 - 1))) = true := decide_eq_true c12
          clear c12
          by_cases c13 : (wrap64 (x25_2 - 1)) < (l0.length : Int)
          rotate_left
          · rw [if_neg c13] at H
            exact absurd H (by simp)
          rw [if_pos c13] at H
          have c13b0 : decide ((wrap64 (x25_2 - 1)) < (l0.length : Int)) = true := decide_eq_true c13
          clear c13
          by_cases c14 : (rd l0 (wrap64 (x25_2 - 1))) < 128
          · rw [if_pos c14] at H
            have c14b0 : decide ((rd l0 (wrap64 (x25_2 - 1))) < 128) = true := decide_eq_true c14
            clear c14
            simp only [Option.some.injEq, Prod.mk.injEq] at H
            obtain ⟨rfl, rfl⟩ := H
            have p176 : 0 ≤ (x25_2 : Int) := of_decide_eq_true (by first | (with_reducible assumption) | assumption)
            have q176 : x25_2 < (l0.length : Int) := of_decide_eq_true (by first | (with_reducible assumption) | assumption)
            obtain ⟨ad176, e176, hx176_0⟩ := Kd.at_int HR0.out x25_2 p176 q176
            cases e176
            replace hx176_0 := (HB.out.cell (World.block_lt_of_cell? w _ hx176_0)).trans hx176_0
            replace p176 := eq_true p176
            replace q176 := eq_true q176
            have p177 : 0 ≤ ((wrap64 (x25_2 - 1)) : Int) := of_decide_eq_true (by first | (with_reducible assumption) | assumption)
            have q177 : (wrap64 (x25_2 - 1)) < (l0.length : Int) := of_decide_eq_true (by first | (with_reducible assumption) | assumption)
            obtain ⟨ad177, e177, hx177_0⟩ := Kd.at_int HR0.out (wrap64 (x25_2 - 1)) p177 q177
            obtain rfl : ad176 = ad177 := (by injection e177)
            replace hx177_0 := (HB.out.cell (World.block_lt_of_cell? w _ hx177_0)).trans hx177_0
            replace p177 := eq_true p177
            replace q177 := eq_true q177
            go_wp2
            go_ret2
            exact ⟨by first | rfl | (simp [errW_none, errW_some] <;> rfl), bU HB.out⟩
          rw [if_neg c14] at H
          have c14b0 : decide ((rd l0 (wrap64 (x25_2 - 1))) < 128) = false := decide_eq_false c14
          clear c14
          have H' := Aside0.mk H
          clear H
          have p176 : 0 ≤ (x25_2 : Int) := of_decide_eq_true (by first | (with_reducible assumption) | assumption)
          have q176 : x25_2 < (l0.length : Int) := of_decide_eq_true (by first | (with_reducible assumption) | assumption)
          obtain ⟨ad176, e176, hx176_0⟩ := Kd.at_int HR0.out x25_2 p176 q176
          cases e176
          replace hx176_0 := (HB.out.cell (World.block_lt_of_cell? w _ hx176_0)).trans hx176_0
          replace p176 := eq_true p176
          replace q176 := eq_true q176
          have p177 : 0 ≤ ((wrap64 (x25_2 - 1)) : Int) := of_decide_eq_true (by first | (with_reducible assumption) | assumption)
          have q177 : (wrap64 (x25_2 - 1)) < (l0.length : Int) := of_decide_eq_true (by first | (with_reducible assumption) | assumption)
          obtain ⟨ad177, e177, hx177_0⟩ := Kd.at_int HR0.out (wrap64 (x25_2 - 1)) p177 q177
          obtain rfl : ad176 = ad177 := (by injection e177)
          replace hx177_0 := (HB.out.cell (World.block_lt_of_cell? w _ hx177_0)).trans hx177_0
          replace p177 := eq_true p177
          replace q177 := eq_true q177
          go_wp2
          go_roundg k2
          case measure => have := HJ1.out; have := HK2.out; omega
          case rel => exact ⟨(wrap64 (x25_2 + 1)), (by first | rfl | (simp; done) | (simp [*]; done)), H', ⟨by have := HJ1.out; have := HK2.out; omega⟩, ⟨bU HB.out⟩⟩
        rw [if_neg c7] at H
        have c7b0 : decide (x25_2 < (l0.length : Int)) = false := decide_eq_false c7
        clear c7
        have H' := Aside0.mk H
        clear H
        go_wp2
        go_loopg [6, 7, 47] k2 (fun kq v6 v7 v47 w' => ∃ (x6_3 : ByteArray) (x7_3 : Int) (x47_3 : Int), v6 = .string x6_3 ∧ v7 = .int .u64 x7_3 ∧ v47 = .int .i64 x47_3 ∧ Aside0 (der_Oid.l1 kq x6_3 x7_3 l0 (l0.length : Int) x47_3 = some (r1, r2)) ∧ Aside0 (kq ≤ k2) ∧ Aside0 (Below w.heap.size w w'))
        case atStart => exact ⟨((⟨#[]⟩ : ByteArray)), (0), (0), (by first | rfl | (simp; done) | (simp [*]; done)), (by first | rfl | (simp; done) | (simp [*]; done)), (by first | rfl | (simp; done) | (simp [*]; done)), H', ⟨Nat.le_refl _⟩, ⟨bU HB.out⟩⟩
        case round =>
          clear H'
          try clear c1
          try clear p1
          try clear q1
          try clear hx1
          try clear p2
          try clear c3
          try clear c3b0
          try clear c3b1
          try clear c3b2
          try clear c4
          try clear c4b0
          try clear c5
          try clear c5b0
          try clear c6
          try clear p6
          try clear c7
          try clear c7b0
          try clear c8
          try clear c8b0
          try clear c9
          try clear c9b0
          try clear c10
          try clear c10b0
          try clear c10b1
          try clear c11
          try clear c11b0
          try clear c11b1
          try clear c12
          try clear c12b0
          try clear c13
          try clear c13b0
          try clear c14
          try clear c14b0
          try clear hx175_0
          try clear hx176_0
          try clear hx177_0
          try clear p1
          try clear p175
          try clear p176
          try clear p177
          try clear p2
          try clear p6
          try clear q1
          try clear q175
          try clear q176
          try clear q177
          obtain ⟨x6_3, x7_3, x47_3, rfl, rfl, rfl, HA, HK3, HB⟩ := hrel
          cases gk with
          | zero => exact absurd HA.out (by simp [der_Oid.l1])
          | succ k3 =>
            have H := HA.out
            clear HA
            simp only [der_Oid.l1] at H
            by_cases c15 : x47_3 < (l0.length : Int)
            rotate_left
            · rw [if_neg c15] at H
              have c15b0 : decide (x47_3 < (l0.length : Int)) = false := decide_eq_false c15
              clear c15
              simp only [Option.some.injEq, Prod.mk.injEq] at H
              obtain ⟨rfl, rfl⟩ := H
              go_wp2
              go_ret2
              exact ⟨by first | rfl | (simp [errW_none, errW_some] <;> rfl), bU HB.out⟩
            rw [if_pos c15] at H
            have c15b0 : decide (x47_3 < (l0.length : Int)) = true := decide_eq_true c15
            clear c15
            by_cases c16 : 0 ≤ x47_3
            rotate_left
            · rw [if_neg c16] at H
              exact absurd H (by simp)
            rw [if_pos c16] at H
            have c16b0 : decide (0 ≤ x47_3) = true := decide_eq_true c16
            clear c16
            by_cases c17 : x47_3 < (l0.length : Int)
            rotate_left
            · rw [if_neg c17] at H
              exact absurd H (by simp)
            rw [if_pos c17] at H
            have c17b0 : decide (x47_3 < (l0.length : Int)) = true := decide_eq_true c17
            clear c17
            obtain ⟨ji18, hji18⟩ : ∃ j_ : Int, (mn (Go.bits .or .u64 (IntKind.u64.wrap (x7_3 * 128)) (IntKind.u64.wrap (Go.bits .and .u8 (rd l0 x47_3) 127))) 1099511627776) = j_ := ⟨_, rfl⟩
            replace H : (if (rd l0 x47_3) ≥ 128 then (der_Oid.l1 k3 x6_3 ji18 l0 (l0.length : Int) (wrap64 (x47_3 + 1))) else (if x6_3.toList = ([] : List UInt8) then ((strconv_Itoa.f (wrap64 (mn (IntKind.u64.wrap (Int.tdiv (ji18) 40)) 2))).bind fun t179 => (if (IntKind.u64.wrap ((ji18) - (IntKind.u64.wrap (40 * (mn (IntKind.u64.wrap (Int.tdiv (ji18) 40)) 2))))) > 2147483647 then (some ((⟨#[]⟩ : ByteArray), 3)) else ((strconv_Itoa.f (wrap64 (IntKind.u64.wrap ((ji18) - (IntKind.u64.wrap (40 * (mn (IntKind.u64.wrap (Int.tdiv (ji18) 40)) 2))))))).bind fun t180 => (if 1 + t180.size ≤ 9223372036854775807 then (if t179.size + ((⟨#[46]⟩ : ByteArray) ++ t180).size ≤ 9223372036854775807 then (der_Oid.l1 k3 (t179 ++ ((⟨#[46]⟩ : ByteArray) ++ t180)) 0 l0 (l0.length : Int) (wrap64 (x47_3 + 1))) else (none)) else (none))))) else (if (ji18) > 2147483647 then (some ((⟨#[]⟩ : ByteArray), 3)) else ((strconv_Itoa.f (wrap64 (ji18))).bind fun t181 => (if 1 + t181.size ≤ 9223372036854775807 then (if x6_3.size + ((⟨#[46]⟩ : ByteArray) ++ t181).size ≤ 9223372036854775807 then (der_Oid.l1 k3 (x6_3 ++ ((⟨#[46]⟩ : ByteArray) ++ t181)) 0 l0 (l0.length : Int) (wrap64 (x47_3 + 1))) else (none)) else (none)))))) = some (r1, r2) := by first | (rw [hji18] at H; exact H) | (simp only [hji18] at H ⊢; exact H)
            have hji18_ : (if 1099511627776 < (Go.bits .or .u64 (IntKind.u64.wrap (x7_3 * 128)) (IntKind.u64.wrap (Go.bits .and .u8 (rd l0 x47_3) 127))) then 1099511627776 else (Go.bits .or .u64 (IntKind.u64.wrap (x7_3 * 128)) (IntKind.u64.wrap (Go.bits .and .u8 (rd l0 x47_3) 127)))) = ji18 := hji18
            by_cases c19 : (rd l0 x47_3) ≥ 128
            · rw [if_pos c19] at H
              have c19b0 : decide (128 ≤ (rd l0 x47_3)) = true := decide_eq_true c19
              clear c19
              have H' := Aside0.mk H
              clear H
              have p178 : 0 ≤ (x47_3 : Int) := of_decide_eq_true (by first | (with_reducible assumption) | assumption)
              have q178 : x47_3 < (l0.length : Int) := of_decide_eq_true (by first | (with_reducible assumption) | assumption)
              obtain ⟨ad178, e178, hx178_0⟩ := Kd.at_int HR0.out x47_3 p178 q178
              cases e178
              replace hx178_0 := (HB.out.cell (World.block_lt_of_cell? w _ hx178_0)).trans hx178_0
              replace p178 := eq_true p178
              replace q178 := eq_true q178
              go_wp2
              go_roundg k3
              case measure => have := HJ1.out; have := HK2.out; have := HK3.out; omega
              case rel => exact ⟨(x6_3), (ji18), (wrap64 (x47_3 + 1)), (by first | rfl | (simp; done) | (simp [*]; done)), (by first | rfl | (simp; done) | (simp only [← hji18] <;> (first | rfl | simp)) | (simp [*]; done)), (by first | rfl | (simp; done) | (simp [*]; done)), H', ⟨by have := HJ1.out; have := HK2.out; have := HK3.out; omega⟩, ⟨bU HB.out⟩⟩
            rw [if_neg c19] at H
            have c19b0 : decide (128 ≤ (rd l0 x47_3)) = false := decide_eq_false c19
            clear c19
            by_cases c20 : x6_3.toList = ([] : List UInt8)
            rotate_left
            · rw [if_neg c20] at H
              have c20b0 : (x6_3.toList == ([] : List UInt8)) = false := beq_eq_false_iff_ne.mpr c20
              have c20b1 : (x6_3.toList != ([] : List UInt8)) = true := bne_iff_ne.mpr c20
              by_cases c30 : (ji18) > 2147483647
              · rw [if_pos c30] at H
                have c30b0 : decide (2147483647 < (ji18)) = true := decide_eq_true c30
                clear c30
                simp only [Option.some.injEq, Prod.mk.injEq] at H
                obtain ⟨rfl, rfl⟩ := H
                have p178 : 0 ≤ (x47_3 : Int) := of_decide_eq_true (by first | (with_reducible assumption) | assumption)
                have q178 : x47_3 < (l0.length : Int) := of_decide_eq_true (by first | (with_reducible assumption) | assumption)
                obtain ⟨ad178, e178, hx178_0⟩ := Kd.at_int HR0.out x47_3 p178 q178
                cases e178
                replace hx178_0 := (HB.out.cell (World.block_lt_of_cell? w _ hx178_0)).trans hx178_0
                replace p178 := eq_true p178
                replace q178 := eq_true q178
                go_wp2
                go_ret2
                exact ⟨by first | rfl | (simp [errW_none, errW_some] <;> rfl) | (simp only [← hji18]; first | rfl | (simp [errW_none, errW_some] <;> rfl)) | (simp [*, errW_none, errW_some] <;> rfl), bU HB.out⟩
              rw [if_neg c30] at H
              have c30b0 : decide (2147483647 < (ji18)) = false := decide_eq_false c30
              clear c30
              replace H := Option.bind_eq_some_iff.mp H
              obtain ⟨t181, A310, H⟩ := H
              try dsimp only at H
              have A31 := Aside0.mk A310
              clear A310
              by_cases c32 : 1 + t181.size ≤ 9223372036854775807
              rotate_left
              · rw [if_neg c32] at H
                exact absurd H (by simp)
              rw [if_pos c32] at H
              have c32b0 := eq_true c32
              have c32b1 : decide (1 + t181.size ≤ 9223372036854775807) = true := decide_eq_true c32
              try have c32b2 : (9223372036854775807 < 1 + t181.size) = False := eq_false (Nat.not_lt.2 c32)
              by_cases c33 : x6_3.size + ((⟨#[46]⟩ : ByteArray) ++ t181).size ≤ 9223372036854775807
              rotate_left
              · rw [if_neg c33] at H
                exact absurd H (by simp)
              rw [if_pos c33] at H
              have c33b0 := eq_true c33
              have c33b1 : decide (x6_3.size + ((⟨#[46]⟩ : ByteArray) ++ t181).size ≤ 9223372036854775807) = true := decide_eq_true c33
              try have c33b2 : (9223372036854775807 < x6_3.size + ((⟨#[46]⟩ : ByteArray) ++ t181).size) = False := eq_false (Nat.not_lt.2 c33)
              have H' := Aside0.mk H
              clear H
              have p178 : 0 ≤ (x47_3 : Int) := of_decide_eq_true (by first | (with_reducible assumption) | assumption)
              have q178 : x47_3 < (l0.length : Int) := of_decide_eq_true (by first | (with_reducible assumption) | assumption)
              obtain ⟨ad178, e178, hx178_0⟩ := Kd.at_int HR0.out x47_3 p178 q178
              cases e178
              replace hx178_0 := (HB.out.cell (World.block_lt_of_cell? w _ hx178_0)).trans hx178_0
              replace p178 := eq_true p178
              replace q178 := eq_true q178
              go_wp2_with (first | ((with_reducible refine gate_callee (f := 160) rfl ?_); refine goesL_ (some 77) rfl rfl Tryz.func160 (by kernel_rfl) rfl #[.int .i64 (wrap64 (ji18))] rfl (by (try simp only [List.map_toArray, List.map_cons, List.map_nil]); first | done | (simp only [hji18]; rfl) | rfl | (simp only [List.length_drop, List.length_take]; rfl)) ?_; (with_reducible refine (strconv_Itoa.calls (wrap64 (ji18)) t181 _ A31.out (Tb.below HHd.out (bU HB.out))).mono ?_); rintro e w34 ⟨rfl, hb⟩; refine ⟨_, rfl, ?_⟩; have n0_ := Aside0.mk (below_step (bU HB.out) hb); replace HB := n0_; clear n0_; (try clear hb); (try clear hb2); (try clear hk); (try clear hi)))
              go_roundg k3
              case measure => have := HJ1.out; have := HK2.out; have := HK3.out; omega
              case rel => exact ⟨(x6_3 ++ ((⟨#[46]⟩ : ByteArray) ++ t181)), (0), (wrap64 (x47_3 + 1)), (by first | rfl | (simp; done) | (simp [*]; done)), (by first | rfl | (simp; done) | (simp [*]; done)), (by first | rfl | (simp; done) | (simp [*]; done)), H', ⟨by have := HJ1.out; have := HK2.out; have := HK3.out; omega⟩, ⟨bU HB.out⟩⟩
            rw [if_pos c20] at H
            have c20b0 : (x6_3.toList == ([] : List UInt8)) = true := beq_iff_eq.mpr c20
            have c20b1 : (x6_3.toList != ([] : List UInt8)) = false := bne_eq_false_iff_eq.mpr c20
            clear c20
            obtain ⟨ji21, hji21⟩ : ∃ j_ : Int, (mn (IntKind.u64.wrap (Int.tdiv (ji18) 40)) 2) = j_ := ⟨_, rfl⟩
            replace H : ((strconv_Itoa.f (wrap64 (ji21))).bind fun t179 => (if (IntKind.u64.wrap ((ji18) - (IntKind.u64.wrap (40 * (ji21))))) > 2147483647 then (some ((⟨#[]⟩ : ByteArray), 3)) else ((strconv_Itoa.f (wrap64 (IntKind.u64.wrap ((ji18) - (IntKind.u64.wrap (40 * (ji21))))))).bind fun t180 => (if 1 + t180.size ≤ 9223372036854775807 then (if t179.size + ((⟨#[46]⟩ : ByteArray) ++ t180).size ≤ 9223372036854775807 then (der_Oid.l1 k3 (t179 ++ ((⟨#[46]⟩ : ByteArray) ++ t180)) 0 l0 (l0.length : Int) (wrap64 (x47_3 + 1))) else (none)) else (none))))) = some (r1, r2) := by first | (rw [hji21] at H; exact H) | (simp only [hji21] at H ⊢; exact H)
            have hji21_ : (if 2 < (IntKind.u64.wrap (Int.tdiv (ji18) 40)) then 2 else (IntKind.u64.wrap (Int.tdiv (ji18) 40))) = ji21 := hji21
            replace H := Option.bind_eq_some_iff.mp H
            obtain ⟨t179, A220, H⟩ := H
            try dsimp only at H
            have A22 := Aside0.mk A220
            clear A220
            by_cases c23 : (IntKind.u64.wrap ((ji18) - (IntKind.u64.wrap (40 * (ji21))))) > 2147483647
            · rw [if_pos c23] at H
              have c23b0 : decide (2147483647 < (IntKind.u64.wrap ((ji18) - (IntKind.u64.wrap (40 * (ji21)))))) = true := decide_eq_true c23
              clear c23
              simp only [Option.some.injEq, Prod.mk.injEq] at H
              obtain ⟨rfl, rfl⟩ := H
              have p178 : 0 ≤ (x47_3 : Int) := of_decide_eq_true (by first | (with_reducible assumption) | assumption)
              have q178 : x47_3 < (l0.length : Int) := of_decide_eq_true (by first | (with_reducible assumption) | assumption)
              obtain ⟨ad178, e178, hx178_0⟩ := Kd.at_int HR0.out x47_3 p178 q178
              cases e178
              replace hx178_0 := (HB.out.cell (World.block_lt_of_cell? w _ hx178_0)).trans hx178_0
              replace p178 := eq_true p178
              replace q178 := eq_true q178
              go_wp2_with (first | ((with_reducible refine gate_callee (f := 160) rfl ?_); refine goesL_ (some 67) rfl rfl Tryz.func160 (by kernel_rfl) rfl #[.int .i64 (wrap64 (ji21))] rfl (by (try simp only [List.map_toArray, List.map_cons, List.map_nil]); first | done | (simp only [hji21]; rfl) | rfl | (simp only [List.length_drop, List.length_take]; rfl)) ?_; (with_reducible refine (strconv_Itoa.calls (wrap64 (ji21)) t179 _ A22.out (Tb.below HHd.out (bU HB.out))).mono ?_); rintro e w24 ⟨rfl, hb⟩; refine ⟨_, rfl, ?_⟩; have n0_ := Aside0.mk (below_step (bU HB.out) hb); replace HB := n0_; clear n0_; (try clear hb); (try clear hb2); (try clear hk); (try clear hi)))
              go_ret2
              exact ⟨by first | rfl | (simp [errW_none, errW_some] <;> rfl) | (simp only [← hji18, ← hji21]; first | rfl | (simp [errW_none, errW_some] <;> rfl)) | (simp [*, errW_none, errW_some] <;> rfl), bU HB.out⟩
            rw [if_neg c23] at H
            have c23b0 : decide (2147483647 < (IntKind.u64.wrap ((ji18) - (IntKind.u64.wrap (40 * (ji21)))))) = false := decide_eq_false c23
            clear c23
            replace H := Option.bind_eq_some_iff.mp H
            obtain ⟨t180, A250, H⟩ := H
            try dsimp only at H
            have A25 := Aside0.mk A250
            clear A250
            by_cases c26 : 1 + t180.size ≤ 9223372036854775807
            rotate_left
            · rw [if_neg c26] at H
              exact absurd H (by simp)
            rw [if_pos c26] at H
            have c26b0 := eq_true c26
            have c26b1 : decide (1 + t180.size ≤ 9223372036854775807) = true := decide_eq_true c26
            try have c26b2 : (9223372036854775807 < 1 + t180.size) = False := eq_false (Nat.not_lt.2 c26)
            by_cases c27 : t179.size + ((⟨#[46]⟩ : ByteArray) ++ t180).size ≤ 9223372036854775807
            rotate_left
            · rw [if_neg c27] at H
              exact absurd H (by simp)
            rw [if_pos c27] at H
            have c27b0 := eq_true c27
            have c27b1 : decide (t179.size + ((⟨#[46]⟩ : ByteArray) ++ t180).size ≤ 9223372036854775807) = true := decide_eq_true c27
            try have c27b2 : (9223372036854775807 < t179.size + ((⟨#[46]⟩ : ByteArray) ++ t180).size) = False := eq_false (Nat.not_lt.2 c27)
            have H' := Aside0.mk H
            clear H
            have p178 : 0 ≤ (x47_3 : Int) := of_decide_eq_true (by first | (with_reducible assumption) | assumption)
            have q178 : x47_3 < (l0.length : Int) := of_decide_eq_true (by first | (with_reducible assumption) | assumption)
            obtain ⟨ad178, e178, hx178_0⟩ := Kd.at_int HR0.out x47_3 p178 q178
            cases e178
            replace hx178_0 := (HB.out.cell (World.block_lt_of_cell? w _ hx178_0)).trans hx178_0
            replace p178 := eq_true p178
            replace q178 := eq_true q178
            go_wp2_with (first | ((with_reducible refine gate_callee (f := 160) rfl ?_); refine goesL_ (some 67) rfl rfl Tryz.func160 (by kernel_rfl) rfl #[.int .i64 (wrap64 (ji21))] rfl (by (try simp only [List.map_toArray, List.map_cons, List.map_nil]); first | done | (simp only [hji21]; rfl) | rfl | (simp only [List.length_drop, List.length_take]; rfl)) ?_; (with_reducible refine (strconv_Itoa.calls (wrap64 (ji21)) t179 _ A22.out (Tb.below HHd.out (bU HB.out))).mono ?_); rintro e w28 ⟨rfl, hb⟩; refine ⟨_, rfl, ?_⟩; have n0_ := Aside0.mk (below_step (bU HB.out) hb); replace HB := n0_; clear n0_; (try clear hb); (try clear hb2); (try clear hk); (try clear hi)) | ((with_reducible refine gate_callee (f := 160) rfl ?_); refine goesL_ (some 77) rfl rfl Tryz.func160 (by kernel_rfl) rfl #[.int .i64 (wrap64 (IntKind.u64.wrap ((ji18) - (IntKind.u64.wrap (40 * (ji21))))))] rfl (by (try simp only [List.map_toArray, List.map_cons, List.map_nil]); first | done | (simp only [hji18, hji21]; rfl) | rfl | (simp only [List.length_drop, List.length_take]; rfl)) ?_; (with_reducible refine (strconv_Itoa.calls (wrap64 (IntKind.u64.wrap ((ji18) - (IntKind.u64.wrap (40 * (ji21)))))) t180 _ A25.out (Tb.below HHd.out (bU HB.out))).mono ?_); rintro e w29 ⟨rfl, hb⟩; refine ⟨_, rfl, ?_⟩; have n0_ := Aside0.mk (below_step (bU HB.out) hb); replace HB := n0_; clear n0_; (try clear hb); (try clear hb2); (try clear hk); (try clear hi)))
            go_roundg k3
            case measure => have := HJ1.out; have := HK2.out; have := HK3.out; omega
            case rel => exact ⟨(t179 ++ ((⟨#[46]⟩ : ByteArray) ++ t180)), (0), (wrap64 (x47_3 + 1)), (by first | rfl | (simp; done) | (simp [*]; done)), (by first | rfl | (simp; done) | (simp [*]; done)), (by first | rfl | (simp; done) | (simp [*]; done)), H', ⟨by have := HJ1.out; have := HK2.out; have := HK3.out; omega⟩, ⟨bU HB.out⟩⟩
end Go.Proofs.YtkioddjjfifadaaGreatDoor.P
namespace Go.Proofs.YtkioddjjfifadaaGreatDoor.P
open Go.RowKit Go.Proofs.YtkioddjjfifadaaGreatDoorW.PrintWords Go.Proofs.YtkioddjjfifadaaGreatDoorW.PrintMore
theorem clone_any (a : List Int) (h : a.length ≤ 100000000) : bytes_Clone.f a = some a := by
  unfold bytes_Clone.f
  rw [if_pos (by omega)]
theorem head_bits (b : Int) (h0 : 0 ≤ b) (h1 : b ≤ 255) : wrap64 (b / 64) = (Int.tdiv b 64) % 256 ∧ ((Go.bits .and .u8 b 32) != 0) = ((((Int.tdiv b 32) % 256) % 2) == 1) := by
  have k0 : ∀ m : Fin 256, ((Go.bits .and .u8 (m.val : Int) 32) != 0) = ((((Int.tdiv (m.val : Int) 32) % 256) % 2) == 1) := by decide +kernel
  obtain ⟨m, rfl⟩ : ∃ m : Nat, b = (m : Int) := ⟨b.toNat, by omega⟩
  refine ⟨?_, k0 ⟨m, by omega⟩⟩
  rw [wb (by omega) (by omega), Int.tdiv_eq_ediv_of_nonneg (by omega)]
  omega
def OkT (n : Nat) (x : S77) : Prop := ByL x.f3 ∧ x.f3.length ≤ n ∧ 0 ≤ x.f0 ∧ x.f0 ≤ 3
set_option maxRecDepth 20000 in
theorem split_alike (x0 : List Int) (hl : Aside0 (x0.length ≤ 16777216)) (hb : ByL x0) : ∀ (m k : Nat) (q : Int) (acc : List S77), 0 ≤ q → q ≤ (x0.length : Int) → (x0.length : Int) - q ≤ m → m + 1 + (2 * x0.length + 500) ≤ k → acc.length ≤ 65536 →
    ∃ L e a, der_Split.l0 k x0 acc q = some (L, e, a) ∧ chirographref04_Split.l0 k x0 acc q = some (L, e, a) ∧ (e ≠ 0 → L = []) ∧ ((∀ x ∈ acc, OkT x0.length x) → ∀ x ∈ L, OkT x0.length x) := by
  intro m
  induction m with
  | zero =>
    intro k q acc h0 h1 hm hk ha
    obtain ⟨k1, rfl⟩ : ∃ k1, k = k1 + 1 := ⟨k - 1, by omega⟩
    have n : ¬ q < (x0.length : Int) := by omega
    rw [der_Split.l0, chirographref04_Split.l0, if_neg n, if_neg n]
    exact ⟨_, _, _, rfl, rfl, fun h => absurd rfl h, fun h => h⟩
  | succ m IH =>
    intro k q acc h0 h1 hm hk ha
    obtain ⟨k1, rfl⟩ : ∃ k1, k = k1 + 1 := ⟨k - 1, by omega⟩
    have hl2 := hl.out
    rw [der_Split.l0, chirographref04_Split.l0]
    by_cases c : q < (x0.length : Int)
    rotate_left
    · rw [if_neg c, if_neg c]
      exact ⟨_, _, _, rfl, rfl, fun h => absurd rfl h, fun h => h⟩
    rw [if_pos c, if_pos c]
    by_cases cf : acc.length = 65536
    · rw [if_pos (show (acc.length : Int) = 65536 by omega), if_pos (show (acc.length : Int) ≥ 65536 by omega)]
      exact ⟨_, _, _, rfl, rfl, fun _ => rfl, fun _ x hx => by cases hx⟩
    rw [if_neg (show ¬ (acc.length : Int) = 65536 by omega), if_neg (show ¬ (acc.length : Int) ≥ 65536 by omega)]
    obtain ⟨t, i, e, a, d1, r1, p1⟩ := tag_both x0 (by omega) hb q h0 c k1 (by omega)
    rw [d1, r1, Option.bind_some, Option.bind_some]
    dsimp only
    by_cases ce : e = 0
    rotate_left
    · rw [if_neg ce, if_neg ce]
      exact ⟨_, _, _, rfl, rfl, fun _ => rfl, fun _ x hx => by cases hx⟩
    rw [if_pos ce, if_pos ce]
    obtain ⟨i0, i1, t0, t1⟩ := p1 ce
    obtain ⟨n, j, e2, a2, d2, r2, p2⟩ := length_both x0 (by omega) hb i (by omega) i1 k1 (by omega)
    rw [d2, r2, Option.bind_some, Option.bind_some]
    dsimp only
    by_cases ce2 : e2 = 0
    rotate_left
    · rw [if_neg ce2, if_neg ce2]
      exact ⟨_, _, _, rfl, rfl, fun _ => rfl, fun _ x hx => by cases hx⟩
    rw [if_pos ce2, if_pos ce2]
    obtain ⟨j0, n0, jn⟩ := p2 ce2
    obtain ⟨b0, b1⟩ := hb _ (rd_memI x0 q h0 c)
    obtain ⟨hb1, hb2⟩ := head_bits _ b0 b1
    have j1 : 0 ≤ j := by omega
    have e0 : 0 ≤ j + n := by omega
    have e3 : j ≤ j + n := by omega
    have e4 : q ≤ j + n := by omega
    have e5 : acc.length < 1954687338268 := by omega
    have len1 : ((x0.take (j + n).toNat).drop j.toNat).length ≤ 100000000 := by rw [List.length_drop, List.length_take]; omega
    have len2 : ((x0.take (j + n).toNat).drop q.toNat).length ≤ 100000000 := by rw [List.length_drop, List.length_take]; omega
    have c1 := clone_any _ len1
    have c2 := clone_any _ len2
    have l1 : ([] : List Int).length + ((x0.take (j + n).toNat).drop j.toNat).length < 140737488355328 := by rw [List.length_nil]; omega
    have l2 : ([] : List Int).length + ((x0.take (j + n).toNat).drop q.toNat).length < 140737488355328 := by rw [List.length_nil]; omega
    have ih := fun (acc' : List S77) (h : acc'.length ≤ 65536) => IH k1 (j + n) acc' (by omega) jn (by omega) (by omega) h
    have la : ∀ v : S77, (acc ++ [v]).length ≤ 65536 := fun v => by rw [List.length_append, List.length_singleton]; omega
    have w1 : wrap64 (j + n) = j + n := wb (by omega) (by omega)
    simp only [w1, c1, c2, hb1, hb2, if_pos h0, if_pos j1, if_pos e3, if_pos jn, if_pos e4, if_pos e5, if_pos l1, if_pos l2, Option.bind_some, List.nil_append]
    obtain ⟨L, e9, a9, g1, g2, g3, g4⟩ := ih _ (la _)
    refine ⟨L, e9, a9, g1, g2, g3, fun h => g4 fun x hx => ?_⟩
    rcases List.mem_append.1 hx with hx | hx
    · exact h x hx
    obtain rfl := List.mem_singleton.1 hx
    refine ⟨fun z hz => hb z (List.mem_of_mem_take (List.mem_of_mem_drop hz)), ?_, ?_, ?_⟩
    · show ((x0.take (j + n).toNat).drop j.toNat).length ≤ _
      rw [List.length_drop, List.length_take]
      omega
    · show 0 ≤ (Int.tdiv (rd x0 q) 64) % 256
      exact Int.emod_nonneg _ (by decide)
    show (Int.tdiv (rd x0 q) 64) % 256 ≤ 3
    rw [Int.tdiv_eq_ediv_of_nonneg b0]
    omega
set_option maxRecDepth 20000 in
theorem split_both (x0 : List Int) (hb : ByL x0) (k : Nat) (hk : 3 * x0.length + 600 ≤ k) :
    ∃ L e a, der_Split.f k x0 = some (L, e, a) ∧ chirographref04_Split.f k x0 = some (L, e, a) ∧ (e ≠ 0 → L = []) ∧ (∀ x ∈ L, OkT x0.length x) := by
  unfold der_Split.f chirographref04_Split.f
  by_cases c : (x0.length : Int) > 16777216
  · rw [if_pos c, if_pos c]
    exact ⟨_, _, _, rfl, rfl, fun _ => rfl, fun x hx => by cases hx⟩
  rw [if_neg c, if_neg c]
  obtain ⟨L, e, a, g1, g2, g3, g4⟩ := split_alike x0 ⟨by omega⟩ hb x0.length k 0 [] (Int.le_refl _) (by omega) (by omega) (by omega) (by decide)
  exact ⟨L, e, a, g1, g2, g3, g4 fun x hx => by cases hx⟩
end Go.Proofs.YtkioddjjfifadaaGreatDoor.P
namespace Go.Proofs.YtkioddjjfifadaaGreatDoor.P
open Go.RowKit Go.Proofs.YtkioddjjfifadaaGreatDoorW.PrintWords Go.Proofs.YtkioddjjfifadaaGreatDoorW.PrintMore
theorem or7u (v d : Int) (h0 : 0 ≤ v) (h1 : v ≤ 1099511627776) (d0 : 0 ≤ d) (d1 : d < 128) : Go.bits .or .u64 (v * 128) d = v * 128 + d := by
  have hb := (bits_nat .u64 63 (by decide) (fun n h₀ h₁ => by rw [IntKind.wrap_u64]; omega) (v.toNat * 2 ^ 7) d.toNat (by omega) (by omega)).2
  rw [← Nat.shiftLeft_eq, ← Nat.shiftLeft_add_eq_or_of_lt (by omega), Nat.shiftLeft_eq] at hb
  rw [show ((v.toNat * 2 ^ 7 : Nat) : Int) = v * 128 by omega, show (d.toNat : Int) = d by omega, show ((v.toNat * 2 ^ 7 + d.toNat : Nat) : Int) = v * 128 + d by omega] at hb
  exact hb
abbrev T (l : List UInt8) : ByteArray := ⟨l.toArray⟩
theorem T_app (a b : List UInt8) : T a ++ T b = T (a ++ b) := by
  apply ByteArray.ext
  simp [T]
theorem T_size (a : List UInt8) : (T a).size = a.length := by simp [T, ByteArray.size]
theorem itoa_at (x : Int) (h0 : 0 ≤ x) (h1 : x ≤ 9223372036854775807) : strconv_Itoa.f x = some (T (Lib.itoa x)) ∧ (Lib.itoa x).length ≤ 21 := by
  unfold strconv_Itoa.f
  rw [if_pos ⟨by omega, h1⟩]
  exact ⟨rfl, Lib.itoa_length_le x (by omega) h1⟩
theorem itoa_digit (d : Int) (h0 : 0 ≤ d) (h1 : d < 10) : Lib.itoa d = [UInt8.ofNat (48 + d.toNat)] := by
  unfold Lib.itoa
  rw [if_neg (by omega), Lib.decDigits, dif_pos (by omega)]
end Go.Proofs.YtkioddjjfifadaaGreatDoor.P
namespace Go.Proofs.YtkioddjjfifadaaGreatDoor.P
open Go.RowKit Go.Proofs.YtkioddjjfifadaaGreatDoorW.PrintWords Go.Proofs.YtkioddjjfifadaaGreatDoorW.PrintLast Go.Proofs.YtkioddjjfifadaaGreatDoorW.PrintMore
attribute [local go_sem] max2_int min2_int max_two min_two max_three min_three max_four min_four
set_option linter.unusedVariables false
set_option linter.unusedSimpArgs false
def chirographref06_digits.f : Nat → Int → Option (ByteArray)
  | 0, _ => none
  | k + 1, a0 => if a0 < 0 then (if a0 ≤ (-10) then ((chirographref06_digits.f k (wrap64 (Int.tdiv a0 10))).bind fun t1550 => ((chirographref06_digits.f k (wrap64 (-(Int.tmod a0 10)))).bind fun t1551 => (if t1550.size + t1551.size ≤ 9223372036854775807 then (some (t1550 ++ t1551)) else (none)))) else ((chirographref06_digits.f k (wrap64 (-a0))).bind fun t1552 => (if 1 + t1552.size ≤ 9223372036854775807 then (some ((⟨#[45]⟩ : ByteArray) ++ t1552)) else (none)))) else (if a0 ≥ 10 then ((chirographref06_digits.f k (wrap64 (Int.tdiv a0 10))).bind fun t1553 => ((chirographref06_digits.f k (Int.tmod a0 10)).bind fun t1554 => (if t1553.size + t1554.size ≤ 9223372036854775807 then (some (t1553 ++ t1554)) else (none)))) else (some (strOfNums (([(wrap64 (48 + a0)) % 256] : List Int)))))
end Go.Proofs.YtkioddjjfifadaaGreatDoor.P
namespace Go.Proofs.YtkioddjjfifadaaGreatDoor.P
open Go.RowKit Go.Proofs.YtkioddjjfifadaaGreatDoorW.PrintWords Go.Proofs.YtkioddjjfifadaaGreatDoorW.PrintLast Go.Proofs.YtkioddjjfifadaaGreatDoorW.PrintMore
attribute [local go_sem] max2_int min2_int max_two min_two max_three min_three max_four min_four
set_option linter.unusedVariables false
set_option linter.unusedSimpArgs false
def chirographref04_Decimal.l0 : Nat → Int → ByteArray → Option (ByteArray)
  | 0, _, _ => none
  | k + 1, x0, x3 => if x0 > 9 then ((some (([(wrap64 (48 + (Int.tmod x0 10))) % 256] : List Int) : List Int)).bind fun y889 => (if (strOfNums y889).size + x3.size ≤ 9223372036854775807 then (chirographref04_Decimal.l0 k (wrap64 (Int.tdiv x0 10)) ((strOfNums y889) ++ x3)) else (none))) else ((some (([(wrap64 (48 + x0)) % 256] : List Int) : List Int)).bind fun y892 => (if (strOfNums y892).size + x3.size ≤ 9223372036854775807 then (some ((strOfNums y892) ++ x3)) else (none)))
def chirographref04_Decimal.f (k : Nat) (a0 : Int) : Option (ByteArray) := chirographref04_Decimal.l0 k a0 (⟨#[]⟩ : ByteArray)
theorem chirographref04_Decimal.mono_l : ∀ k, (∀ y0 y1, LeO (chirographref04_Decimal.l0 k y0 y1) (chirographref04_Decimal.l0 (k + 1) y0 y1))
  | 0 => fun _ _ r h => by simp [chirographref04_Decimal.l0] at h
  | k + 1 => by
    have ih0 := chirographref04_Decimal.mono_l k
    · intro y0 y1
      unfold chirographref04_Decimal.l0
      repeat' first
      | (with_reducible exact ih0 _ _)
      | (with_reducible exact LeO.refl _)
      | (with_reducible exact LeO.none _)
      | (with_reducible refine LeO.ite ?_ ?_)
      | (with_reducible refine LeO.bind ?_ (fun _ => ?_))
      | exact ih0 _ _
      | exact LeO.none _
      | refine LeO.ite ?_ ?_
      | refine LeO.bind ?_ (fun _ => ?_)
theorem chirographref04_Decimal.mono : ∀ a0 k, LeO (chirographref04_Decimal.f k a0) (chirographref04_Decimal.f (k + 1) a0) := by
  intro a0 k
  have ih0 := chirographref04_Decimal.mono_l k
  unfold chirographref04_Decimal.f
  repeat' first
      | (with_reducible exact ih0 _ _)
      | (with_reducible exact LeO.refl _)
      | (with_reducible exact LeO.none _)
      | (with_reducible refine LeO.ite ?_ ?_)
      | (with_reducible refine LeO.bind ?_ (fun _ => ?_))
      | exact ih0 _ _
      | exact LeO.none _
      | refine LeO.ite ?_ ?_
      | refine LeO.bind ?_ (fun _ => ?_)
set_option maxHeartbeats 8000000 in
set_option maxRecDepth 100000 in
theorem chirographref04_Decimal.calls (k : Nat) (a0 : Int) (r : ByteArray) (w : World) (h : chirographref04_Decimal.f k a0 = some r) :
    Calls Tryz.prog 183 #[.int .i64 a0] w fun e w' => e = .returned (.string r) ∧ Below w.heap.size w w' := by
  have HB := Aside0.mk (Below.refl w.heap.size w)
  have H : (chirographref04_Decimal.l0 k a0 (⟨#[]⟩ : ByteArray)) = some r := h
  clear h
  have H' := Aside0.mk H
  clear H
  go_enter Tryz.func183, Tryz.ntmps183
  go_wp2
  go_loopg [0, 3] k (fun kq v0 v3 w' => ∃ (x0_1 : Int) (x3_1 : ByteArray), v0 = .int .i64 x0_1 ∧ v3 = .string x3_1 ∧ Aside0 (chirographref04_Decimal.l0 kq x0_1 x3_1 = some r) ∧ Aside0 (kq ≤ k) ∧ Aside0 (Below w.heap.size w w'))
  case atStart => exact ⟨(a0), ((⟨#[]⟩ : ByteArray)), (by first | rfl | (simp; done) | (simp [*]; done)), (by first | rfl | (simp; done) | (simp [*]; done)), H', ⟨Nat.le_refl _⟩, ⟨bU HB.out⟩⟩
  case round =>
    clear H'
    try clear c1
    obtain ⟨x0_1, x3_1, rfl, rfl, HA, HK1, HB⟩ := hrel
    cases gk with
    | zero => exact absurd HA.out (by simp [chirographref04_Decimal.l0])
    | succ k1 =>
      have H := HA.out
      clear HA
      simp only [chirographref04_Decimal.l0] at H
      by_cases c2 : x0_1 > 9
      rotate_left
      · rw [if_neg c2] at H
        have c2b0 : decide (9 < x0_1) = false := decide_eq_false c2
        clear c2
        obtain ⟨y892, hy892⟩ : ∃ y_ : List Int, y_ = (([(wrap64 (48 + x0_1)) % 256] : List Int)) := ⟨_, rfl⟩
        replace H : (if (strOfNums y892).size + x3_1.size ≤ 9223372036854775807 then (some ((strOfNums y892) ++ x3_1)) else (none)) = some r := by first | (rw [hy892]; with_reducible exact H) | (have H2_ := (Option.bind_some _ _).symm.trans H; rw [hy892]; with_reducible exact H2_) | (have H2_ := (Option.bind_some _ _).symm.trans H; with_reducible exact H2_) | with_reducible exact H | (rw [hy892]; exact H) | exact H
        have Ny892 := Aside0.mk hy892
        clear hy892
        by_cases c7 : (strOfNums y892).size + x3_1.size ≤ 9223372036854775807
        rotate_left
        · rw [if_neg c7] at H
          exact absurd H (by simp)
        rw [if_pos c7] at H
        have c7b0 := eq_true c7
        have c7b1 : decide ((strOfNums y892).size + x3_1.size ≤ 9223372036854775807) = true := decide_eq_true c7
        try have c7b2 : (9223372036854775807 < (strOfNums y892).size + x3_1.size) = False := eq_false (Nat.not_lt.2 c7)
        obtain rfl := Option.some.inj H
        go_wp2_with (first | ((with_reducible refine gate_dst (N := 19) rfl ?_); refine Kd.R_lit (Kd.int .u8) _ 5 ?hg (N := 19) ?hd (xs := ([(wrap64 (48 + x0_1)) % 256] : List Int)) (inner := [.int .u8 ((wrap64 (48 + x0_1)) % 256)]) (ok := fun _ => True) (okp := fun _ => True) ?hr ?hp (fun _ hk => hk) trivial (Below.refl _ _) (Nat.le_refl _) (by simp) ?_; (case hd => rfl); (case hg => rfl); (case hr => first | (go_simp; done) | (go_simp; rfl)); (case hp => exact (Reps.one (show Kd.M (Kd.int .u8) _ _ _ ((wrap64 (48 + x0_1)) % 256) [.int .u8 ((wrap64 (48 + x0_1)) % 256)] from rfl) (Reps.none _ _))); intro v893 w8 ho9 hb hg_ hnew_; clear hg_ hnew_; (first | rw [← Ny892.out] at ho9 | (simp only [Int.reduceToNat] at ho9; rw [← Ny892.out] at ho9)); have n0_ := Aside0.mk (Kd.R_lower ho9 (below_size (bU HB.out))); have n1_ := Aside0.mk (below_step (bU HB.out) hb); clear HB; have HO894 := n0_; have HB := n1_; clear n0_ n1_; clear hb ho9; have hcv10 := own_string (P := Tryz.prog) Tryz.underlying22 Tryz.underlying5 Tryz.underlying9 (Kd.own_of_R HO894.out)))
        go_ret
        exact ⟨by first | rfl | (simp [errW_none, errW_some] <;> rfl), bU HB.out⟩
      rw [if_pos c2] at H
      have c2b0 : decide (9 < x0_1) = true := decide_eq_true c2
      clear c2
      obtain ⟨y889, hy889⟩ : ∃ y_ : List Int, y_ = (([(wrap64 (48 + (Int.tmod x0_1 10))) % 256] : List Int)) := ⟨_, rfl⟩
      replace H : (if (strOfNums y889).size + x3_1.size ≤ 9223372036854775807 then (chirographref04_Decimal.l0 k1 (wrap64 (Int.tdiv x0_1 10)) ((strOfNums y889) ++ x3_1)) else (none)) = some r := by first | (rw [hy889]; with_reducible exact H) | (have H2_ := (Option.bind_some _ _).symm.trans H; rw [hy889]; with_reducible exact H2_) | (have H2_ := (Option.bind_some _ _).symm.trans H; with_reducible exact H2_) | with_reducible exact H | (rw [hy889]; exact H) | exact H
      have Ny889 := Aside0.mk hy889
      clear hy889
      by_cases c3 : (strOfNums y889).size + x3_1.size ≤ 9223372036854775807
      rotate_left
      · rw [if_neg c3] at H
        exact absurd H (by simp)
      rw [if_pos c3] at H
      have c3b0 := eq_true c3
      have c3b1 : decide ((strOfNums y889).size + x3_1.size ≤ 9223372036854775807) = true := decide_eq_true c3
      try have c3b2 : (9223372036854775807 < (strOfNums y889).size + x3_1.size) = False := eq_false (Nat.not_lt.2 c3)
      have H' := Aside0.mk H
      clear H
      go_wp2_with (first | ((with_reducible refine gate_dst (N := 10) rfl ?_); refine Kd.R_lit (Kd.int .u8) _ 5 ?hg (N := 10) ?hd (xs := ([(wrap64 (48 + (Int.tmod x0_1 10))) % 256] : List Int)) (inner := [.int .u8 ((wrap64 (48 + (Int.tmod x0_1 10))) % 256)]) (ok := fun _ => True) (okp := fun _ => True) ?hr ?hp (fun _ hk => hk) trivial (Below.refl _ _) (Nat.le_refl _) (by simp) ?_; (case hd => rfl); (case hg => rfl); (case hr => first | (go_simp; done) | (go_simp; rfl)); (case hp => exact (Reps.one (show Kd.M (Kd.int .u8) _ _ _ ((wrap64 (48 + (Int.tmod x0_1 10))) % 256) [.int .u8 ((wrap64 (48 + (Int.tmod x0_1 10))) % 256)] from rfl) (Reps.none _ _))); intro v890 w4 ho5 hb hg_ hnew_; clear hg_ hnew_; (first | rw [← Ny889.out] at ho5 | (simp only [Int.reduceToNat] at ho5; rw [← Ny889.out] at ho5)); have n0_ := Aside0.mk (Kd.R_lower ho5 (below_size (bU HB.out))); have n1_ := Aside0.mk (below_step (bU HB.out) hb); clear HB; have HO891 := n0_; have HB := n1_; clear n0_ n1_; clear hb ho5; have hcv6 := own_string (P := Tryz.prog) Tryz.underlying22 Tryz.underlying5 Tryz.underlying9 (Kd.own_of_R HO891.out)))
      go_roundg k1
      case measure => have := HK1.out; omega
      case rel => exact ⟨(wrap64 (Int.tdiv x0_1 10)), ((strOfNums y889) ++ x3_1), (by first | rfl | (simp; done) | (simp [*]; done)), (by first | rfl | (simp; done) | (simp [*]; done)), H', ⟨by have := HK1.out; omega⟩, ⟨bU HB.out⟩⟩
end Go.Proofs.YtkioddjjfifadaaGreatDoor.P
namespace Go.Proofs.YtkioddjjfifadaaGreatDoor.P
open Go.RowKit Go.Proofs.YtkioddjjfifadaaGreatDoorW.PrintWords
theorem ba_mk_append (a b : List UInt8) : (⟨a.toArray⟩ : ByteArray) ++ (⟨b.toArray⟩ : ByteArray) = ⟨(a ++ b).toArray⟩ := by
  apply ByteArray.ext
  simp [ByteArray.data_append]
theorem w64 {n : Int} (h0 : -9223372036854775808 ≤ n) (h1 : n ≤ 9223372036854775807) : wrap64 n = n := by unfold wrap64; omega
theorem one_digit {u : Nat} (h : u < 10) : strOfNums [(wrap64 (48 + (u : Int))) % 256] = ⟨(Lib.decDigits u).toArray⟩ := by
  rw [Lib.decDigits_one h, w64 (by omega) (by omega)]
  unfold strOfNums
  simp only [List.map_cons, List.map_nil]
  have : ((48 + (u : Int)) % 256).toNat = 48 + u := by omega
  rw [this]
theorem dec_len : ∀ (k u : Nat), u < 10 ^ k → 0 < k → (Lib.decDigits u).length ≤ k
  | 0, _, _, h => absurd h (Nat.lt_irrefl 0)
  | k + 1, u, h, _ => by
    by_cases h10 : u < 10
    · rw [Lib.decDigits_one h10]; simp
    · rw [Nat.pow_succ] at h
      have hk : 0 < k := by
        rcases Nat.eq_zero_or_pos k with rfl | hk
        · simp at h; omega
        · exact hk
      rw [Lib.decDigits, dif_neg h10, List.length_append, List.length_singleton]
      have := dec_len k (u / 10) (by omega) hk
      omega
theorem decimal_loop : ∀ (k u : Nat) (acc : ByteArray), k ≤ 100000 → u ≤ 9223372036854775807 → u < 10 ^ k → 0 < k → acc.size + k ≤ 1000000 → chirographref04_Decimal.l0 k (u : Int) acc = some ((⟨(Lib.decDigits u).toArray⟩ : ByteArray) ++ acc)
  | 0, _, _, _, _, _, h, _ => absurd h (Nat.lt_irrefl 0)
  | k + 1, u, acc, hk1, hu, h, _, ha => by
    rw [chirographref04_Decimal.l0]
    by_cases h10 : u < 10
    · rw [if_neg (by omega)]
      simp only [Option.bind_some]
      rw [one_digit h10]
      have l1 := dec_len (k + 1) u h (by omega)
      rw [if_pos (by show (Lib.decDigits u).toArray.size + acc.size ≤ _; rw [List.size_toArray]; omega)]
    · rw [if_pos (by omega)]
      have h' := h
      rw [Nat.pow_succ] at h'
      have hk : 0 < k := by
        rcases Nat.eq_zero_or_pos k with rfl | hk
        · simp at h'; omega
        · exact hk
      have e1 : wrap64 ((u : Int).tdiv 10) = ((u / 10 : Nat) : Int) := by
        rw [Int.tdiv_eq_ediv_of_nonneg (by omega)]
        unfold wrap64
        omega
      have e2 : (u : Int).tmod 10 = ((u % 10 : Nat) : Int) := by
        rw [Int.tmod_eq_emod_of_nonneg (by omega)]
        omega
      simp only [Option.bind_some]
      rw [e1, e2, one_digit (by omega : u % 10 < 10)]
      have l2 : (Lib.decDigits (u % 10)).length = 1 := by rw [Lib.decDigits_one (by omega : u % 10 < 10)]; rfl
      rw [if_pos (by show (Lib.decDigits (u % 10)).toArray.size + acc.size ≤ _; rw [List.size_toArray]; omega)]
      rw [decimal_loop k (u / 10) _ (by omega) (by omega) (by omega) hk (by rw [ByteArray.size_append]; show (Lib.decDigits (u % 10)).toArray.size + acc.size + k ≤ _; rw [List.size_toArray]; omega), ← ByteArray.append_assoc, ba_mk_append (Lib.decDigits (u / 10)) (Lib.decDigits (u % 10))]
      conv => rhs; rw [Lib.decDigits, dif_neg h10]
      rw [Lib.decDigits_one (by omega : u % 10 < 10)]
theorem decimal_itoa (k : Nat) (h0 : 30 ≤ k) (h1 : k ≤ 100000) (u : Nat) (hu : u ≤ 9223372036854775807) : chirographref04_Decimal.f k (u : Int) = some ⟨(Lib.itoa (u : Int)).toArray⟩ := by
  have hp' : 10 ^ 29 ≤ 10 ^ k := Nat.pow_le_pow_right (by omega) (by omega)
  have hc : (10 : Nat) ^ 29 = 100000000000000000000000000000 := by decide
  rw [hc] at hp'
  unfold chirographref04_Decimal.f Lib.itoa
  rw [decimal_loop k u _ h1 hu (by omega) (by omega) (by show 0 + k ≤ _; omega), if_neg (by omega)]
  simp
  exact ByteArray.append_empty
end Go.Proofs.YtkioddjjfifadaaGreatDoor.P
