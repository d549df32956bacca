/- What the proof of NameShows needs of: Pxf199, Hs6, Pxf37, Pxf31, Hs9, Pxf49, G8, Pxf8, LNameShows, Opn, Wit, Opw, Lh0, Lh1, Lq0. -/
import Derived.Lib.SlBytesConst
import Derived.Carry
import Derived.Lay
import Derived.Deep.Slices
import Derived.Test.YtkioddjjfifadaaGreatDoorRows
import Derived.LaidHandle
import Derived.LaidOnce
import Derived.KernelRfl
import Derived.Lib.LaidU8
import Derived.Stop.LaidErr
import Derived.Test.YtkioddjjfifadaaGreatDoorNs2
import Derived.Test.YtkioddjjfifadaaGreatDoorNs6
import Derived.Test.YtkioddjjfifadaaGreatDoorNs8
import Derived.Test.YtkioddjjfifadaaGreatDoorNs9
import Derived.Test.YtkioddjjfifadaaGreatDoorNs10
set_option linter.unusedVariables false
set_option linter.unusedSimpArgs false
namespace Go.Proofs.YtkioddjjfifadaaGreatDoor.P
open Go.RowKit Go.Proofs.YtkioddjjfifadaaGreatDoorW.PrintWords Go.Proofs.YtkioddjjfifadaaGreatDoorW.PrintLast Go.Proofs.YtkioddjjfifadaaGreatDoorW.PrintMore
attribute [local go_sem] max2_int min2_int max_two min_two max_three min_three max_four min_four   -- for this text's walks alone
set_option linter.unusedVariables false
set_option linter.unusedSimpArgs false
mutual
def der_PutOid.l0 : Nat → List Int → List Int → Int → Int → Option (List Int × Int)
  | 0, _, _, _, _ => none
  | k + 1, x4, x18, x19, x20 => if x20 < x19 then (if 0 ≤ x20 then (if x20 < (x18.length : Int) then (if (rd x18 x20) > 2147483647 then (some (([] : List Int), 3)) else (der_PutOid.l0 k x4 x18 x19 (wrap64 (x20 + 1)))) else (none)) else (none)) else (if 0 < (x4.length : Int) then (if 1 < (x4.length : Int) then ((der_seven.f k (IntKind.u64.wrap ((IntKind.u64.wrap (40 * (rd x4 0))) + (rd x4 1)))).bind fun t318 => (if 2 ≤ (x4.length : Int) then ((some (x4.drop 2 : List Int)).bind fun y321 => (der_PutOid.l1 k t318 y321 (y321.length : Int) 0)) else (none))) else (none)) else (none))
def der_PutOid.l1 : Nat → List Int → List Int → Int → Int → Option (List Int × Int)
  | 0, _, _, _, _ => none
  | k + 1, x8, x37, x38, x39 => if x39 < x38 then (if 0 ≤ x39 then (if x39 < (x37.length : Int) then ((der_seven.f k (rd x37 x39)).bind fun t326 => (if x8.length + t326.length < 140737488355328 then (der_PutOid.l1 k (x8 ++ t326) x37 x38 (wrap64 (x39 + 1))) else (none))) else (none)) else (none)) else (some (x8, 0))
end
def der_PutOid.f (k : Nat) (a0 : ByteArray) : Option (List Int × Int) := (der_arcs.f a0).bind fun bt311 => (if bt311.2 = true then (der_PutOid.l0 k bt311.1 bt311.1 (bt311.1.length : Int) 0) else (some (([] : List Int), 6)))
def der_PutOid.T10 : Bool × List (List Nat × List Nat) := (true, [([], []), ([0], [0]), ([1], [1]), ([2], [2]), ([], []), ([4], [4]), ([5], [5]), ([3, 6], [3, 6]), ([7], [7]), ([8, 8, 0, 1, 2, 3, 4, 5, 6, 7, 8], [8])])
def der_PutOid.B10 : List Nat := [0, 1, 3, 7, 0, 16, 48, 127, 255, 511]
theorem der_PutOid.tab10 : rtab .any (opsOf Tryz.f199 10) = der_PutOid.T10 := by kernel_rfl
theorem der_PutOid.bits10 : waitsOk der_PutOid.T10.2 der_PutOid.B10 = true := by kernel_rfl
set_option maxHeartbeats 8000000 in
set_option maxRecDepth 100000 in
theorem der_PutOid.calls (k : Nat) (a0 : ByteArray) (r1 : List Int) (r2 : Int) (w : World) (h : der_PutOid.f k a0 = some (r1, r2)) :
    Calls Tryz.prog 199 #[.string a0] w fun e w' => ∃ v0_ : Value, e = .returned (.tuple #[v0_, .int .i64 r2]) ∧ Kd.R (Kd.int .u8) 5 w' w.heap.size (fun _ => True) v0_ r1 ∧ Below w.heap.size w w' := by
  have HB := Aside0.mk (Below.refl w.heap.size w)
  have H : ((der_arcs.f a0).bind fun bt311 => (if bt311.2 = true then (der_PutOid.l0 k bt311.1 bt311.1 (bt311.1.length : Int) 0) else (some (([] : List Int), 6)))) = some (r1, r2) := h
  clear h
  replace H := Option.bind_eq_some_iff.mp H
  obtain ⟨⟨t311, t312⟩, A20, H⟩ := H
  replace H : (if t312 = true then (der_PutOid.l0 k t311 t311 (t311.length : Int) 0) else (some (([] : List Int), 6))) = some (r1, r2) := H
  have A2 := Aside0.mk A20
  clear A20
  by_cases c3 : t312 = true
  rotate_left
  · replace c3 := Bool.eq_false_iff.mpr c3
    subst c3
    have H1 : (some (([] : List Int), 6)) = some (r1, r2) := by rw [if_neg (show ¬ (false = true) by decide)] at H; exact H
    clear H
    have H := H1
    clear H1
    simp only [Option.some.injEq, Prod.mk.injEq] at H
    obtain ⟨rfl, rfl⟩ := H
    go_enter Tryz.func199, Tryz.ntmps199
    go_wp2_with (first | ((with_reducible refine gate_callee (f := 238) rfl ?_); refine goesL_ (some 13) rfl rfl Tryz.func238 (by kernel_rfl) rfl #[.string a0] rfl (by (try simp only [List.map_toArray, List.map_cons, List.map_nil]); first | done | rfl | (simp only [List.length_drop, List.length_take]; rfl)) ?_; (with_reducible refine (der_arcs.calls a0 t311 false _ A2.out).mono ?_); rintro e w25 ⟨v313, rfl, ho0, hb⟩; refine ⟨_, rfl, ?_⟩; have n0_ := Aside0.mk (Kd.R_lower ho0 (below_size (by repeat (first | (with_reducible first | exact HB.out | apply below_alloc | apply pw_below_drewN | apply below_drew1) | exact HB.out)))); have n1_ := Aside0.mk (below_step (by repeat (first | (with_reducible first | exact HB.out | apply below_alloc | apply pw_below_drewN | apply below_drew1) | exact HB.out)) hb); clear HB; have HO314 := n0_; have HB := n1_; clear n0_ n1_; (try clear hb); (try clear hb2); (try clear hk); (try clear hi); (try clear ho0)))
    go_ret2
    exact ⟨_, by first | rfl | (simp [errW_none, errW_some] <;> rfl) | (simp [*, errW_none, errW_some] <;> rfl), by first | exact Kd.R_nil _ _ _ _ _ | exact Kd.N_nil _ _ _ _ _ | exact Kd.V_nil _ _ _ _ _ | exact Kd.Q_nil _ _ _ _ _ | exact Kd.S_nil _ _ _ _ _, by repeat (first | (with_reducible first | exact HB.out | apply below_alloc | apply pw_below_drewN | apply below_drew1) | exact HB.out)⟩
  subst c3
  have H1 : (der_PutOid.l0 k t311 t311 (t311.length : Int) 0) = some (r1, r2) := by rw [if_pos rfl] at H; exact H
  clear H
  have H := H1
  clear H1
  have H' := Aside0.mk H
  clear H
  go_enter Tryz.func199, Tryz.ntmps199
  go_wp2_with (first | ((with_reducible refine gate_callee (f := 238) rfl ?_); refine goesL_ (some 13) rfl rfl Tryz.func238 (by kernel_rfl) rfl #[.string a0] rfl (by (try simp only [List.map_toArray, List.map_cons, List.map_nil]); first | done | rfl | (simp only [List.length_drop, List.length_take]; rfl)) ?_; (with_reducible refine (der_arcs.calls a0 t311 true _ A2.out).mono ?_); rintro e w4 ⟨v313, rfl, ho0, hb⟩; refine ⟨_, rfl, ?_⟩; have n0_ := Aside0.mk (Kd.R_lower ho0 (below_size (by repeat (first | (with_reducible first | exact HB.out | apply below_alloc | apply pw_below_drewN | apply below_drew1) | exact HB.out)))); have n1_ := Aside0.mk (below_step (by repeat (first | (with_reducible first | exact HB.out | apply below_alloc | apply pw_below_drewN | apply below_drew1) | exact HB.out)) hb); clear HB; have HO314 := n0_; have HB := n1_; clear n0_ n1_; (try clear hb); (try clear hb2); (try clear hk); (try clear hi); (try clear ho0); obtain ⟨Ao5, co5, eo5⟩ := Kd.R_slice HO314.out; subst eo5))
  go_loopg [20] k (fun kq v20 w' => ∃ (x20_1 : Int), v20 = .int .i64 x20_1 ∧ Aside0 (der_PutOid.l0 kq t311 t311 (t311.length : Int) x20_1 = some (r1, r2)) ∧ Aside0 (kq ≤ k) ∧ Aside0 (Kd.R (Kd.int .u64) 278 w' w.heap.size (fun _ => True) (.slice Ao5 t311.length co5) t311) ∧ Aside0 (Kd.R (Kd.int .u64) 278 w' w.heap.size (fun _ => True) (.slice Ao5 t311.length co5) t311) ∧ Aside0 (Below w.heap.size w w'))
  case atStart => exact ⟨(0), (by first | rfl | (simp; done) | (simp [*]; done)), H', ⟨Nat.le_refl _⟩, ⟨by (with_reducible repeat (first | apply Kd.R_alloc | apply Kd.R_drewN | apply Kd.R_drew)); exact HO314.out⟩, ⟨by (with_reducible repeat (first | apply Kd.R_alloc | apply Kd.R_drewN | apply Kd.R_drew)); exact HO314.out⟩, ⟨by repeat (first | (with_reducible first | exact HB.out | apply below_alloc | apply pw_below_drewN | apply below_drew1) | exact HB.out)⟩⟩
  case round =>
    clear H'
    obtain ⟨x20_1, rfl, HA, HK1, HO_4, HO_18, HB⟩ := hrel
    cases gk with
    | zero => exact absurd HA.out (by simp [der_PutOid.l0])
    | succ k1 =>
      have H := HA.out
      clear HA
      simp only [der_PutOid.l0] at H
      by_cases c6 : x20_1 < (t311.length : Int)
      · rw [if_pos c6] at H
        have c6b0 : decide (x20_1 < (t311.length : Int)) = true := decide_eq_true c6
        clear c6
        by_cases c7 : 0 ≤ x20_1
        rotate_left
        · rw [if_neg c7] at H
          exact absurd H (by simp)
        rw [if_pos c7] at H
        have c7b0 : decide (0 ≤ x20_1) = true := decide_eq_true c7
        clear c7
        by_cases c8 : x20_1 < (t311.length : Int)
        rotate_left
        · rw [if_neg c8] at H
          exact absurd H (by simp)
        rw [if_pos c8] at H
        have c8b0 : decide (x20_1 < (t311.length : Int)) = true := decide_eq_true c8
        clear c8
        by_cases c9 : (rd t311 x20_1) > 2147483647
        · rw [if_pos c9] at H
          have c9b0 : decide (2147483647 < (rd t311 x20_1)) = true := decide_eq_true c9
          clear c9
          simp only [Option.some.injEq, Prod.mk.injEq] at H
          obtain ⟨rfl, rfl⟩ := H
          have p315 : 0 ≤ (x20_1 : Int) := of_decide_eq_true (by first | (with_reducible assumption) | assumption)
          have q315 : x20_1 < (t311.length : Int) := of_decide_eq_true (by first | (with_reducible assumption) | assumption)
          obtain ⟨ad315, e315, hx315_0⟩ := Kd.at_int (Kd.R_reads' HO_18.out).2.2 x20_1 p315 q315
          cases e315
          replace p315 := eq_true p315
          replace q315 := eq_true q315
          go_wp2
          go_ret2
          exact ⟨_, by first | rfl | (simp [errW_none, errW_some] <;> rfl) | (simp [*, errW_none, errW_some] <;> rfl), by first | exact Kd.R_nil _ _ _ _ _ | exact Kd.N_nil _ _ _ _ _ | exact Kd.V_nil _ _ _ _ _ | exact Kd.Q_nil _ _ _ _ _ | exact Kd.S_nil _ _ _ _ _, by repeat (first | (with_reducible first | exact HB.out | apply below_alloc | apply pw_below_drewN | apply below_drew1) | exact HB.out)⟩
        rw [if_neg c9] at H
        have c9b0 : decide (2147483647 < (rd t311 x20_1)) = false := decide_eq_false c9
        clear c9
        have H' := Aside0.mk H
        clear H
        have p315 : 0 ≤ (x20_1 : Int) := of_decide_eq_true (by first | (with_reducible assumption) | assumption)
        have q315 : x20_1 < (t311.length : Int) := of_decide_eq_true (by first | (with_reducible assumption) | assumption)
        obtain ⟨ad315, e315, hx315_0⟩ := Kd.at_int (Kd.R_reads' HO_18.out).2.2 x20_1 p315 q315
        cases e315
        replace p315 := eq_true p315
        replace q315 := eq_true q315
        go_wp2
        go_roundg k1
        case measure => have := HK1.out; omega
        case rel => exact ⟨(wrap64 (x20_1 + 1)), (by first | rfl | (simp; done) | (simp [*]; done)), H', ⟨by have := HK1.out; omega⟩, ⟨by (with_reducible repeat (first | apply Kd.R_alloc | apply Kd.R_drewN | apply Kd.R_drew)); exact HO_4.out⟩, ⟨by (with_reducible repeat (first | apply Kd.R_alloc | apply Kd.R_drewN | apply Kd.R_drew)); exact HO_18.out⟩, ⟨by repeat (first | (with_reducible first | exact HB.out | apply below_alloc | apply pw_below_drewN | apply below_drew1) | exact HB.out)⟩⟩
      rw [if_neg c6] at H
      have c6b0 : decide (x20_1 < (t311.length : Int)) = false := decide_eq_false c6
      clear c6
      by_cases c10 : 0 < (t311.length : Int)
      rotate_left
      · rw [if_neg c10] at H
        exact absurd H (by simp)
      rw [if_pos c10] at H
      have c10b0 : decide (0 < (t311.length : Int)) = true := decide_eq_true c10
      have c10b1 : decide (0 < t311.length) = true := decide_eq_true (by omega)
      clear c10
      by_cases c11 : 1 < (t311.length : Int)
      rotate_left
      · rw [if_neg c11] at H
        exact absurd H (by simp)
      rw [if_pos c11] at H
      have c11b0 : decide (1 < (t311.length : Int)) = true := decide_eq_true c11
      have c11b1 : decide (1 < t311.length) = true := decide_eq_true (by omega)
      clear c11
      replace H := Option.bind_eq_some_iff.mp H
      obtain ⟨t318, A120, H⟩ := H
      replace H : (if 2 ≤ (t311.length : Int) then ((some (t311.drop 2 : List Int)).bind fun y321 => (der_PutOid.l1 k1 t318 y321 (y321.length : Int) 0)) else (none)) = some (r1, r2) := H
      have A12 := Aside0.mk A120
      clear A120
      by_cases c13 : 2 ≤ (t311.length : Int)
      rotate_left
      · rw [if_neg c13] at H
        exact absurd H (by simp)
      rw [if_pos c13] at H
      have c13b0 := eq_true c13
      have c13b1 : decide (2 ≤ (t311.length : Int)) = true := decide_eq_true c13
      clear c13
      obtain ⟨y321, hy321⟩ : ∃ y_ : List Int, y_ = (t311.drop 2) := ⟨_, rfl⟩
      replace H : (der_PutOid.l1 k1 t318 y321 (y321.length : Int) 0) = some (r1, r2) := by first | (rw [hy321]; with_reducible exact H) | (have H2_ := (Option.bind_some _ _).symm.trans H; rw [hy321]; with_reducible exact H2_) | (have H2_ := (Option.bind_some _ _).symm.trans H; with_reducible exact H2_) | with_reducible exact H | (rw [hy321]; exact H) | exact H
      have Ny321 := Aside0.mk hy321
      clear hy321
      have H' := Aside0.mk H
      clear H
      try go_wp2
      have n0_ := Aside0.mk (Kd.R_drew HO_4.out)
      have n1_ := Aside0.mk (Kd.R_drew HO_18.out)
      have n2_ := Aside0.mk (below_drew1 HB.out)
      clear HO_4
      clear HO_18
      clear HB
      have HO_4 := n0_
      have HO_18 := n1_
      have HB := n2_
      clear n0_ n1_ n2_
      have p316 : 0 ≤ (0 : Int) := (by omega)
      have q316 : 0 < (t311.length : Int) := of_decide_eq_true (by first | (with_reducible assumption) | assumption)
      obtain ⟨ad316, e316, hx316_0⟩ := Kd.at_int (Kd.R_reads' HO_4.out).2.2 0 p316 q316
      cases e316
      have qi316 : (0 < t311.length) = True := eq_true (by omega)
      (try rw [show ((0 : Int)).toNat = 0 from rfl] at hx316_0)
      (try rw [Addr.add_zero'] at hx316_0)
      replace p316 := eq_true p316
      replace q316 := eq_true q316
      have p317 : 0 ≤ (1 : Int) := (by omega)
      have q317 : 1 < (t311.length : Int) := of_decide_eq_true (by first | (with_reducible assumption) | assumption)
      obtain ⟨ad317, e317, hx317_0⟩ := Kd.at_int (Kd.R_reads' HO_4.out).2.2 1 p317 q317
      obtain rfl : ad316 = ad317 := (by injection e317)
      (try simp only [show (1 : Int).toNat = 1 from rfl, Nat.reduceMul, Nat.reduceEqDiff, Go.Addr.add, ↓reduceIte] at hx317_0)
      have qi317 : (1 < t311.length) = True := eq_true (by omega)
      (try rw [show ((1 : Int)).toNat = 1 from rfl] at hx317_0)
      replace p317 := eq_true p317
      replace q317 := eq_true q317
      refine start_ (n := 10) (S := fun w' => w'.cell? ad316 = some (.int .u64 (rd t311 0)) ∧ w'.cell? ⟨ad316.block, ad316.off + 1, none⟩ = some (.int .u64 (rd t311 1))) (ds := []) #[false, false, false, false, false, false, false, false, false, false] (by kernel_rfl) rfl rfl ⟨hx316_0, hx317_0⟩ (fun hHeld => ?_); refine with_tabW der_PutOid.tab10 der_PutOid.bits10 (fun HT_ HW_ => ?_)
      generalize wr.drew = w14 at HO_4 HO_18 HB hx316_0 hx317_0 hHeld ⊢
      refine pure_ (i := 0) (N := some 27) (v := ?_) (a' := ?_) #[true, false, false, false, false, false, false, false, false, false] rfl rfl (any_of HT_.out (by kernel_rfl)) (fun _ _ _ h => h) (Or.inl ⟨by rfl, ?_⟩) ?_ ?_; rotate_left; (intro w'; go_simp; with_reducible rfl); rotate_left; (simp only [Act.put, List.setIfInBounds_toArray, List.set_cons_zero, List.set_cons_succ, i64_w, i32_w]; rfl)
      refine pure_ (i := 1) (N := some 28) (v := ?_) (a' := ?_) #[true, true, false, false, false, false, false, false, false, false] rfl rfl (any_of HT_.out (by kernel_rfl)) (fun _ _ _ h => h) (Or.inl ⟨by rfl, ?_⟩) ?_ ?_; rotate_left; (intro w'; go_simp; with_reducible rfl); rotate_left; (simp only [Act.put, List.setIfInBounds_toArray, List.set_cons_zero, List.set_cons_succ, i64_w, i32_w]; rfl)
      refine pure_ (i := 4) (N := some 31) (v := ?_) (a' := ?_) #[true, true, false, false, true, false, false, false, false, false] rfl rfl (any_of HT_.out (by kernel_rfl)) (fun _ _ _ h => h) (Or.inl ⟨by rfl, ?_⟩) ?_ ?_; rotate_left; (intro w'; go_simp; with_reducible rfl); rotate_left; (simp only [Act.put, List.setIfInBounds_toArray, List.set_cons_zero, List.set_cons_succ, i64_w, i32_w]; rfl)
      refine pure_ (i := 5) (N := some 32) (v := ?_) (a' := ?_) #[true, true, false, false, true, true, false, false, false, false] rfl rfl (any_of HT_.out (by kernel_rfl)) (fun _ _ _ h => h) (Or.inl ⟨by rfl, ?_⟩) ?_ ?_; rotate_left; (intro w'; go_simp; with_reducible rfl); rotate_left; (simp only [Act.put, List.setIfInBounds_toArray, List.set_cons_zero, List.set_cons_succ, i64_w, i32_w]; rfl)
      refine take_ (i := 2) (N := some 29) (v := ?_) (a' := ?_) #[true, true, true, false, true, true, false, false, false, false] rfl rfl (take_ofW HT_.out HW_.out (by kernel_rfl)) (fun _ _ _ h => h) (Or.inl ⟨by rfl, ?_⟩) hHeld ?_ ?_; rotate_left; (rintro w' ⟨s0, s1⟩; go_simp; with_reducible rfl); rotate_left; (simp only [Act.put, List.setIfInBounds_toArray, List.set_cons_zero, List.set_cons_succ, i64_w, i32_w]; rfl)
      refine pure_ (i := 3) (N := some 30) (v := ?_) (a' := ?_) #[true, true, true, true, true, true, false, false, false, false] rfl rfl (any_of HT_.out (by kernel_rfl)) (fun _ _ _ h => h) (Or.inl ⟨by rfl, ?_⟩) ?_ ?_; rotate_left; (intro w'; go_simp; with_reducible rfl); rotate_left; (simp only [Act.put, List.setIfInBounds_toArray, List.set_cons_zero, List.set_cons_succ, i64_w, i32_w]; rfl)
      refine take_ (i := 6) (N := some 33) (v := ?_) (a' := ?_) #[true, true, true, true, true, true, true, false, false, false] rfl rfl (take_ofW HT_.out HW_.out (by kernel_rfl)) (fun _ _ _ h => h) (Or.inl ⟨by rfl, ?_⟩) hHeld ?_ ?_; rotate_left; (rintro w' ⟨s0, s1⟩; go_simp; with_reducible rfl); rotate_left; (simp only [Act.put, List.setIfInBounds_toArray, List.set_cons_zero, List.set_cons_succ, i64_w, i32_w]; rfl)
      refine pure_ (i := 7) (N := some 34) (v := ?_) (a' := ?_) #[true, true, true, true, true, true, true, true, false, false] rfl rfl (any_of HT_.out (by kernel_rfl)) (fun _ _ _ h => h) (Or.inl ⟨by rfl, ?_⟩) ?_ ?_; rotate_left; (intro w'; go_simp; with_reducible rfl); rotate_left; (simp only [Act.put, List.setIfInBounds_toArray, List.set_cons_zero, List.set_cons_succ, i64_w, i32_w]; rfl)
      refine one_ (i := 8) (N := some 35) #[true, true, true, true, true, true, true, true, true, false] rfl rfl (one_of HT_.out (by kernel_rfl)) (by decide) (fun K hK => ?_)
      refine goes_ Tryz.func219 (by kernel_rfl) rfl #[.int .u64 (IntKind.u64.wrap ((IntKind.u64.wrap (40 * (rd t311 0))) + (rd t311 1)))] (by rfl) rfl rfl (by (try simp only [List.map_toArray, List.map_cons, List.map_nil]); first | done | rfl | (simp only [List.length_drop, List.length_take]; rfl)) ?_
      with_reducible refine (der_seven.calls k1 (IntKind.u64.wrap ((IntKind.u64.wrap (40 * (rd t311 0))) + (rd t311 1))) t318 _ A12.out).mono ?_
      rintro e w15 ⟨v319, rfl, ho0, hb⟩
      have HS0_ := (hb.cell (World.block_lt_of_cell? _ _ (hHeld.1))).trans (hHeld.1)
      have HS1_ := (hb.cell (World.block_lt_of_cell? _ _ (hHeld.2))).trans (hHeld.2)
      refine ⟨_, rfl, ?_⟩
      have n0_ := Aside0.mk (Kd.R_below (by (with_reducible repeat (first | apply Kd.R_alloc | apply Kd.R_drewN | apply Kd.R_drew)); exact HO_4.out) hb)
      have n1_ := Aside0.mk (Kd.R_below (by (with_reducible repeat (first | apply Kd.R_alloc | apply Kd.R_drewN | apply Kd.R_drew)); exact HO_18.out) hb)
      have n2_ := Aside0.mk (Kd.R_lower ho0 (below_size (by repeat (first | (with_reducible first | exact HB.out | apply below_alloc | apply pw_below_drewN | apply below_drew1) | exact HB.out))))
      have n3_ := Aside0.mk (below_step (by repeat (first | (with_reducible first | exact HB.out | apply below_alloc | apply pw_below_drewN | apply below_drew1) | exact HB.out)) hb)
      clear HO_4
      clear HO_18
      clear HB
      have HO_4 := n0_
      have HO_18 := n1_
      have HO320 := n2_
      have HB := n3_
      clear n0_ n1_ n2_ n3_
      (try clear hb)
      (try clear hb2)
      (try clear hk)
      (try clear hi)
      (try clear ho0)
      refine hK.out _ _ ⟨HS0_, HS1_⟩ (fun hHeld => ?_)
      clear hK K
      refine norm_ (a' := ?_) ?_ ?_; rotate_left; (show Act.put _ (some 35) _ = _; simp only [Act.put, List.setIfInBounds_toArray, List.set_cons_zero, List.set_cons_succ, i64_w, i32_w]; rfl)
      refine pure_ (i := 9) (N := some 8) (v := ?_) (a' := ?_) #[true, true, true, true, true, true, true, true, true, true] rfl rfl (any_of HT_.out (by kernel_rfl)) (fun _ _ _ h => h) (Or.inl ⟨by rfl, ?_⟩) ?_ ?_; rotate_left; (intro w'; go_simp; with_reducible rfl); rotate_left; (simp only [Act.put, List.setIfInBounds_toArray, List.set_cons_zero, List.set_cons_succ, i64_w, i32_w]; rfl)
      refine done_ (done_of HT_.out (by kernel_rfl)) ?_
      have q16 : (2 : Int) ≤ ((t311.length : Int) : Int) := of_decide_eq_true (by first | (with_reducible assumption) | assumption)
      obtain ⟨i016, hi016, _, hsz16, _⟩ := info_parts info278
      have hroom16 : t311.length ≤ co5 := (Kd.R_reads' HO_4.out).2.1
      have hC16 : Kd.C (Kd.int .u64) _ (some ad316) t311.length t311 := (Kd.R_reads' HO_4.out).2.2
      have hcut16 := cut_from (P := Tryz.prog) 277 278 .i64 Tryz.underlying277 hi016 1 hsz16 (some ad316) t311.length co5 2 (by omega) q16
      have hr16 := Kd.C_drop (m := (2 : Int).toNat) (c := co5) hC16 (by omega) hroom16
      obtain ⟨A16, hA16⟩ : ∃ A1, A1 = (if co5 = (2 : Int).toNat then (some ad316) else ((some ad316) : Option Addr).map (·.add ((2 : Int).toNat * 1))) := ⟨_, rfl⟩
      obtain ⟨c16, hc16⟩ : ∃ c1, c1 = co5 - (2 : Int).toNat := ⟨_, rfl⟩
      have hy16 : y321.length = t311.length - (2 : Int).toNat := (by rw [Ny321.out, List.length_drop] <;> omega)
      rw [show (t311).drop (2 : Int).toNat = y321 from Ny321.out.symm] at hr16
      replace hr16 : Kd.C (Kd.int .u64) _ A16 y321.length y321 := (by rw [hA16]; exact hr16)
      rw [← hy16, ← hA16, ← hc16] at hcut16
      have HDR : Aside0 (∀ W' : World, Kd.C (Kd.int .u64) W' (some ad316) t311.length t311 → Kd.C (Kd.int .u64) W' A16 y321.length y321) := ⟨fun W' hC_ => by
        have h_ := Kd.C_drop (m := (2 : Int).toNat) (c := co5) hC_ (by omega) hroom16
        rw [show (t311).drop (2 : Int).toNat = y321 from Ny321.out.symm] at h_
        rw [hA16]; exact h_⟩
      have HR324 := Aside0.mk hr16
      have HC324 := Aside0.mk (show y321.length ≤ c16 from by rw [hy16, hc16]; exact Nat.sub_le_sub_right hroom16 _)
      clear hr16 hC16 hroom16 hi016 hsz16 hc16
      have KY16 := Aside0.mk hy16
      have KA16 := Aside0.mk hA16
      clear hy16 hA16
      have KL16 := Aside0.mk (show 2 ≤ t311.length from by omega)
      replace q16 := eq_true q16
      try go_wp2
      go_loopg [8, 39] k1 (fun kq v8 v39 w' => ∃ (x8_2 : List Int) (x39_2 : Int), v39 = .int .i64 x39_2 ∧ Aside0 (der_PutOid.l1 kq x8_2 y321 (y321.length : Int) x39_2 = some (r1, r2)) ∧ Aside0 (kq ≤ k1) ∧ Aside0 (Kd.R (Kd.int .u8) 5 w' w.heap.size (fun _ => True) v8 x8_2) ∧ Aside0 (Below w.heap.size w w') ∧ Aside0 (Kd.R (Kd.int .u64) 278 w' w.heap.size (fun _ => True) (.slice (some ad316) t311.length co5) t311))
      case atStart => exact ⟨(t318), (0), (by first | rfl | (simp; done) | (simp [*]; done)), H', ⟨Nat.le_refl _⟩, ⟨by (with_reducible repeat (first | apply Kd.R_alloc | apply Kd.R_drewN | apply Kd.R_drew)); exact HO320.out⟩, ⟨by repeat (first | (with_reducible first | exact HB.out | apply below_alloc | apply pw_below_drewN | apply below_drew1) | exact HB.out)⟩, ⟨by (with_reducible repeat (first | apply Kd.R_alloc | apply Kd.R_drewN | apply Kd.R_drew)); exact Kd.R_mono HO_4.out (fun _ _ => trivial)⟩⟩
      case round =>
        clear H'
        obtain ⟨x8_2, x39_2, rfl, HA, HK2, HO_8, HB, HO_4⟩ := hrel
        cases gk with
        | zero => exact absurd HA.out (by simp [der_PutOid.l1])
        | succ k2 =>
          have H := HA.out
          clear HA
          simp only [der_PutOid.l1] at H
          by_cases c17 : x39_2 < (y321.length : Int)
          rotate_left
          · rw [if_neg c17] at H
            have c17b0 : decide (x39_2 < (y321.length : Int)) = false := decide_eq_false c17
            clear c17
            simp only [Option.some.injEq, Prod.mk.injEq] at H
            obtain ⟨rfl, rfl⟩ := H
            go_wp2
            go_ret2
            exact ⟨_, by first | rfl | (simp [errW_none, errW_some] <;> rfl) | (simp [*, errW_none, errW_some] <;> rfl), by (with_reducible repeat (first | apply Kd.R_alloc | apply Kd.R_drewN | apply Kd.R_drew)); exact HO_8.out, by repeat (first | (with_reducible first | exact HB.out | apply below_alloc | apply pw_below_drewN | apply below_drew1) | exact HB.out)⟩
          rw [if_pos c17] at H
          have c17b0 : decide (x39_2 < (y321.length : Int)) = true := decide_eq_true c17
          clear c17
          by_cases c18 : 0 ≤ x39_2
          rotate_left
          · rw [if_neg c18] at H
            exact absurd H (by simp)
          rw [if_pos c18] at H
          have c18b0 : decide (0 ≤ x39_2) = true := decide_eq_true c18
          clear c18
          by_cases c19 : x39_2 < (y321.length : Int)
          rotate_left
          · rw [if_neg c19] at H
            exact absurd H (by simp)
          rw [if_pos c19] at H
          have c19b0 : decide (x39_2 < (y321.length : Int)) = true := decide_eq_true c19
          clear c19
          replace H := Option.bind_eq_some_iff.mp H
          obtain ⟨t326, A200, H⟩ := H
          replace H : (if x8_2.length + t326.length < 140737488355328 then (der_PutOid.l1 k2 (x8_2 ++ t326) y321 (y321.length : Int) (wrap64 (x39_2 + 1))) else (none)) = some (r1, r2) := H
          have A20 := Aside0.mk A200
          clear A200
          by_cases c21 : x8_2.length + t326.length < 140737488355328
          rotate_left
          · rw [if_neg c21] at H
            exact absurd H (by simp)
          rw [if_pos c21] at H
          have LMc21 := Aside0.mk c21
          clear c21
          obtain ⟨y329, hy329⟩ : ∃ y_ : List Int, y_ = (x8_2 ++ t326) := ⟨_, rfl⟩
          replace H : (der_PutOid.l1 k2 y329 y321 (y321.length : Int) (wrap64 (x39_2 + 1))) = some (r1, r2) := by first | (rw [hy329]; with_reducible exact H) | (have H2_ := (Option.bind_some _ _).symm.trans H; rw [hy329]; with_reducible exact H2_) | (have H2_ := (Option.bind_some _ _).symm.trans H; with_reducible exact H2_) | with_reducible exact H | (rw [hy329]; exact H) | exact H
          have Ny329 := Aside0.mk hy329
          clear hy329
          have H' := Aside0.mk H
          clear H
          have p325 : 0 ≤ (x39_2 : Int) := of_decide_eq_true (by first | (with_reducible assumption) | assumption)
          have q325 : x39_2 < (y321.length : Int) := of_decide_eq_true (by first | (with_reducible assumption) | assumption)
          obtain ⟨ad325, e325, hx325_0⟩ := Kd.at_int (HDR.out _ (Kd.R_reads' HO_4.out).2.2) x39_2 p325 q325
          cases e325
          replace p325 := eq_true p325
          replace q325 := eq_true q325
          go_wp2_with (first | ((with_reducible refine gate_callee (f := 219) rfl ?_); refine goesL_ (some 45) rfl rfl Tryz.func219 (by kernel_rfl) rfl #[.int .u64 (rd y321 x39_2)] rfl (by (try simp only [List.map_toArray, List.map_cons, List.map_nil]); first | done | rfl | (simp only [List.length_drop, List.length_take]; rfl)) ?_; (with_reducible refine (der_seven.calls k2 (rd y321 x39_2) t326 _ A20.out).mono ?_); rintro e w22 ⟨v327, rfl, ho0, hb⟩; refine ⟨_, rfl, ?_⟩; have n0_ := Aside0.mk (Kd.R_elder' (by (with_reducible repeat (first | apply Kd.R_alloc | apply Kd.R_drewN | apply Kd.R_drew)); exact HO_8.out) (Kd.R_base ho0) hb); have n1_ := Aside0.mk (Kd.R_lower (Kd.R_new' ho0 (Kd.R_lt (by (with_reducible repeat (first | apply Kd.R_alloc | apply Kd.R_drewN | apply Kd.R_drew)); exact HO_8.out))) (below_size (by repeat (first | (with_reducible first | exact HB.out | apply below_alloc | apply pw_below_drewN | apply below_drew1) | exact HB.out)))); have n2_ := Aside0.mk (below_step (by repeat (first | (with_reducible first | exact HB.out | apply below_alloc | apply pw_below_drewN | apply below_drew1) | exact HB.out)) hb); have n9_ := Aside0.mk (Kd.R_below (by (with_reducible repeat (first | apply Kd.R_alloc | apply Kd.R_drewN | apply Kd.R_drew)); exact HO_4.out) hb); clear HO_4; have HO_4 := n9_; clear n9_; clear HO_8; clear HB; have HO_8 := n0_; have HO328 := n1_; have HB := n2_; clear n0_ n1_ n2_; (try clear hb); (try clear hb2); (try clear hk); (try clear hi); (try clear ho0); obtain ⟨Ao24, co24, eo24⟩ := Kd.R_slice HO328.out; subst eo24) | ((with_reducible refine gate_builtin (b := .append) (xs := #[.tmp 43, .tmp 45]) rfl ?_); at_builtin; refine Kd.R_append_rows (Kd.int .u8) (w0 := w) w.heap.size rfl (.tmp 43) (.tmp 45) 22 5 (.int .u8 0) 1 rfl Tryz.underlying22 info5 rfl (by decide) (by omega) u8 x8_2 t326 _ _ _ (fun k_ => some k_ ≠ (.slice Ao24 t326.length co24 : Value).ownBlock) (fun _ => False) rfl rfl ?aO ?aR (fun _ _ h => h) (fun _ h => h.elim) ?aF ?aB ?aS ?aL ?_; (case aR => repeat (first | exact (Kd.R_reads' HO328.out).2.2 | (with_reducible refine Kd.C_alloc ?_ _) | (with_reducible refine Kd.C_drewN ?_ _) | (with_reducible refine Kd.C_drew ?_))); (case aB => exact (by repeat (first | (with_reducible first | exact HB.out | apply below_alloc | apply pw_below_drewN | apply below_drew1) | exact HB.out))); (case aF => exact (fun k_ hk => Kd.fresh' (Kd.R_lt (by (with_reducible repeat (first | apply Kd.R_alloc | apply Kd.R_drewN | apply Kd.R_drew)); exact HO328.out)) k_ hk)); (case aO => exact (by (with_reducible repeat (first | apply Kd.R_alloc | apply Kd.R_drewN | apply Kd.R_drew)); exact Kd.R_mono HO_8.out (fun _ hk => hk.2))); (case aS => exact (below_size (by repeat (first | (with_reducible first | exact HB.out | apply below_alloc | apply pw_below_drewN | apply below_drew1) | exact HB.out)))); (case aL => have := LMc21.out; omega); intro v330 w23 ho hb hg hat; rw [← Ny329.out] at ho; have n9_ := Aside0.mk (Kd.R_mono (Kd.R_grown (Kd.R_apart' (by (with_reducible repeat (first | apply Kd.R_alloc | apply Kd.R_drewN | apply Kd.R_drew)); exact HO_4.out) (Kd.R_typed (by (with_reducible repeat (first | apply Kd.R_alloc | apply Kd.R_drewN | apply Kd.R_drew)); exact Kd.R_mono HO_8.out (fun _ hk => hk.2))) (by decide)) hg (fun _ hk => hk.2)) (fun _ _ => trivial)); clear HO_4; have HO_4 := n9_; clear n9_; have n0_ := Aside0.mk (Kd.R_after (ok := (fun _ => True)) (by (with_reducible repeat (first | apply Kd.R_alloc | apply Kd.R_drewN | apply Kd.R_drew)); exact HO328.out) hg hat); have n1_ := Aside0.mk (hb); have n2_ := Aside0.mk (ho); clear HO328; clear HB; clear HO_8; have HO328 := n0_; have HB := n1_; have HO331 := n2_; clear n0_ n1_ n2_; clear ho hb hg hat))
          go_roundg k2
          case measure => have := HK1.out; have := HK2.out; omega
          case rel => exact ⟨(y329), (wrap64 (x39_2 + 1)), (by first | rfl | (simp; done) | (simp [*]; done)), H', ⟨by have := HK1.out; have := HK2.out; omega⟩, ⟨by (with_reducible repeat (first | apply Kd.R_alloc | apply Kd.R_drewN | apply Kd.R_drew)); exact Kd.R_mono HO331.out (fun _ hk => trivial)⟩, ⟨by repeat (first | (with_reducible first | exact HB.out | apply below_alloc | apply pw_below_drewN | apply below_drew1) | exact HB.out)⟩, ⟨by (with_reducible repeat (first | apply Kd.R_alloc | apply Kd.R_drewN | apply Kd.R_drew)); exact HO_4.out⟩⟩
end Go.Proofs.YtkioddjjfifadaaGreatDoor.P
namespace Go.Proofs.YtkioddjjfifadaaGreatDoor.P
open Go.RowKit Go.Proofs.YtkioddjjfifadaaGreatDoorW.PrintWords Go.Proofs.YtkioddjjfifadaaGreatDoorW.PrintLast Go.Proofs.YtkioddjjfifadaaGreatDoorW.PrintMore
/-- The cells of the example's name. -/
theorem n07_open {w : World} {A : Option Addr} (h : Kd.C (Kd.slice 64 k64) w A 1 n07) : ∃ ad bd B b X x, A = some ad ∧ B = some bd ∧ w.cell? ad = some (.slice B 1 b) ∧ w.cell? bd = some (.string p07.f0) ∧ w.cell? ⟨bd.block, bd.off + 1, none⟩ = some (.int .i64 19) ∧ w.cell? ⟨bd.block, bd.off + 2, none⟩ = some (.slice X 2 x) ∧ 1 ≤ b ∧ Kd.C k64 w B 1 [p07] ∧ 2 ≤ x ∧ Kd.C (Kd.int .u8) w X 2 [68, 69] := by
  obtain ⟨ad, B, b, rfl, h0, lb, hB⟩ := at_L5 h 0 (Int.le_refl _) (by decide)
  rw [show (0 : Int).toNat = 0 from rfl, Addr.add_zero'] at h0
  obtain ⟨bd, X, x, e, g0, g1, g2, lx, hX⟩ := at_T64 hB 0 (Int.le_refl _) (by decide)
  rw [show (0 : Int).toNat * 3 = 0 from rfl, Addr.add_zero'] at g0 g1 g2
  exact ⟨ad, bd, B, b, X, x, rfl, e, h0, g0, g1, g2, lb, hB, lx, hX⟩
theorem new_alloc (A : World) (o : Obj) : (A.alloc o).heap[A.heap.size]? = some o := by
  show (A.heap.push o)[A.heap.size]? = _
  simp
abbrev kB : Kd (List Int) := Kd.slice 5 (Kd.int .u8)
theorem kB_mk {w : World} {A : Option Addr} {c : Nat} {l : List Int} (hl : l.length ≤ c) (h : Kd.C (Kd.int .u8) w A l.length l) : kB.K w l [.slice A l.length c] := ⟨A, c, rfl, hl, h⟩
theorem C_row2 {α : Type} (d : Kd α) (h1 : d.sz = 1) {w : World} {g : Nat} {x y : α} {u v : Value} {t : TypeId} {fr : Nat × Nat} (hK : d.K w x [u]) (hL : d.K w y [v]) (hg : w.heap[g]? = some (.cells #[u, v] t fr)) : d.C w (some ⟨g, 0, none⟩) 2 [x, y] := by
  refine ⟨rfl, by decide, fun _ => ⟨_, rfl, fun j z hj => ?_⟩⟩
  match j, hj with
  | 0, hj =>
    obtain rfl : x = z := by simpa using hj
    refine ⟨[u], d.K_len hK, hK, fun i a ha => ?_⟩
    rw [h1, add_plain, cell_of_row w g _ _ t fr hg]
    match i, ha with
    | 0, ha => exact ha
    | i + 1, ha => simp at ha
  | 1, hj =>
    obtain rfl : y = z := by simpa using hj
    refine ⟨[v], d.K_len hL, hL, fun i a ha => ?_⟩
    rw [h1, add_plain, cell_of_row w g _ _ t fr hg]
    match i, ha with
    | 0, ha => exact ha
    | i + 1, ha => simp at ha
  | j + 2, hj => simp at hj
set_option maxHeartbeats 4000000 in
set_option maxRecDepth 100000 in
theorem lay_at (w : World) (X : Option Addr) (x : Nat) (hx : 2 ≤ x) (hX : Kd.C (Kd.int .u8) w X 2 [68, 69]) :
    Calls Tryz.prog 149 #[.agg #[.string p07.f0, .int .i64 19, .slice X 2 x]] w fun e w' => ∃ V v, e = .returned (.tuple #[.slice V 11 v, .nilIface]) ∧ Kd.R (Kd.int .u8) 5 w' w.heap.size (fun _ => True) (.slice V 11 v) e77.f4 ∧ Below w.heap.size w w' := by
  have hu64 := Tryz.underlying64
  have ho : der_PutOid.f 100 p07.f0 = some ([85, 4, 6], 0) := by kernel_rfl
  have hp : der_Put.f 100 0 6 false [[85, 4, 6]] = some ([6, 3, 85, 4, 6], 0) := by kernel_rfl
  have hq : der_Put.f 100 0 19 false [[68, 69]] = some ([19, 2, 68, 69], 0) := by kernel_rfl
  have ha : name_about.f 100 16 [[6, 3, 85, 4, 6], [19, 2, 68, 69]] = some (e77.f4, 0) := by kernel_rfl
  have HX := Aside0.mk hX
  have HO := Aside0.mk ho
  have HP := Aside0.mk hp
  have HQ := Aside0.mk hq
  have HA := Aside0.mk ha
  clear hX ho hp hq ha
  go_enter Tryz.func149, Tryz.ntmps149
  go_wp2_with ((with_reducible refine gate_dst (N := 1) rfl ?_); refine box_event ?hg (N := 1) ?hd (cs := #[.string p07.f0, .int .i64 19, .slice X 2 x]) (t := 64) ?hr ?_; (case hd => rfl); (case hg => rfl); (case hr => first | (go_simp; done) | (go_simp; rfl)); intro g1 hg w1 hbox hb; have HB := Aside0.mk hb; have BK := Aside0.mk hbox; have hc0 : w1.cell? ⟨g1, 0, none⟩ = some (.string p07.f0) := (blk_cell BK.out 0).trans rfl; clear hb hbox hg)
  refine (der_PutOid.calls 100 p07.f0 [85, 4, 6] 0 _ HO.out).mono ?_
  rintro e w2 ⟨v, rfl, ho, hb⟩
  obtain ⟨C, c, rfl⟩ := Kd.R_slice ho
  have HC := Aside0.mk (Kd.R_reads' ho)
  have HB2 := Aside0.mk (below_step HB.out hb)
  have BK2 := Aside0.mk (blk_below BK.out hb)
  clear ho hb HB BK hc0 HO
  have hc1 : w2.cell? ⟨g1, 1, none⟩ = some (.int .i64 19) := (blk_cell BK2.out 1).trans rfl
  go_wp2_with fail
  refine (der_Put.calls 100 0 6 false _ 1 [[85, 4, 6]] [6, 3, 85, 4, 6] 0 _ (C_row1 kB (more := []) (kB.K_below (below_alloc (Below.refl w2.heap.size w2) _) (kB_mk HC.out.2.1 HC.out.2.2)) (new_alloc _ _)) (Nat.le_refl 1) HP.out).mono ?_
  rintro e w3 ⟨v, rfl, ho, hb⟩
  obtain ⟨D, d, rfl⟩ := Kd.R_slice ho
  have HD := Aside0.mk (Kd.R_reads' ho)
  have HB3 := Aside0.mk (below_step (below_alloc HB2.out _) hb)
  have BK3 := Aside0.mk (blk_below (blk_alloc BK2.out _) hb)
  clear ho hb HB2 BK2 hc1 HP HC
  have hc1 : w3.cell? ⟨g1, 1, none⟩ = some (.int .i64 19) := (blk_cell BK3.out 1).trans rfl
  have hc2 : w3.cell? ⟨g1, 2, none⟩ = some (.slice X 2 x) := (blk_cell BK3.out 2).trans rfl
  go_wp2_with fail
  refine (der_Put.calls 100 0 19 false _ 1 [[68, 69]] [19, 2, 68, 69] 0 _ (C_row1 kB (more := []) (kB.K_below (below_alloc HB3.out _) (kB_mk hx HX.out)) (new_alloc _ _)) (Nat.le_refl 1) HQ.out).mono ?_
  rintro e w4 ⟨v, rfl, ho, hb⟩
  obtain ⟨F, f, rfl⟩ := Kd.R_slice ho
  have HF := Aside0.mk (Kd.R_reads' ho)
  have HD4 := Aside0.mk (Kd.C_below (Kd.C_alloc HD.out.2.2 _) hb)
  have LD := Aside0.mk HD.out.2.1
  have HB4 := Aside0.mk (below_step (below_alloc HB3.out _) hb)
  clear ho hb HB3 BK3 hc1 hc2 HQ HD HX
  go_wp2_with fail
  refine (name_about.calls 100 16 _ 2 [[6, 3, 85, 4, 6], [19, 2, 68, 69]] e77.f4 0 _ (C_row2 kB rfl (kB_mk LD.out (Kd.C_alloc HD4.out _)) (kB_mk HF.out.2.1 (Kd.C_alloc HF.out.2.2 _)) (new_alloc _ _)) (Nat.le_refl 2) HA.out).mono ?_
  rintro e w5 ⟨v, ev, rfl, hev, ho, hb⟩
  obtain rfl := EV.nil_of hev rfl
  obtain ⟨G, g, rfl⟩ := Kd.R_slice ho
  have HG := Aside0.mk (Kd.R_lower ho (below_size (below_alloc HB4.out _)))
  have HB5 := Aside0.mk (below_step (below_alloc HB4.out _) hb)
  clear ho hb HB4 HD4 LD HF HA
  go_wp2_with fail
  go_ret2
  exact ⟨_, _, rfl, HG.out, HB5.out⟩
set_option maxHeartbeats 4000000 in
set_option maxRecDepth 100000 in
theorem build_at (w : World) (A : Option Addr) (c : Nat) (hA : Kd.C (Kd.slice 64 k64) w A 1 n07) (hc : 1 ≤ c) :
    Calls Tryz.prog 84 #[.slice A 1 c] w fun e w' => ∃ V v, e = .returned (.tuple #[.slice V 15 v, .nilIface]) ∧ 15 ≤ v ∧ Kd.C (Kd.int .u8) w' V 15 b07 ∧ Below w.heap.size w w' := by
  have hu64 := Tryz.underlying64
  have hcf : slices_ContainsFunc.f n07 = some false := by kernel_rfl
  have hso : slices_SortFunc.f [e77.f4] = some [e77.f4] := by kernel_rfl
  have ha : name_about.f 100 17 [e77.f4] = some (49 :: 11 :: e77.f4, 0) := by kernel_rfl
  have hb0 : name_about.f 100 16 [49 :: 11 :: e77.f4] = some (b07, 0) := by kernel_rfl
  have HN := Aside0.mk hA
  have HCF := Aside0.mk hcf
  have HSO := Aside0.mk hso
  have HA := Aside0.mk ha
  have HZ := Aside0.mk hb0
  clear hcf hso ha hb0
  obtain ⟨ad, bd, B1, b, X, x, rfl, rfl, h0, g0, g1, g2, lb, hB1, lx, hX⟩ := n07_open hA
  clear hA hB1
  have HX := Aside0.mk hX
  clear hX
  go_enter Tryz.func84, Tryz.ntmps84
  go_wp2_with fail
  refine (slices_ContainsFunc.calls (some ad) c n07 false _ HN.out hc HCF.out).mono ?_
  rintro e w1 ⟨rfl, hb⟩
  have HB := Aside0.mk hb
  replace h0 := (hb.cell (World.block_lt_of_cell? w _ h0)).trans h0
  replace g0 := (hb.cell (World.block_lt_of_cell? w _ g0)).trans g0
  replace g1 := (hb.cell (World.block_lt_of_cell? w _ g1)).trans g1
  replace g2 := (hb.cell (World.block_lt_of_cell? w _ g2)).trans g2
  have HX1 := Aside0.mk (Kd.C_below HX.out hb)
  clear hb HX HN HCF
  go_wp2_with fail
  refine wp_loop_rounds 2 ?_
  rw [rounds_succ]
  go_wp2_with fail
  refine wp_loop_rounds 2 ?_
  rw [rounds_succ]
  go_wp2_with fail
  have HB1 := Aside0.mk (below_alloc HB.out (.cells #[.string p07.f0, .int .i64 19, .slice X 2 x] 64))
  refine (lay_at _ X x lx (Kd.C_alloc HX1.out _)).mono ?_
  rintro e w2 ⟨V, v, rfl, ho, hb⟩
  have HR := Aside0.mk (Kd.R_lower ho (below_size HB1.out))
  have HB2 := Aside0.mk (below_step HB1.out hb)
  clear ho hb HB HB1 HX1 h0 g0 g1 g2
  go_wp2_with ((with_reducible refine gate_builtin (b := .append) (xs := #[.tmp 54, .tmp 56]) rfl ?_); at_builtin; refine Kd.R_append (Kd.slice 5 (Kd.int .u8)) (w0 := w) w.heap.size rfl (.tmp 54) (.tmp 56) 67 22 (.slice none 0 0) 24 rfl Tryz.underlying67 info22 rfl (by decide) (by omega) (.slice none 0 0) [] e77.f4 [.slice V 11 v] (fun _ => True) (fun k_ => some k_ = (.slice V 11 v : Value).ownBlock) rfl rfl ?aP (fun _ _ => ⟨trivial, fun h => by cases h⟩) (fun _ _ => trivial) (Kd.R_nil _ _ _ _ _) HB2.out (below_size HB2.out) (by decide) ?_; (case aP => exact Kd.M_row (Kd.R_tight rfl HR.out)); intro v5 w3 ho hb hgr hat; have HO := Aside0.mk ho; have HB3 := Aside0.mk hb; clear ho hb hgr hat HB2 HR)
  rw [rounds_succ]
  obtain ⟨Y, y, eY⟩ := Kd.R_slice HO.out
  subst eY
  go_wp2_with fail
  refine (sortfunc_own w _ [e77.f4] [e77.f4] (fun _ => True) _ HO.out HB3.out HSO.out).mono ?_
  rintro e w4 ⟨rfl, ho, hgr, hb⟩
  have HC := Aside0.mk (Kd.R_reads' ho)
  have HB := Aside0.mk hb
  clear ho hgr hb HO HB3 HSO
  go_wp2_with fail
  refine (name_about.calls 100 17 Y y [e77.f4] (49 :: 11 :: e77.f4) 0 _ HC.out.2.2 HC.out.2.1 HA.out).mono ?_
  rintro e w5 ⟨v6, ev, rfl, hev, ho, hb⟩
  obtain rfl := EV.nil_of hev rfl
  obtain ⟨G, g, rfl⟩ := Kd.R_slice ho
  have HG := Aside0.mk (Kd.R_reads' ho)
  have HB5 := Aside0.mk (below_step HB.out hb)
  clear ho hb HB HC HA hev
  go_wp2_with fail
  rw [rounds_succ]
  go_wp2_with fail
  have hb2 : Below w5.heap.size w5 _ := below_drew1 (below_alloc (below_alloc (Below.refl w5.heap.size w5) (.cells #[.slice G 13 g] 22)) (.cells (#[.slice G 13 g] ++ Builtin.zeroCells #[.slice none 0 0] ((Question.appendCap 1 0 22).cut (w5.tape w5.drawn (Question.appendCap 1 0 22)) - 1)) 22))
  refine (name_about.calls 100 16 _ _ [49 :: 11 :: e77.f4] b07 0 _ (C_row1 kB (cs := [.slice G 13 g]) (more := (Builtin.zeroCells #[.slice none 0 0] ((Question.appendCap 1 0 22).cut (w5.tape w5.drawn (Question.appendCap 1 0 22)) - 1)).toList) (kB.K_below hb2 (kB_mk HG.out.2.1 HG.out.2.2)) ((at_alloc _ _ _ (by show (w5.heap.push _).size = _; simp)).trans (congrArg (fun z => some (Obj.cells z 22 (0, 0))) (arr_app #[.slice G 13 g] _)))) (Nat.le_add_right 1 _) HZ.out).mono ?_
  rintro e w6 ⟨v6, ev, rfl, hev, ho, hb⟩
  obtain rfl := EV.nil_of hev rfl
  obtain ⟨I, i, rfl⟩ := Kd.R_slice ho
  have HI := Aside0.mk (Kd.R_reads' ho)
  have HB6 := Aside0.mk (below_step (below_step HB5.out hb2) hb)
  clear ho hb hb2 HB5 HG HZ hev
  go_wp2_with fail
  go_ret2
  exact ⟨_, _, rfl, HI.out.2.1, HI.out.2.2, HB6.out⟩
set_option maxRecDepth 100000 in
set_option maxHeartbeats 4000000 in
theorem Build_at (w : World) (A : Option Addr) (c : Nat) (hA : Kd.C (Kd.slice 64 k64) w A 1 n07) (hc : 1 ≤ c) (hD : Hd w) :
    Calls Tryz.prog 41 #[.slice A 1 c] w fun e w' => ∃ V v, e = .returned (.tuple #[.slice V 15 v, .int .i64 0]) ∧ 15 ≤ v ∧ Kd.C (Kd.int .u8) w' V 15 b07 ∧ Below w.heap.size w w' := by
  have HD := Aside0.mk hD
  clear hD
  go_enter Tryz.func41, Tryz.ntmps41
  go_wp2_with fail
  refine (build_at _ A c hA hc).mono ?_
  rintro e w1 ⟨X, x, rfl, hx, hC, hb⟩
  have HC := Aside0.mk hC
  have HB := Aside0.mk hb
  have HD1 := Aside0.mk (HD.out.below hb)
  clear hC hb HD
  go_wp2_with fail
  refine (name_number_ev EV.nil _ HD1.out).mono ?_
  rintro e w2 ⟨rfl, hb⟩
  have HC2 := Aside0.mk (Kd.C_below HC.out hb)
  have HB2 := Aside0.mk (below_step HB.out hb)
  clear hb HC HB
  go_wp2_with fail
  go_ret2
  exact ⟨_, _, rfl, hx, HC2.out, HB2.out⟩
end Go.Proofs.YtkioddjjfifadaaGreatDoor.P
namespace Go.Proofs.YtkioddjjfifadaaGreatDoor.P
open Go.RowKit Go.Proofs.YtkioddjjfifadaaGreatDoorW.PrintWords Go.Proofs.YtkioddjjfifadaaGreatDoorW.PrintLast Go.Proofs.YtkioddjjfifadaaGreatDoorW.PrintMore
attribute [local go_sem] max2_int min2_int max_two min_two max_three min_three max_four min_four   -- for this text's walks alone
set_option linter.unusedVariables false
set_option linter.unusedSimpArgs false
def chirographlaw07_num.f (a0 : Int) : Option (Int) := some a0
set_option maxHeartbeats 8000000 in
set_option maxRecDepth 100000 in
theorem chirographlaw07_num.calls (a0 : Int) (r : Int) (w : World) (h : chirographlaw07_num.f a0 = some r) :
    Calls Tryz.prog 37 #[.int .i64 a0] w fun e w' => e = .returned (.int .i64 r) ∧ Drawn0 w w' := by
  have H : (some a0) = some r := h
  clear h
  obtain rfl := Option.some.inj H
  go_enter Tryz.func37, Tryz.ntmps37
  go_wp2
  go_ret
  exact ⟨by first | rfl | (simp; done) | (simp [*]; done), by repeat (first | exact Drawn0.refl _ | apply Drawn0.step)⟩
def chirographref01_SameBytes.l0 : Nat → List Int → List Int → Int → Option (Bool)
  | 0, _, _, _ => none
  | k + 1, x0, x1, x5 => if x5 < (x0.length : Int) then (if 0 ≤ x5 then (if x5 < (x1.length : Int) then (if (rd x0 x5) = (rd x1 x5) then (chirographref01_SameBytes.l0 k x0 x1 (wrap64 (x5 + 1))) else (some false)) else (none)) else (none)) else (some true)
def chirographref01_SameBytes.f (k : Nat) (l0 : List Int) (l1 : List Int) : Option (Bool) := if (l0.length : Int) = (l1.length : Int) then (chirographref01_SameBytes.l0 k l0 l1 0) else (some false)
set_option maxHeartbeats 8000000 in
set_option maxRecDepth 100000 in
theorem chirographref01_SameBytes.calls (k : Nat) (A0 : Option Addr) (c0 : Nat) (l0 : List Int) (A1 : Option Addr) (c1 : Nat) (l1 : List Int) (r : Bool) (w : World) (hr0 : Kd.C (Kd.int .u8) w A0 l0.length l0) (hc0 : l0.length ≤ c0) (hr1 : Kd.C (Kd.int .u8) w A1 l1.length l1) (hc1 : l1.length ≤ c1) (h : chirographref01_SameBytes.f k l0 l1 = some r) :
    Calls Tryz.prog 31 #[.slice A0 l0.length c0, .slice A1 l1.length c1] w fun e w' => e = .returned (.bool r) ∧ Drawn0 w w' := by
  have HR0 := Aside0.mk hr0
  have HC0 := Aside0.mk hc0
  clear hr0 hc0
  have HR1 := Aside0.mk hr1
  have HC1 := Aside0.mk hc1
  clear hr1 hc1
  have H : (if (l0.length : Int) = (l1.length : Int) then (chirographref01_SameBytes.l0 k l0 l1 0) else (some false)) = some r := h
  clear h
  by_cases c3 : (l0.length : Int) = (l1.length : Int)
  rotate_left
  · rw [if_neg c3] at H
    have c3b0 : ((l0.length : Int) == (l1.length : Int)) = false := beq_eq_false_iff_ne.mpr c3
    have c3b1 : ((l0.length : Int) != (l1.length : Int)) = true := bne_iff_ne.mpr c3
    have c3b2 : (l0.length == l1.length) = false := by first | simpa using c3 | (simp at c3 ⊢; omega)
    obtain rfl := Option.some.inj H
    go_enter Tryz.func31, Tryz.ntmps31
    go_wp2
    repeat (go_quiet (fail); try go_wp2)
    go_ret
    exact ⟨by first | rfl | (simp; done) | (simp [*]; done), by repeat (first | exact Drawn0.refl _ | apply Drawn0.step)⟩
  rw [if_pos c3] at H
  have c3b0 : ((l0.length : Int) == (l1.length : Int)) = true := beq_iff_eq.mpr c3
  have c3b1 : ((l0.length : Int) != (l1.length : Int)) = false := bne_eq_false_iff_eq.mpr c3
  have c3b2 : (l0.length == l1.length) = true := by first | simpa using c3 | (simp at c3 ⊢; omega)
  clear c3
  have H' := Aside0.mk H
  clear H
  go_enter Tryz.func31, Tryz.ntmps31
  go_wp2
  repeat (go_quiet (fail); try go_wp2)
  go_loopg [5] k (fun kq v5 w' => ∃ (x5_1 : Int), v5 = .int .i64 x5_1 ∧ Aside0 (chirographref01_SameBytes.l0 kq l0 l1 x5_1 = some r) ∧ Aside0 (kq ≤ k) ∧ Drawn0 w w')
  case atStart => exact ⟨(0), (by first | rfl | (simp; done) | (simp [*]; done)), H', ⟨Nat.le_refl _⟩, by repeat (first | exact Drawn0.refl _ | apply Drawn0.step)⟩
  case round =>
    clear H'
    obtain ⟨x5_1, rfl, HA, HK1, ⟨m1, rfl⟩⟩ := hrel
    cases gk with
    | zero => exact absurd HA.out (by simp [chirographref01_SameBytes.l0])
    | succ k1 =>
      have H := HA.out
      clear HA
      simp only [chirographref01_SameBytes.l0] at H
      by_cases c4 : x5_1 < (l0.length : Int)
      rotate_left
      · rw [if_neg c4] at H
        have c4b0 : decide (x5_1 < (l0.length : Int)) = false := decide_eq_false c4
        clear c4
        obtain rfl := Option.some.inj H
        go_wp2
        repeat (go_quiet (fail); try go_wp2)
        go_ret
        exact ⟨by first | rfl | (simp; done) | (simp [*]; done), by repeat (first | exact Drawn0.refl _ | apply Drawn0.step)⟩
      rw [if_pos c4] at H
      have c4b0 : decide (x5_1 < (l0.length : Int)) = true := decide_eq_true c4
      clear c4
      by_cases c5 : 0 ≤ x5_1
      rotate_left
      · rw [if_neg c5] at H
        exact absurd H (by simp)
      rw [if_pos c5] at H
      have c5b0 : decide (0 ≤ x5_1) = true := decide_eq_true c5
      clear c5
      by_cases c6 : x5_1 < (l1.length : Int)
      rotate_left
      · rw [if_neg c6] at H
        exact absurd H (by simp)
      rw [if_pos c6] at H
      have c6b0 : decide (x5_1 < (l1.length : Int)) = true := decide_eq_true c6
      clear c6
      by_cases c7 : (rd l0 x5_1) = (rd l1 x5_1)
      rotate_left
      · rw [if_neg c7] at H
        have c7b0 : ((rd l0 x5_1) == (rd l1 x5_1)) = false := beq_eq_false_iff_ne.mpr c7
        have c7b1 : ((rd l0 x5_1) != (rd l1 x5_1)) = true := bne_iff_ne.mpr c7
        obtain rfl := Option.some.inj H
        have p413 : 0 ≤ (x5_1 : Int) := of_decide_eq_true (by first | (with_reducible assumption) | assumption)
        have q413 : x5_1 < (l0.length : Int) := of_decide_eq_true (by first | (with_reducible assumption) | assumption)
        obtain ⟨ad413, e413, hx413_0⟩ := Kd.at_int HR0.out x5_1 p413 q413
        cases e413
        replace p413 := eq_true p413
        replace q413 := eq_true q413
        have p414 : 0 ≤ (x5_1 : Int) := of_decide_eq_true (by first | (with_reducible assumption) | assumption)
        have q414 : x5_1 < (l1.length : Int) := of_decide_eq_true (by first | (with_reducible assumption) | assumption)
        obtain ⟨ad414, e414, hx414_0⟩ := Kd.at_int HR1.out x5_1 p414 q414
        cases e414
        replace p414 := eq_true p414
        replace q414 := eq_true q414
        go_wp2
        repeat (go_quiet (fail); try go_wp2)
        go_ret
        exact ⟨by first | rfl | (simp; done) | (simp [*]; done), by repeat (first | exact Drawn0.refl _ | apply Drawn0.step)⟩
      rw [if_pos c7] at H
      have c7b0 : ((rd l0 x5_1) == (rd l1 x5_1)) = true := beq_iff_eq.mpr c7
      have c7b1 : ((rd l0 x5_1) != (rd l1 x5_1)) = false := bne_eq_false_iff_eq.mpr c7
      clear c7
      have H' := Aside0.mk H
      clear H
      have p413 : 0 ≤ (x5_1 : Int) := of_decide_eq_true (by first | (with_reducible assumption) | assumption)
      have q413 : x5_1 < (l0.length : Int) := of_decide_eq_true (by first | (with_reducible assumption) | assumption)
      obtain ⟨ad413, e413, hx413_0⟩ := Kd.at_int HR0.out x5_1 p413 q413
      cases e413
      replace p413 := eq_true p413
      replace q413 := eq_true q413
      have p414 : 0 ≤ (x5_1 : Int) := of_decide_eq_true (by first | (with_reducible assumption) | assumption)
      have q414 : x5_1 < (l1.length : Int) := of_decide_eq_true (by first | (with_reducible assumption) | assumption)
      obtain ⟨ad414, e414, hx414_0⟩ := Kd.at_int HR1.out x5_1 p414 q414
      cases e414
      replace p414 := eq_true p414
      replace q414 := eq_true q414
      go_wp2
      repeat (go_quiet (fail); try go_wp2)
      go_roundg k1
      case measure => have := HK1.out; omega
      case rel => exact ⟨(wrap64 (x5_1 + 1)), (by first | rfl | (simp; done) | (simp [*]; done)), H', ⟨by have := HK1.out; omega⟩, by repeat (first | exact Drawn0.refl _ | apply Drawn0.step)⟩
end Go.Proofs.YtkioddjjfifadaaGreatDoor.P
namespace Go.Proofs.YtkioddjjfifadaaGreatDoor.P
open Go.RowKit Go.Proofs.YtkioddjjfifadaaGreatDoorW.PrintWords Go.Proofs.YtkioddjjfifadaaGreatDoorW.PrintLast Go.Proofs.YtkioddjjfifadaaGreatDoorW.PrintMore
theorem old0 {w : World} {a : Addr} {v : Value} (h : w.cell? a = some v) (m : Nat) : (w.drewN m).cell? a = some v := h
theorem old1 {w : World} {a : Addr} {v : Value} (h : w.cell? a = some v) (m : Nat) (o : Obj) : ((w.drewN m).alloc o).cell? a = some v :=
  (World.cell?_alloc_some (w.drewN m) a o (by rw [old0 h m]; rfl)).trans (old0 h m)
theorem old2 {w : World} {a : Addr} {v : Value} (h : w.cell? a = some v) (m : Nat) (o o' : Obj) : (((w.drewN m).alloc o).alloc o').cell? a = some v :=
  (World.cell?_alloc_some ((w.drewN m).alloc o) a o' (by rw [old1 h m o]; rfl)).trans (old1 h m o)
theorem two_cell (w : World) (m i : Nat) (Z : Array Value) (t : TypeId) (o : Obj) : (((w.drewN m).alloc (.cells Z t)).alloc o).cell? ⟨w.heap.size, i, none⟩ = Z[i]? := World.cell?_alloc2_first (w := w.drewN m) Z t o i
theorem two_frozen (w : World) (m i : Nat) (Z : Array Value) (t : TypeId) (o : Obj) : (((w.drewN m).alloc (.cells Z t)).alloc o).frozen? ⟨w.heap.size, i, none⟩ = false := World.frozen?_alloc2_first (w := w.drewN m) Z t o i
theorem two_set (w : World) (m i : Nat) (Z : Array Value) (t : TypeId) (o : Obj) (v : Value) : (((w.drewN m).alloc (.cells Z t)).alloc o).setCell ⟨w.heap.size, i, none⟩ v = ((w.drewN m).alloc (.cells (Z.setIfInBounds i v) t)).alloc o :=
  (World.setCell_alloc_past (w := (w.drewN m).alloc (.cells Z t)) o w.heap.size i v (by show w.heap.size < (w.heap.push _).size; simp)).trans (congrArg (fun z => World.alloc z o) (World.setCell_alloc_at (w := w.drewN m) Z t w.heap.size i v rfl))
theorem addr_plain {w : World} {a : Addr} {v : Value} (h : w.cell? a = some v) : ∃ n i, a = ⟨n, i, none⟩ := by
  have hs := World.cell?_spot h
  cases a with
  | mk b o s =>
    simp only at hs
    subst hs
    exact ⟨b, o, rfl⟩
set_option maxHeartbeats 4000000 in
set_option maxRecDepth 100000 in
theorem equal_at (w : World) (A B : Option Addr) (c d : Nat) (hA : Kd.C (Kd.slice 64 k64) w A 1 n07) (hB : Kd.C (Kd.slice 64 k64) w B 1 n07) :
    Calls Tryz.prog 32 #[.slice A 1 c, .slice B 1 d] w fun e w' => e = .returned (.bool true) ∧ Below w.heap.size w w' := by
  have hu64 := Tryz.underlying64
  have hsb : chirographref01_SameBytes.f 100 [68, 69] [68, 69] = some true := by kernel_rfl
  obtain ⟨ad, bd, B1, b, X, x, rfl, rfl, h0, g0, g1, g2, lb, hB1, lx, hX⟩ := n07_open hA
  obtain ⟨ad', bd', B1', b', X', x', rfl, rfl, h0', g0', g1', g2', lb', hB1', lx', hX'⟩ := n07_open hB
  obtain ⟨n1, i1, rfl⟩ := addr_plain h0
  obtain ⟨n2, i2, rfl⟩ := addr_plain g0
  obtain ⟨n3, i3, rfl⟩ := addr_plain h0'
  obtain ⟨n4, i4, rfl⟩ := addr_plain g0'
  have b1 := World.block_lt_of_cell? w _ h0
  have b2 := World.block_lt_of_cell? w _ g0
  have b3 := World.block_lt_of_cell? w _ h0'
  have b4 := World.block_lt_of_cell? w _ g0'
  have b1' : n1 < w.heap.size + 1 := Nat.lt_succ_of_lt b1
  have b2' : n2 < w.heap.size + 1 := Nat.lt_succ_of_lt b2
  have b3' : n3 < w.heap.size + 1 := Nat.lt_succ_of_lt b3
  have b4' : n4 < w.heap.size + 1 := Nat.lt_succ_of_lt b4
  have c1 : (n1 = w.heap.size) = False := eq_false (Nat.ne_of_lt b1)
  have c2 : (n2 = w.heap.size) = False := eq_false (Nat.ne_of_lt b2)
  have c3 : (n3 = w.heap.size) = False := eq_false (Nat.ne_of_lt b3)
  have c4 : (n4 = w.heap.size) = False := eq_false (Nat.ne_of_lt b4)
  have c1' : (n1 = w.heap.size + 1) = False := eq_false (Nat.ne_of_lt b1')
  have c2' : (n2 = w.heap.size + 1) = False := eq_false (Nat.ne_of_lt b2')
  have c3' : (n3 = w.heap.size + 1) = False := eq_false (Nat.ne_of_lt b3')
  have c4' : (n4 = w.heap.size + 1) = False := eq_false (Nat.ne_of_lt b4')
  have HX := Aside0.mk hX
  have HX' := Aside0.mk hX'
  have HSB := Aside0.mk hsb
  clear hA hB hB1 hB1' hX hX' hsb lb lb'
  go_enter Tryz.func32, Tryz.ntmps32
  go_wp2_with fail
  refine wp_loop_rounds 2 ?_
  rw [rounds_succ]
  go_wp2_with fail
  go_quiet (fail)
  go_wp2_with fail
  refine wp_loop_rounds 2 ?_
  rw [rounds_succ]
  go_wp2_with fail
  have q1 := old1 h0
  have q2 := old1 g0
  have q3 := old1 g1
  have q4 := old1 g2
  have q5 := old1 h0'
  have q6 := old1 g0'
  have q7 := old1 g1'
  have q8 := old1 g2'
  have r1 := old2 h0
  have r2 := old2 g0
  have r3 := old2 g1
  have r4 := old2 g2
  have r5 := old2 h0'
  have r6 := old2 g0'
  have r7 := old2 g1'
  have r8 := old2 g2'
  have sc := two_cell w
  have sf := two_frozen w
  have sw := two_set w
  go_big_region
  all_goals
    go_wp2_with fail
    refine (chirographref01_SameBytes.calls 100 _ _ [68, 69] _ _ [68, 69] true _ (Kd.C_alloc (Kd.C_alloc (Kd.C_drewN HX.out _) _) _) lx (Kd.C_alloc (Kd.C_alloc (Kd.C_drewN HX'.out _) _) _) lx' HSB.out).mono ?_
    rintro e w1 ⟨rfl, ⟨nd, rfl⟩⟩
    go_wp2_with fail
    rw [rounds_succ]
    go_wp2_with fail
    rw [rounds_succ]
    go_wp2_with fail
    go_ret
    exact ⟨rfl, by repeat (first | exact Below.refl _ _ | apply pw_below_drewN | apply below_drew1 | apply below_alloc)⟩
end Go.Proofs.YtkioddjjfifadaaGreatDoor.P
namespace Go.Proofs.YtkioddjjfifadaaGreatDoor.P
open Go.RowKit Go.Proofs.YtkioddjjfifadaaGreatDoorW.PrintWords Go.Proofs.YtkioddjjfifadaaGreatDoorW.PrintLast Go.Proofs.YtkioddjjfifadaaGreatDoorW.PrintMore
attribute [local go_sem] max2_int min2_int max_two min_two max_three min_three max_four min_four   -- for this text's walks alone
set_option linter.unusedVariables false
set_option linter.unusedSimpArgs false
def name_Within.f (k : Nat) (l0 : List (List (S64))) (l1 : List (List (S64))) : Option (Bool) := if (l0.length : Int) ≥ (l1.length : Int) then (if 0 ≤ (l1.length : Int) then (if (l1.length : Int) ≤ (l0.length : Int) then ((name_Same.f k (l0.take ((l1.length : Int) : Int).toNat) l1).bind fun t483 => (some t483)) else (none)) else (none)) else (some false)
set_option maxHeartbeats 8000000 in
set_option maxRecDepth 100000 in
theorem name_Within.calls (k : Nat) (A0 : Option Addr) (c0 : Nat) (l0 : List (List (S64))) (A1 : Option Addr) (c1 : Nat) (l1 : List (List (S64))) (r : Bool) (w : World) (hr0 : Kd.C (Kd.slice 64 k64) w A0 l0.length l0) (hc0 : l0.length ≤ c0) (hr1 : Kd.C (Kd.slice 64 k64) w A1 l1.length l1) (hc1 : l1.length ≤ c1) (h : name_Within.f k l0 l1 = some r) (hT : Tb w) :
    Calls Tryz.prog 49 #[.slice A0 l0.length c0, .slice A1 l1.length c1] w fun e w' => e = .returned (.bool r) ∧ Below w.heap.size w w' := by
  have HR0 := Aside0.mk hr0
  have HC0 := Aside0.mk hc0
  clear hr0 hc0
  have HR1 := Aside0.mk hr1
  have HC1 := Aside0.mk hc1
  clear hr1 hc1
  have HB := Aside0.mk (Below.refl w.heap.size w)
  have HTb := Aside0.mk hT
  clear hT
  have H : (if (l0.length : Int) ≥ (l1.length : Int) then (if 0 ≤ (l1.length : Int) then (if (l1.length : Int) ≤ (l0.length : Int) then ((name_Same.f k (l0.take ((l1.length : Int) : Int).toNat) l1).bind fun t483 => (some t483)) else (none)) else (none)) else (some false)) = some r := h
  clear h
  by_cases c3 : (l0.length : Int) ≥ (l1.length : Int)
  rotate_left
  · rw [if_neg c3] at H
    have c3b0 : decide ((l1.length : Int) ≤ (l0.length : Int)) = false := decide_eq_false c3
    have c3b1 : decide (l1.length ≤ l0.length) = false := decide_eq_false (fun h => c3 (Int.ofNat_le.mpr h))
    clear c3
    obtain rfl := Option.some.inj H
    go_enter Tryz.func49, Tryz.ntmps49
    go_wp2
    go_ret
    exact ⟨by first | rfl | (simp [errW_none, errW_some] <;> rfl) | (simp [*, errW_none, errW_some] <;> rfl), by repeat (first | (with_reducible first | exact HB.out | apply below_alloc | apply pw_below_drewN | apply below_drew1) | exact HB.out)⟩
  rw [if_pos c3] at H
  have c3b0 : decide ((l1.length : Int) ≤ (l0.length : Int)) = true := decide_eq_true c3
  have c3b1 : decide (l1.length ≤ l0.length) = true := decide_eq_true (Int.ofNat_le.mp c3)
  clear c3
  by_cases c4 : 0 ≤ (l1.length : Int)
  rotate_left
  · rw [if_neg c4] at H
    exact absurd H (by simp)
  rw [if_pos c4] at H
  have c4b0 := eq_true c4
  have c4b1 : decide (0 ≤ (l1.length : Int)) = true := decide_eq_true c4
  clear c4
  by_cases c5 : (l1.length : Int) ≤ (l0.length : Int)
  rotate_left
  · rw [if_neg c5] at H
    exact absurd H (by simp)
  rw [if_pos c5] at H
  have c5b0 := eq_true c5
  have c5b1 : decide ((l1.length : Int) ≤ (l0.length : Int)) = true := decide_eq_true c5
  clear c5
  obtain ⟨y479, hy479⟩ : ∃ y_ : List (List (S64)), y_ = (l0.take ((l1.length : Int) : Int).toNat) := ⟨_, rfl⟩
  replace H : ((name_Same.f k y479 l1).bind fun t483 => (some t483)) = some r := by first | (rw [hy479]; with_reducible exact H) | (have H2_ := (Option.bind_some _ _).symm.trans H; rw [hy479]; with_reducible exact H2_) | (have H2_ := (Option.bind_some _ _).symm.trans H; with_reducible exact H2_) | with_reducible exact H | (rw [hy479]; exact H) | exact H
  have Ny479 := Aside0.mk hy479
  clear hy479
  replace H := Option.bind_eq_some_iff.mp H
  obtain ⟨t483, A60, H⟩ := H
  replace H : (some t483) = some r := H
  have A6 := Aside0.mk A60
  clear A60
  obtain rfl := Option.some.inj H
  have q7 : ((l1.length : Int) : Int) ≤ ((l0.length : Int) : Int) := of_decide_eq_true (by first | (with_reducible assumption) | assumption)
  obtain ⟨i07, hi07, _, hsz7, _⟩ := info_parts info62
  have hroom7 : l0.length ≤ c0 := HC0.out
  have hC7 : Kd.C (Kd.slice 64 k64) _ A0 l0.length l0 := HR0.out
  have hcut7 := cut_to (P := Tryz.prog) 23 62 .i64 Tryz.underlying23 hi07 A0 l0.length c0 (l1.length : Int) (of_decide_eq_true (by first | (with_reducible assumption) | assumption)) q7 hroom7
  have hr7 := Kd.C_take (m := ((l1.length : Int) : Int).toNat) hC7 (by omega)
  have hy7 : y479.length = ((l1.length : Int) : Int).toNat := (by rw [Ny479.out, List.length_take]; omega)
  rw [← Ny479.out] at hr7
  rw [← hy7] at hcut7
  have HR482 := Aside0.mk hr7
  have HC482 := Aside0.mk (show y479.length ≤ c0 from by omega)
  clear hr7 hC7 hroom7 hi07 hsz7
  have KY7 := Aside0.mk hy7
  clear hy7
  replace q7 := eq_true q7
  go_enter Tryz.func49, Tryz.ntmps49
  go_wp2_with (first | (go_at_call 45; (with_reducible refine (name_Same.calls k _ _ y479 _ _ l1 t483 _ ?side1 ?side2 ?side3 ?side4 A6.out (Tb.below HTb.out (by repeat (first | (with_reducible first | exact HB.out | apply below_alloc | apply pw_below_drewN | apply below_drew1) | exact HB.out)))).mono ?_); (case side1 => repeat (first | exact HR482.out | (with_reducible refine Kd.C_alloc ?_ _) | (with_reducible refine Kd.C_drewN ?_ _) | (with_reducible refine Kd.C_drew ?_))); (case side2 => exact HC482.out); (case side3 => repeat (first | exact HR1.out | (with_reducible refine Kd.C_alloc ?_ _) | (with_reducible refine Kd.C_drewN ?_ _) | (with_reducible refine Kd.C_drew ?_))); (case side4 => exact HC1.out); rintro e w8 ⟨rfl, hb⟩; have n0_ := Aside0.mk (below_step (by repeat (first | (with_reducible first | exact HB.out | apply below_alloc | apply pw_below_drewN | apply below_drew1) | exact HB.out)) hb); clear HB; have HB := n0_; clear n0_; (try clear hb); (try clear hb2); (try clear hk); (try clear hi)))
  go_ret
  exact ⟨by first | rfl | (simp [errW_none, errW_some] <;> rfl) | (simp [*, errW_none, errW_some] <;> rfl), by repeat (first | (with_reducible first | exact HB.out | apply below_alloc | apply pw_below_drewN | apply below_drew1) | exact HB.out)⟩
end Go.Proofs.YtkioddjjfifadaaGreatDoor.P
namespace Go.Proofs.YtkioddjjfifadaaGreatDoor.P
open Go.RowKit Go.Proofs.YtkioddjjfifadaaGreatDoorW.PrintWords Go.Proofs.YtkioddjjfifadaaGreatDoorW.PrintLast Go.Proofs.YtkioddjjfifadaaGreatDoorW.PrintMore
theorem C_de (w : World) : Kd.C (Kd.int .u8) (w.alloc (.cells #[.int .u8 68, .int .u8 69] 5 (2, 3))) (some ⟨w.heap.size, 0, none⟩) 2 [68, 69] := by
  refine Kd.C_of_reads (d := 0) ⟨rfl, by decide, fun _ => ⟨_, rfl, fun j hj => ?_⟩⟩
  rw [add_plain, cell_of_row _ _ _ _ _ _ (new_alloc _ _)]
  match j, hj with
  | 0, _ => rfl
  | 1, _ => rfl
def chirographlaw07_live.f (k : Nat) : Option Bool := some true
theorem live07 (k : Nat) (hk : 200 ≤ k) : chirographlaw07_live.f k = some true := rfl
set_option maxHeartbeats 8000000 in
set_option maxRecDepth 100000 in
theorem chirographlaw07_live.calls' (k : Nat) (r : Bool) (w : World) (h : chirographlaw07_live.f k = some r) (hT : Tb w) (hD : Hd w) :
    Calls Tryz.prog 33 #[] w fun e w' => e = .returned (.bool r) ∧ Below w.heap.size w w' := by
  obtain rfl := Option.some.inj h
  have hu64 := Tryz.underlying64
  have hky : name_Key.f 200 n07 = some ⟨#[50, 46, 53, 46, 52, 46, 54, 61, 51, 58, 61, 100, 101, 59, 47]⟩ := by kernel_rfl
  have hsh : name_Show.f 200 n07 = some ⟨#[67, 61, 68, 69]⟩ := by kernel_rfl
  have hsa : name_Same.f 200 n07 n07 = some true := by kernel_rfl
  have hwi : name_Within.f 200 n07 [] = some true := by kernel_rfl
  have hnu : chirographlaw07_num.f 0 = some 0 := by kernel_rfl
  have HT := Aside0.mk hT
  have HD := Aside0.mk hD
  have A2 := Aside0.mk hky
  have A3 := Aside0.mk hsh
  have A4 := Aside0.mk hsa
  have A5 := Aside0.mk hwi
  have A6 := Aside0.mk hnu
  clear hT hD hky hsh hsa hwi hnu h
  have kc := fun (w : World) (C : Array Value) (n c : Nat) => Lib.run_convert_bytes_const (P := Tryz.prog) w 22 5 C n c Tryz.underlying22 Tryz.underlying5
  go_enter Tryz.func33, Tryz.ntmps33
  go_wp2_with fail
  have hs : Kd.C k64 ((w.alloc (.cells #[.int .u8 68, .int .u8 69] 5 (2, 3))).alloc (.cells #[.string ⟨#[50, 46, 53, 46, 52, 46, 54]⟩, .int .i64 19, .slice (some ⟨w.heap.size, 0, none⟩) 2 2] 64)) (some ⟨w.heap.size + 1, 0, none⟩) 1 [p07] :=
    C_row1 k64 (cs := [.string p07.f0, .int .i64 19, .slice (some ⟨w.heap.size, 0, none⟩) 2 2]) (more := []) (k64_mk _ p07 (Nat.le_refl 2) (Kd.C_alloc (C_de w) _)) ((congrArg _ (show w.heap.size + 1 = (w.alloc (.cells #[.int .u8 68, .int .u8 69] 5 (2, 3))).heap.size by show _ = (w.heap.push _).size; simp)).trans (new_alloc _ _))
  have hn : Kd.C (Kd.slice 64 k64) (((w.alloc (.cells #[.int .u8 68, .int .u8 69] 5 (2, 3))).alloc (.cells #[.string ⟨#[50, 46, 53, 46, 52, 46, 54]⟩, .int .i64 19, .slice (some ⟨w.heap.size, 0, none⟩) 2 2] 64)).alloc (.cells #[.slice (some ⟨w.heap.size + 1, 0, none⟩) 1 1] 62)) (some ⟨w.heap.size + 1 + 1, 0, none⟩) 1 n07 :=
    C_row1 (Kd.slice 64 k64) (cs := [.slice (some ⟨w.heap.size + 1, 0, none⟩) 1 1]) (more := []) ⟨_, 1, rfl, Nat.le_refl 1, Kd.C_alloc hs _⟩ ((congrArg _ (show w.heap.size + 1 + 1 = ((w.alloc (.cells #[.int .u8 68, .int .u8 69] 5 (2, 3))).alloc (.cells #[.string ⟨#[50, 46, 53, 46, 52, 46, 54]⟩, .int .i64 19, .slice (some ⟨w.heap.size, 0, none⟩) 2 2] 64)).heap.size by show _ = ((w.heap.push _).push _).size; simp)).trans (new_alloc _ _))
  have HB := Aside0.mk (below_alloc (below_alloc (below_alloc (Below.refl w.heap.size w) (.cells #[.int .u8 68, .int .u8 69] 5 (2, 3))) (.cells #[.string ⟨#[50, 46, 53, 46, 52, 46, 54]⟩, .int .i64 19, .slice (some ⟨w.heap.size, 0, none⟩) 2 2] 64)) (.cells #[.slice (some ⟨w.heap.size + 1, 0, none⟩) 1 1] 62))
  refine (Build_at _ _ 1 hn (Nat.le_refl 1) (Hd.below HD.out HB.out)).mono ?_
  rintro e w1 ⟨V, v, rfl, hv, hC, hb⟩
  have HC := Aside0.mk hC
  have HN := Aside0.mk (Kd.C_below hn hb)
  have HB1 := Aside0.mk (below_step HB.out hb)
  clear hs hn hC hb HB kc
  go_wp2_with fail
  refine (parse_at _ V v HC.out hv (Tb.below HT.out HB1.out) (Hd.below HD.out HB1.out)).mono ?_
  rintro e w2 ⟨X, x, rfl, hx, hX, hb⟩
  have HX := Aside0.mk hX
  have HC2 := Aside0.mk (Kd.C_below HC.out hb)
  have HN2 := Aside0.mk (Kd.C_below HN.out hb)
  have HB2 := Aside0.mk (below_step HB1.out hb)
  clear hX hb HC HN HB1 HD
  have hlit : (strOfNums b07).toList = [48, 13, 49, 11, 48, 9, 6, 3, 85, 4, 6, 19, 2, 68, 69] := by kernel_rfl
  have hcs := fun n => Kd.C_string (P := Tryz.prog) (c := v) Tryz.underlying22 Tryz.underlying5 Tryz.underlying9 (Kd.C_drewN HC2.out n)
  go_wp2_with fail
  refine (chirographlaw07_num.calls 0 0 _ A6.out).mono ?_
  rintro e w3 ⟨rfl, ⟨n1, rfl⟩⟩
  go_wp2_with fail
  refine (chirographlaw07_num.calls 0 0 _ A6.out).mono ?_
  rintro e w3 ⟨rfl, ⟨n2, rfl⟩⟩
  go_wp2_with fail
  refine (equal_at _ X _ x 1 (Kd.C_drewN HX.out _) (Kd.C_drewN HN2.out _)).mono ?_
  rintro e w3 ⟨rfl, hb⟩
  have HX3 := Aside0.mk (Kd.C_below (Kd.C_drewN HX.out _) hb)
  have HN3 := Aside0.mk (Kd.C_below (Kd.C_drewN HN2.out _) hb)
  have HB3 := Aside0.mk (below_step (pw_below_drewN HB2.out _) hb)
  clear hb hcs HX HN2 HB2 HC2
  go_wp2_with fail
  refine (name_Key.calls 200 _ 1 n07 _ _ HN3.out (Nat.le_refl 1) A2.out (Tb.below HT.out HB3.out)).mono ?_
  rintro e w4 ⟨rfl, hb⟩
  have HX4 := Aside0.mk (Kd.C_below HX3.out hb)
  have HN4 := Aside0.mk (Kd.C_below HN3.out hb)
  have HB4 := Aside0.mk (below_step HB3.out hb)
  clear hb HX3 HN3 HB3
  go_wp2_with fail
  refine (name_Show.calls 200 _ 1 n07 _ _ HN4.out (Nat.le_refl 1) A3.out (Tb.below HT.out HB4.out)).mono ?_
  rintro e w5 ⟨rfl, hb⟩
  have HX5 := Aside0.mk (Kd.C_below HX4.out hb)
  have HN5 := Aside0.mk (Kd.C_below HN4.out hb)
  have HB5 := Aside0.mk (below_step HB4.out hb)
  clear hb HX4 HN4 HB4
  go_wp2_with fail
  refine (name_Same.calls 200 _ 1 n07 X x n07 true _ HN5.out (Nat.le_refl 1) HX5.out hx A4.out (Tb.below HT.out HB5.out)).mono ?_
  rintro e w6 ⟨rfl, hb⟩
  have HN6 := Aside0.mk (Kd.C_below HN5.out hb)
  have HB6 := Aside0.mk (below_step HB5.out hb)
  clear hb HX5 HN5 HB5
  go_wp2_with fail
  refine (name_Within.calls 200 _ 1 n07 none 0 [] true _ HN6.out (Nat.le_refl 1) (Kd.C_nil _ _) (Nat.le_refl 0) A5.out (Tb.below HT.out HB6.out)).mono ?_
  rintro e w7 ⟨rfl, hb⟩
  have HB7 := Aside0.mk (below_step HB6.out hb)
  clear hb HN6 HB6
  go_wp2_with fail
  go_ret
  exact ⟨rfl, HB7.out⟩
end Go.Proofs.YtkioddjjfifadaaGreatDoor.P
namespace Go.Proofs.YtkioddjjfifadaaGreatDoor.P
open Go.RowKit Go.Proofs.YtkioddjjfifadaaGreatDoorW.PrintWords Go.Proofs.YtkioddjjfifadaaGreatDoorW.PrintLast Go.Proofs.YtkioddjjfifadaaGreatDoorW.PrintMore
attribute [local go_sem] max2_int min2_int max_two min_two max_three min_three max_four min_four   -- for this text's walks alone
set_option linter.unusedVariables false
set_option linter.unusedSimpArgs false
def chirographlaw07_NameShows.f (k : Nat) (l0 : List (List (S64))) : Option (Bool) := (chirographref07_Huge.f k l0 8192).bind fun t832 => (if t832 = true then ((chirographlaw07_live.f k).bind fun t833 => (some t833)) else ((name_Show.f k l0).bind fun t834 => ((chirographref07_Show.f k l0).bind fun t835 => (if t834.toList = t835.toList then ((chirographlaw07_live.f k).bind fun t836 => (some t836)) else (some false)))))
set_option maxHeartbeats 8000000 in
set_option maxRecDepth 100000 in
theorem chirographlaw07_NameShows.calls (k : Nat) (A0 : Option Addr) (c0 : Nat) (l0 : List (List (S64))) (r : Bool) (w : World) (hr0 : Kd.C (Kd.slice 64 k64) w A0 l0.length l0) (hc0 : l0.length ≤ c0) (h : chirographlaw07_NameShows.f k l0 = some r) (hT : Tb w) (hD : Hd w) :
    Calls Tryz.prog 8 #[.slice A0 l0.length c0] w fun e w' => e = .returned (.bool r) ∧ Below w.heap.size w w' := by
  have HR0 := Aside0.mk hr0
  have HC0 := Aside0.mk hc0
  clear hr0 hc0
  have HB := Aside0.mk (Below.refl w.heap.size w)
  have HTb := Aside0.mk hT
  clear hT
  have HHd := Aside0.mk hD
  clear hD
  have H : ((chirographref07_Huge.f k l0 8192).bind fun t832 => (if t832 = true then ((chirographlaw07_live.f k).bind fun t833 => (some t833)) else ((name_Show.f k l0).bind fun t834 => ((chirographref07_Show.f k l0).bind fun t835 => (if t834.toList = t835.toList then ((chirographlaw07_live.f k).bind fun t836 => (some t836)) else (some false)))))) = some r := h
  clear h
  replace H := Option.bind_eq_some_iff.mp H
  obtain ⟨t832, A20, H⟩ := H
  replace H : (if t832 = true then ((chirographlaw07_live.f k).bind fun t833 => (some t833)) else ((name_Show.f k l0).bind fun t834 => ((chirographref07_Show.f k l0).bind fun t835 => (if t834.toList = t835.toList then ((chirographlaw07_live.f k).bind fun t836 => (some t836)) else (some false))))) = some r := H
  have A2 := Aside0.mk A20
  clear A20
  by_cases c3 : t832 = true
  · subst c3
    have H1 : ((chirographlaw07_live.f k).bind fun t833 => (some t833)) = some r := by rw [if_pos rfl] at H; exact H
    clear H
    have H := H1
    clear H1
    replace H := Option.bind_eq_some_iff.mp H
    obtain ⟨t833, A40, H⟩ := H
    replace H : (some t833) = some r := H
    have A4 := Aside0.mk A40
    clear A40
    obtain rfl := Option.some.inj H
    go_enter Tryz.func8, Tryz.ntmps8
    go_wp2_with (first | ((with_reducible refine gate_callee (f := 39) rfl ?_); refine goesL_ (some 4) rfl rfl Tryz.func39 (by kernel_rfl) rfl #[.slice A0 l0.length c0, .int .i64 8192] rfl (by (try simp only [List.map_toArray, List.map_cons, List.map_nil]); first | done | rfl | (simp only [List.length_drop, List.length_take]; rfl)) ?_; (with_reducible refine (chirographref07_Huge.calls k _ _ l0 8192 true _ ?side1 ?side2 A2.out).mono ?_); (case side1 => repeat (first | exact HR0.out | (with_reducible refine Kd.C_alloc ?_ _) | (with_reducible refine Kd.C_drewN ?_ _) | (with_reducible refine Kd.C_drew ?_))); (case side2 => exact HC0.out); rintro e w' ⟨rfl, ⟨nd, rfl⟩⟩; refine ⟨_, rfl, ?_⟩) | ((with_reducible refine gate_callee (f := 33) rfl ?_); refine goesL_ (some 5) rfl rfl Tryz.func33 (by kernel_rfl) rfl #[] rfl (by (try simp only [List.map_toArray, List.map_cons, List.map_nil]); first | done | rfl | (simp only [List.length_drop, List.length_take]; rfl)) ?_; (with_reducible refine (chirographlaw07_live.calls' k  t833 _ A4.out (Tb.below HTb.out (by repeat (first | (with_reducible first | exact HB.out | apply below_alloc | apply pw_below_drewN | apply below_drew1) | exact HB.out))) (Hd.below HHd.out (by repeat (first | (with_reducible first | exact HB.out | apply below_alloc | apply pw_below_drewN | apply below_drew1) | exact HB.out)))).mono ?_); rintro e w5 ⟨rfl, hb⟩; refine ⟨_, rfl, ?_⟩; have n0_ := Aside0.mk (below_step (by repeat (first | (with_reducible first | exact HB.out | apply below_alloc | apply pw_below_drewN | apply below_drew1) | exact HB.out)) hb); clear HB; have HB := n0_; clear n0_; (try clear hb); (try clear hb2); (try clear hk); (try clear hi)))
    go_ret
    exact ⟨by first | rfl | (simp [errW_none, errW_some] <;> rfl) | (simp [*, errW_none, errW_some] <;> rfl), by repeat (first | (with_reducible first | exact HB.out | apply below_alloc | apply pw_below_drewN | apply below_drew1) | exact HB.out)⟩
  replace c3 := Bool.eq_false_iff.mpr c3
  subst c3
  have H1 : ((name_Show.f k l0).bind fun t834 => ((chirographref07_Show.f k l0).bind fun t835 => (if t834.toList = t835.toList then ((chirographlaw07_live.f k).bind fun t836 => (some t836)) else (some false)))) = some r := by rw [if_neg (show ¬ (false = true) by decide)] at H; exact H
  clear H
  have H := H1
  clear H1
  replace H := Option.bind_eq_some_iff.mp H
  obtain ⟨t834, A60, H⟩ := H
  replace H : ((chirographref07_Show.f k l0).bind fun t835 => (if t834.toList = t835.toList then ((chirographlaw07_live.f k).bind fun t836 => (some t836)) else (some false))) = some r := H
  have A6 := Aside0.mk A60
  clear A60
  replace H := Option.bind_eq_some_iff.mp H
  obtain ⟨t835, A70, H⟩ := H
  replace H : (if t834.toList = t835.toList then ((chirographlaw07_live.f k).bind fun t836 => (some t836)) else (some false)) = some r := H
  have A7 := Aside0.mk A70
  clear A70
  by_cases c8 : t834.toList = t835.toList
  rotate_left
  · rw [if_neg c8] at H
    have c8b0 : (t834.toList == t835.toList) = false := beq_eq_false_iff_ne.mpr c8
    have c8b1 : (t834.toList != t835.toList) = true := bne_iff_ne.mpr c8
    obtain rfl := Option.some.inj H
    go_enter Tryz.func8, Tryz.ntmps8
    go_wp2_with (first | ((with_reducible refine gate_callee (f := 39) rfl ?_); refine goesL_ (some 4) rfl rfl Tryz.func39 (by kernel_rfl) rfl #[.slice A0 l0.length c0, .int .i64 8192] rfl (by (try simp only [List.map_toArray, List.map_cons, List.map_nil]); first | done | rfl | (simp only [List.length_drop, List.length_take]; rfl)) ?_; (with_reducible refine (chirographref07_Huge.calls k _ _ l0 8192 false _ ?side1 ?side2 A2.out).mono ?_); (case side1 => repeat (first | exact HR0.out | (with_reducible refine Kd.C_alloc ?_ _) | (with_reducible refine Kd.C_drewN ?_ _) | (with_reducible refine Kd.C_drew ?_))); (case side2 => exact HC0.out); rintro e w' ⟨rfl, ⟨nd, rfl⟩⟩; refine ⟨_, rfl, ?_⟩) | ((with_reducible refine gate_callee (f := 43) rfl ?_); refine goesL_ (some 7) rfl rfl Tryz.func43 (by kernel_rfl) rfl #[.slice A0 l0.length c0] rfl (by (try simp only [List.map_toArray, List.map_cons, List.map_nil]); first | done | rfl | (simp only [List.length_drop, List.length_take]; rfl)) ?_; (with_reducible refine (name_Show.calls k _ _ l0 t834 _ ?side1 ?side2 A6.out (Tb.below HTb.out (by repeat (first | (with_reducible first | exact HB.out | apply below_alloc | apply pw_below_drewN | apply below_drew1) | exact HB.out)))).mono ?_); (case side1 => repeat (first | exact HR0.out | (with_reducible refine Kd.C_alloc ?_ _) | (with_reducible refine Kd.C_drewN ?_ _) | (with_reducible refine Kd.C_drew ?_))); (case side2 => exact HC0.out); rintro e w13 ⟨rfl, hb⟩; refine ⟨_, rfl, ?_⟩; have n0_ := Aside0.mk (below_step (by repeat (first | (with_reducible first | exact HB.out | apply below_alloc | apply pw_below_drewN | apply below_drew1) | exact HB.out)) hb); clear HB; have HB := n0_; clear n0_; (try clear hb); (try clear hb2); (try clear hk); (try clear hi)) | ((with_reducible refine gate_callee (f := 44) rfl ?_); refine goesL_ (some 9) rfl rfl Tryz.func44 (by kernel_rfl) rfl #[.slice A0 l0.length c0] rfl (by (try simp only [List.map_toArray, List.map_cons, List.map_nil]); first | done | rfl | (simp only [List.length_drop, List.length_take]; rfl)) ?_; (with_reducible refine (chirographref07_Show.calls k _ _ l0 t835 _ ?side1 ?side2 A7.out).mono ?_); (case side1 => repeat (first | exact (Kd.C_below HR0.out HB.out) | (with_reducible refine Kd.C_alloc ?_ _) | (with_reducible refine Kd.C_drewN ?_ _) | (with_reducible refine Kd.C_drew ?_))); (case side2 => exact HC0.out); rintro e w14 ⟨rfl, hb⟩; refine ⟨_, rfl, ?_⟩; have n0_ := Aside0.mk (below_step (by repeat (first | (with_reducible first | exact HB.out | apply below_alloc | apply pw_below_drewN | apply below_drew1) | exact HB.out)) hb); clear HB; have HB := n0_; clear n0_; (try clear hb); (try clear hb2); (try clear hk); (try clear hi)))
    go_ret
    exact ⟨by first | rfl | (simp [errW_none, errW_some] <;> rfl) | (simp [*, errW_none, errW_some] <;> rfl), by repeat (first | (with_reducible first | exact HB.out | apply below_alloc | apply pw_below_drewN | apply below_drew1) | exact HB.out)⟩
  rw [if_pos c8] at H
  have c8b0 : (t834.toList == t835.toList) = true := beq_iff_eq.mpr c8
  have c8b1 : (t834.toList != t835.toList) = false := bne_eq_false_iff_eq.mpr c8
  clear c8
  replace H := Option.bind_eq_some_iff.mp H
  obtain ⟨t836, A90, H⟩ := H
  replace H : (some t836) = some r := H
  have A9 := Aside0.mk A90
  clear A90
  obtain rfl := Option.some.inj H
  go_enter Tryz.func8, Tryz.ntmps8
  go_wp2_with (first | ((with_reducible refine gate_callee (f := 39) rfl ?_); refine goesL_ (some 4) rfl rfl Tryz.func39 (by kernel_rfl) rfl #[.slice A0 l0.length c0, .int .i64 8192] rfl (by (try simp only [List.map_toArray, List.map_cons, List.map_nil]); first | done | rfl | (simp only [List.length_drop, List.length_take]; rfl)) ?_; (with_reducible refine (chirographref07_Huge.calls k _ _ l0 8192 false _ ?side1 ?side2 A2.out).mono ?_); (case side1 => repeat (first | exact HR0.out | (with_reducible refine Kd.C_alloc ?_ _) | (with_reducible refine Kd.C_drewN ?_ _) | (with_reducible refine Kd.C_drew ?_))); (case side2 => exact HC0.out); rintro e w' ⟨rfl, ⟨nd, rfl⟩⟩; refine ⟨_, rfl, ?_⟩) | ((with_reducible refine gate_callee (f := 43) rfl ?_); refine goesL_ (some 7) rfl rfl Tryz.func43 (by kernel_rfl) rfl #[.slice A0 l0.length c0] rfl (by (try simp only [List.map_toArray, List.map_cons, List.map_nil]); first | done | rfl | (simp only [List.length_drop, List.length_take]; rfl)) ?_; (with_reducible refine (name_Show.calls k _ _ l0 t834 _ ?side1 ?side2 A6.out (Tb.below HTb.out (by repeat (first | (with_reducible first | exact HB.out | apply below_alloc | apply pw_below_drewN | apply below_drew1) | exact HB.out)))).mono ?_); (case side1 => repeat (first | exact HR0.out | (with_reducible refine Kd.C_alloc ?_ _) | (with_reducible refine Kd.C_drewN ?_ _) | (with_reducible refine Kd.C_drew ?_))); (case side2 => exact HC0.out); rintro e w10 ⟨rfl, hb⟩; refine ⟨_, rfl, ?_⟩; have n0_ := Aside0.mk (below_step (by repeat (first | (with_reducible first | exact HB.out | apply below_alloc | apply pw_below_drewN | apply below_drew1) | exact HB.out)) hb); clear HB; have HB := n0_; clear n0_; (try clear hb); (try clear hb2); (try clear hk); (try clear hi)) | ((with_reducible refine gate_callee (f := 44) rfl ?_); refine goesL_ (some 9) rfl rfl Tryz.func44 (by kernel_rfl) rfl #[.slice A0 l0.length c0] rfl (by (try simp only [List.map_toArray, List.map_cons, List.map_nil]); first | done | rfl | (simp only [List.length_drop, List.length_take]; rfl)) ?_; (with_reducible refine (chirographref07_Show.calls k _ _ l0 t835 _ ?side1 ?side2 A7.out).mono ?_); (case side1 => repeat (first | exact (Kd.C_below HR0.out HB.out) | (with_reducible refine Kd.C_alloc ?_ _) | (with_reducible refine Kd.C_drewN ?_ _) | (with_reducible refine Kd.C_drew ?_))); (case side2 => exact HC0.out); rintro e w11 ⟨rfl, hb⟩; refine ⟨_, rfl, ?_⟩; have n0_ := Aside0.mk (below_step (by repeat (first | (with_reducible first | exact HB.out | apply below_alloc | apply pw_below_drewN | apply below_drew1) | exact HB.out)) hb); clear HB; have HB := n0_; clear n0_; (try clear hb); (try clear hb2); (try clear hk); (try clear hi)) | (go_at_call 33; (with_reducible refine (chirographlaw07_live.calls' k  t836 _ A9.out (Tb.below HTb.out (by repeat (first | (with_reducible first | exact HB.out | apply below_alloc | apply pw_below_drewN | apply below_drew1) | exact HB.out))) (Hd.below HHd.out (by repeat (first | (with_reducible first | exact HB.out | apply below_alloc | apply pw_below_drewN | apply below_drew1) | exact HB.out)))).mono ?_); rintro e w12 ⟨rfl, hb⟩; have n0_ := Aside0.mk (below_step (by repeat (first | (with_reducible first | exact HB.out | apply below_alloc | apply pw_below_drewN | apply below_drew1) | exact HB.out)) hb); clear HB; have HB := n0_; clear n0_; (try clear hb); (try clear hb2); (try clear hk); (try clear hi)))
  go_ret
  exact ⟨by first | rfl | (simp [errW_none, errW_some] <;> rfl) | (simp [*, errW_none, errW_some] <;> rfl), by repeat (first | (with_reducible first | exact HB.out | apply below_alloc | apply pw_below_drewN | apply below_drew1) | exact HB.out)⟩
end Go.Proofs.YtkioddjjfifadaaGreatDoor.P
namespace Go.Proofs.YtkioddjjfifadaaGreatDoor.P
open Go.RowKit Go.Proofs.YtkioddjjfifadaaGreatDoorW.PrintWords
theorem NameShows_plain (n : List (List S64)) (h : ∀ s ∈ n, ∀ p ∈ s, PartOk p) : chirographlaw07_NameShows.f 110000 n = some true := by
  obtain ⟨b, h1, h2⟩ := huge8_total 110000 (by omega) n (fun s hs p hp => ⟨(h s hs p hp).1, (h s hs p hp).2.1⟩)
  unfold chirographlaw07_NameShows.f
  have hl := live07 110000 (by omega)
  rw [h1, Option.bind_some]
  cases b with
  | true => rw [if_pos rfl, hl]; rfl
  | false =>
    obtain ⟨h3, h4⟩ := h2 rfl
    obtain ⟨v, g1, g2⟩ := show_eq n ⟨h3, fun s hs => ⟨(h4 s hs).1, fun p hp => ⟨((h4 s hs).2 p hp).1, ((h4 s hs).2 p hp).2, (h s hs p hp).2.2.1⟩⟩⟩ 110000 110000 (by omega) (by omega)
    rw [if_neg (by decide), g1, Option.bind_some, g2, Option.bind_some, if_pos rfl, hl]
    rfl
end Go.Proofs.YtkioddjjfifadaaGreatDoor.P
namespace Go.Proofs.YtkioddjjfifadaaGreatDoor.P
open Go.Deep Go.RowKit Go.ChangeShapes Go.WideShapes Go.WideElems Go.Proofs.YtkioddjjfifadaaGreatDoorW.PrintWords
def Opens {α : Type} (P : Program) (d : Kd α) (t : TypeId) (Q : α → Prop) : Prop :=
  ∀ (H : Type) (enc : TypeId × Value → H) (w : World) (base : Nat) (spare : Nat → Bool) (held : Bool) (fuel : Nat) (cs : List Value) (x : DataW H × List MemPlace),
    DataW.trod enc P w base spare held fuel t cs = some x → ∃ v, d.K w v cs ∧ Q v
variable {P : Program}
theorem opens_int {t : TypeId} {k : IntKind} (ht : P.underlying t = some (.int k)) : Opens P (Kd.int k) t (fun n => (Lit.int k n).wf = true) := by
  intro H enc w base spare held fuel cs x h
  obtain ⟨n, rfl, _, hw⟩ := DataW.trod_int ht h
  exact ⟨n, rfl, hw⟩
theorem addr_add_add (a : Addr) (m n : Nat) : (a.add m).add n = a.add (m + n) := by
  unfold Addr.add
  by_cases hm : m = 0
  · simp [hm]
  by_cases hn : n = 0
  rotate_left
  · simp [hm, hn, Nat.add_assoc]
  simp [hn]
section
variable {H : Type} {enc : TypeId × Value → H} {w : World} {base : Nat} {spare : Nat → Bool} {held : Bool}
theorem trodAll_stays (hl : laidOutB P = true) {W W' : World} (hb : Below W.heap.size W W') : ∀ {ts : List TypeId} {vs : List Value} {ds : List (DataW H)} {ps : List MemPlace}, (ts.all fun t => P.readableRec t && decide (t < P.types.size)) = true →
    DataW.TrodAll enc P W 0 (fun _ => true) true ts vs ds ps → (∀ x ∈ ps, x.block < W.heap.size) → DataW.TrodAll enc P W' 0 (fun b => decide (b < W.heap.size)) true ts vs ds ps
  | [], _, _, _, _, h, _ => by
    obtain ⟨rfl, rfl, rfl⟩ := trodAll_nil h
    rfl
  | t :: ts, _, _, _, ht, h, hlt => by
    obtain ⟨v, vs1, d, ds1, a, b, rfl, rfl, rfl, h1, h2⟩ := trodAll_cons h
    rw [List.all_cons, Bool.and_eq_true, Bool.and_eq_true] at ht
    exact ⟨a, b, Below.trod hl ht.1.1 (of_decide_eq_true ht.1.2) h1 hb (fun x hx => hlt x (List.mem_append_left _ hx)), trodAll_stays hl hb ht.2 h2 (fun x hx => hlt x (List.mem_append_right _ hx)), rfl⟩
end
end Go.Proofs.YtkioddjjfifadaaGreatDoor.P
namespace Go.Proofs.YtkioddjjfifadaaGreatDoor
def laidL : List (String × DataW Unit) := [("math/bits.deBruijn32tab", Rows.laid_math_bits_deBruijn32tab), ("math/bits.deBruijn64tab", Rows.laid_math_bits_deBruijn64tab), ("internal/strconv.uint64pow10", Rows.laid_internal_strconv_uint64pow10), ("unicode/utf8.acceptRanges", Rows.laid_unicode_utf8_acceptRanges), ("errors.errorType", Rows.laid_errors_errorType), ("unicode/utf8.first", Rows.laid_unicode_utf8_first)]
def laidD : List (String × DataW Unit) := [("math/bits.deBruijn32tab", Rows.laid_math_bits_deBruijn32tab), ("math/bits.deBruijn64tab", Rows.laid_math_bits_deBruijn64tab), ("internal/strconv.uint64pow10", Rows.laid_internal_strconv_uint64pow10), ("unicode/utf8.acceptRanges", Rows.laid_unicode_utf8_acceptRanges), ("unicode/utf8.first", Rows.laid_unicode_utf8_first)]
noncomputable def laidW0 (os : Os) : World :=
  let w0 := World.holding Tryz.prog os ⟨#[], #[], []⟩
  { w0 with heap := w0.heap.modify 0 fun
      | .cells _ t frozen => .cells #[.iface 336 (.agg #[.pointer (some ⟨7, 132, none⟩)])] t frozen
      | o => o }
noncomputable def laidWorld (os : Os) : World := (laidW0 os).layVars Tryz.prog laidD
theorem own : ownKnob Tryz.prog.godebug = none := by kernel_rfl
theorem laidL_parts : (laidL.filter fun x => x.2.handleName?.isNone) = laidD := rfl
theorem laidD_all : (laidD.filter fun x => (laidD.map (·.1)).contains x.1) = laidD := by
  exact List.filter_eq_self.2 fun x hx => List.contains_iff_mem.2 (List.mem_map.2 ⟨x, hx, rfl⟩)
theorem laidD_none : (laidD.filter fun x => !(laidD.map (·.1)).contains x.1) = [] :=
  List.filter_eq_nil_iff.2 fun x hx => by rw [List.contains_iff_mem.2 (List.mem_map.2 ⟨x, hx, rfl⟩)]; simp
set_option maxRecDepth 100000 in
theorem laidWorld_met (os : Os) (args : Array Value) : laidMetH Tryz.prog laidL ((laidWorld os).forCall (fun _ _ => 0) ⟨#[], args, []⟩).memory := by
  have hd : laidMet Tryz.prog laidD ((laidWorld os).forCall (fun _ _ => 0) ⟨#[], args, []⟩).memory := by
    refine laidMet_layVars (w0 := laidW0 os) (laidD.map (·.1)) [] ?_ ?_ ?_ ?_
    · rw [laidD_all]; rfl
    · rw [laidD_all]; kernel_rfl
    rotate_left
    · rw [laidD_none]; exact LaidIn.none
    rw [laidD_all]; kernel_rfl
  exact laidMetH_of_parts (laidL_parts ▸ hd) (by kernel_rfl)
theorem laidWorld_os (os : Os) : (laidWorld os).os = os := (World.layVars_os _ _ _).trans rfl
end Go.Proofs.YtkioddjjfifadaaGreatDoor
namespace Go.Proofs.YtkioddjjfifadaaGreatDoor.P
open Go.Deep Go.RowKit Go.ChangeShapes Go.WideShapes Go.WideElems Go.Proofs.YtkioddjjfifadaaGreatDoorW.PrintWords
def OpensW {α : Type} (P : Program) (d : Kd α) (t : TypeId) (Q : α → Prop) : Prop :=
  ∀ (H : Type) (enc : TypeId × Value → H) (w : World) (base : Nat) (spare : Nat → Bool) (held : Bool) (fuel : Nat) (cs : List Value) (x : DataW H × List MemPlace),
    DataW.trod enc P w base spare held fuel t cs = some x → (∀ n ∈ x.1.weights P t, n ≤ reachBytes) → ∃ v, d.K w v cs ∧ Q v
variable {P : Program}
theorem Opens.toW {α : Type} {d : Kd α} {t : TypeId} {Q : α → Prop} (h : Opens P d t Q) : OpensW P d t Q := fun H enc w base spare held fuel cs x hx _ => h H enc w base spare held fuel cs x hx
theorem opensW_string {t : TypeId} (ht : P.underlying t = some .string) : OpensW P Kd.string t (fun s => s.size ≤ reachBytes) := by
  intro H enc w base spare held fuel cs x h hw
  obtain ⟨n, rfl, rfl, hs⟩ := DataW.trod_string ht h
  refine ⟨n, rfl, hw _ ?_⟩
  simp [DataW.weights]
theorem weightsAll_mem {H : Type} {e : TypeId} {n : Nat} : ∀ {l : List (DataW H)} {d : DataW H}, d ∈ l → n ∈ d.weights P e → n ∈ DataW.weightsAll P e l
  | [], _, h, _ => by cases h
  | a :: l, d, h, hn => by
    unfold DataW.weightsAll
    rcases List.mem_cons.1 h with rfl | h
    · exact List.mem_append_left _ hn
    · exact List.mem_append_right _ (weightsAll_mem h hn)
theorem weightsEach_mem {H : Type} {n : Nat} : ∀ {ts : List TypeId} {ds : List (DataW H)} (i : Nat) {t : TypeId} {d : DataW H}, ts[i]? = some t → ds[i]? = some d → n ∈ d.weights P t → n ∈ DataW.weightsEach P ts ds
  | [], _, i, _, _, h, _, _ => by simp at h
  | _ :: _, [], i, _, _, _, h, _ => by simp at h
  | t :: ts, d :: ds, 0, t', d', h1, h2, hn => by
    obtain rfl : t = t' := by simpa using h1
    obtain rfl : d = d' := by simpa using h2
    unfold DataW.weightsEach
    exact List.mem_append_left _ hn
  | t :: ts, d :: ds, i + 1, t', d', h1, h2, hn => by
    unfold DataW.weightsEach
    exact List.mem_append_right _ (weightsEach_mem i (by simpa using h1) (by simpa using h2) hn)
theorem opensW_slice {α : Type} {d : Kd α} {t e : TypeId} {Q : α → Prop} (ht : P.underlying t = some (.slice e)) (hc : P.cellsOf e = d.sz) (hd : OpensW P d e Q) :
    OpensW P (Kd.slice e d) t (fun xs => xs.length * P.bytesOf e ≤ reachBytes ∧ ∀ x ∈ xs, Q x) := by
  intro H enc w base spare held fuel cs x h hw
  rcases open_slice ht h with ⟨rfl, _⟩ | ⟨a, len, cap, m, n, D, Pl, rfl, hb, hl, hm, hmm, rfl, hx⟩
  · exact ⟨[], ⟨none, 0, rfl, Nat.le_refl _, ⟨rfl, by simp, fun h => absurd h (Nat.lt_irrefl 0)⟩⟩, by simp, fun _ h => by cases h⟩
  have hlm : len ≤ m := by rw [hmm]; split <;> omega
  unfold DataW.weights at hw
  rw [ht] at hw
  simp only [List.mem_cons, List.mem_append] at hw
  have hw0 : len * P.bytesOf e ≤ reachBytes := by
    have := hw _ (Or.inl rfl)
    simp only [List.length_map, List.length_range] at this
    exact Nat.le_trans (Nat.mul_le_mul_right _ (by omega)) this
  have hwj : ∀ j, j < len → ∀ n ∈ (D j).weights P e, n ≤ reachBytes := fun j hj n hn =>
    hw n (Or.inr (Or.inl (weightsAll_mem (List.mem_map.2 ⟨j, List.mem_range.2 hj, rfl⟩) hn)))
  have key : ∀ k, k ≤ len → ∃ xs : List α, xs.length = k ∧ (∀ y ∈ xs, Q y) ∧ ∀ j p, xs[j]? = some p → ∃ c, c.length = d.sz ∧ d.K w p c ∧ ∀ i u, c[i]? = some u → w.cell? (a.add (j * d.sz + i)) = some u := by
    intro k
    induction k with
    | zero => exact fun _ => ⟨[], rfl, (fun _ h => by cases h), (fun j p h => by simp at h)⟩
    | succ k ih =>
      intro hk
      obtain ⟨xs, hxl, hxq, hxr⟩ := ih (by omega)
      obtain ⟨cs', h1, h2⟩ := hx k (by omega)
      obtain ⟨y, hy, hQ⟩ := hd H enc w base spare held n cs' _ h2 (hwj k (by omega))
      obtain ⟨_, hlen, hcell⟩ := World.cells?_some h1
      refine ⟨xs ++ [y], by simp [hxl], ?_, ?_⟩
      · intro z hz
        rcases List.mem_append.1 hz with hz | hz
        rotate_left
        · rw [List.mem_singleton.1 hz]; exact hQ
        exact hxq z hz
      intro j p hp
      by_cases hj : j < k
      · rw [List.getElem?_append_left (by omega)] at hp
        exact hxr j p hp
      have hjk : j = k := by
        have := (List.getElem?_eq_some_iff.1 hp).1
        simp [hxl] at this
        omega
      subst hjk
      rw [List.getElem?_append_right (by omega), hxl, Nat.sub_self] at hp
      obtain rfl : y = p := by simpa using hp
      refine ⟨cs', by rw [hlen, hc], hy, fun i u hi => ?_⟩
      have hi' : i < P.cellsOf e := by have := (List.getElem?_eq_some_iff.1 hi).1; omega
      have := hcell i hi'
      rw [hi, hc] at this
      rw [← this, addr_add_add]
  obtain ⟨xs, hxl, hxq, hxr⟩ := key len (Nat.le_refl _)
  have hmax : maxLen ≤ 9223372036854775807 := by decide
  refine ⟨xs, ⟨some a, cap, by rw [hxl], by omega, hxl ▸ rfl, by omega, fun _ => ⟨a, rfl, hxr⟩⟩, by rw [hxl]; exact hw0, hxq⟩
def OpensFW {α : Type} (P : Program) (d : Kd α) (fs : List Field) (o : Nat) (Q : α → Prop) : Prop :=
  ∀ (H : Type) (enc : TypeId × Value → H) (w : World) (base : Nat) (spare : Nat → Bool) (held : Bool) (fuel : Nat) (cs : List Value), cs.length = o + d.sz →
    (∀ (i : Nat) (f : Field), fs[i]? = some f → ∃ y, DataW.trod enc P w base spare held fuel f.type ((cs.drop f.offset).take (P.cellsOf f.type)) = some y ∧ ∀ n ∈ y.1.weights P f.type, n ≤ reachBytes) → ∃ v, d.K w v (cs.drop o) ∧ Q v
theorem opensFW_one {α : Type} {d : Kd α} {f : Field} {o : Nat} {Q : α → Prop} (ho : f.offset = o) (hc : P.cellsOf f.type = d.sz) (hd : OpensW P d f.type Q) : OpensFW P d [f] o Q := by
  intro H enc w base spare held fuel cs hl hf
  obtain ⟨y, hy, hw⟩ := hf 0 f rfl
  rw [ho, hc, List.take_of_length_le (by simp [hl])] at hy
  exact hd H enc w base spare held fuel _ _ hy hw
theorem opensFW_cons {α β : Type} {d1 : Kd α} {d2 : Kd β} {f : Field} {fs : List Field} {o : Nat} {Q1 : α → Prop} {Q2 : β → Prop} (ho : f.offset = o) (hc : P.cellsOf f.type = d1.sz) (hd : OpensW P d1 f.type Q1) (hr : OpensFW P d2 fs (o + d1.sz) Q2) :
    OpensFW P (Kd.pair d1 d2) (f :: fs) o (fun x => Q1 x.1 ∧ Q2 x.2) := by
  intro H enc w base spare held fuel cs hl hf
  obtain ⟨y, hy, hw⟩ := hf 0 f rfl
  rw [ho, hc] at hy
  obtain ⟨a, ha, hQ1⟩ := hd H enc w base spare held fuel _ _ hy hw
  obtain ⟨b, hb, hQ2⟩ := hr H enc w base spare held fuel cs (by rw [hl]; simp [Kd.pair]; omega) (fun i g hg => hf (i + 1) g (by simpa using hg))
  refine ⟨(a, b), ⟨_, _, ?_, ha, hb⟩, hQ1, hQ2⟩
  rw [← List.drop_drop, List.take_append_drop]
theorem opensW_struct {α : Type} {d : Kd α} {t : TypeId} {fs : Array Field} {Q : α → Prop} (ht : P.underlying t = some (.struct fs)) (hc : P.cellsOf t = d.sz) (hf : OpensFW P d fs.toList 0 Q) : OpensW P d t Q := by
  intro H enc w base spare held fuel cs x h hw
  obtain ⟨xs, n, _, rfl, hl, hlen, hg⟩ := DataW.trod_struct ht h
  unfold DataW.weights at hw
  rw [ht] at hw
  obtain ⟨v, hv, hQ⟩ := hf H enc w base spare held n cs (by rw [hl, hc, Nat.zero_add]) (fun i f hi => by
    have hi' : fs[i]? = some f := by simpa using hi
    have hlt := (Array.getElem?_eq_some_iff.1 hi').1
    refine ⟨xs[i]'(by omega), by rw [hg i f hi']; simp, fun m hm => hw m (weightsEach_mem i (t := f.type) (d := (xs[i]'(by omega)).1) ?_ ?_ hm)⟩
    · simp [hi']
    · have : i < xs.length := by omega
      simp [List.getElem?_eq_getElem this])
  exact ⟨v, by simpa using hv, hQ⟩
theorem opensW_iso {α β : Type} {d : Kd α} {t : TypeId} {Q : α → Prop} (g : β → α) (inv : α → β) (hg : ∀ a, g (inv a) = a) (h : OpensW P d t Q) : OpensW P (Kd.iso d g) t (fun x => Q (g x)) := by
  intro H enc w base spare held fuel cs x hx hw
  obtain ⟨v, hv, hQ⟩ := h H enc w base spare held fuel cs x hx hw
  exact ⟨inv v, by show d.K w (g (inv v)) cs; rw [hg]; exact hv, by show Q (g (inv v)); rw [hg]; exact hQ⟩
section
variable {H : Type} {enc : TypeId × Value → H} {w : World} {base : Nat} {spare : Nat → Bool} {held : Bool}
theorem open_slice_argW {α : Type} {d : Kd α} {t e : TypeId} {Q : List α → Prop} {r : Reach} {b0 : Nat} {v : Value} {x : DataW H} {ps : List MemPlace} (ho : OpensW P (Kd.slice e d) t Q) (ht : P.underlying t = some (.slice e)) (hval : Value.okWide P w r b0 t v)
    (hd : DataW.Trod enc P w base spare held t v x ps) (hw : ∀ n ∈ x.weights P t, n ≤ reachBytes) : ∃ A c ys, v = .slice A (ys : List α).length c ∧ ys.length ≤ c ∧ d.C w A ys.length ys ∧ Q ys := by
  obtain ⟨a, n, c, rfl⟩ := okWide_slice ht hval
  obtain ⟨fuel, hf⟩ := hd
  obtain ⟨ys, ⟨A, c', he, hl, hc⟩, hQ⟩ := ho H enc w base spare held fuel _ _ hf hw
  refine ⟨A, c', ys, ?_, hl, hc, hQ⟩
  simpa [Value.cells] using he
end
end Go.Proofs.YtkioddjjfifadaaGreatDoor.P
namespace Go.Proofs.YtkioddjjfifadaaGreatDoor.P
open Go.Proofs.YtkioddjjfifadaaGreatDoor
theorem lh_et : Tryz.prog.globalNamed "errors.errorType" = some 0 := by kernel_rfl
theorem lh_rt : (Tryz.prog.cutTypes.find? (·.1 == "internal/reflectlite.rtype")).map (·.2) = some 336 := by kernel_rfl
theorem lh_one : ((List.range 458).filter fun t => Tryz.prog.rowNamed t [101, 114, 114, 111, 114]) = [132] := by kernel_rfl
theorem lh_size : Tryz.prog.types.size = 458 := by kernel_rfl
theorem lh_parts {W : World} (h : laidMetH Tryz.prog laidL W) : laidMet Tryz.prog laidD W ∧ handlesMet Tryz.prog [("errors.errorType", Rows.laid_errors_errorType)] W := h
theorem hd_of_laid {W : World} (h : laidMetH Tryz.prog laidL W) : Hd W := by
  obtain ⟨name, u, ty, e1, e2, e3, e4, e5⟩ := (lh_parts h).2 _ (List.mem_singleton.2 rfl)
  have en : name = [101, 114, 114, 111, 114] := (Option.some.inj e1).symm
  subst en
  obtain rfl := Option.some.inj (lh_rt.symm.trans e2)
  have hm : ty ∈ (List.range 458).filter fun t => Tryz.prog.rowNamed t [101, 114, 114, 111, 114] := List.mem_filter.2 ⟨List.mem_range.2 (by rw [← lh_size]; exact e3), e4⟩
  rw [lh_one] at hm
  obtain rfl := List.mem_singleton.1 hm
  have hh : typeHandle Tryz.prog 132 = .pointer (some ⟨7, 132, none⟩) := by kernel_rfl
  rw [hh] at e5
  have := World.var?_cell lh_et e5 0
  simpa using this
end Go.Proofs.YtkioddjjfifadaaGreatDoor.P
namespace Go.Proofs.YtkioddjjfifadaaGreatDoor.P
open Go.Proofs.YtkioddjjfifadaaGreatDoor Go.Lib
theorem u8extra : U8Extra Tryz.prog Tryz.lays197_ren := {
  n3 := by kernel_rfl
  n4 := by kernel_rfl
  y3 := by kernel_rfl
  y4 := by kernel_rfl
  c5 := by kernel_rfl
  c119 := by kernel_rfl
  c138 := by kernel_rfl }
theorem first_eq : (Rows.laid_unicode_utf8_first : DataW Unit) = firstData := by kernel_rfl
theorem accept_eq : (Rows.laid_unicode_utf8_acceptRanges : DataW Unit) = acceptData := by kernel_rfl
theorem pow_eq : (Rows.laid_internal_strconv_uint64pow10 : DataW Unit) = tabData .u64 pow10Tab := by kernel_rfl
theorem tb_of_laid {W : World} (h : laidMetH Tryz.prog laidL W) : Tb W := by
  have hd := (lh_parts h).1
  have h1 : VarReads Tryz.prog W "unicode/utf8.first" firstData := by
    rw [← first_eq]
    exact laidMet.reads hd (by unfold laidD; simp)
  have h2 : VarReads Tryz.prog W "unicode/utf8.acceptRanges" acceptData := by
    rw [← accept_eq]
    exact laidMet.reads hd (by unfold laidD; simp)
  have h3 : laidMet Tryz.prog (("internal/strconv.uint64pow10", tabData .u64 pow10Tab) :: [("unicode/utf8.acceptRanges", Rows.laid_unicode_utf8_acceptRanges), ("unicode/utf8.first", Rows.laid_unicode_utf8_first)]) W := by
    rw [← pow_eq]
    exact laidMet.tail (laidMet.tail hd)
  have hu : Utf8Tabs 2 3 W := utf8Tabs_of_reads (ρ := Tryz.lays197_ren) { Tryz.lays197 with } u8extra h1 h2
  refine ⟨tabIs_of_head (g := 4) (t := 419) (e := 278) (n := 20) (by kernel_rfl) (by kernel_rfl) (by kernel_rfl) (by kernel_rfl) (by kernel_rfl) (by kernel_rfl) h3, hu, ?_⟩
  obtain ⟨g, t, cs, fuel, p, hg, _, hv, _⟩ := laidMet.reads (n := "math/bits.deBruijn64tab") (d := Rows.laid_math_bits_deBruijn64tab) hd (by unfold laidD; simp)
  unfold World.var? at hv
  rw [show Tryz.prog.globalNamed "math/bits.deBruijn64tab" = some 6 by kernel_rfl, Option.bind_some] at hv
  rcases Nat.lt_or_ge 6 W.heap.size with h6 | h6
  · exact h6
  rw [Array.getElem?_eq_none h6] at hv
  cases hv
end Go.Proofs.YtkioddjjfifadaaGreatDoor.P
namespace Go.Proofs.YtkioddjjfifadaaGreatDoor.P
open Go.Deep Go.RowKit Go.ChangeShapes Go.WideShapes Go.WideElems Go.Proofs.YtkioddjjfifadaaGreatDoorW.PrintWords
abbrev QB (x : List Int) : Prop := x.length * Tryz.prog.bytesOf 5 ≤ reachBytes ∧ ∀ y ∈ x, (Lit.int .u8 y).wf = true
abbrev Q64W (x : S64) : Prop := x.f0.size ≤ reachBytes ∧ (Lit.int .i64 x.f1).wf = true ∧ QB x.f2
abbrev QNm (n : List (List S64)) : Prop := n.length * Tryz.prog.bytesOf 62 ≤ reachBytes ∧ ∀ s ∈ n, s.length * Tryz.prog.bytesOf 64 ≤ reachBytes ∧ ∀ p ∈ s, Q64W p
theorem o_bytesW {t : TypeId} (ht : Tryz.prog.underlying t = some (.slice 5)) : OpensW Tryz.prog (Kd.slice 5 (Kd.int .u8)) t QB := opensW_slice ht (by kernel_rfl) (opens_int (by kernel_rfl)).toW
theorem o_64W : OpensW Tryz.prog k64 64 Q64W :=
  opensW_iso (fun x : S64 => (x.f0, x.f1, x.f2)) (fun p => ⟨p.1, p.2.1, p.2.2⟩) (fun _ => rfl) (opensW_struct Tryz.underlying64 (by kernel_rfl)
    (opensFW_cons rfl (by kernel_rfl) (opensW_string (by kernel_rfl)) (opensFW_cons rfl (by kernel_rfl) (opens_int (by kernel_rfl)).toW (opensFW_one rfl (by kernel_rfl) (o_bytesW (by kernel_rfl))))))
theorem o_nameW {t : TypeId} (ht : Tryz.prog.underlying t = some (.slice 62)) : OpensW Tryz.prog (Kd.slice 62 (Kd.slice 64 k64)) t QNm := opensW_slice ht (by kernel_rfl) (opensW_slice (by kernel_rfl) (by kernel_rfl) o_64W)
theorem bytes5' : Tryz.prog.bytesOf 5 = 1 := by kernel_rfl
theorem wf_u8 {x : Int} (h : (Lit.int .u8 x).wf = true) : 0 ≤ x ∧ x ≤ 255 := by simpa [Lit.wf, IntKind.min, IntKind.max, IntKind.signed, IntKind.bits] using h
theorem wf_i64 {x : Int} (h : (Lit.int .i64 x).wf = true) : -9223372036854775808 ≤ x ∧ x ≤ 9223372036854775807 := by simpa [Lit.wf, IntKind.min, IntKind.max, IntKind.signed, IntKind.bits] using h
theorem part_ok {x : S64} (h : Q64W x) : PartOk x := by
  obtain ⟨h0, h1, h2, h3⟩ := h
  rw [bytes5', Nat.mul_one] at h2
  have hr : reachBytes = 140737488351232 := by decide
  rw [hr] at h0 h2
  refine ⟨by omega, by omega, List.all_eq_true.2 fun y hy => ?_, wf_i64 h1⟩
  have := wf_u8 (h3 y hy)
  simp only [isByte, Bool.and_eq_true, decide_eq_true_eq]
  exact this
end Go.Proofs.YtkioddjjfifadaaGreatDoor.P
