/- What the proof of NameOwn needs of: Ht1. -/
import Derived.Deep.LoopGhost
import Derived.Deep.DeepMust
import Derived.Deep.DeepBigQuietO
import Derived.Deep.CutBlock
import Derived.Deep.DeepCutAuto
import Derived.Shelf.Unicode.ValidAny
import Derived.Test.YtkioddjjfifadaaGreatDoorNo8
set_option linter.unusedSimpArgs false
set_option linter.unusedVariables false
namespace Go.Proofs.YtkioddjjfifadaaGreatDoor.P
open Go.RowKit Go.Proofs.YtkioddjjfifadaaGreatDoorW.PrintWords Go.Proofs.YtkioddjjfifadaaGreatDoorW.PrintLast Go.Proofs.YtkioddjjfifadaaGreatDoorW.PrintMore
theorem cut_all (A : Option Addr) (n c : Nat) (hc : n ≤ c) : ∀ W : World, (Instr.slice 22 (.slice A n c) none (some (.int .i64 (n : Int))) (some (.int .i64 (n : Int)))).run Tryz.prog W = .ok (.slice A n n) W := by
  intro W
  obtain ⟨i0, hi0, -, hsz, -⟩ := info_parts info5
  have hel : Tryz.prog.elem 22 = 5 := by simp [Program.elem, Tryz.underlying22]
  have hu : Tryz.prog.underlying 22 = some (.slice (Tryz.prog.elem 22)) := by rw [hel]; exact Tryz.underlying22
  have ha : (A.map fun x => x.add 0) = A := by cases A <;> simp [Addr.add]
  rw [run_slice_hm W 22 A n c hu .i64 .i64 (n : Int) (n : Int) (by omega) (by omega) (by omega), hel]
  simp [sizeOf, typeInfo, hi0, sliced, Result.andThen, ha]
set_option maxHeartbeats 16000000 in
set_option maxRecDepth 1000000 in
theorem utf8_Valid_walk (A0 : Option Addr) (c0 : Nat) (s : ByteArray) (w : World) (hS : BS w A0 c0 s) (hT : Lib.Utf8Tabs 2 3 w) :
    Calls Tryz.prog 204 #[.slice A0 s.size c0] w fun e w' => e = .returned (.bool (Lib.validD s.data.toList)) ∧ Below w.heap.size w w' := by
  have mixed : Tryz.prog.follows .mixedOrders = true := by kernel_rfl
  obtain ⟨ANS, hANS⟩ : ∃ ANS, Lib.validD s.data.toList = ANS := ⟨_, rfl⟩
  rw [hANS]
  have hfst := cut_all A0 s.size c0 hS.room
  go_enter Tryz.func204, Tryz.ntmps204
  go_wp2
  clear hfst
  go_loopg [0] (s.size + 1) (fun gk s0 wx => Below w.heap.size w wx ∧ ∃ A c t, s0 = .slice A t.size c ∧ BS w A c t ∧ Lib.validD t.data.toList = ANS ∧ t.size < gk)
  case atStart => exact ⟨Below.refl _ _, A0, s.size, s, rfl, ⟨Nat.le_refl _, hS.reads⟩, hANS, by omega⟩
  case round =>
    obtain ⟨hbw, A, c, t, rfl, hbs, hv, hg⟩ := hrel
    clear hANS hS
    have hTr := Utf8Tabs_below hT hbw
    by_cases h0 : 0 < t.size
    · obtain ⟨g', rfl⟩ : ∃ g', gk = g' + 1 := ⟨gk - 1, by omega⟩
      have h0z : ((0 : Int) < (t.size : Int)) = True := eq_true (by omega)
      have h0q : (0 < t.size) = True := eq_true h0
      have h0d : decide ((0 : Int) < (t.size : Int)) = true := decide_eq_true (by omega)
      obtain ⟨ad, rfl, hc0⟩ := hbs.cell 0 h0 hbw
      rw [Addr.add_zero'] at hc0
      obtain ⟨x0, hx0⟩ : ∃ x0, t.get! 0 = x0 := ⟨_, rfl⟩
      rw [hx0] at hc0
      have hx0lt : x0.toNat < 256 := x0.toNat_lt
      by_cases hasc : x0.toNat < 128
      · as_aux_lemma =>  -- a byte below 128: the fast path
        have hascz : (x0.toNat : Int) < 128 := by omega
        have a1 : Lib.Asc t 1 := Lib.asc_one t h0 (by rw [hx0]; exact hasc)
        obtain ⟨A1, c1, t1, ht1, z1, hb1, hsl1⟩ := hbs.cut 1 (by omega)
        have v1 : Lib.validD t1.data.toList = ANS := by rw [← ht1, Lib.valid_skip t 1 a1]; exact hv
        replace hsl1 : ∀ W : World, (Instr.slice 22 (.slice (some ad) t.size c) (some (.int .i64 1)) none none).run Tryz.prog W = .ok (.slice A1 t1.size c1) W := hsl1
        clear hTr hT hv a1 ht1
        by_cases c8 : 8 < t1.size
        · have c8z : (8 : Int) < (t1.size : Int) := by omega
          obtain ⟨B1, hB1⟩ : ∃ B1, wordOf t1 = B1 := ⟨_, rfl⟩
          have lB1 : B1 < 18446744073709551616 := hB1 ▸ Lib.word_lt t1
          have cB1 := word_calls hb1 (by omega)
          rw [hB1] at cB1
          have kB1 := Lib.word_asc t1 (by omega)
          rw [show Lib.leNat [t1.get! 0, t1.get! 1, t1.get! 2, t1.get! 3, t1.get! 4, t1.get! 5, t1.get! 6, t1.get! 7] = B1 from hB1] at kB1
          have hand1 : bits .and .u64 (B1 : Int) 9259542123273814144 = ((B1 &&& 9259542123273814144 : Nat) : Int) := u64_and_nat B1 9259542123273814144 lB1 (by omega)
          obtain ⟨Z1, hZ1⟩ : ∃ Z1, B1 &&& 9259542123273814144 = Z1 := ⟨_, rfl⟩
          rw [hZ1] at hand1 kB1
          by_cases hz1 : Z1 = 0
          · have hz1b : ((Z1 : Int) == 0) = true := by simp [hz1]
            have a8 : Lib.Asc t1 8 := kB1.1 hz1
            obtain ⟨A2, c2, t2, ht2, z2, hb2, hsl2⟩ := hb1.cut 8 (by omega)
            have v2 : Lib.validD t2.data.toList = ANS := by rw [← ht2, Lib.valid_skip t1 8 a8]; exact v1
            replace hsl2 : ∀ W : World, (Instr.slice 22 (.slice A1 t1.size c1) (some (.int .i64 8)) none none).run Tryz.prog W = .ok (.slice A2 t2.size c2) W := hsl2
            clear kB1 a8 v1 ht2
            go_wp2_with (go_at_call 250; go_must (refine (cB1 _ hbw).mono ?_; rintro e W1 ⟨rfl, q1, rfl⟩))
            have hw1 : Below w.heap.size w (wr.drewN q1) := below_drewNv hbw q1
            generalize wr.drewN q1 = wq at hw1 ⊢
            clear cB1 hbw hc0
            by_cases c16 : 16 < t2.size
            · have c16z : (16 : Int) < (t2.size : Int) := by omega
              obtain ⟨A2b, c2b, t2b, ht2b, z2b, hb2b, hsl2b⟩ := hb2.cut 8 (by omega)
              replace hsl2b : ∀ W : World, (Instr.slice 22 (.slice A2 t2.size c2) (some (.int .i64 8)) none none).run Tryz.prog W = .ok (.slice A2b t2b.size c2b) W := hsl2b
              obtain ⟨B2, hB2⟩ : ∃ B2, wordOf t2 = B2 := ⟨_, rfl⟩
              have lB2 : B2 < 18446744073709551616 := hB2 ▸ Lib.word_lt t2
              have cB2 := word_calls hb2 (by omega)
              rw [hB2] at cB2
              have kB2 := Lib.word_asc t2 (by omega)
              rw [show Lib.leNat [t2.get! 0, t2.get! 1, t2.get! 2, t2.get! 3, t2.get! 4, t2.get! 5, t2.get! 6, t2.get! 7] = B2 from hB2] at kB2
              obtain ⟨B3, hB3⟩ : ∃ B3, wordOf t2b = B3 := ⟨_, rfl⟩
              have lB3 : B3 < 18446744073709551616 := hB3 ▸ Lib.word_lt t2b
              have cB3 := word_calls hb2b (by omega)
              rw [hB3] at cB3
              have kB3 := Lib.word_asc t2b (by omega)
              rw [show Lib.leNat [t2b.get! 0, t2b.get! 1, t2b.get! 2, t2b.get! 3, t2b.get! 4, t2b.get! 5, t2b.get! 6, t2b.get! 7] = B3 from hB3] at kB3
              have hor2 : bits .or .u64 (B2 : Int) (B3 : Int) = ((B2 ||| B3 : Nat) : Int) := u64_or_nat B2 B3 lB2 lB3
              have lor2 : B2 ||| B3 < 18446744073709551616 := Nat.or_lt_two_pow (n := 64) lB2 lB3
              have hand2 : bits .and .u64 ((B2 ||| B3 : Nat) : Int) 9259542123273814144 = (((B2 ||| B3) &&& 9259542123273814144 : Nat) : Int) := u64_and_nat _ 9259542123273814144 lor2 (by omega)
              have k2 : (B2 ||| B3) &&& 9259542123273814144 = 0 → Lib.Asc t2 16 := fun h0' => by
                obtain ⟨e1, e2⟩ := (Lib.or_mask B2 B3 _).1 h0'
                exact Lib.asc_add t2 8 8 (kB2.1 e1) (by rw [ht2b]; exact kB3.1 e2)
              obtain ⟨O2, hO2⟩ : ∃ O2, B2 ||| B3 = O2 := ⟨_, rfl⟩
              rw [hO2] at hor2 hand2 k2
              obtain ⟨Z2, hZ2⟩ : ∃ Z2, O2 &&& 9259542123273814144 = Z2 := ⟨_, rfl⟩
              rw [hZ2] at hand2 k2
              clear kB2 kB3 lor2 hO2 hZ2 ht2b
              by_cases hz2 : Z2 = 0
              · have hz2b : ((Z2 : Int) == 0) = true := by simp [hz2]
                have a16 := k2 hz2
                obtain ⟨A3, c3, t3, ht3, z3, hb3, hsl3⟩ := hb2.cut 16 (by omega)
                have v3 : Lib.validD t3.data.toList = ANS := by rw [← ht3, Lib.valid_skip t2 16 a16]; exact v2
                replace hsl3 : ∀ W : World, (Instr.slice 22 (.slice A2 t2.size c2) (some (.int .i64 16)) none none).run Tryz.prog W = .ok (.slice A3 t3.size c3) W := hsl3
                clear k2 a16 v2 ht3
                go_big_quiet_o (first | (go_at_call 250; with_reducible exact Calls.quiet_of (cB2 _ (below_drewNv hw1 _))) | (go_at_call 250; with_reducible exact Calls.quiet_of (cB3 _ (below_drewNv hw1 _))))
                have hw2 : Below w.heap.size w (wq.drewN nq) := below_drewNv hw1 nq
                generalize wq.drewN nq = wq2 at hw2 ⊢
                clear cB2 cB3 hw1
                go_wp2
                clear hsl1 hsl2 hsl2b hsl3
                go_loopg [0] (t3.size + 1) (fun g2 s0 wx => Below w.heap.size w wx ∧ ∃ A c u, s0 = .slice A u.size c ∧ BS w A c u ∧ Lib.validD u.data.toList = ANS ∧ u.size < g2 ∧ u.size ≤ t3.size)
                case atStart => exact ⟨hw2, A3, c3, t3, rfl, hb3, v3, by omega, Nat.le_refl _⟩
                case round =>
                  obtain ⟨hbu, AU, cu, u, rfl, hbsu, vu, hgu, hut⟩ := hrel
                  clear hb1 hb2 hb2b hb3 hbs
                  by_cases c32 : 32 < u.size
                  · obtain ⟨g3, rfl⟩ : ∃ g3, gk = g3 + 1 := ⟨gk - 1, by omega⟩
                    have c32z : (32 : Int) < (u.size : Int) := by omega
                    obtain ⟨AUb, cub, ub, hub, zub, hbsub, hslub⟩ := hbsu.cut 8 (by omega)
                    replace hslub : ∀ W : World, (Instr.slice 22 (.slice AU u.size cu) (some (.int .i64 8)) none none).run Tryz.prog W = .ok (.slice AUb ub.size cub) W := hslub
                    obtain ⟨AUc, cuc, uc, huc, zuc, hbsuc, hsluc⟩ := hbsu.cut 16 (by omega)
                    replace hsluc : ∀ W : World, (Instr.slice 22 (.slice AU u.size cu) (some (.int .i64 16)) none none).run Tryz.prog W = .ok (.slice AUc uc.size cuc) W := hsluc
                    obtain ⟨AUd, cud, ud, hud, zud, hbsud, hslud⟩ := hbsu.cut 24 (by omega)
                    replace hslud : ∀ W : World, (Instr.slice 22 (.slice AU u.size cu) (some (.int .i64 24)) none none).run Tryz.prog W = .ok (.slice AUd ud.size cud) W := hslud
                    obtain ⟨D0, hD0⟩ : ∃ D0, wordOf u = D0 := ⟨_, rfl⟩
                    have lD0 : D0 < 18446744073709551616 := hD0 ▸ Lib.word_lt u
                    have cD0 := word_calls hbsu (by omega)
                    rw [hD0] at cD0
                    have kD0 := Lib.word_asc u (by omega)
                    rw [show Lib.leNat [u.get! 0, u.get! 1, u.get! 2, u.get! 3, u.get! 4, u.get! 5, u.get! 6, u.get! 7] = D0 from hD0] at kD0
                    obtain ⟨D1, hD1⟩ : ∃ D1, wordOf ub = D1 := ⟨_, rfl⟩
                    have lD1 : D1 < 18446744073709551616 := hD1 ▸ Lib.word_lt ub
                    have cD1 := word_calls hbsub (by omega)
                    rw [hD1] at cD1
                    have kD1 := Lib.word_asc ub (by omega)
                    rw [show Lib.leNat [ub.get! 0, ub.get! 1, ub.get! 2, ub.get! 3, ub.get! 4, ub.get! 5, ub.get! 6, ub.get! 7] = D1 from hD1] at kD1
                    obtain ⟨D2, hD2⟩ : ∃ D2, wordOf uc = D2 := ⟨_, rfl⟩
                    have lD2 : D2 < 18446744073709551616 := hD2 ▸ Lib.word_lt uc
                    have cD2 := word_calls hbsuc (by omega)
                    rw [hD2] at cD2
                    have kD2 := Lib.word_asc uc (by omega)
                    rw [show Lib.leNat [uc.get! 0, uc.get! 1, uc.get! 2, uc.get! 3, uc.get! 4, uc.get! 5, uc.get! 6, uc.get! 7] = D2 from hD2] at kD2
                    obtain ⟨D3, hD3⟩ : ∃ D3, wordOf ud = D3 := ⟨_, rfl⟩
                    have lD3 : D3 < 18446744073709551616 := hD3 ▸ Lib.word_lt ud
                    have cD3 := word_calls hbsud (by omega)
                    rw [hD3] at cD3
                    have kD3 := Lib.word_asc ud (by omega)
                    rw [show Lib.leNat [ud.get! 0, ud.get! 1, ud.get! 2, ud.get! 3, ud.get! 4, ud.get! 5, ud.get! 6, ud.get! 7] = D3 from hD3] at kD3
                    have ho1 : bits .or .u64 (D0 : Int) (D1 : Int) = ((D0 ||| D1 : Nat) : Int) := u64_or_nat D0 D1 lD0 lD1
                    have ho2 : bits .or .u64 (D2 : Int) (D3 : Int) = ((D2 ||| D3 : Nat) : Int) := u64_or_nat D2 D3 lD2 lD3
                    have lo1 : D0 ||| D1 < 18446744073709551616 := Nat.or_lt_two_pow (n := 64) lD0 lD1
                    have lo2 : D2 ||| D3 < 18446744073709551616 := Nat.or_lt_two_pow (n := 64) lD2 lD3
                    have ho3 : bits .or .u64 ((D0 ||| D1 : Nat) : Int) ((D2 ||| D3 : Nat) : Int) = (((D0 ||| D1) ||| (D2 ||| D3) : Nat) : Int) := u64_or_nat _ _ lo1 lo2
                    have lo3 : (D0 ||| D1) ||| (D2 ||| D3) < 18446744073709551616 := Nat.or_lt_two_pow (n := 64) lo1 lo2
                    have hand3 : bits .and .u64 (((D0 ||| D1) ||| (D2 ||| D3) : Nat) : Int) 9259542123273814144 = ((((D0 ||| D1) ||| (D2 ||| D3)) &&& 9259542123273814144 : Nat) : Int) := u64_and_nat _ 9259542123273814144 lo3 (by omega)
                    have k3 : ((D0 ||| D1) ||| (D2 ||| D3)) &&& 9259542123273814144 = 0 → Lib.Asc u 32 := fun h0' => by
                      obtain ⟨e01, e23⟩ := (Lib.or_mask _ _ _).1 h0'
                      obtain ⟨e0, e1⟩ := (Lib.or_mask _ _ _).1 e01
                      obtain ⟨e2, e3⟩ := (Lib.or_mask _ _ _).1 e23
                      have s16 : Lib.Asc u 16 := Lib.asc_add u 8 8 (kD0.1 e0) (by rw [hub]; exact kD1.1 e1)
                      have s24 : Lib.Asc u 24 := Lib.asc_add u 16 8 s16 (by rw [huc]; exact kD2.1 e2)
                      exact Lib.asc_add u 24 8 s24 (by rw [hud]; exact kD3.1 e3)
                    obtain ⟨P1, hP1⟩ : ∃ P1, D0 ||| D1 = P1 := ⟨_, rfl⟩
                    obtain ⟨P2, hP2⟩ : ∃ P2, D2 ||| D3 = P2 := ⟨_, rfl⟩
                    rw [hP1] at ho1 ho3 hand3 k3
                    rw [hP2] at ho2 ho3 hand3 k3
                    obtain ⟨P3, hP3⟩ : ∃ P3, P1 ||| P2 = P3 := ⟨_, rfl⟩
                    rw [hP3] at ho3 hand3 k3
                    obtain ⟨Z3, hZ3⟩ : ∃ Z3, P3 &&& 9259542123273814144 = Z3 := ⟨_, rfl⟩
                    rw [hZ3] at hand3 k3
                    clear kD0 kD1 kD2 kD3 lo1 lo2 lo3 hP1 hP2 hP3 hZ3 hub huc hud
                    by_cases hz3 : Z3 = 0
                    · have hz3b : ((Z3 : Int) == 0) = true := by simp [hz3]
                      have a32 := k3 hz3
                      obtain ⟨AU2, cu2, u2', hu2, zu2, hbsu2, hslu2⟩ := hbsu.cut 32 (by omega)
                      have vu2 : Lib.validD u2'.data.toList = ANS := by rw [← hu2, Lib.valid_skip u 32 a32]; exact vu
                      replace hslu2 : ∀ W : World, (Instr.slice 22 (.slice AU u.size cu) (some (.int .i64 32)) none none).run Tryz.prog W = .ok (.slice AU2 u2'.size cu2) W := hslu2
                      go_wp2_with fail
                      go_big_quiet_o (first | (go_at_call 250; with_reducible exact Calls.quiet_of (cD0 _ (below_drewNv hbu _))) | (go_at_call 250; with_reducible exact Calls.quiet_of (cD1 _ (below_drewNv hbu _))) | (go_at_call 250; with_reducible exact Calls.quiet_of (cD2 _ (below_drewNv hbu _))) | (go_at_call 250; with_reducible exact Calls.quiet_of (cD3 _ (below_drewNv hbu _))))
                      go_wp2
                      go_roundg g3
                      case measure => omega
                      case rel => exact ⟨below_drewNv hbu nq, AU2, cu2, u2', rfl, hbsu2, vu2, by omega, by omega⟩
                    · have hz3b : ((Z3 : Int) == 0) = false := by simp; omega
                      go_wp2_with fail
                      go_big_quiet_o (first | (go_at_call 250; with_reducible exact Calls.quiet_of (cD0 _ (below_drewNv hbu _))) | (go_at_call 250; with_reducible exact Calls.quiet_of (cD1 _ (below_drewNv hbu _))) | (go_at_call 250; with_reducible exact Calls.quiet_of (cD2 _ (below_drewNv hbu _))) | (go_at_call 250; with_reducible exact Calls.quiet_of (cD3 _ (below_drewNv hbu _))))
                      go_wp2
                      go_roundg g'
                      case measure => omega
                      case rel => exact ⟨below_drewNv hbu nq, AU, cu, u, rfl, hbsu, vu, by omega⟩
                  · have c32z : ¬ ((32 : Int) < (u.size : Int)) := by omega
                    have c32b : decide ((32 : Int) < (u.size : Int)) = false := decide_eq_false c32z
                    go_wp2_with fail
                    go_big_quiet_o (fail)
                    go_wp2
                    go_roundg g'
                    case measure => omega
                    case rel => exact ⟨below_drewNv hbu nq, AU, cu, u, rfl, hbsu, vu, by omega⟩
              · have hz2b : ((Z2 : Int) == 0) = false := by simp; omega
                go_big_quiet_o (first | (go_at_call 250; with_reducible exact Calls.quiet_of (cB2 _ (below_drewNv hw1 _))) | (go_at_call 250; with_reducible exact Calls.quiet_of (cB3 _ (below_drewNv hw1 _))))
                go_wp2
                go_roundg g'
                case measure => omega
                case rel => exact ⟨below_drewNv hw1 nq, A2, c2, t2, rfl, hb2, v2, by omega⟩
            · have c16z : ¬ ((16 : Int) < (t2.size : Int)) := by omega
              have c16b : decide ((16 : Int) < (t2.size : Int)) = false := decide_eq_false c16z
              go_big_quiet_o (fail)
              go_wp2
              go_roundg g'
              case measure => omega
              case rel => exact ⟨below_drewNv hw1 nq, A2, c2, t2, rfl, hb2, v2, by omega⟩
          · have hz1b : ((Z1 : Int) == 0) = false := by simp; omega
            go_wp2_with (go_at_call 250; go_must (refine (cB1 _ hbw).mono ?_; rintro e W1 ⟨rfl, q1, rfl⟩))
            go_roundg g'
            case measure => omega
            case rel => exact ⟨below_drewNv hbw q1, A1, c1, t1, rfl, hb1, v1, by omega⟩
        · have c8z : ¬ ((8 : Int) < (t1.size : Int)) := by omega
          go_wp2
          go_roundg g'
          case measure => omega
          case rel => exact ⟨hbw, A1, c1, t1, rfl, hb1, v1, by omega⟩
      · as_aux_lemma =>  -- a lead byte from 128 on
        have hge : 128 ≤ x0.toNat := by omega
        have hascz : ¬ ((x0.toNat : Int) < 128) := by omega
        obtain ⟨x1, hx1⟩ : ∃ x1, t.get! 1 = x1 := ⟨_, rfl⟩
        obtain ⟨x2, hx2⟩ : ∃ x2, t.get! 2 = x2 := ⟨_, rfl⟩
        obtain ⟨x3, hx3⟩ : ∃ x3, t.get! 3 = x3 := ⟨_, rfl⟩
        have l1 := x1.toNat_lt; have l2 := x2.toNat_lt; have l3 := x3.toNat_lt
        have hne : t.data.toList ≠ [] := fun h => by rw [Lib.size_eq, h] at h0; simp at h0
        have hlead := Lib.validD_lead t.data.toList hne (by rw [Lib.getD_get!', hx0]; exact hge)
        rw [Lib.getD_get!', Lib.getD_get!', Lib.getD_get!', Lib.getD_get!', hx0, hx1, hx2, hx3, ← Lib.size_eq, hv] at hlead
        have hcT := hTr.1 x0.toNat hx0lt
        have hXlt : Lib.firstT x0.toNat < 256 := by rcases Lib.firstT_cases x0.toNat with h | h | h | h | h | h | h | h | h <;> omega
        obtain ⟨X, hX⟩ : ∃ X, Lib.firstT x0.toNat = X := ⟨_, rfl⟩
        rw [hX] at hcT hXlt hlead
        have h7 := and7 ⟨X, hXlt⟩
        simp only at h7
        have ha0 : wr.cell? ⟨3, X / 16 * 2, none⟩ = some (.int .u8 (Lib.accLo (X / 16))) := by rw [Nat.mul_comm]; exact (hTr.2 (X / 16) (by omega)).1
        have ha1 : wr.cell? ⟨3, X / 16 * 2 + 1, none⟩ = some (.int .u8 (Lib.accHi (X / 16))) := by rw [Nat.mul_comm]; exact (hTr.2 (X / 16) (by omega)).2
        obtain ⟨LO, hLO⟩ : ∃ LO, Lib.accLo (X / 16) = LO := ⟨_, rfl⟩
        obtain ⟨HI, hHI⟩ : ∃ HI, Lib.accHi (X / 16) = HI := ⟨_, rfl⟩
        rw [hLO] at ha0 hlead
        rw [hHI] at ha1 hlead
        obtain ⟨SZ, hSZ⟩ : ∃ SZ, X % 8 = SZ := ⟨_, rfl⟩
        rw [hSZ] at hlead
        clear hTr hT hX hv hLO hHI hne
        go_upto_region 15 with fail
        obtain ⟨W4, hW4⟩ : ∃ W4, wr.alloc (Obj.cells #[Value.int IntKind.u8 (LO : Int), Value.int IntKind.u8 (HI : Int)] 367) = W4 := ⟨_, rfl⟩
        obtain ⟨G, hG⟩ : ∃ G, wr.heap.size = G := ⟨_, rfl⟩
        have hb4 : Below w.heap.size w W4 := hW4 ▸ hbw.alloc hbw.size _
        have hlo : W4.cell? ⟨G, 0, none⟩ = some (.int .u8 (LO : Int)) := by rw [← hW4, ← hG]; simp [go_sem]
        have hhi : W4.cell? ⟨G, 1, none⟩ = some (.int .u8 (HI : Int)) := by rw [← hW4, ← hG]; simp [go_sem]
        rw [hW4, hG]
        clear hW4 hG ha0 ha1 hcT hc0 h7 hbw
        by_cases s2 : SZ = 2
        · subst s2
          simp only [Lib.checkN, Nat.reduceEqDiff, if_true, if_false] at hlead
          go_upto_region 18 with fail
          go_cut [103] from 85 to 103 (fun c wx => c = .bool (decide (t.size < 2 ∨ x1.toNat < LO ∨ HI < x1.toNat)) ∧ Below w.heap.size w wx)
          case first =>
            by_cases q0 : t.size < 2
            · have q0z : (t.size : Int) < 2 := by omega
              go_big_quiet_o (fail)
              go_wp2
              go_meet
              exact ⟨congrArg Value.bool (decide_eq_true (p := t.size < 2 ∨ x1.toNat < LO ∨ HI < x1.toNat) (by omega)).symm, below_drewNv hb4 _⟩
            · have q0z : ¬ ((t.size : Int) < 2) := by omega
              obtain ⟨ad1, e1, hx1c⟩ := hbs.cell 1 (by omega) hb4
              cases e1
              rw [hx1] at hx1c
              simp only [Nat.reduceEqDiff, Go.Addr.add, ↓reduceIte] at hx1c
              have hz1 : ((1 : Int) < (t.size : Int)) = True := eq_true (by omega)
              have hp1 : (1 < t.size) = True := eq_true (by omega)
              by_cases q1 : x1.toNat < LO
              · have q1z : (x1.toNat : Int) < (LO : Int) := by omega
                go_big_quiet_o (fail)
                go_wp2
                go_meet
                exact ⟨congrArg Value.bool (decide_eq_true (p := t.size < 2 ∨ x1.toNat < LO ∨ HI < x1.toNat) (by omega)).symm, below_drewNv hb4 _⟩
              · have q1z : ¬ ((x1.toNat : Int) < (LO : Int)) := by omega
                by_cases q2 : HI < x1.toNat
                · have q2z : (HI : Int) < (x1.toNat : Int) := by omega
                  go_big_quiet_o (fail)
                  go_wp2
                  go_meet
                  exact ⟨congrArg Value.bool (decide_eq_true (p := t.size < 2 ∨ x1.toNat < LO ∨ HI < x1.toNat) (by omega)).symm, below_drewNv hb4 _⟩
                · have q2z : ¬ ((HI : Int) < (x1.toNat : Int)) := by omega
                  go_big_quiet_o (fail)
                  go_wp2
                  go_meet
                  exact ⟨congrArg Value.bool (decide_eq_false (p := t.size < 2 ∨ x1.toNat < LO ∨ HI < x1.toNat) (by omega)).symm, below_drewNv hb4 _⟩
          case rest =>
            obtain ⟨rfl, hbc⟩ := hcut
            by_cases hb : t.size < 2 ∨ x1.toNat < LO ∨ HI < x1.toNat
            · have hbd : decide (t.size < 2 ∨ x1.toNat < LO ∨ HI < x1.toNat) = true := decide_eq_true hb
              rw [if_pos hb] at hlead
              go_wp2
              all_goals (go_ret; exact ⟨by first | rfl | rw [hlead], hbc⟩)
            · have hbd : decide (t.size < 2 ∨ x1.toNat < LO ∨ HI < x1.toNat) = false := decide_eq_false hb
              rw [if_neg hb] at hlead
              obtain ⟨A5, c5, t5, ht5, z5, hb5, hsl5⟩ := hbs.cut 2 (by omega)
              replace hsl5 : ∀ W : World, (Instr.slice 22 (.slice (some ad) t.size c) (some (.int .i64 2)) none none).run Tryz.prog W = .ok (.slice A5 t5.size c5) W := hsl5
              go_wp2
              go_roundg g'
              case measure => omega
              case rel => exact ⟨hbc, A5, c5, t5, rfl, hb5, by rw [← ht5, Lib.ext_list, hlead], by omega⟩
        by_cases s3 : SZ = 3
        · subst s3
          simp only [Lib.checkN, Nat.reduceEqDiff, if_true, if_false] at hlead
          go_upto_region 22 with fail
          go_cut [138] from 108 to 138 (fun c wx => c = .bool (decide (t.size < 3 ∨ x1.toNat < LO ∨ HI < x1.toNat ∨ x2.toNat < 128 ∨ 191 < x2.toNat)) ∧ Below w.heap.size w wx)
          case first =>
            by_cases q0 : t.size < 3
            · have q0z : (t.size : Int) < 3 := by omega
              go_big_quiet_o (fail)
              go_wp2
              go_meet
              exact ⟨congrArg Value.bool (decide_eq_true (p := t.size < 3 ∨ x1.toNat < LO ∨ HI < x1.toNat ∨ x2.toNat < 128 ∨ 191 < x2.toNat) (by omega)).symm, below_drewNv hb4 _⟩
            · have q0z : ¬ ((t.size : Int) < 3) := by omega
              obtain ⟨ad1, e1, hx1c⟩ := hbs.cell 1 (by omega) hb4
              cases e1
              rw [hx1] at hx1c
              simp only [Nat.reduceEqDiff, Go.Addr.add, ↓reduceIte] at hx1c
              have hz1 : ((1 : Int) < (t.size : Int)) = True := eq_true (by omega)
              have hp1 : (1 < t.size) = True := eq_true (by omega)
              obtain ⟨ad2, e2, hx2c⟩ := hbs.cell 2 (by omega) hb4
              cases e2
              rw [hx2] at hx2c
              simp only [Nat.reduceEqDiff, Go.Addr.add, ↓reduceIte] at hx2c
              have hz2 : ((2 : Int) < (t.size : Int)) = True := eq_true (by omega)
              have hp2 : (2 < t.size) = True := eq_true (by omega)
              by_cases q1 : x1.toNat < LO
              · have q1z : (x1.toNat : Int) < (LO : Int) := by omega
                go_big_quiet_o (fail)
                go_wp2
                go_meet
                exact ⟨congrArg Value.bool (decide_eq_true (p := t.size < 3 ∨ x1.toNat < LO ∨ HI < x1.toNat ∨ x2.toNat < 128 ∨ 191 < x2.toNat) (by omega)).symm, below_drewNv hb4 _⟩
              · have q1z : ¬ ((x1.toNat : Int) < (LO : Int)) := by omega
                by_cases q2 : HI < x1.toNat
                · have q2z : (HI : Int) < (x1.toNat : Int) := by omega
                  go_big_quiet_o (fail)
                  go_wp2
                  go_meet
                  exact ⟨congrArg Value.bool (decide_eq_true (p := t.size < 3 ∨ x1.toNat < LO ∨ HI < x1.toNat ∨ x2.toNat < 128 ∨ 191 < x2.toNat) (by omega)).symm, below_drewNv hb4 _⟩
                · have q2z : ¬ ((HI : Int) < (x1.toNat : Int)) := by omega
                  by_cases q3 : x2.toNat < 128
                  · have q3z : (x2.toNat : Int) < (128 : Int) := by omega
                    go_big_quiet_o (fail)
                    go_wp2
                    go_meet
                    exact ⟨congrArg Value.bool (decide_eq_true (p := t.size < 3 ∨ x1.toNat < LO ∨ HI < x1.toNat ∨ x2.toNat < 128 ∨ 191 < x2.toNat) (by omega)).symm, below_drewNv hb4 _⟩
                  · have q3z : ¬ ((x2.toNat : Int) < (128 : Int)) := by omega
                    by_cases q4 : 191 < x2.toNat
                    · have q4z : (191 : Int) < (x2.toNat : Int) := by omega
                      go_big_quiet_o (fail)
                      go_wp2
                      go_meet
                      exact ⟨congrArg Value.bool (decide_eq_true (p := t.size < 3 ∨ x1.toNat < LO ∨ HI < x1.toNat ∨ x2.toNat < 128 ∨ 191 < x2.toNat) (by omega)).symm, below_drewNv hb4 _⟩
                    · have q4z : ¬ ((191 : Int) < (x2.toNat : Int)) := by omega
                      go_big_quiet_o (fail)
                      go_wp2
                      go_meet
                      exact ⟨congrArg Value.bool (decide_eq_false (p := t.size < 3 ∨ x1.toNat < LO ∨ HI < x1.toNat ∨ x2.toNat < 128 ∨ 191 < x2.toNat) (by omega)).symm, below_drewNv hb4 _⟩
          case rest =>
            obtain ⟨rfl, hbc⟩ := hcut
            by_cases hb : t.size < 3 ∨ x1.toNat < LO ∨ HI < x1.toNat ∨ x2.toNat < 128 ∨ 191 < x2.toNat
            · have hbd : decide (t.size < 3 ∨ x1.toNat < LO ∨ HI < x1.toNat ∨ x2.toNat < 128 ∨ 191 < x2.toNat) = true := decide_eq_true hb
              rw [if_pos hb] at hlead
              go_wp2
              all_goals (go_ret; exact ⟨by first | rfl | rw [hlead], hbc⟩)
            · have hbd : decide (t.size < 3 ∨ x1.toNat < LO ∨ HI < x1.toNat ∨ x2.toNat < 128 ∨ 191 < x2.toNat) = false := decide_eq_false hb
              rw [if_neg hb] at hlead
              obtain ⟨A5, c5, t5, ht5, z5, hb5, hsl5⟩ := hbs.cut 3 (by omega)
              replace hsl5 : ∀ W : World, (Instr.slice 22 (.slice (some ad) t.size c) (some (.int .i64 3)) none none).run Tryz.prog W = .ok (.slice A5 t5.size c5) W := hsl5
              go_wp2
              go_roundg g'
              case measure => omega
              case rel => exact ⟨hbc, A5, c5, t5, rfl, hb5, by rw [← ht5, Lib.ext_list, hlead], by omega⟩
        by_cases s4 : SZ = 4
        · subst s4
          simp only [Lib.checkN, Nat.reduceEqDiff, if_true, if_false] at hlead
          go_upto_region 26 with fail
          go_cut [185] from 143 to 185 (fun c wx => c = .bool (decide (t.size < 4 ∨ x1.toNat < LO ∨ HI < x1.toNat ∨ x2.toNat < 128 ∨ 191 < x2.toNat ∨ x3.toNat < 128 ∨ 191 < x3.toNat)) ∧ Below w.heap.size w wx)
          case first =>
            by_cases q0 : t.size < 4
            · have q0z : (t.size : Int) < 4 := by omega
              go_big_quiet_o (fail)
              go_wp2
              go_meet
              exact ⟨congrArg Value.bool (decide_eq_true (p := t.size < 4 ∨ x1.toNat < LO ∨ HI < x1.toNat ∨ x2.toNat < 128 ∨ 191 < x2.toNat ∨ x3.toNat < 128 ∨ 191 < x3.toNat) (by omega)).symm, below_drewNv hb4 _⟩
            · have q0z : ¬ ((t.size : Int) < 4) := by omega
              obtain ⟨ad1, e1, hx1c⟩ := hbs.cell 1 (by omega) hb4
              cases e1
              rw [hx1] at hx1c
              simp only [Nat.reduceEqDiff, Go.Addr.add, ↓reduceIte] at hx1c
              have hz1 : ((1 : Int) < (t.size : Int)) = True := eq_true (by omega)
              have hp1 : (1 < t.size) = True := eq_true (by omega)
              obtain ⟨ad2, e2, hx2c⟩ := hbs.cell 2 (by omega) hb4
              cases e2
              rw [hx2] at hx2c
              simp only [Nat.reduceEqDiff, Go.Addr.add, ↓reduceIte] at hx2c
              have hz2 : ((2 : Int) < (t.size : Int)) = True := eq_true (by omega)
              have hp2 : (2 < t.size) = True := eq_true (by omega)
              obtain ⟨ad3, e3, hx3c⟩ := hbs.cell 3 (by omega) hb4
              cases e3
              rw [hx3] at hx3c
              simp only [Nat.reduceEqDiff, Go.Addr.add, ↓reduceIte] at hx3c
              have hz3 : ((3 : Int) < (t.size : Int)) = True := eq_true (by omega)
              have hp3 : (3 < t.size) = True := eq_true (by omega)
              by_cases q1 : x1.toNat < LO
              · have q1z : (x1.toNat : Int) < (LO : Int) := by omega
                go_big_quiet_o (fail)
                go_wp2
                go_meet
                exact ⟨congrArg Value.bool (decide_eq_true (p := t.size < 4 ∨ x1.toNat < LO ∨ HI < x1.toNat ∨ x2.toNat < 128 ∨ 191 < x2.toNat ∨ x3.toNat < 128 ∨ 191 < x3.toNat) (by omega)).symm, below_drewNv hb4 _⟩
              · have q1z : ¬ ((x1.toNat : Int) < (LO : Int)) := by omega
                by_cases q2 : HI < x1.toNat
                · have q2z : (HI : Int) < (x1.toNat : Int) := by omega
                  go_big_quiet_o (fail)
                  go_wp2
                  go_meet
                  exact ⟨congrArg Value.bool (decide_eq_true (p := t.size < 4 ∨ x1.toNat < LO ∨ HI < x1.toNat ∨ x2.toNat < 128 ∨ 191 < x2.toNat ∨ x3.toNat < 128 ∨ 191 < x3.toNat) (by omega)).symm, below_drewNv hb4 _⟩
                · have q2z : ¬ ((HI : Int) < (x1.toNat : Int)) := by omega
                  by_cases q3 : x2.toNat < 128
                  · have q3z : (x2.toNat : Int) < (128 : Int) := by omega
                    go_big_quiet_o (fail)
                    go_wp2
                    go_meet
                    exact ⟨congrArg Value.bool (decide_eq_true (p := t.size < 4 ∨ x1.toNat < LO ∨ HI < x1.toNat ∨ x2.toNat < 128 ∨ 191 < x2.toNat ∨ x3.toNat < 128 ∨ 191 < x3.toNat) (by omega)).symm, below_drewNv hb4 _⟩
                  · have q3z : ¬ ((x2.toNat : Int) < (128 : Int)) := by omega
                    by_cases q4 : 191 < x2.toNat
                    · have q4z : (191 : Int) < (x2.toNat : Int) := by omega
                      go_big_quiet_o (fail)
                      go_wp2
                      go_meet
                      exact ⟨congrArg Value.bool (decide_eq_true (p := t.size < 4 ∨ x1.toNat < LO ∨ HI < x1.toNat ∨ x2.toNat < 128 ∨ 191 < x2.toNat ∨ x3.toNat < 128 ∨ 191 < x3.toNat) (by omega)).symm, below_drewNv hb4 _⟩
                    · have q4z : ¬ ((191 : Int) < (x2.toNat : Int)) := by omega
                      by_cases q5 : x3.toNat < 128
                      · have q5z : (x3.toNat : Int) < (128 : Int) := by omega
                        go_big_quiet_o (fail)
                        go_wp2
                        go_meet
                        exact ⟨congrArg Value.bool (decide_eq_true (p := t.size < 4 ∨ x1.toNat < LO ∨ HI < x1.toNat ∨ x2.toNat < 128 ∨ 191 < x2.toNat ∨ x3.toNat < 128 ∨ 191 < x3.toNat) (by omega)).symm, below_drewNv hb4 _⟩
                      · have q5z : ¬ ((x3.toNat : Int) < (128 : Int)) := by omega
                        by_cases q6 : 191 < x3.toNat
                        · have q6z : (191 : Int) < (x3.toNat : Int) := by omega
                          go_big_quiet_o (fail)
                          go_wp2
                          go_meet
                          exact ⟨congrArg Value.bool (decide_eq_true (p := t.size < 4 ∨ x1.toNat < LO ∨ HI < x1.toNat ∨ x2.toNat < 128 ∨ 191 < x2.toNat ∨ x3.toNat < 128 ∨ 191 < x3.toNat) (by omega)).symm, below_drewNv hb4 _⟩
                        · have q6z : ¬ ((191 : Int) < (x3.toNat : Int)) := by omega
                          go_big_quiet_o (fail)
                          go_wp2
                          go_meet
                          exact ⟨congrArg Value.bool (decide_eq_false (p := t.size < 4 ∨ x1.toNat < LO ∨ HI < x1.toNat ∨ x2.toNat < 128 ∨ 191 < x2.toNat ∨ x3.toNat < 128 ∨ 191 < x3.toNat) (by omega)).symm, below_drewNv hb4 _⟩
          case rest =>
            obtain ⟨rfl, hbc⟩ := hcut
            by_cases hb : t.size < 4 ∨ x1.toNat < LO ∨ HI < x1.toNat ∨ x2.toNat < 128 ∨ 191 < x2.toNat ∨ x3.toNat < 128 ∨ 191 < x3.toNat
            · have hbd : decide (t.size < 4 ∨ x1.toNat < LO ∨ HI < x1.toNat ∨ x2.toNat < 128 ∨ 191 < x2.toNat ∨ x3.toNat < 128 ∨ 191 < x3.toNat) = true := decide_eq_true hb
              rw [if_pos hb] at hlead
              go_wp2
              all_goals (go_ret; exact ⟨by first | rfl | rw [hlead], hbc⟩)
            · have hbd : decide (t.size < 4 ∨ x1.toNat < LO ∨ HI < x1.toNat ∨ x2.toNat < 128 ∨ 191 < x2.toNat ∨ x3.toNat < 128 ∨ 191 < x3.toNat) = false := decide_eq_false hb
              rw [if_neg hb] at hlead
              obtain ⟨A5, c5, t5, ht5, z5, hb5, hsl5⟩ := hbs.cut 4 (by omega)
              replace hsl5 : ∀ W : World, (Instr.slice 22 (.slice (some ad) t.size c) (some (.int .i64 4)) none none).run Tryz.prog W = .ok (.slice A5 t5.size c5) W := hsl5
              go_wp2
              go_roundg g'
              case measure => omega
              case rel => exact ⟨hbc, A5, c5, t5, rfl, hb5, by rw [← ht5, Lib.ext_list, hlead], by omega⟩
        · have hlt : SZ < 8 := by omega
          have e2 : ¬ ((SZ : Int) = 2) := by omega
          have e3 : ¬ ((SZ : Int) = 3) := by omega
          have e4 : ¬ ((SZ : Int) = 4) := by omega
          have e2b : ((SZ : Int) == 2) = false := by simp; omega
          have e3b : ((SZ : Int) == 3) = false := by simp; omega
          have e4b : ((SZ : Int) == 4) = false := by simp; omega
          simp only [Lib.checkN, s2, s3, s4, if_false] at hlead
          go_wp2
          all_goals (go_ret; exact ⟨by first | rfl | rw [hlead], hb4⟩)
    · have h0z : ¬ ((0 : Int) < (t.size : Int)) := by omega
      have ht0 : t.data.toList = [] := List.eq_nil_of_length_eq_zero (by rw [← Lib.size_eq]; omega)
      rw [ht0, Lib.validD_nil] at hv
      subst hv
      go_wp2
      go_ret
      exact ⟨rfl, hbw⟩
def utf8_Valid.f (l : List Int) : Option Bool := if l.all isByte = true ∧ l.length ≤ 35184372088832 then some (Lib.validD (strOfNums l).data.toList) else none
theorem utf8_Valid.calls (A0 : Option Addr) (c0 : Nat) (l0 : List Int) (r : Bool) (w : World) (hr0 : Kd.C (Kd.int .u8) w A0 l0.length l0) (hc0 : l0.length ≤ c0) (h : utf8_Valid.f l0 = some r) (hH : Tb w) :
    Calls Tryz.prog 204 #[.slice A0 l0.length c0] w fun e w' => e = .returned (.bool r) ∧ Below w.heap.size w w' := by
  unfold utf8_Valid.f at h
  split at h
  · rename_i hb
    obtain rfl := Option.some.inj h
    have hs : (strOfNums l0).size = l0.length := son_size l0
    have := utf8_Valid_walk A0 c0 (strOfNums l0) w ⟨by rw [hs]; exact hc0, by rw [hs, zs_of l0 hb.1]; exact hr0⟩ hH.utf
    rw [hs] at this
    exact this
  · cases h
end Go.Proofs.YtkioddjjfifadaaGreatDoor.P
