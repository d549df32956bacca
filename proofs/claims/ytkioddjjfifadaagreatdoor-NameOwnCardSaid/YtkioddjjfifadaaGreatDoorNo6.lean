/- What the proof of NameOwn needs of: Pxf79, Pxf35, Hso, Hps, Pxf30, Hsp, Hsr, Hnt, Pxf40, Hcp, Hc8, Pxf31, Hc9, Pxf37, Hno, Pxf266, Hp0, Ht2. -/
import Derived.Deep.RegionHeld3
import Derived.BigRegion
import Derived.Deep.QuietTactic
import Derived.BigQuiet
import Derived.Test.YtkioddjjfifadaaGreatDoorNo2
import Derived.Test.YtkioddjjfifadaaGreatDoorNo3
import Derived.Test.YtkioddjjfifadaaGreatDoorNo5
namespace Go.Proofs.YtkioddjjfifadaaGreatDoor.P
open Go.RowKit Go.Proofs.YtkioddjjfifadaaGreatDoorW.PrintWords Go.Proofs.YtkioddjjfifadaaGreatDoorW.PrintLast Go.Proofs.YtkioddjjfifadaaGreatDoorW.PrintMore
attribute [local go_sem] max2_int min2_int max_two min_two max_three min_three max_four min_four   -- for this text's walks alone
set_option linter.unusedVariables false
set_option linter.unusedSimpArgs false
def name_read.l0 : Nat → List (List (S64)) → List (S77) → Int → Int → Option ((List (List (S64))) × Int)
  | 0, _, _, _, _ => none
  | k + 1, x8, x35, x36, x37 => if x37 < x36 then (if 0 ≤ x37 then (if x37 < (x35.length : Int) then ((name_set.f k ((rd_T77 x35 x37).f0) ((rd_T77 x35 x37).f1) ((rd_T77 x35 x37).f2) ((rd_T77 x35 x37).f3) ((rd_T77 x35 x37).f4)).bind fun bt243 => (if bt243.2 = 0 then (if x8.length < 5864062014805 then (name_read.l0 k (x8 ++ [bt243.1]) x35 x36 (wrap64 (x37 + 1))) else (none)) else (some (([] : List (List (S64))), bt243.2)))) else (none)) else (none)) else (some (x8, 0))
def name_read.f (k : Nat) (l0 : List Int) : Option ((List (List (S64))) × Int) := (der_One.f k l0).bind fun bt226 => (if bt226.2.2.2.2.2 = 0 then ((name_inside.f k bt226.1 bt226.2.1 bt226.2.2.1 bt226.2.2.2.1 bt226.2.2.2.2.1 16).bind fun bt237 => (if bt237.2 = 0 then (if (bt237.1.length : Int) > 64 then (some (([] : List (List (S64))), 4)) else (name_read.l0 k ([] : List (List (S64))) bt237.1 (bt237.1.length : Int) 0)) else (some (([] : List (List (S64))), bt237.2)))) else (some (([] : List (List (S64))), bt226.2.2.2.2.2)))
set_option maxHeartbeats 8000000 in
set_option maxRecDepth 100000 in
theorem name_read.calls (k : Nat) (A0 : Option Addr) (c0 : Nat) (l0 : List Int) (r1 : List (List (S64))) (r2 : Int) (w : World) (hr0 : Kd.C (Kd.int .u8) w A0 l0.length l0) (hc0 : l0.length ≤ c0) (h : name_read.f k l0 = some (r1, r2)) (hH : Tb w) :
    Calls Tryz.prog 79 #[.slice A0 l0.length c0] w fun e w' => ∃ v0_ ev_ : Value, e = .returned (.tuple #[v0_, ev_]) ∧ EV ev_ r2 ∧ Kd.R (Kd.slice 64 k64) 62 w' w.heap.size (fun _ => True) v0_ r1 ∧ Below w.heap.size w w' := by
  have hu77 := Tryz.underlying77
  have hu64 := Tryz.underlying64
  have HR0 := Aside0.mk hr0
  have HC0 := Aside0.mk hc0
  have HT := Aside0.mk hH
  clear hr0 hc0 hH
  unfold name_read.f at h
  obtain ⟨⟨s0, s1, s2, s3, s4, o1⟩, hone, ho⟩ := Option.bind_eq_some_iff.1 h
  replace ho : (if o1 = 0 then ((name_inside.f k s0 s1 s2 s3 s4 16).bind fun bt => (if bt.2 = 0 then (if (bt.1.length : Int) > 64 then (some (([] : List (List S64)), 4)) else (name_read.l0 k ([] : List (List S64)) bt.1 (bt.1.length : Int) 0)) else (some (([] : List (List S64)), bt.2)))) else (some (([] : List (List S64)), o1))) = some (r1, r2) := ho
  have AO := Aside0.mk hone
  clear h hone
  by_cases z1 : o1 = 0
  · subst z1
    rw [if_pos rfl] at ho
    obtain ⟨⟨D, d1⟩, hin, ho⟩ := Option.bind_eq_some_iff.1 ho
    replace ho : (if d1 = 0 then (if (D.length : Int) > 64 then (some (([] : List (List S64)), 4)) else (name_read.l0 k ([] : List (List S64)) D (D.length : Int) 0)) else (some (([] : List (List S64)), d1))) = some (r1, r2) := ho
    have AI := Aside0.mk hin
    clear hin
    by_cases z2 : d1 = 0
    · subst z2
      rw [if_pos rfl] at ho
      by_cases y1 : (D.length : Int) > 64
      · rw [if_pos y1] at ho
        have Y1 : decide (64 < (D.length : Int)) = true := decide_eq_true y1
        have Y2 : decide (64 < D.length) = true := decide_eq_true (by omega)
        clear y1
        obtain ⟨rfl, rfl⟩ : ([] : List (List S64)) = r1 ∧ (4 : Int) = r2 := by injection (Option.some.inj ho) with x y; exact ⟨x, y⟩
        clear ho
        go_enter Tryz.func79, Tryz.ntmps79
        go_wp2_with fail
        refine (der_One.calls k A0 c0 l0 s0 s1 s2 s3 s4 0 _ HR0.out HC0.out AO.out).mono ?_
        rintro e w18 ⟨v3, v4, rfl, hv3, hv4, hb⟩
        obtain ⟨A3, c3, rfl⟩ := Kd.V_slice hv3
        obtain ⟨A4, c4, rfl⟩ := Kd.V_slice hv4
        have HX3 := Aside0.mk (Kd.V_reads' hv3).2
        have HX4 := Aside0.mk (Kd.V_reads' hv4).2
        have HB := Aside0.mk hb
        clear hb hv3 hv4
        go_wp2_with fail
        refine (name_inside.calls k s0 s1 s2 A3 c3 s3 A4 c4 s4 16 D 0 _ (by repeat (first | exact HX3.out.2 | (with_reducible refine Kd.C_drewN ?_ _) | (with_reducible refine Kd.C_alloc ?_ _) | (with_reducible refine Kd.C_drew ?_))) HX3.out.1 (by repeat (first | exact HX4.out.2 | (with_reducible refine Kd.C_drewN ?_ _) | (with_reducible refine Kd.C_alloc ?_ _) | (with_reducible refine Kd.C_drew ?_))) HX4.out.1 AI.out).mono ?_
        rintro e w19 ⟨v, ev_, rfl, hev_, ho0, hb⟩
        obtain rfl := EV.nil_of hev_ rfl
        clear hev_
        obtain ⟨C0, cD, rfl⟩ := Kd.S_slice ho0
        have HS1 := Aside0.mk (Kd.S_reads' ho0).2.2
        have HBW := Aside0.mk (below_step (by repeat (first | (with_reducible first | exact HB.out | apply below_alloc | apply pw_below_drewN | apply below_drew1) | exact HB.out)) hb)
        clear hb ho0 HB HX3 HX4
        go_wp2_with fail
        go_ret2
        exact ⟨_, _, (by first | rfl | (simp [errW_none, errW_some] <;> rfl)), (by first | exact EV.nil | exact EV.f5 | exact EV.f4 | exact HEV_.out | exact EV.part HEV_.out), Kd.R_nil _ _ _ _ _, (by repeat (first | (with_reducible first | exact HBW.out | apply below_alloc | apply pw_below_drewN | apply below_drew1) | exact HBW.out))⟩
      · rw [if_neg y1] at ho
        have Y1 : decide (64 < (D.length : Int)) = false := decide_eq_false y1
        have Y2 : decide (64 < D.length) = false := decide_eq_false (by omega)
        clear y1
        have AD := Aside0.mk ho
        clear ho
        go_enter Tryz.func79, Tryz.ntmps79
        go_wp2_with fail
        refine (der_One.calls k A0 c0 l0 s0 s1 s2 s3 s4 0 _ HR0.out HC0.out AO.out).mono ?_
        rintro e w18 ⟨v3, v4, rfl, hv3, hv4, hb⟩
        obtain ⟨A3, c3, rfl⟩ := Kd.V_slice hv3
        obtain ⟨A4, c4, rfl⟩ := Kd.V_slice hv4
        have HX3 := Aside0.mk (Kd.V_reads' hv3).2
        have HX4 := Aside0.mk (Kd.V_reads' hv4).2
        have HB := Aside0.mk hb
        clear hb hv3 hv4
        go_wp2_with fail
        refine (name_inside.calls k s0 s1 s2 A3 c3 s3 A4 c4 s4 16 D 0 _ (by repeat (first | exact HX3.out.2 | (with_reducible refine Kd.C_drewN ?_ _) | (with_reducible refine Kd.C_alloc ?_ _) | (with_reducible refine Kd.C_drew ?_))) HX3.out.1 (by repeat (first | exact HX4.out.2 | (with_reducible refine Kd.C_drewN ?_ _) | (with_reducible refine Kd.C_alloc ?_ _) | (with_reducible refine Kd.C_drew ?_))) HX4.out.1 AI.out).mono ?_
        rintro e w19 ⟨v, ev_, rfl, hev_, ho0, hb⟩
        obtain rfl := EV.nil_of hev_ rfl
        clear hev_
        obtain ⟨C0, cD, rfl⟩ := Kd.S_slice ho0
        have HS1 := Aside0.mk (Kd.S_reads' ho0).2.2
        have HBW := Aside0.mk (below_step (by repeat (first | (with_reducible first | exact HB.out | apply below_alloc | apply pw_below_drewN | apply below_drew1) | exact HB.out)) hb)
        clear hb ho0 HB HX3 HX4
        go_wp2_with fail
        go_loopg [8, 37] k (fun kq v8 v37 w' => ∃ (out : List (List S64)) (i : Int), v37 = .int .i64 i ∧ Aside0 (name_read.l0 kq out D (D.length : Int) i = some (r1, r2)) ∧ Aside0 (kq ≤ k) ∧ Aside0 (Kd.R (Kd.slice 64 k64) 62 w' w19.heap.size (fun _ => True) v8 out) ∧ Aside0 (Below w19.heap.size w19 w'))
        case atStart => exact ⟨([] : List (List S64)), 0, rfl, AD, ⟨Nat.le_refl _⟩, ⟨Kd.R_nil _ _ _ _ _⟩, ⟨(by repeat (first | (with_reducible first | exact (Below.refl _ _) | apply below_alloc | apply pw_below_drewN | apply below_drew1) | exact (Below.refl _ _)))⟩⟩
        case round =>
          obtain ⟨out, i, rfl, HA, HK1, HO, HB⟩ := hrel
          cases gk with
          | zero => exact absurd HA.out (by simp [name_read.l0])
          | succ k1 =>
            have H := HA.out
            clear HA
            simp only [name_read.l0] at H
            by_cases c1 : i < (D.length : Int)
            · have c1b : decide (i < (D.length : Int)) = true := decide_eq_true c1
              rw [if_pos c1] at H
              by_cases c2 : 0 ≤ i
              · have c2b : decide (0 ≤ i) = true := decide_eq_true c2
                rw [if_pos c2] at H
                rw [if_pos c1] at H
                clear c1 c2
                obtain ⟨⟨S0, t3⟩, hset, H⟩ := Option.bind_eq_some_iff.1 H
                replace H : (if t3 = 0 then (if out.length < 5864062014805 then (name_read.l0 k1 (out ++ [S0]) D (D.length : Int) (wrap64 (i + 1))) else (none)) else (some (([] : List (List (S64))), t3))) = some (r1, r2) := H
                have AS := Aside0.mk hset
                clear hset
                by_cases d3 : t3 = 0
                · subst d3
                  rw [if_pos rfl] at H
                  by_cases d6 : out.length < 5864062014805
                  · rw [if_pos d6] at H
                    have LMo := Aside0.mk d6
                    clear d6
                    obtain ⟨yo, hyo⟩ : ∃ y_ : List (List S64), y_ = (out ++ [S0]) := ⟨_, rfl⟩
                    rw [← hyo] at H
                    have NYo := Aside0.mk hyo
                    clear hyo
                    have H' := Aside0.mk H
                    clear H
                    have pi : 0 ≤ (i : Int) := of_decide_eq_true c2b
                    have qi : i < (D.length : Int) := of_decide_eq_true c1b
                    obtain ⟨adi, A3i, c3i, A4i, c4i, ei, h0i, h1i, h2i, h3i, h4i, l3i, i3i, l4i, i4i⟩ := at_T77 (Kd.C_below HS1.out HB.out) i pi qi
                    cases ei
                    have E3i := Aside0.mk i3i
                    have D3i := Aside0.mk l3i
                    have E4i := Aside0.mk i4i
                    have D4i := Aside0.mk l4i
                    clear i3i l3i i4i l4i
                    replace pi := eq_true pi
                    replace qi := eq_true qi
                    go_wp2_with fail
                    refine (name_set.calls k1 ((rd_T77 D i).f0) ((rd_T77 D i).f1) ((rd_T77 D i).f2) _ _ ((rd_T77 D i).f3) _ _ ((rd_T77 D i).f4) S0 0 _ (by repeat (first | exact E3i.out | (with_reducible refine Kd.C_drewN ?_ _) | (with_reducible refine Kd.C_alloc ?_ _) | (with_reducible refine Kd.C_drew ?_))) D3i.out (by repeat (first | exact E4i.out | (with_reducible refine Kd.C_drewN ?_ _) | (with_reducible refine Kd.C_alloc ?_ _) | (with_reducible refine Kd.C_drew ?_))) D4i.out AS.out (Tb.below HT.out (by repeat (first | (with_reducible first | exact (below_step HBW.out HB.out) | apply below_alloc | apply pw_below_drewN | apply below_drew1) | exact (below_step HBW.out HB.out))))).mono ?_
                    rintro e w51 ⟨v, ev_, rfl, hev_, ho0, hb⟩
                    obtain rfl := EV.nil_of hev_ rfl
                    clear hev_
                    have n0_ := Aside0.mk (Kd.R_below (by (with_reducible repeat (first | apply Kd.R_alloc | apply Kd.R_drewN | apply Kd.R_drew)); exact HO.out) hb)
                    have n1_ := Aside0.mk (below_step (by repeat (first | (with_reducible first | exact HB.out | apply below_alloc | apply pw_below_drewN | apply below_drew1) | exact HB.out)) hb)
                    have HE := Aside0.mk (Kd.S_lower ho0 (below_size (by repeat (first | (with_reducible first | exact HB.out | apply below_alloc | apply pw_below_drewN | apply below_drew1) | exact HB.out))))
                    clear HO HB hb ho0 h0i h1i h2i h3i h4i E3i E4i D3i D4i
                    have HO := n0_
                    have HB := n1_
                    clear n0_ n1_
                    obtain ⟨S_, s_, eS⟩ := Kd.S_slice HE.out
                    subst eS
                    go_wp2_with ((with_reducible refine gate_builtin (b := .append) (xs := #[.tmp 53, .tmp 55]) rfl ?_); at_builtin; refine Kd.R_append (Kd.slice 64 k64) (w0 := w19) w19.heap.size rfl (.tmp 53) (.tmp 55) 23 62 (.slice none 0 0) 24 rfl Tryz.underlying23 info62 rfl (by decide) (by omega) u8 out S0 [.slice S_ S0.length s_] (fun _ => True) (fun k_ => ((fun _ => True)) k_ ∧ some k_ ≠ (u8 : Value).ownBlock) rfl rfl ?aP (fun _ hk => hk) (fun _ _ => trivial) ?aO ?aB ?aS ?aL ?_; (case aP => exact Kd.M_row (Kd.R_mono (Kd.R_apart' (Kd.S_R (by (with_reducible repeat (first | apply Kd.S_alloc | apply Kd.S_drewN | apply Kd.S_drew)); exact HE.out)) (Kd.R_typed (by (with_reducible repeat (first | apply Kd.R_alloc | apply Kd.R_drewN | apply Kd.R_drew)); exact HO.out)) (by decide)) (fun k_ hk => ⟨trivial, hk.2⟩))); (case aB => exact (by repeat (first | (with_reducible first | exact HB.out | apply below_alloc | apply pw_below_drewN | apply below_drew1) | exact HB.out))); (case aO => exact Kd.R_mono (by (with_reducible repeat (first | apply Kd.R_alloc | apply Kd.R_drewN | apply Kd.R_drew)); exact HO.out) (fun _ hk => trivial)); (case aS => exact (below_size (by repeat (first | (with_reducible first | exact HB.out | apply below_alloc | apply pw_below_drewN | apply below_drew1) | exact HB.out)))); (case aL => have := LMo.out; omega); intro v592 w56 ho hb hg hat; rw [← NYo.out] at ho; have n6_ := Aside0.mk hb; have n7_ := Aside0.mk ho; clear HB HO; have HB := n6_; have HO := n7_; clear n6_ n7_ ho hb hg hat)
                    go_roundg k1
                    case measure => have := HK1.out; omega
                    case rel => exact ⟨yo, (wrap64 (i + 1)), (by first | rfl | (simp; done)), H', ⟨by have := HK1.out; omega⟩, ⟨(by (with_reducible repeat (first | apply Kd.R_alloc | apply Kd.R_drewN | apply Kd.R_drew)); exact HO.out)⟩, ⟨(by repeat (first | (with_reducible first | exact HB.out | apply below_alloc | apply pw_below_drewN | apply below_drew1) | exact HB.out))⟩⟩
                  · rw [if_neg d6] at H
                    exact absurd H (by simp)
                · rw [if_neg d3] at H
                  have N1 : (t3 == 0) = false := beq_eq_false_iff_ne.mpr d3
                  have N2 : (t3 != 0) = true := bne_iff_ne.mpr d3
                  obtain ⟨rfl, rfl⟩ : ([] : List (List S64)) = r1 ∧ t3 = r2 := by injection (Option.some.inj H) with x y; exact ⟨x, y⟩
                  clear H d3
                  have pi : 0 ≤ (i : Int) := of_decide_eq_true c2b
                  have qi : i < (D.length : Int) := of_decide_eq_true c1b
                  obtain ⟨adi, A3i, c3i, A4i, c4i, ei, h0i, h1i, h2i, h3i, h4i, l3i, i3i, l4i, i4i⟩ := at_T77 (Kd.C_below HS1.out HB.out) i pi qi
                  cases ei
                  have E3i := Aside0.mk i3i
                  have D3i := Aside0.mk l3i
                  have E4i := Aside0.mk i4i
                  have D4i := Aside0.mk l4i
                  clear i3i l3i i4i l4i
                  replace pi := eq_true pi
                  replace qi := eq_true qi
                  go_wp2_with fail
                  refine (name_set.calls k1 ((rd_T77 D i).f0) ((rd_T77 D i).f1) ((rd_T77 D i).f2) _ _ ((rd_T77 D i).f3) _ _ ((rd_T77 D i).f4) S0 t3 _ (by repeat (first | exact E3i.out | (with_reducible refine Kd.C_drewN ?_ _) | (with_reducible refine Kd.C_alloc ?_ _) | (with_reducible refine Kd.C_drew ?_))) D3i.out (by repeat (first | exact E4i.out | (with_reducible refine Kd.C_drewN ?_ _) | (with_reducible refine Kd.C_alloc ?_ _) | (with_reducible refine Kd.C_drew ?_))) D4i.out AS.out (Tb.below HT.out (by repeat (first | (with_reducible first | exact (below_step HBW.out HB.out) | apply below_alloc | apply pw_below_drewN | apply below_drew1) | exact (below_step HBW.out HB.out))))).mono ?_
                  rintro e w51 ⟨v, ev_, rfl, hev_, ho0, hb⟩
                  obtain ⟨et_, eu_, rfl⟩ := EV.some_of hev_ N1
                  have HEV_ := Aside0.mk hev_
                  clear hev_
                  obtain ⟨S_, s_, rfl⟩ := Kd.S_slice ho0
                  have n1_ := Aside0.mk (below_step (by repeat (first | (with_reducible first | exact HB.out | apply below_alloc | apply pw_below_drewN | apply below_drew1) | exact HB.out)) hb)
                  clear HB hb ho0
                  have HB := n1_
                  clear n1_
                  go_wp2_with fail
                  go_ret2
                  exact ⟨_, _, (by first | rfl | (simp [errW_none, errW_some] <;> rfl)), (by first | exact EV.nil | exact EV.f5 | exact EV.f4 | exact HEV_.out | exact EV.part HEV_.out), Kd.R_nil _ _ _ _ _, (by repeat (first | (with_reducible first | exact (below_step HBW.out HB.out) | apply below_alloc | apply pw_below_drewN | apply below_drew1) | exact (below_step HBW.out HB.out)))⟩
              · rw [if_neg c2] at H
                exact absurd H (by simp)
            · have c1b : decide (i < (D.length : Int)) = false := decide_eq_false c1
              rw [if_neg c1] at H
              clear c1
              obtain ⟨rfl, rfl⟩ : out = r1 ∧ (0 : Int) = r2 := by injection (Option.some.inj H) with x y; exact ⟨x, y⟩
              go_wp2
              go_ret2
              exact ⟨_, _, (by first | rfl | (simp [errW_none, errW_some] <;> rfl)), EV.nil, Kd.R_lower (by (with_reducible repeat (first | apply Kd.R_alloc | apply Kd.R_drewN | apply Kd.R_drew)); exact HO.out) (below_size HBW.out), below_step HBW.out (by repeat (first | (with_reducible first | exact HB.out | apply below_alloc | apply pw_below_drewN | apply below_drew1) | exact HB.out))⟩
    · rw [if_neg z2] at ho
      have N1 : (d1 == 0) = false := beq_eq_false_iff_ne.mpr z2
      have N2 : (d1 != 0) = true := bne_iff_ne.mpr z2
      obtain ⟨rfl, rfl⟩ : ([] : List (List S64)) = r1 ∧ d1 = r2 := by injection (Option.some.inj ho) with x y; exact ⟨x, y⟩
      clear ho
      clear z2
      go_enter Tryz.func79, Tryz.ntmps79
      go_wp2_with fail
      refine (der_One.calls k A0 c0 l0 s0 s1 s2 s3 s4 0 _ HR0.out HC0.out AO.out).mono ?_
      rintro e w18 ⟨v3, v4, rfl, hv3, hv4, hb⟩
      obtain ⟨A3, c3, rfl⟩ := Kd.V_slice hv3
      obtain ⟨A4, c4, rfl⟩ := Kd.V_slice hv4
      have HX3 := Aside0.mk (Kd.V_reads' hv3).2
      have HX4 := Aside0.mk (Kd.V_reads' hv4).2
      have HB := Aside0.mk hb
      clear hb hv3 hv4
      go_wp2_with fail
      refine (name_inside.calls k s0 s1 s2 A3 c3 s3 A4 c4 s4 16 D d1 _ (by repeat (first | exact HX3.out.2 | (with_reducible refine Kd.C_drewN ?_ _) | (with_reducible refine Kd.C_alloc ?_ _) | (with_reducible refine Kd.C_drew ?_))) HX3.out.1 (by repeat (first | exact HX4.out.2 | (with_reducible refine Kd.C_drewN ?_ _) | (with_reducible refine Kd.C_alloc ?_ _) | (with_reducible refine Kd.C_drew ?_))) HX4.out.1 AI.out).mono ?_
      rintro e w19 ⟨v, ev_, rfl, hev_, ho0, hb⟩
      obtain ⟨et_, eu_, rfl⟩ := EV.some_of hev_ N1
      have HEV_ := Aside0.mk hev_
      clear hev_
      obtain ⟨C0, cD, rfl⟩ := Kd.S_slice ho0
      have HS1 := Aside0.mk (Kd.S_reads' ho0).2.2
      have HBW := Aside0.mk (below_step (by repeat (first | (with_reducible first | exact HB.out | apply below_alloc | apply pw_below_drewN | apply below_drew1) | exact HB.out)) hb)
      clear hb ho0 HB HX3 HX4
      go_wp2_with fail
      go_ret2
      exact ⟨_, _, (by first | rfl | (simp [errW_none, errW_some] <;> rfl)), (by first | exact EV.nil | exact EV.f5 | exact EV.f4 | exact HEV_.out | exact EV.part HEV_.out), Kd.R_nil _ _ _ _ _, (by repeat (first | (with_reducible first | exact HBW.out | apply below_alloc | apply pw_below_drewN | apply below_drew1) | exact HBW.out))⟩
  · rw [if_neg z1] at ho
    have N1 : (o1 == 0) = false := beq_eq_false_iff_ne.mpr z1
    have N2 : (o1 != 0) = true := bne_iff_ne.mpr z1
    obtain ⟨rfl, rfl⟩ : ([] : List (List S64)) = r1 ∧ o1 = r2 := by injection (Option.some.inj ho) with x y; exact ⟨x, y⟩
    clear ho
    have HLOW := Aside0.mk z1
    clear z1
    go_enter Tryz.func79, Tryz.ntmps79
    go_wp2_with fail
    refine (der_One.calls k A0 c0 l0 s0 s1 s2 s3 s4 o1 _ HR0.out HC0.out AO.out).mono ?_
    rintro e w18 ⟨v3, v4, rfl, hv3, hv4, hb⟩
    obtain ⟨A3, c3, rfl⟩ := Kd.V_slice hv3
    obtain ⟨A4, c4, rfl⟩ := Kd.V_slice hv4
    have HX3 := Aside0.mk (Kd.V_reads' hv3).2
    have HX4 := Aside0.mk (Kd.V_reads' hv4).2
    have HB := Aside0.mk hb
    clear hb hv3 hv4
    go_wp2_with fail
    go_ret2
    exact ⟨_, _, (by first | rfl | (simp [errW_none, errW_some] <;> rfl)), (EV.low HLOW.out), Kd.R_nil _ _ _ _ _, (by repeat (first | (with_reducible first | exact HB.out | apply below_alloc | apply pw_below_drewN | apply below_drew1) | exact HB.out))⟩
end Go.Proofs.YtkioddjjfifadaaGreatDoor.P
set_option linter.unusedVariables false
namespace Go.Proofs.YtkioddjjfifadaaGreatDoor.P
open Go.RowKit Go.Proofs.YtkioddjjfifadaaGreatDoorW.PrintWords Go.Proofs.YtkioddjjfifadaaGreatDoorW.PrintLast Go.Proofs.YtkioddjjfifadaaGreatDoorW.PrintMore
def name_Parse.f (k : Nat) (l0 : List Int) : Option ((List (List (S64))) × Int) := name_read.f k l0
set_option maxRecDepth 100000 in
set_option maxHeartbeats 4000000 in
theorem name_Parse.calls (k : Nat) (A0 : Option Addr) (c0 : Nat) (l0 : List Int) (r1 : List (List (S64))) (r2 : Int) (w : World) (hr0 : Kd.C (Kd.int .u8) w A0 l0.length l0) (hc0 : l0.length ≤ c0) (h : name_Parse.f k l0 = some (r1, r2)) (hH : Tb w) (hD : Hd w) :
    Calls Tryz.prog 35 #[.slice A0 l0.length c0] w fun e w' => ∃ v0_ : Value, e = .returned (.tuple #[v0_, .int .i64 r2]) ∧ Kd.R (Kd.slice 64 k64) 62 w' w.heap.size (fun _ => True) v0_ r1 ∧ Below w.heap.size w w' := by
  have HR0 := Aside0.mk hr0
  have HC0 := Aside0.mk hc0
  have HT := Aside0.mk hH
  have HD := Aside0.mk hD
  have A2 := Aside0.mk (show name_read.f k l0 = some (r1, r2) from h)
  clear hr0 hc0 hH hD h
  go_enter Tryz.func35, Tryz.ntmps35
  go_wp2_with fail
  refine (name_read.calls k A0 c0 l0 r1 r2 _ HR0.out HC0.out A2.out HT.out).mono ?_
  rintro e w1 ⟨v, ev, rfl, hev, ho, hb⟩
  have HE := Aside0.mk hev
  have HO := Aside0.mk ho
  have HB := Aside0.mk hb
  have HD1 := Aside0.mk (HD.out.below hb)
  clear hev ho hb HD HT HR0
  go_wp2_with fail
  refine (name_number_ev HE.out _ HD1.out).mono ?_
  rintro e w2 ⟨rfl, hb⟩
  have HO2 := Aside0.mk (Kd.R_below HO.out hb)
  have HB2 := Aside0.mk (below_step HB.out hb)
  clear hb HO HB
  go_wp2_with fail
  go_ret2
  exact ⟨_, rfl, HO2.out, HB2.out⟩
end Go.Proofs.YtkioddjjfifadaaGreatDoor.P
set_option linter.unusedVariables false
set_option linter.unusedSimpArgs false
namespace Go.Proofs.YtkioddjjfifadaaGreatDoor.P
open Go.RowKit Go.Proofs.YtkioddjjfifadaaGreatDoorW.PrintWords Go.Proofs.YtkioddjjfifadaaGreatDoorW.PrintLast Go.Proofs.YtkioddjjfifadaaGreatDoorW.PrintMore
/-- A slice whose elements lie apart. -/
def sliceS {α : Type} (e : Nat) (d : Kd α) : Kd (List α) where
  sz := 1
  E := e :: d.E
  K := (Kd.slice e d).K
  M := fun w base ok xs cs => ∃ v, cs = [v] ∧ Kd.S d e w base ok v xs
  K_len := fun h => (Kd.slice e d).K_len h
  K_one := fun h => (Kd.slice e d).K_one h
  K_below := fun hb h => (Kd.slice e d).K_below hb h
  K_of_M := by
    rintro w base ok x cs ⟨v, rfl, h⟩
    obtain ⟨A, c, rfl, hl, hr⟩ := Kd.S_reads h
    exact ⟨A, c, rfl, hl, hr⟩
  M_mono := by
    rintro w base ok ok' x cs hok ⟨v, rfl, h⟩
    exact ⟨v, rfl, Kd.S_mono h hok⟩
  M_bound := by
    rintro w base ok x cs ⟨v, rfl, h⟩
    exact ⟨v, rfl, Kd.S_bound h⟩
  M_move := by
    rintro w w1 base ok x cs hm ⟨v, rfl, h⟩
    exact ⟨v, rfl, Kd.S_move h hm⟩
  M_lower := by
    rintro w base base' ok x cs hb ⟨v, rfl, h⟩
    exact ⟨v, rfl, Kd.S_lower h hb⟩
/-- What holds of an element that may have been given up. -/
def optP {α : Type} (d : Kd α) (p : α → List Value → Prop) : Option α → List Value → Prop
  | none, cs => cs.length = d.sz ∧ ∀ u ∈ cs, u.oneCell' = true
  | some x, cs => p x cs
theorem optP_imp {α : Type} {d : Kd α} {p q : α → List Value → Prop} {x : Option α} {cs : List Value} (h : ∀ x cs, p x cs → q x cs) (hx : optP d p x cs) : optP d q x cs := by
  cases x with
  | none => exact hx
  | some x => exact h x cs hx
/-- An element that may have been given up: then nothing is said of what its cells hold. -/
def optK {α : Type} (d : Kd α) : Kd (Option α) where
  sz := d.sz
  E := d.E
  K := fun w x cs => optP d (d.K w) x cs
  M := fun w base ok x cs => optP d (d.M w base ok) x cs
  K_len := by
    intro w x cs h
    cases x with
    | none => exact h.1
    | some x => exact d.K_len h
  K_one := by
    intro w x cs h
    cases x with
    | none => exact h.2
    | some x => exact d.K_one h
  K_below := fun hb h => optP_imp (fun _ _ h => d.K_below hb h) h
  K_of_M := fun h => optP_imp (fun _ _ h => d.K_of_M h) h
  M_mono := fun hok h => optP_imp (fun _ _ h => d.M_mono hok h) h
  M_bound := fun h => optP_imp (fun _ _ h => d.M_bound h) h
  M_move := fun hm h => optP_imp (fun _ _ h => d.M_move hm h) h
  M_lower := fun hb h => optP_imp (fun _ _ h => d.M_lower hb h) h
section
variable {α β : Type} {d : Kd α} {d' : Kd β} {e e' : Nat} {w w1 W : World} {base n : Nat} {ok : Nat → Prop} {u v : Value} {xs : List α} {ys : List β} {A : Option Addr} {ns : List (List S64)}
theorem S_imp (φ : α → β) (hsz : d'.sz = d.sz) (h : ∀ ok x cs, d.M w base ok x cs → d'.M w base ok (φ x) cs) (hs : Kd.S d e w base ok v xs) : Kd.S d' e w base ok v (xs.map φ) := by
  obtain ⟨f, h0, inner, ho, hr⟩ := hs
  refine ⟨f, h0, inner, ?_, ?_, fun j p hj => ?_⟩
  · rw [List.length_zipIdx, List.length_map]
    rw [List.length_zipIdx] at ho
    show w.ownsRow base e d'.sz v xs.length inner
    rw [hsz]
    exact ho
  · rw [List.length_zipIdx, List.length_map]
    have h1 := hr.1
    rw [List.length_zipIdx] at h1
    show _ = xs.length * d'.sz
    rw [hsz]
    exact h1
  · rw [List.getElem?_zipIdx, Nat.zero_add] at hj
    obtain ⟨q, hq, rfl⟩ := Option.map_eq_some_iff.1 hj
    rw [List.getElem?_map] at hq
    obtain ⟨x, hx, rfl⟩ := Option.map_eq_some_iff.1 hq
    have h1 := hr.2 j (x, j) (Kd.zip_at hx)
    show d'.M w base _ (φ x) ((inner.drop (j * d'.sz)).take d'.sz)
    rw [hsz]
    exact h _ x _ h1
theorem C_imp (φ : α → β) (hsz : d'.sz = d.sz) (h : ∀ x cs, d'.K w (φ x) cs → d.K w x cs) (hs : Kd.C d' w A n (xs.map φ)) : Kd.C d w A n xs := by
  obtain ⟨h1, h2, h3⟩ := hs
  refine ⟨by rw [← h1, List.length_map], h2, fun hp => ?_⟩
  obtain ⟨ad, e, hc⟩ := h3 hp
  refine ⟨ad, e, fun j p hj => ?_⟩
  obtain ⟨c, c1, c2, c3⟩ := hc j (φ p) (by rw [List.getElem?_map, hj]; rfl)
  refine ⟨c, c1.trans hsz, h p c c2, fun i u hu => ?_⟩
  have := c3 i u hu
  rwa [hsz] at this
/-- Two rows made one behind the other. -/
theorem sole_two (h1 : Kd.S d e W base (fun _ => True) u xs) (h2 : Kd.S d' e' w1 W.heap.size (fun _ => True) v ys) (hb : Below W.heap.size W w1) (hle : base ≤ W.heap.size) :
    ∃ NW : Nat, Kd.S d e w1 base (fun k => k < NW) u xs ∧ (∀ k, u.ownBlock = some k → k < NW) ∧ Kd.S d' e' w1 base (fun k => NW ≤ k) v ys :=
  ⟨W.heap.size, Kd.S_mono (Kd.S_old h1 hb) (fun _ hk => hk.2), Kd.S_lt h1, Kd.S_lower (Kd.S_mono (Kd.S_bound h2) (fun _ hk => hk.2.1)) hle⟩
/-- The state of a name that is spoilt part by part. -/
abbrev kP : Kd (Option S64) := optK k64
abbrev kS : Kd (Option (List (Option S64))) := optK (sliceS 64 kP)
theorem S_open (h : Kd.S (sliceS 64 k64) e w base ok v ns) : Kd.S kS e w base ok v (ns.map fun s => some (s.map some)) :=
  S_imp (fun s : List S64 => some (s.map some)) rfl (fun _ x cs h => by
    obtain ⟨v, rfl, h⟩ := h
    exact ⟨v, rfl, S_imp (d' := kP) some rfl (fun _ _ _ h => h) h⟩) h
theorem C_close (h : Kd.C kS w A n (ns.map fun s => some (s.map some))) : Kd.C (Kd.slice 64 k64) w A n ns :=
  C_imp (fun s : List S64 => some (s.map some)) rfl (fun x cs h => by
    obtain ⟨A, c, rfl, hl, hC⟩ := (show (Kd.slice 64 kP).K w (x.map some) cs from h)
    rw [List.length_map] at hl hC
    exact ⟨A, c, by rw [List.length_map], hl, C_imp (d' := kP) some rfl (fun _ _ h => h) hC⟩) h
theorem C_closeP {ns : List S64} (h : Kd.C kP w A n (ns.map some)) : Kd.C k64 w A n ns := C_imp (d' := kP) some rfl (fun _ _ h => h) h
end
/-- An append leaves the elder row as it is (its cells, its room); the answer is the same block, or a new one. -/
theorem run_append_kept {P : Program} (w : World) (base : Nat) (t ty e : TypeId) (i : TypeInfo) (z : Value) (size bytes : Nat) (ht : P.underlying t = some (.slice e)) (hi : P.info? e = some i) (hz : i.zero = some z)
    (hsize : i.size = size) (hby : i.bytes = bytes) (hzs : z.cells.size = size) (hsz : 0 < size)
    (v : Value) (n : Nat) (xs : List Value) (hown : w.ownsRow base e size v n xs)
    (a : Addr) (m c : Nat) (news : List Value) (hl : news.length = m * size) (hnews : ∀ j u, news[j]? = some u → w.cell? (a.add j) = some u) (h1 : ∀ u ∈ news, u.oneCell' = true)
    (hm : 0 < m) (h63 : n + m ≤ maxLen) (hbytes : (n + m) * bytes ≤ 140737488355328) (hbase : base ≤ w.heap.size) :
    ∃ g cap w', (Builtin.append_ #[t, t] ty #[v, .slice (some a) m c]).run P w = .ok (.slice (some ⟨g, 0, none⟩) (n + m) cap) w' ∧ w'.ownsRow base e size (.slice (some ⟨g, 0, none⟩) (n + m) cap) (n + m) (xs ++ news) ∧ w'.ownsRow base e size v n xs ∧
      ((v = .slice (some ⟨g, 0, none⟩) n cap ∧ w.grownBy w' (some g)) ∨ (w.heap.size ≤ g ∧ w.grownBy w' none)) := by
  subst hsize
  subst hby
  have hsmall : n + m ≤ 9223372036854775807 := by simp only [maxLen] at h63; omega
  have hlen : (xs ++ news).length = (n + m) * i.size := by rw [List.length_append, hown.1, hl, Nat.add_mul]
  have grown : ∀ (old : Nat), old < n + m →
      (w.drew.alloc (.cells (xs.toArray ++ news.toArray ++ Builtin.zeroCells z.cells (grownCap w (n + m) old e - (n + m))) e)).ownsRow base e i.size
        (.slice (some ⟨w.heap.size, 0, none⟩) (n + m) (grownCap w (n + m) old e)) (n + m) (xs ++ news) ∧
      w.grownBy (w.drew.alloc (.cells (xs.toArray ++ news.toArray ++ Builtin.zeroCells z.cells (grownCap w (n + m) old e - (n + m))) e)) none := by
    intro old ho
    have hge := grownCap_ge w (n + m) old e
    have hcm : grownCap w (n + m) old e ≤ maxLen := grownCap_le_maxLen w (n + m) old e h63
    refine ⟨⟨hlen, .inr ⟨w.heap.size, _, _, rfl, hbase, heap_alloc_new w.drew _, hge, hcm, ?_, ?_⟩⟩, ⟨rfl, rfl, rfl, by simp, fun k hk _ => heap_alloc_old w.drew _ hk⟩⟩
    · simp only [Array.size_append, List.size_toArray, size_zeroCells, hzs, hown.1, hl, ← Nat.add_mul]
      congr 1
      omega
    · simp only [Array.toList_append, List.append_assoc]
      rw [← List.append_assoc, ← hlen]
      exact List.take_left
  rcases hown.2 with ⟨rfl, rfl⟩ | ⟨g, cap, cur, rfl, hbg, hg, hnc, hcm, hcs, htake⟩
  · have hx : xs = [] := List.eq_nil_of_length_eq_zero (by simpa using hown.1)
    subst hx
    have hr := run_append_nil (P := P) w t ty e i z ht hi hz a m c news hl hnews (by omega) (by omega) (by have hb := hbytes; simp only [Nat.zero_add] at hb; omega)
    have hgr := grown 0 (by omega)
    simp only [Nat.zero_add, List.nil_append, Array.empty_append] at hgr ⊢
    exact ⟨_, _, _, hr, hgr.1, World.ownsRow_nil _ base e i.size, .inr ⟨Nat.le_refl _, hgr.2⟩⟩
  · by_cases hroom : n + m ≤ cap
    · have hfit : n * i.size + news.length ≤ cur.size := by rw [hl, hcs, ← Nat.add_mul]; exact Nat.mul_le_mul_right _ hroom
      have hr := run_append_room (P := P) w t ty e i ht hi g n cap cur hg a m c news hl hnews h1 hroom hfit
      have hxl : xs.length = n * i.size := hown.1
      refine ⟨g, cap, _, hr, ⟨hlen, .inr ⟨g, cap, _, rfl, hbg, setRow_heap w g cur _ e _ hg, hroom, hcm, ?_, ?_⟩⟩, ⟨hown.1, .inr ⟨g, cap, _, rfl, hbg, setRow_heap w g cur _ e _ hg, hnc, hcm, ?_, ?_⟩⟩, .inl ⟨rfl, ⟨rfl, rfl, rfl, by simp, fun k _ hk => setRow_other w g k _ (fun e => hk (by rw [e]))⟩⟩⟩
      · simp only [List.size_toArray, List.length_append, List.length_take, List.length_drop, Array.length_toList]
        omega
      · rw [htake, ← hlen]
        exact List.take_left
      · simp only [List.size_toArray, List.length_append, List.length_take, List.length_drop, Array.length_toList]
        omega
      · rw [htake, List.append_assoc, ← hxl]
        exact List.take_left
    · have holds : ∀ j u, xs[j]? = some u → w.cell? ((⟨g, 0, none⟩ : Addr).add j) = some u := hown.cells (g := g) rfl
      have hr := run_append_grow (P := P) w t ty e i z ht hi hz ⟨g, 0, none⟩ n cap xs hown.1 holds a m c news hl hnews (by omega) (by omega) (growslice_fits (by omega) hbytes)
      have hgr := grown cap (by omega)
      exact ⟨_, _, _, hr, hgr.1, hown.kept hgr.2 (.inr (by simp [Value.ownBlock])), .inr ⟨Nat.le_refl _, hgr.2⟩⟩
end Go.Proofs.YtkioddjjfifadaaGreatDoor.P
set_option linter.unusedVariables false
set_option linter.unusedSimpArgs false
namespace Go.Proofs.YtkioddjjfifadaaGreatDoor.P
open Go.RowKit Go.Proofs.YtkioddjjfifadaaGreatDoorW.PrintWords Go.Proofs.YtkioddjjfifadaaGreatDoorW.PrintLast Go.Proofs.YtkioddjjfifadaaGreatDoorW.PrintMore
attribute [local go_sem] max2_int min2_int max_two min_two max_three min_three max_four min_four   -- for this text's walks alone
set_option maxHeartbeats 8000000 in
set_option maxRecDepth 100000 in
theorem name_read_sole (k : Nat) (A0 : Option Addr) (c0 : Nat) (l0 : List Int) (r1 : List (List (S64))) (r2 : Int) (w : World) (hr0 : Kd.C (Kd.int .u8) w A0 l0.length l0) (hc0 : l0.length ≤ c0) (h : name_read.f k l0 = some (r1, r2)) (hH : Tb w) :
    Calls Tryz.prog 79 #[.slice A0 l0.length c0] w fun e w' => ∃ v0_ ev_ : Value, e = .returned (.tuple #[v0_, ev_]) ∧ EV ev_ r2 ∧ Kd.S (sliceS 64 k64) 62 w' w.heap.size (fun _ => True) v0_ r1 ∧ Below w.heap.size w w' := by
  have hu77 := Tryz.underlying77
  have hu64 := Tryz.underlying64
  have HR0 := Aside0.mk hr0
  have HC0 := Aside0.mk hc0
  have HT := Aside0.mk hH
  clear hr0 hc0 hH
  unfold name_read.f at h
  obtain ⟨⟨s0, s1, s2, s3, s4, o1⟩, hone, ho⟩ := Option.bind_eq_some_iff.1 h
  replace ho : (if o1 = 0 then ((name_inside.f k s0 s1 s2 s3 s4 16).bind fun bt => (if bt.2 = 0 then (if (bt.1.length : Int) > 64 then (some (([] : List (List S64)), 4)) else (name_read.l0 k ([] : List (List S64)) bt.1 (bt.1.length : Int) 0)) else (some (([] : List (List S64)), bt.2)))) else (some (([] : List (List S64)), o1))) = some (r1, r2) := ho
  have AO := Aside0.mk hone
  clear h hone
  by_cases z1 : o1 = 0
  · subst z1
    rw [if_pos rfl] at ho
    obtain ⟨⟨D, d1⟩, hin, ho⟩ := Option.bind_eq_some_iff.1 ho
    replace ho : (if d1 = 0 then (if (D.length : Int) > 64 then (some (([] : List (List S64)), 4)) else (name_read.l0 k ([] : List (List S64)) D (D.length : Int) 0)) else (some (([] : List (List S64)), d1))) = some (r1, r2) := ho
    have AI := Aside0.mk hin
    clear hin
    by_cases z2 : d1 = 0
    · subst z2
      rw [if_pos rfl] at ho
      by_cases y1 : (D.length : Int) > 64
      · rw [if_pos y1] at ho
        have Y1 : decide (64 < (D.length : Int)) = true := decide_eq_true y1
        have Y2 : decide (64 < D.length) = true := decide_eq_true (by omega)
        clear y1
        obtain ⟨rfl, rfl⟩ : ([] : List (List S64)) = r1 ∧ (4 : Int) = r2 := by injection (Option.some.inj ho) with x y; exact ⟨x, y⟩
        clear ho
        go_enter Tryz.func79, Tryz.ntmps79
        go_wp2_with fail
        refine (der_One.calls k A0 c0 l0 s0 s1 s2 s3 s4 0 _ HR0.out HC0.out AO.out).mono ?_
        rintro e w18 ⟨v3, v4, rfl, hv3, hv4, hb⟩
        obtain ⟨A3, c3, rfl⟩ := Kd.V_slice hv3
        obtain ⟨A4, c4, rfl⟩ := Kd.V_slice hv4
        have HX3 := Aside0.mk (Kd.V_reads' hv3).2
        have HX4 := Aside0.mk (Kd.V_reads' hv4).2
        have HB := Aside0.mk hb
        clear hb hv3 hv4
        go_wp2_with fail
        refine (name_inside.calls k s0 s1 s2 A3 c3 s3 A4 c4 s4 16 D 0 _ (by repeat (first | exact HX3.out.2 | (with_reducible refine Kd.C_drewN ?_ _) | (with_reducible refine Kd.C_alloc ?_ _) | (with_reducible refine Kd.C_drew ?_))) HX3.out.1 (by repeat (first | exact HX4.out.2 | (with_reducible refine Kd.C_drewN ?_ _) | (with_reducible refine Kd.C_alloc ?_ _) | (with_reducible refine Kd.C_drew ?_))) HX4.out.1 AI.out).mono ?_
        rintro e w19 ⟨v, ev_, rfl, hev_, ho0, hb⟩
        obtain rfl := EV.nil_of hev_ rfl
        clear hev_
        obtain ⟨C0, cD, rfl⟩ := Kd.S_slice ho0
        have HS1 := Aside0.mk (Kd.S_reads' ho0).2.2
        have HBW := Aside0.mk (below_step (by repeat (first | (with_reducible first | exact HB.out | apply below_alloc | apply pw_below_drewN | apply below_drew1) | exact HB.out)) hb)
        clear hb ho0 HB HX3 HX4
        go_wp2_with fail
        go_ret2
        exact ⟨_, _, (by first | rfl | (simp [errW_none, errW_some] <;> rfl)), (by first | exact EV.nil | exact EV.f5 | exact EV.f4 | exact HEV_.out | exact EV.part HEV_.out), Kd.S_nil _ _ _ _ _, (by repeat (first | (with_reducible first | exact HBW.out | apply below_alloc | apply pw_below_drewN | apply below_drew1) | exact HBW.out))⟩
      · rw [if_neg y1] at ho
        have Y1 : decide (64 < (D.length : Int)) = false := decide_eq_false y1
        have Y2 : decide (64 < D.length) = false := decide_eq_false (by omega)
        clear y1
        have AD := Aside0.mk ho
        clear ho
        go_enter Tryz.func79, Tryz.ntmps79
        go_wp2_with fail
        refine (der_One.calls k A0 c0 l0 s0 s1 s2 s3 s4 0 _ HR0.out HC0.out AO.out).mono ?_
        rintro e w18 ⟨v3, v4, rfl, hv3, hv4, hb⟩
        obtain ⟨A3, c3, rfl⟩ := Kd.V_slice hv3
        obtain ⟨A4, c4, rfl⟩ := Kd.V_slice hv4
        have HX3 := Aside0.mk (Kd.V_reads' hv3).2
        have HX4 := Aside0.mk (Kd.V_reads' hv4).2
        have HB := Aside0.mk hb
        clear hb hv3 hv4
        go_wp2_with fail
        refine (name_inside.calls k s0 s1 s2 A3 c3 s3 A4 c4 s4 16 D 0 _ (by repeat (first | exact HX3.out.2 | (with_reducible refine Kd.C_drewN ?_ _) | (with_reducible refine Kd.C_alloc ?_ _) | (with_reducible refine Kd.C_drew ?_))) HX3.out.1 (by repeat (first | exact HX4.out.2 | (with_reducible refine Kd.C_drewN ?_ _) | (with_reducible refine Kd.C_alloc ?_ _) | (with_reducible refine Kd.C_drew ?_))) HX4.out.1 AI.out).mono ?_
        rintro e w19 ⟨v, ev_, rfl, hev_, ho0, hb⟩
        obtain rfl := EV.nil_of hev_ rfl
        clear hev_
        obtain ⟨C0, cD, rfl⟩ := Kd.S_slice ho0
        have HS1 := Aside0.mk (Kd.S_reads' ho0).2.2
        have HBW := Aside0.mk (below_step (by repeat (first | (with_reducible first | exact HB.out | apply below_alloc | apply pw_below_drewN | apply below_drew1) | exact HB.out)) hb)
        clear hb ho0 HB HX3 HX4
        go_wp2_with fail
        go_loopg [8, 37] k (fun kq v8 v37 w' => ∃ (out : List (List S64)) (i : Int), v37 = .int .i64 i ∧ Aside0 (name_read.l0 kq out D (D.length : Int) i = some (r1, r2)) ∧ Aside0 (kq ≤ k) ∧ Aside0 (Kd.S (sliceS 64 k64) 62 w' w19.heap.size (fun _ => True) v8 out) ∧ Aside0 (Below w19.heap.size w19 w'))
        case atStart => exact ⟨([] : List (List S64)), 0, rfl, AD, ⟨Nat.le_refl _⟩, ⟨Kd.S_nil _ _ _ _ _⟩, ⟨(by repeat (first | (with_reducible first | exact (Below.refl _ _) | apply below_alloc | apply pw_below_drewN | apply below_drew1) | exact (Below.refl _ _)))⟩⟩
        case round =>
          obtain ⟨out, i, rfl, HA, HK1, HO, HB⟩ := hrel
          cases gk with
          | zero => exact absurd HA.out (by simp [name_read.l0])
          | succ k1 =>
            have H := HA.out
            clear HA
            simp only [name_read.l0] at H
            by_cases c1 : i < (D.length : Int)
            · have c1b : decide (i < (D.length : Int)) = true := decide_eq_true c1
              rw [if_pos c1] at H
              by_cases c2 : 0 ≤ i
              · have c2b : decide (0 ≤ i) = true := decide_eq_true c2
                rw [if_pos c2] at H
                rw [if_pos c1] at H
                clear c1 c2
                obtain ⟨⟨S0, t3⟩, hset, H⟩ := Option.bind_eq_some_iff.1 H
                replace H : (if t3 = 0 then (if out.length < 5864062014805 then (name_read.l0 k1 (out ++ [S0]) D (D.length : Int) (wrap64 (i + 1))) else (none)) else (some (([] : List (List (S64))), t3))) = some (r1, r2) := H
                have AS := Aside0.mk hset
                clear hset
                by_cases d3 : t3 = 0
                · subst d3
                  rw [if_pos rfl] at H
                  by_cases d6 : out.length < 5864062014805
                  · rw [if_pos d6] at H
                    have LMo := Aside0.mk d6
                    clear d6
                    obtain ⟨yo, hyo⟩ : ∃ y_ : List (List S64), y_ = (out ++ [S0]) := ⟨_, rfl⟩
                    rw [← hyo] at H
                    have NYo := Aside0.mk hyo
                    clear hyo
                    have H' := Aside0.mk H
                    clear H
                    have pi : 0 ≤ (i : Int) := of_decide_eq_true c2b
                    have qi : i < (D.length : Int) := of_decide_eq_true c1b
                    obtain ⟨adi, A3i, c3i, A4i, c4i, ei, h0i, h1i, h2i, h3i, h4i, l3i, i3i, l4i, i4i⟩ := at_T77 (Kd.C_below HS1.out HB.out) i pi qi
                    cases ei
                    have E3i := Aside0.mk i3i
                    have D3i := Aside0.mk l3i
                    have E4i := Aside0.mk i4i
                    have D4i := Aside0.mk l4i
                    clear i3i l3i i4i l4i
                    replace pi := eq_true pi
                    replace qi := eq_true qi
                    go_wp2_with fail
                    refine (name_set.calls k1 ((rd_T77 D i).f0) ((rd_T77 D i).f1) ((rd_T77 D i).f2) _ _ ((rd_T77 D i).f3) _ _ ((rd_T77 D i).f4) S0 0 _ (by repeat (first | exact E3i.out | (with_reducible refine Kd.C_drewN ?_ _) | (with_reducible refine Kd.C_alloc ?_ _) | (with_reducible refine Kd.C_drew ?_))) D3i.out (by repeat (first | exact E4i.out | (with_reducible refine Kd.C_drewN ?_ _) | (with_reducible refine Kd.C_alloc ?_ _) | (with_reducible refine Kd.C_drew ?_))) D4i.out AS.out (Tb.below HT.out (by repeat (first | (with_reducible first | exact (below_step HBW.out HB.out) | apply below_alloc | apply pw_below_drewN | apply below_drew1) | exact (below_step HBW.out HB.out))))).mono ?_
                    rintro e w51 ⟨v, ev_, rfl, hev_, ho0, hb⟩
                    obtain rfl := EV.nil_of hev_ rfl
                    clear hev_
                    obtain ⟨NW, hs1, hs2, hs3⟩ := sole_two (by (with_reducible repeat (first | apply Kd.S_alloc | apply Kd.S_drewN | apply Kd.S_drew)); exact HO.out) ho0 hb (below_size (by repeat (first | (with_reducible first | exact HB.out | apply below_alloc | apply pw_below_drewN | apply below_drew1) | exact HB.out)))
                    have n1_ := Aside0.mk (below_step (by repeat (first | (with_reducible first | exact HB.out | apply below_alloc | apply pw_below_drewN | apply below_drew1) | exact HB.out)) hb)
                    have HE := Aside0.mk hs3
                    clear HO HB hb ho0 h0i h1i h2i h3i h4i E3i E4i D3i D4i hs3
                    have HO := Aside0.mk hs1
                    have HLT := Aside0.mk hs2
                    have HB := n1_
                    clear n1_ hs1 hs2
                    obtain ⟨S_, s_, eS⟩ := Kd.S_slice HE.out
                    subst eS
                    go_wp2_with ((with_reducible refine gate_builtin (b := .append) (xs := #[.tmp 53, .tmp 55]) rfl ?_); at_builtin; refine Kd.S_append (sliceS 64 k64) (w0 := w19) w19.heap.size rfl (.tmp 53) (.tmp 55) 23 62 (.slice none 0 0) 24 rfl Tryz.underlying23 info62 rfl (by decide) (by omega) u8 out S0 [.slice S_ S0.length s_] (fun _ => True) (fun k_ => NW ≤ k_) rfl rfl ?aP ?aK (fun _ _ => trivial) ?aO ?aB ?aS ?aL ?_; (case aP => exact ⟨_, rfl, (by (with_reducible repeat (first | apply Kd.S_alloc | apply Kd.S_drewN | apply Kd.S_drew)); exact HE.out)⟩); (case aK => exact fun k_ hk => ⟨trivial, fun e_ => absurd (HLT.out k_ e_.symm) (by omega)⟩); (case aB => exact (by repeat (first | (with_reducible first | exact HB.out | apply below_alloc | apply pw_below_drewN | apply below_drew1) | exact HB.out))); (case aO => exact Kd.S_mono (by (with_reducible repeat (first | apply Kd.S_alloc | apply Kd.S_drewN | apply Kd.S_drew)); exact HO.out) (fun k_ hk => ⟨trivial, by omega⟩)); (case aS => exact (below_size (by repeat (first | (with_reducible first | exact HB.out | apply below_alloc | apply pw_below_drewN | apply below_drew1) | exact HB.out)))); (case aL => have := LMo.out; omega); intro v592 w56 ho hb hg hat; rw [← NYo.out] at ho; have n6_ := Aside0.mk hb; have n7_ := Aside0.mk ho; clear HB HO; have HB := n6_; have HO := n7_; clear n6_ n7_ ho hb hg hat)
                    go_roundg k1
                    case measure => have := HK1.out; omega
                    case rel => exact ⟨yo, (wrap64 (i + 1)), (by first | rfl | (simp; done)), H', ⟨by have := HK1.out; omega⟩, ⟨(by (with_reducible repeat (first | apply Kd.S_alloc | apply Kd.S_drewN | apply Kd.S_drew)); exact HO.out)⟩, ⟨(by repeat (first | (with_reducible first | exact HB.out | apply below_alloc | apply pw_below_drewN | apply below_drew1) | exact HB.out))⟩⟩
                  · rw [if_neg d6] at H
                    exact absurd H (by simp)
                · rw [if_neg d3] at H
                  have N1 : (t3 == 0) = false := beq_eq_false_iff_ne.mpr d3
                  have N2 : (t3 != 0) = true := bne_iff_ne.mpr d3
                  obtain ⟨rfl, rfl⟩ : ([] : List (List S64)) = r1 ∧ t3 = r2 := by injection (Option.some.inj H) with x y; exact ⟨x, y⟩
                  clear H d3
                  have pi : 0 ≤ (i : Int) := of_decide_eq_true c2b
                  have qi : i < (D.length : Int) := of_decide_eq_true c1b
                  obtain ⟨adi, A3i, c3i, A4i, c4i, ei, h0i, h1i, h2i, h3i, h4i, l3i, i3i, l4i, i4i⟩ := at_T77 (Kd.C_below HS1.out HB.out) i pi qi
                  cases ei
                  have E3i := Aside0.mk i3i
                  have D3i := Aside0.mk l3i
                  have E4i := Aside0.mk i4i
                  have D4i := Aside0.mk l4i
                  clear i3i l3i i4i l4i
                  replace pi := eq_true pi
                  replace qi := eq_true qi
                  go_wp2_with fail
                  refine (name_set.calls k1 ((rd_T77 D i).f0) ((rd_T77 D i).f1) ((rd_T77 D i).f2) _ _ ((rd_T77 D i).f3) _ _ ((rd_T77 D i).f4) S0 t3 _ (by repeat (first | exact E3i.out | (with_reducible refine Kd.C_drewN ?_ _) | (with_reducible refine Kd.C_alloc ?_ _) | (with_reducible refine Kd.C_drew ?_))) D3i.out (by repeat (first | exact E4i.out | (with_reducible refine Kd.C_drewN ?_ _) | (with_reducible refine Kd.C_alloc ?_ _) | (with_reducible refine Kd.C_drew ?_))) D4i.out AS.out (Tb.below HT.out (by repeat (first | (with_reducible first | exact (below_step HBW.out HB.out) | apply below_alloc | apply pw_below_drewN | apply below_drew1) | exact (below_step HBW.out HB.out))))).mono ?_
                  rintro e w51 ⟨v, ev_, rfl, hev_, ho0, hb⟩
                  obtain ⟨et_, eu_, rfl⟩ := EV.some_of hev_ N1
                  have HEV_ := Aside0.mk hev_
                  clear hev_
                  obtain ⟨S_, s_, rfl⟩ := Kd.S_slice ho0
                  have n1_ := Aside0.mk (below_step (by repeat (first | (with_reducible first | exact HB.out | apply below_alloc | apply pw_below_drewN | apply below_drew1) | exact HB.out)) hb)
                  clear HB hb ho0
                  have HB := n1_
                  clear n1_
                  go_wp2_with fail
                  go_ret2
                  exact ⟨_, _, (by first | rfl | (simp [errW_none, errW_some] <;> rfl)), (by first | exact EV.nil | exact EV.f5 | exact EV.f4 | exact HEV_.out | exact EV.part HEV_.out), Kd.S_nil _ _ _ _ _, (by repeat (first | (with_reducible first | exact (below_step HBW.out HB.out) | apply below_alloc | apply pw_below_drewN | apply below_drew1) | exact (below_step HBW.out HB.out)))⟩
              · rw [if_neg c2] at H
                exact absurd H (by simp)
            · have c1b : decide (i < (D.length : Int)) = false := decide_eq_false c1
              rw [if_neg c1] at H
              clear c1
              obtain ⟨rfl, rfl⟩ : out = r1 ∧ (0 : Int) = r2 := by injection (Option.some.inj H) with x y; exact ⟨x, y⟩
              go_wp2
              go_ret2
              exact ⟨_, _, (by first | rfl | (simp [errW_none, errW_some] <;> rfl)), EV.nil, Kd.S_lower (by (with_reducible repeat (first | apply Kd.S_alloc | apply Kd.S_drewN | apply Kd.S_drew)); exact HO.out) (below_size HBW.out), below_step HBW.out (by repeat (first | (with_reducible first | exact HB.out | apply below_alloc | apply pw_below_drewN | apply below_drew1) | exact HB.out))⟩
    · rw [if_neg z2] at ho
      have N1 : (d1 == 0) = false := beq_eq_false_iff_ne.mpr z2
      have N2 : (d1 != 0) = true := bne_iff_ne.mpr z2
      obtain ⟨rfl, rfl⟩ : ([] : List (List S64)) = r1 ∧ d1 = r2 := by injection (Option.some.inj ho) with x y; exact ⟨x, y⟩
      clear ho
      clear z2
      go_enter Tryz.func79, Tryz.ntmps79
      go_wp2_with fail
      refine (der_One.calls k A0 c0 l0 s0 s1 s2 s3 s4 0 _ HR0.out HC0.out AO.out).mono ?_
      rintro e w18 ⟨v3, v4, rfl, hv3, hv4, hb⟩
      obtain ⟨A3, c3, rfl⟩ := Kd.V_slice hv3
      obtain ⟨A4, c4, rfl⟩ := Kd.V_slice hv4
      have HX3 := Aside0.mk (Kd.V_reads' hv3).2
      have HX4 := Aside0.mk (Kd.V_reads' hv4).2
      have HB := Aside0.mk hb
      clear hb hv3 hv4
      go_wp2_with fail
      refine (name_inside.calls k s0 s1 s2 A3 c3 s3 A4 c4 s4 16 D d1 _ (by repeat (first | exact HX3.out.2 | (with_reducible refine Kd.C_drewN ?_ _) | (with_reducible refine Kd.C_alloc ?_ _) | (with_reducible refine Kd.C_drew ?_))) HX3.out.1 (by repeat (first | exact HX4.out.2 | (with_reducible refine Kd.C_drewN ?_ _) | (with_reducible refine Kd.C_alloc ?_ _) | (with_reducible refine Kd.C_drew ?_))) HX4.out.1 AI.out).mono ?_
      rintro e w19 ⟨v, ev_, rfl, hev_, ho0, hb⟩
      obtain ⟨et_, eu_, rfl⟩ := EV.some_of hev_ N1
      have HEV_ := Aside0.mk hev_
      clear hev_
      obtain ⟨C0, cD, rfl⟩ := Kd.S_slice ho0
      have HS1 := Aside0.mk (Kd.S_reads' ho0).2.2
      have HBW := Aside0.mk (below_step (by repeat (first | (with_reducible first | exact HB.out | apply below_alloc | apply pw_below_drewN | apply below_drew1) | exact HB.out)) hb)
      clear hb ho0 HB HX3 HX4
      go_wp2_with fail
      go_ret2
      exact ⟨_, _, (by first | rfl | (simp [errW_none, errW_some] <;> rfl)), (by first | exact EV.nil | exact EV.f5 | exact EV.f4 | exact HEV_.out | exact EV.part HEV_.out), Kd.S_nil _ _ _ _ _, (by repeat (first | (with_reducible first | exact HBW.out | apply below_alloc | apply pw_below_drewN | apply below_drew1) | exact HBW.out))⟩
  · rw [if_neg z1] at ho
    have N1 : (o1 == 0) = false := beq_eq_false_iff_ne.mpr z1
    have N2 : (o1 != 0) = true := bne_iff_ne.mpr z1
    obtain ⟨rfl, rfl⟩ : ([] : List (List S64)) = r1 ∧ o1 = r2 := by injection (Option.some.inj ho) with x y; exact ⟨x, y⟩
    clear ho
    have HLOW := Aside0.mk z1
    clear z1
    go_enter Tryz.func79, Tryz.ntmps79
    go_wp2_with fail
    refine (der_One.calls k A0 c0 l0 s0 s1 s2 s3 s4 o1 _ HR0.out HC0.out AO.out).mono ?_
    rintro e w18 ⟨v3, v4, rfl, hv3, hv4, hb⟩
    obtain ⟨A3, c3, rfl⟩ := Kd.V_slice hv3
    obtain ⟨A4, c4, rfl⟩ := Kd.V_slice hv4
    have HX3 := Aside0.mk (Kd.V_reads' hv3).2
    have HX4 := Aside0.mk (Kd.V_reads' hv4).2
    have HB := Aside0.mk hb
    clear hb hv3 hv4
    go_wp2_with fail
    go_ret2
    exact ⟨_, _, (by first | rfl | (simp [errW_none, errW_some] <;> rfl)), (EV.low HLOW.out), Kd.S_nil _ _ _ _ _, (by repeat (first | (with_reducible first | exact HB.out | apply below_alloc | apply pw_below_drewN | apply below_drew1) | exact HB.out))⟩
set_option maxRecDepth 100000 in
set_option maxHeartbeats 4000000 in
theorem name_Parse_sole (k : Nat) (A0 : Option Addr) (c0 : Nat) (l0 : List Int) (r1 : List (List (S64))) (r2 : Int) (w : World) (hr0 : Kd.C (Kd.int .u8) w A0 l0.length l0) (hc0 : l0.length ≤ c0) (h : name_Parse.f k l0 = some (r1, r2)) (hH : Tb w) (hD : Hd w) :
    Calls Tryz.prog 35 #[.slice A0 l0.length c0] w fun e w' => ∃ v0_ : Value, e = .returned (.tuple #[v0_, .int .i64 r2]) ∧ Kd.S (sliceS 64 k64) 62 w' w.heap.size (fun _ => True) v0_ r1 ∧ Below w.heap.size w w' := by
  have HR0 := Aside0.mk hr0
  have HC0 := Aside0.mk hc0
  have HT := Aside0.mk hH
  have HD := Aside0.mk hD
  have A2 := Aside0.mk (show name_read.f k l0 = some (r1, r2) from h)
  clear hr0 hc0 hH hD h
  go_enter Tryz.func35, Tryz.ntmps35
  go_wp2_with fail
  refine (name_read_sole k A0 c0 l0 r1 r2 _ HR0.out HC0.out A2.out HT.out).mono ?_
  rintro e w1 ⟨v, ev, rfl, hev, ho, hb⟩
  have HE := Aside0.mk hev
  have HO := Aside0.mk ho
  have HB := Aside0.mk hb
  have HD1 := Aside0.mk (HD.out.below hb)
  clear hev ho hb HD HT HR0
  go_wp2_with fail
  refine (name_number_ev HE.out _ HD1.out).mono ?_
  rintro e w2 ⟨rfl, hb⟩
  have HO2 := Aside0.mk (Kd.S_below HO.out hb)
  have HB2 := Aside0.mk (below_step HB.out hb)
  clear hb HO HB
  go_wp2_with fail
  go_ret2
  exact ⟨_, rfl, HO2.out, HB2.out⟩
end Go.Proofs.YtkioddjjfifadaaGreatDoor.P
namespace Go.Proofs.YtkioddjjfifadaaGreatDoor.P
open Go.RowKit Go.Proofs.YtkioddjjfifadaaGreatDoorW.PrintWords Go.Proofs.YtkioddjjfifadaaGreatDoorW.PrintLast Go.Proofs.YtkioddjjfifadaaGreatDoorW.PrintMore
attribute [local go_sem] max2_int min2_int max_two min_two max_three min_three max_four min_four   -- for this text's walks alone
set_option linter.unusedVariables false
set_option linter.unusedSimpArgs false
def chirographref01_Spoil.l0 : Nat → List Int → Int → Option (List Int)
  | 0, _, _ => none
  | k + 1, x0, x2 => if x2 < (x0.length : Int) then (if 0 ≤ x2 then (chirographref01_Spoil.l0 k (x0.set (x2 : Int).toNat (Go.bits .xor .u8 (rd x0 x2) 60)) (wrap64 (x2 + 1))) else (none)) else (some x0)
def chirographref01_Spoil.f (k : Nat) (l0 : List Int) : Option (List Int) := chirographref01_Spoil.l0 k l0 0
set_option maxHeartbeats 8000000 in
set_option maxRecDepth 100000 in
theorem chirographref01_Spoil.calls (k : Nat) (P0_ : Nat → Prop) (u9000_ : Value) (l0 : List Int) (r : List Int) (w0 w : World) (hB : Below w0.heap.size w0 w) (ho0 : Kd.R (Kd.int .u8) 5 w w0.heap.size P0_ u9000_ l0) (h : chirographref01_Spoil.f k l0 = some r) :
    Calls Tryz.prog 30 #[u9000_] w fun e w' => e = .returned (.tuple #[]) ∧ Kd.R (Kd.int .u8) 5 w' w0.heap.size (fun k_ => (P0_ k_ ∨ w.heap.size ≤ k_)) u9000_ r ∧ Below w0.heap.size w0 w' ∧ Kept w w' (fun k_ => P0_ k_) := by
  have HO0 := Aside0.mk (show Kd.R (Kd.int .u8) 5 w w0.heap.size (fun k_ => (P0_ k_ ∨ w.heap.size ≤ k_)) u9000_ l0 from Kd.R_mono ho0 (fun k_ hk => (.inl hk)))
  have HK := Aside0.mk (Kept.refl w (fun k_ => P0_ k_))
  have HW0 := Aside0.mk hB.size
  have HB := Aside0.mk hB
  clear hB
  have H : (chirographref01_Spoil.l0 k l0 0) = some r := h
  clear h
  have H' := Aside0.mk H
  clear H
  go_enter Tryz.func30, Tryz.ntmps30
  go_wp2
  go_loopg [2] k (fun kq v2 w' => ∃ (x0_1 : List Int) (x2_1 : Int), v2 = .int .i64 x2_1 ∧ Aside0 (chirographref01_Spoil.l0 kq x0_1 x2_1 = some r) ∧ Aside0 (kq ≤ k) ∧ Aside0 (Kd.R (Kd.int .u8) 5 w' w0.heap.size (fun k_ => (P0_ k_ ∨ w.heap.size ≤ k_)) u9000_ x0_1) ∧ Aside0 (Kept w w' (fun k_ => P0_ k_)) ∧ Aside0 (Below w0.heap.size w0 w'))
  case atStart => exact ⟨(l0), (0), (by first | rfl | (simp; done) | (simp [*]; done)), H', ⟨Nat.le_refl _⟩, ⟨by (with_reducible repeat (first | apply Kd.R_alloc | apply Kd.R_drewN | apply Kd.R_drew)); exact HO0.out⟩, ⟨by repeat (first | (with_reducible first | exact HK.out | apply Kept.alloc | apply Kept.drewN | apply Kept.drew) | exact HK.out)⟩, ⟨by repeat (first | (with_reducible first | exact HB.out | apply below_alloc | apply pw_below_drewN | apply below_drew1) | exact HB.out)⟩⟩
  case round =>
    clear H'
    obtain ⟨x0_1, x2_1, rfl, HA, HK1, HO_0, HK, HB⟩ := hrel
    cases gk with
    | zero => exact absurd HA.out (by simp [chirographref01_Spoil.l0])
    | succ k1 =>
      have H := HA.out
      clear HA
      simp only [chirographref01_Spoil.l0] at H
      by_cases c2 : x2_1 < (x0_1.length : Int)
      · rw [if_pos c2] at H
        have c2b0 : decide (x2_1 < (x0_1.length : Int)) = true := decide_eq_true c2
        clear c2
        by_cases c3 : 0 ≤ x2_1
        · rw [if_pos c3] at H
          have c3b0 : decide (0 ≤ x2_1) = true := decide_eq_true c3
          clear c3
          obtain ⟨y473, hy473⟩ : ∃ y_ : List Int, y_ = (x0_1.set (x2_1 : Int).toNat (Go.bits .xor .u8 (rd x0_1 x2_1) 60)) := ⟨_, rfl⟩
          replace H : (chirographref01_Spoil.l0 k1 y473 (wrap64 (x2_1 + 1))) = some r := by first | (rw [hy473]; with_reducible exact H) | (have H2_ := (Option.bind_some _ _).symm.trans H; rw [hy473]; with_reducible exact H2_) | (have H2_ := (Option.bind_some _ _).symm.trans H; with_reducible exact H2_) | with_reducible exact H | (rw [hy473]; exact H) | exact H
          have Ny473 := Aside0.mk hy473
          clear hy473
          have H' := Aside0.mk H
          clear H
          obtain ⟨Ao5, co5, eo5⟩ := Kd.R_slice HO_0.out
          subst eo5
          have p472 : 0 ≤ (x2_1 : Int) := of_decide_eq_true (by first | (with_reducible assumption) | assumption)
          have q472 : x2_1 < (x0_1.length : Int) := of_decide_eq_true (by first | (with_reducible assumption) | assumption)
          obtain ⟨ad472, e472, hx472_0⟩ := Kd.at_int (Kd.R_reads' HO_0.out).2.2 x2_1 p472 q472
          cases e472
          replace p472 := eq_true p472
          replace q472 := eq_true q472
          have p4 : 0 ≤ (x2_1 : Int) := of_decide_eq_true (by first | (with_reducible assumption) | assumption)
          have q4 : (x2_1 : Int) < ((x0_1.length : Int) : Int) := of_decide_eq_true (by first | (with_reducible assumption) | assumption)
          obtain ⟨go4, co4, eo4, gb4, gl4, cl4, HG4⟩ := Kd.R_form HO_0.out (by omega)
          (first | cases eo4 | (injection eo4 with ea_ en_ ec_; (first | subst ea_ | (injection ea_ with ea_; subst ea_)); subst ec_; clear en_))
          have GB4 := Aside0.mk gb4
          have GG4 := Aside0.mk HG4
          clear gb4 gl4 HG4
          have HMgo4 := Aside0.mk (show (P0_ go4 ∨ w.heap.size ≤ go4) from (HO_0.out.1 _ rfl))
          (first | simp only [add_plain] at hx472_0 | skip)
          obtain ⟨hx4_0, hf4_0⟩ := Kd.R_celln 0 HO_0.out (x2_1 : Int) p4 q4
          replace p4 := eq_true p4
          replace q4 := eq_true q4
          have HP6 := Kd.R_putg HO_0.out (x2_1 : Int) (Go.bits .xor .u8 (rd x0_1 x2_1) 60)
          go_wp2_with (first | ((with_reducible refine gate_store (t := 5) (p := 16) rfl ?_); refine store_event (t := 5) (p := 16) (v := ?vo_w7) (w1 := (wr.setCell ⟨go4, (x2_1 : Int).toNat, none⟩ (.int .u8 (Go.bits .xor .u8 (rd x0_1 x2_1) 60)))) ?hg ?ho ?hn ?hr ?_; (case ho => rfl); (case hg => rfl); (case hn => rfl); (case hr => first | (go_simp; done) | (go_simp; rfl)); intro w7 hw; have hg : wr.grownBy w7 (some go4) := (by rw [hw]; exact HP6.2); have hp_ : Kd.R (Kd.int .u8) 5 w7 w0.heap.size (fun k_ => (P0_ k_ ∨ w.heap.size ≤ k_)) (.slice (some ⟨go4, 0, none⟩) x0_1.length co5) y473 := (by rw [hw, Ny473.out]; exact HP6.1); clear HP6; have n0_ := Aside0.mk (hp_); have n1_ := Aside0.mk ((by rw [hw]; exact below_set (HB.out) GB4.out : Below w0.heap.size w0 w7)); have n2_ := Aside0.mk (Kept.of_grown (S := (fun k_ => P0_ k_)) hg (by repeat (first | (with_reducible first | exact HK.out | apply Kept.alloc | apply Kept.drewN | apply Kept.drew) | exact HK.out)) (fun k_ e_ => (HO_0.out.1 k_ e_))); clear HO_0; clear HB; clear HK; have HO_0 := n0_; have HB := n1_; have HK := n2_; clear n0_ n1_ n2_; clear hg hw hp_))
          go_roundg k1
          case measure => have := HK1.out; omega
          case rel => exact ⟨(y473), (wrap64 (x2_1 + 1)), (by first | rfl | (simp; done) | (simp [*]; done)), H', ⟨by have := HK1.out; omega⟩, ⟨by (with_reducible repeat (first | apply Kd.R_alloc | apply Kd.R_drewN | apply Kd.R_drew)); exact HO_0.out⟩, ⟨by repeat (first | (with_reducible first | exact HK.out | apply Kept.alloc | apply Kept.drewN | apply Kept.drew) | exact HK.out)⟩, ⟨by repeat (first | (with_reducible first | exact HB.out | apply below_alloc | apply pw_below_drewN | apply below_drew1) | exact HB.out)⟩⟩
        · rw [if_neg c3] at H
          exact absurd H (by simp)
      · rw [if_neg c2] at H
        have c2b0 : decide (x2_1 < (x0_1.length : Int)) = false := decide_eq_false c2
        clear c2
        obtain rfl := Option.some.inj H
        obtain ⟨Ao8, co8, eo8⟩ := Kd.R_slice HO_0.out
        subst eo8
        go_wp2
        first | go_end0 | ((try simp only [Exit.inBlock, Exit.then]); refine bodyPost_ret (results_none rfl _ _ _) rfl ?_)
        exact ⟨by first | rfl | (simp [errW_none, errW_some] <;> rfl) | (simp [*, errW_none, errW_some] <;> rfl), by (with_reducible repeat (first | apply Kd.R_alloc | apply Kd.R_drewN | apply Kd.R_drew)); exact HO_0.out, by repeat (first | (with_reducible first | exact HB.out | apply below_alloc | apply pw_below_drewN | apply below_drew1) | exact HB.out), by repeat (first | (with_reducible first | exact HK.out | apply Kept.alloc | apply Kept.drewN | apply Kept.drew) | exact HK.out)⟩
end Go.Proofs.YtkioddjjfifadaaGreatDoor.P
set_option linter.unusedVariables false
set_option linter.unusedSimpArgs false
namespace Go.Proofs.YtkioddjjfifadaaGreatDoor.P
open Go.RowKit Go.Proofs.YtkioddjjfifadaaGreatDoorW.PrintWords Go.Proofs.YtkioddjjfifadaaGreatDoorW.PrintLast Go.Proofs.YtkioddjjfifadaaGreatDoorW.PrintMore
theorem spoil_len : ∀ (k : Nat) (b : List Int) (i : Int) (c : List Int), chirographref01_Spoil.l0 k b i = some c → c.length = b.length
  | 0, _, _, _, h => by simp [chirographref01_Spoil.l0] at h
  | k + 1, b, i, c, h => by
    rw [chirographref01_Spoil.l0] at h
    split at h
    · split at h
      · rw [spoil_len k _ _ c h, List.length_set]
      · cases h
    · rw [Option.some.inj h]
theorem spoil_any (n : Nat) (hn : n ≤ 1000000) : ∀ (k : Nat) (b : List Int) (i : Int), b.length = n → 0 ≤ i → (n : Int) - i < k → 0 < k → ∃ c, chirographref01_Spoil.l0 k b i = some c
  | 0, b, i, _, _, _, h3 => by omega
  | k + 1, b, i, hb, h0, h2, _ => by
    rw [chirographref01_Spoil.l0]
    by_cases hi : i < (b.length : Int)
    · rw [if_pos hi, if_pos h0, show wrap64 (i + 1) = i + 1 by unfold wrap64; omega]
      exact spoil_any n hn k _ (i + 1) (by simp [hb]) (by omega) (by omega) (by omega)
    · rw [if_neg hi]
      exact ⟨_, rfl⟩
/-- Bytes of one's own, spoilt: bytes of one's own, as many; no other block is written. -/
theorem spoil_own (v : Value) (d : List Int) (w0 w : World) (ok : Nat → Prop) (hl : d.length ≤ 1000000) (hB : Below w0.heap.size w0 w) (ho : Kd.R (Kd.int .u8) 5 w w0.heap.size ok v d) :
    Calls Tryz.prog 30 #[v] w fun e w' => e = .returned (.tuple #[]) ∧ (∃ d', d'.length = d.length ∧ Kd.R (Kd.int .u8) 5 w' w0.heap.size ok v d') ∧ Below w0.heap.size w0 w' ∧ Kept w w' (fun k => some k = v.ownBlock) := by
  obtain ⟨c, hc⟩ := spoil_any d.length hl (d.length + 1) d 0 rfl (Int.le_refl _) (by omega) (by omega)
  refine (chirographref01_Spoil.calls (d.length + 1) (fun k => some k = v.ownBlock) v d c w0 w hB (Kd.R_tight rfl ho) hc).mono ?_
  rintro e w' ⟨rfl, hr, hb, hk⟩
  exact ⟨rfl, ⟨c, spoil_len _ _ _ _ hc, Kd.R_reok rfl hr (fun k hk => ho.1 k hk)⟩, hb, hk⟩
section
variable {P : Program} {ops : Array Oper} {rest : List Oper} {o : Oper} {a : Act} {Q : Exit → Act → World → Prop}
/-- append(v, news..), news not empty: the elder row stands as it was. -/
theorem append_kept {w0 W : World} (base : Nat) (hgd : o.guard = none) (s x : Operand) (t e : TypeId) (z : Value) (size bytes : Nat)
    (ho : o.op = .call { callee := .builtin .append, args := #[s, x], argTypes := #[t, t] })
    (ht : P.underlying t = some (.slice e)) (hinfo : (P.info? e).map (fun i => (i.zero, i.size, i.bytes)) = some (some z, size, bytes)) (hz : z.cells.size = size) (hs0 : 0 < size) (hb0 : 0 < bytes)
    (v : Value) (n : Nat) (inner : List Value) (ad : Addr) (m c : Nat) (news : List Value) (hs : a.eval s = v) (hx : a.eval x = .slice (some ad) m c)
    (hown : W.ownsRow base e size v n inner) (hl : news.length = m * size) (hnews : ∀ j u, news[j]? = some u → W.cell? (ad.add j) = some u) (h1 : ∀ u ∈ news, u.oneCell' = true) (hm : 0 < m)
    (HB : Below base w0 W) (hbase : base ≤ W.heap.size) (hbytes : (n + m) * bytes ≤ 140737488355328)
    (h : ∀ g cap w1, w1.ownsRow base e size (.slice (some ⟨g, 0, none⟩) (n + m) cap) (n + m) (inner ++ news) → w1.ownsRow base e size v n inner → ((v = .slice (some ⟨g, 0, none⟩) n cap ∧ W.grownBy w1 (some g)) ∨ (W.heap.size ≤ g ∧ W.grownBy w1 none)) → Below base w0 w1 → wpList P ops Q rest (a.put o.dst (.slice (some ⟨g, 0, none⟩) (n + m) cap)) w1) :
    wpList P ops Q (o :: rest) a W := by
  obtain ⟨i0, hi, hzz⟩ := Option.map_eq_some_iff.1 hinfo
  simp only [Prod.mk.injEq] at hzz
  obtain ⟨hz0, hz1, hz2⟩ := hzz
  have hlen : n + m ≤ 140737488355328 := Nat.le_trans (Nat.le_mul_of_pos_right _ hb0) hbytes
  obtain ⟨g, cap, w1, hr1, h2, h3, h4⟩ := run_append_kept (P := P) W base t o.type e i0 z size bytes ht hi hz0 hz1 hz2 hz hs0 v n inner hown ad m c news hl hnews h1 hm (by simp only [maxLen]; omega) hbytes hbase
  refine wpList_plain hgd fun K hK => ?_
  unfold Oper.wp execOp
  simp only [ho, resolve, invoke, builtin, Sem.run_bind, Sem.run_pure, Result.andThen_ok, List.map_toArray, List.map_cons, List.map_nil, hs, hx, hr1]
  refine hK _ _ (h g cap w1 h2 h3 h4 ?_)
  rcases h4 with ⟨hv, hg⟩ | ⟨_, hg⟩
  · exact HB.grown hg hbase (fun k hk => by
      have := own_base hown k (by rw [hv]; exact hk)
      exact this)
  · exact HB.grown hg hbase (fun _ hk => by cases hk)
end
/-- Bytes appended to bytes of one's own, all of it spoilt: the elder bytes are bytes of one's own still, and as many. -/
theorem spoil_app {w0 W W1 : World} {g cap : Nat} {v : Value} {d : List Int} {ok : Nat → Prop} (news : List Int) (hl : d.length + news.length ≤ 1000000)
    (hv : Kd.R (Kd.int .u8) 5 W w0.heap.size ok v d)
    (h1 : W1.ownsRow w0.heap.size 5 1 (.slice (some ⟨g, 0, none⟩) (d.length + news.length) cap) (d.length + news.length) (encs (Value.int .u8) d ++ encs (Value.int .u8) news))
    (h2 : W1.ownsRow w0.heap.size 5 1 v d.length (encs (Value.int .u8) d))
    (h3 : (v = .slice (some ⟨g, 0, none⟩) d.length cap ∧ W.grownBy W1 (some g)) ∨ (W.heap.size ≤ g ∧ W.grownBy W1 none)) (hB : Below w0.heap.size w0 W1) :
    Calls Tryz.prog 30 #[.slice (some ⟨g, 0, none⟩) (d.length + news.length) cap] W1 fun e w' => e = .returned (.tuple #[]) ∧ (∃ d', d'.length = d.length ∧ Kd.R (Kd.int .u8) 5 w' w0.heap.size ok v d') ∧ Below w0.heap.size w0 w' ∧ Kept W w' (fun k => some k = v.ownBlock) := by
  have ee : encs (Value.int .u8) d ++ encs (Value.int .u8) news = encs (Value.int .u8) (d ++ news) := by simp [encs]
  rw [ee] at h1
  have hn : (d ++ news).length = d.length + news.length := List.length_append
  rw [← hn] at h1
  have hR1 : Kd.R (Kd.int .u8) 5 W1 w0.heap.size (fun k => some k = some g) (.slice (some ⟨g, 0, none⟩) (d ++ news).length cap) (d ++ news) :=
    Kd.R_of_own h1 (fun k hk => hk.symm)
  rw [← hn]
  refine (spoil_own _ (d ++ news) w0 W1 _ (by rw [hn]; exact hl) hB hR1).mono ?_
  rintro e W2 ⟨rfl, ⟨d1, hd1, hR2⟩, hb, hk⟩
  rcases h3 with ⟨hv3, hg⟩ | ⟨hlt, hg⟩
  · refine ⟨rfl, ⟨d1.take d.length, by rw [List.length_take, hd1, hn]; omega, ?_⟩, hb, ?_⟩
    · rw [hv3] at hv ⊢
      exact Kd.R_reok rfl (Kd.R_take hR2 (m := d.length) (by rw [hd1, hn]; omega)) (fun k hk => hv.1 k hk)
    · rw [hv3]
      refine (Kept.of_grown hg (Kept.refl W _) (fun k hk => .inl (by simp only [Value.ownBlock]; exact hk.symm))).then_ hk (fun k hk => .inl (by simpa [Value.ownBlock] using hk))
  · have ho : ∀ k, v.ownBlock = some k → k < W.heap.size := Kd.R_lt hv
    refine ⟨rfl, ⟨d, rfl, ?_⟩, hb, ?_⟩
    · have hRv : Kd.R (Kd.int .u8) 5 W1 w0.heap.size (fun k => some k = v.ownBlock) v d := Kd.R_of_own h2 (fun k hk => hk.symm)
      refine Kd.R_reok rfl (Kd.R_kept hRv hk (fun k hk1 hk2 => ?_)) (fun k hk => hv.1 k hk)
      have := ho k hk1.symm
      simp only [Value.ownBlock, Option.some.injEq] at hk2
      omega
    · refine (Kept.of_grown hg (Kept.refl W _) (fun k hk => by cases hk)).then_ hk (fun k hk => .inr ?_)
      simp only [Value.ownBlock, Option.some.injEq] at hk
      omega
end Go.Proofs.YtkioddjjfifadaaGreatDoor.P
set_option linter.unusedVariables false
set_option linter.unusedSimpArgs false
namespace Go.Proofs.YtkioddjjfifadaaGreatDoor.P
open Go.RowKit Go.Proofs.YtkioddjjfifadaaGreatDoorW.PrintWords Go.Proofs.YtkioddjjfifadaaGreatDoorW.PrintLast Go.Proofs.YtkioddjjfifadaaGreatDoorW.PrintMore
section
variable {W W' : World} {base g n cap i k : Nat} {ok : Nat → Prop} {L : List (Option (List (Option S64)))} {row : List (Option S64)} {p : S64} {v : Value}
theorem getD_at {α : Type} {l : List α} {i : Nat} {x z : α} (h : l[i]? = some x) : l.getD i z = x := by rw [List.getD_eq_getElem?_getD, h]; rfl
theorem lend_row (h : Kd.S kS 62 W base ok (.slice (some ⟨g, 0, none⟩) n cap) L) (hi : i < n) (hL : L[i]? = some (some row)) :
    ∃ oki v, Kd.S kP 64 W base oki v row ∧ W.cell? ⟨g, i, none⟩ = some v ∧ v.oneCell' = true ∧ (∀ j, oki j → ok j ∧ j ≠ g) ∧ Kd.H kS 62 W base ok (.slice (some ⟨g, 0, none⟩) n cap) L i oki [v] := by
  obtain ⟨oki, c, _, hM, hcc, hk, hH⟩ := Kd.S_lend h none (i : Int) (by omega) (by omega)
  rw [Int.toNat_natCast] at hM hcc
  rw [getD_at hL] at hM
  obtain ⟨v, rfl, hR⟩ := (show (sliceS 64 kP).M W base oki row c from hM)
  refine ⟨oki, v, hR, ?_, (Kd.R_val (Kd.S_R hR)).2, hk, hH⟩
  have h0 := hcc 0 v rfl
  rwa [show kS.sz = 1 from rfl, Nat.mul_one, Nat.add_zero] at h0
theorem lend_part (h : Kd.S kP 64 W base ok (.slice (some ⟨g, 0, none⟩) n cap) row) (hk : k < n) (hp : row[k]? = some (some p)) :
    ∃ okk dv, Kd.R (Kd.int .u8) 5 W base okk dv p.f2 ∧ W.cell? ⟨g, k * 3 + 2, none⟩ = some dv ∧ dv.oneCell' = true ∧ (∀ j, okk j → ok j ∧ j ≠ g) ∧ Kd.H kP 64 W base ok (.slice (some ⟨g, 0, none⟩) n cap) row k okk [.string p.f0, .int .i64 p.f1, dv] := by
  obtain ⟨okk, c, _, hM, hcc, hk2, hH⟩ := Kd.S_lend h none (k : Int) (by omega) (by omega)
  rw [Int.toNat_natCast] at hM hcc
  rw [getD_at hp] at hM
  obtain ⟨dv, rfl, hR⟩ := k64_openM (show k64.M W base okk p c from hM)
  exact ⟨okk, dv, hR, hcc 2 dv rfl, (Kd.R_val hR).2, hk2, hH⟩
theorem H_to {α : Type} {d : Kd α} {e : Nat} {v : Value} {xs : List α} {i : Int} {oki : Nat → Prop} {c : List Value} {S : Nat → Prop} (h : Kd.H d e W base ok v xs i oki c) (hk : Kept W W' S) (hs : ∀ j, S j → oki j) : Kd.H d e W' base ok v xs i oki c :=
  Kd.H_step h (fun j _ hn hlt => hk.2 j hlt (fun h2 => hn (hs j h2)))
/-- Part k of set i: where its bytes lie; they are spoilt, and the part is given up. -/
theorem lend2 (h : Kd.S kS 62 W base ok (.slice (some ⟨g, 0, none⟩) n cap) L) (hi : i < n) (hL : L[i]? = some (some row)) (hk : k < row.length) (hp : row[k]? = some (some p)) :
    ∃ gi rc okk dv, W.cell? ⟨g, i, none⟩ = some (.slice (some ⟨gi, 0, none⟩) row.length rc) ∧ W.cell? ⟨gi, k * 3 + 2, none⟩ = some dv ∧ row.length ≤ rc ∧ Kd.R (Kd.int .u8) 5 W base okk dv p.f2 ∧ (∀ j, okk j → ok j ∧ j ≠ g ∧ j ≠ gi) ∧
      ∀ W', Kept W W' okk → Kd.S kS 62 W' base ok (.slice (some ⟨g, 0, none⟩) n cap) (L.set i (some (row.set k none))) := by
  obtain ⟨oki, v, hR, hc, hv1, hok, hH⟩ := lend_row h hi hL
  obtain ⟨gi, rc, rfl, _, _, _⟩ := Kd.S_form hR (by omega)
  obtain ⟨okk, dv, hD, hdc, hd1, hok2, hH2⟩ := lend_part hR hk hp
  refine ⟨gi, rc, okk, dv, hc, hdc, (Kd.S_reads' hR).2.1, hD, fun j hj => ⟨(hok j (hok2 j hj).1).1, (hok j (hok2 j hj).1).2, (hok2 j hj).2⟩, fun W' hK => ?_⟩
  have h2 : Kd.S kP 64 W' base oki (.slice (some ⟨gi, 0, none⟩) row.length rc) (row.set k none) := by
    have h3 := Kd.H_back (okp := okk) (H_to hH2 hK (fun _ hj => hj)) (x' := none) ⟨rfl, by
      intro u hu
      simp only [List.mem_cons, List.not_mem_nil, or_false] at hu
      rcases hu with rfl | rfl | rfl
      · rfl
      · rfl
      · exact hd1⟩ (fun _ hj => hj)
    rwa [Int.toNat_natCast] at h3
  have h4 := Kd.H_back (okp := oki) (H_to hH hK (fun j hj => (hok2 j hj).1)) (x' := some (row.set k none)) ⟨_, rfl, h2⟩ (fun _ hj => hj)
  rwa [Int.toNat_natCast] at h4
/-- Set i is given up. -/
theorem lend1 (h : Kd.S kS 62 W base ok (.slice (some ⟨g, 0, none⟩) n cap) L) (hi : i < n) (hL : L[i]? = some (some row)) :
    ∃ oki v inner, W.cell? ⟨g, i, none⟩ = some v ∧ W.ownsRow base 64 3 v row.length inner ∧ (∀ j, v.ownBlock = some j → oki j) ∧ (∀ j, oki j → ok j ∧ j ≠ g) ∧
      ∀ W', Kept W W' oki → Kd.S kS 62 W' base ok (.slice (some ⟨g, 0, none⟩) n cap) (L.set i none) := by
  obtain ⟨oki, v, hR, hc, hv1, hok, hH⟩ := lend_row h hi hL
  obtain ⟨inner, ho⟩ := Kd.S_own hR
  refine ⟨oki, v, inner, hc, ho, (Kd.S_R hR).1, hok, fun W' hK => ?_⟩
  have h4 := Kd.H_back (okp := oki) (H_to hH hK (fun j hj => hj)) (x' := none) ⟨rfl, fun u hu => by rw [List.mem_singleton.1 hu]; exact hv1⟩ (fun _ hj => hj)
  rwa [Int.toNat_natCast] at h4
end
section
variable {W : World} {base c : Nat} {ok : Nat → Prop} {L : List (Option (List (Option S64)))} {row : List (Option S64)} {ns : List (List S64)} {s : List S64} {A : Option Addr} {n : Nat}
/-- What a list says of a name from set i on. -/
abbrev opnS (s : List S64) : Option (List (Option S64)) := some (s.map some)
abbrev LeftN (L : List (Option (List (Option S64)))) (ns : List (List S64)) (i : Nat) : Prop := L.length = ns.length ∧ ∀ j, i ≤ j → L[j]? = ns[j]?.map opnS
abbrev LeftP (row : List (Option S64)) (s : List S64) (k : Nat) : Prop := row.length = s.length ∧ ∀ j, k ≤ j → row[j]? = s[j]?.map some
theorem left_drop {α β : Type} {φ : α → β} {L : List β} {ns : List α} {i : Nat} (h : ∀ j, i ≤ j → L[j]? = ns[j]?.map φ) : L.drop i = (ns.drop i).map φ := by
  apply List.ext_getElem?
  intro j
  rw [List.getElem?_drop, List.getElem?_map, List.getElem?_drop]
  exact h (i + j) (by omega)
theorem left_row (h : Kd.S kS 62 W base ok (.slice A n c) L) {i : Nat} (hL : LeftN L ns i) (hi : i ≤ n) : n = ns.length ∧ n ≤ c ∧ Kd.C (Kd.slice 64 k64) W (if c = i then A else A.map (·.add i)) (ns.length - i) (ns.drop i) := by
  obtain ⟨hn, hc, hC⟩ := Kd.S_reads' h
  have h1 := Kd.C_drop (k := kS) (m := i) (c := c) hC (by omega) (by omega)
  rw [left_drop hL.2] at h1
  rw [show kS.sz = 1 from rfl, Nat.mul_one] at h1
  have h2 := C_close h1
  rw [List.length_map, List.length_drop] at h2
  exact ⟨by rw [hn]; exact hL.1, hc, h2⟩
theorem left_parts (h : Kd.C kP W A row.length row) (hc : row.length ≤ c) {k : Nat} (hL : LeftP row s k) (hk : k ≤ row.length) : Kd.C k64 W (if c = k then A else A.map (·.add (k * 3))) (s.length - k) (s.drop k) := by
  have h1 := Kd.C_drop (k := kP) (m := k) h (by omega) hc
  rw [left_drop hL.2] at h1
  have h2 := C_closeP h1
  rw [List.length_map, List.length_drop] at h2
  exact h2
end
end Go.Proofs.YtkioddjjfifadaaGreatDoor.P
set_option linter.unusedVariables false
namespace Go.Proofs.YtkioddjjfifadaaGreatDoor.P
open Go.RowKit Go.Proofs.YtkioddjjfifadaaGreatDoorW.PrintWords
/-- Number i of a list. -/
inductive Nth {α : Type} (a : α) : List α → Nat → Prop
  | here (l : List α) : Nth a (a :: l) 0
  | next (b : α) {l : List α} {i : Nat} : Nth a l i → Nth a (b :: l) (i + 1)
theorem Nth.get {α : Type} {a : α} {l : List α} {i : Nat} (h : Nth a l i) : l.toArray[i]? = some a := by
  induction h with
  | here l => rfl
  | next b h ih => simpa using ih
section
variable {P : Program} {l : List Oper} {Q : Exit → Act → World → Prop} {md : Region.Mode} {S : World → Prop} {i : Nat} {oi : Oper} {v : Value} {fuel : Nat} {listed : Array Bool} {a : Act} {w : World}
theorem take_nth (hi : Nth oi l i) (hs : Region.noSelect l.toArray = true) (hf : Region.free md l.toArray listed i = true) (hr : (Region.ready md l.toArray listed).contains i = true)
    (hQ : ∀ c a w, Q (.panic c) (a.put oi.dst v) w → Q (.panic c) a w) (hy : YieldsIf P l.toArray S oi v a) (hS : S w)
    (h : wpAnyH P md l.toArray Q S fuel (listed.setIfInBounds i true) (a.put oi.dst v) w) : wpAnyH P md l.toArray Q S (fuel + 1) listed a w :=
  wpAnyH_take hi.get hs hf hr hQ hy hS h
theorem cons_nth {rs : List Nat} (hi : Nth oi l i)
    (h : ∀ K' : Act → World → Prop, Shut (∀ a w, S w → (S w → wpAnyH P md l.toArray Q S fuel (listed.setIfInBounds i true) a w) → K' a w) → if Region.wanted oi (yielded l.toArray a.tmps) = true then Oper.wp P oi a w K' Q else K' (a.put oi.dst undef) w)
    (hs : AllReadyH P md l.toArray Q S fuel listed a w rs) : AllReadyH P md l.toArray Q S fuel listed a w (i :: rs) := AllReadyH.cons hi.get h hs
end
end Go.Proofs.YtkioddjjfifadaaGreatDoor.P
namespace Go.Proofs.YtkioddjjfifadaaGreatDoor.P
open Go.RowKit Go.Proofs.YtkioddjjfifadaaGreatDoorW.PrintWords Go.Proofs.YtkioddjjfifadaaGreatDoorW.PrintLast Go.Proofs.YtkioddjjfifadaaGreatDoorW.PrintMore
attribute [local go_sem] max2_int min2_int max_two min_two max_three min_three max_four min_four   -- for this text's walks alone
set_option linter.unusedVariables false
set_option linter.unusedSimpArgs false
mutual
def chirographref07_Copy.l0 : Nat → List (List (S64)) → List (List (S64)) → Int → Option ((List (List (S64))))
  | 0, _, _, _ => none
  | k + 1, x0, x3, x4 => if x4 < (x0.length : Int) then (chirographref07_Copy.l1 k x0 x3 x4 (([] : List (S64))) 0) else (some x3)
def chirographref07_Copy.l1 : Nat → List (List (S64)) → List (List (S64)) → Int → List (S64) → Int → Option ((List (List (S64))))
  | 0, _, _, _, _, _ => none
  | k + 1, x0, x3, x4, x5, x6 => if 0 ≤ x4 then (if x4 < (x0.length : Int) then (if x6 < ((rd_L5 x0 x4).length : Int) then (if 0 ≤ x6 then ((some (([] : List Int) : List Int)).bind fun y949 => (if y949.length + ((rd_T64 (rd_L5 x0 x4) x6).f2).length < 140737488355328 then (if x5.length < 2932031007402 then (chirographref07_Copy.l1 k x0 x3 x4 (x5 ++ [(⟨(rd_T64 (rd_L5 x0 x4) x6).f0, (rd_T64 (rd_L5 x0 x4) x6).f1, (y949 ++ ((rd_T64 (rd_L5 x0 x4) x6).f2))⟩ : S64)]) (wrap64 (x6 + 1))) else (none)) else (none))) else (none)) else (if x3.length < 5864062014805 then (chirographref07_Copy.l0 k x0 (x3 ++ [x5]) (wrap64 (x4 + 1))) else (none))) else (none)) else (none)
end
def chirographref07_Copy.f (k : Nat) (l0 : List (List (S64))) : Option ((List (List (S64)))) := chirographref07_Copy.l0 k l0 ([] : List (List (S64))) 0
end Go.Proofs.YtkioddjjfifadaaGreatDoor.P
namespace Go.Proofs.YtkioddjjfifadaaGreatDoor.P
open Go.RowKit Go.Proofs.YtkioddjjfifadaaGreatDoorW.PrintWords Go.Proofs.YtkioddjjfifadaaGreatDoorW.PrintLast Go.Proofs.YtkioddjjfifadaaGreatDoorW.PrintMore
attribute [local go_sem] max2_int min2_int max_two min_two max_three min_three max_four min_four   -- for this text's walks alone
set_option linter.unusedVariables false
set_option linter.unusedSimpArgs false
set_option maxHeartbeats 8000000 in
set_option maxRecDepth 100000 in
theorem copy_sole (k : Nat) (A0 : Option Addr) (c0 : Nat) (l0 : List (List (S64))) (r : List (List (S64))) (w : World) (hr0 : Kd.C (Kd.slice 64 k64) w A0 l0.length l0) (hc0 : l0.length ≤ c0) (h : chirographref07_Copy.f k l0 = some r) :
    Calls Tryz.prog 40 #[.slice A0 l0.length c0] w fun e w' => ∃ v0_ : Value, e = .returned (v0_) ∧ Kd.S (Kd.slice 64 k64) 62 w' w.heap.size (fun _ => True) v0_ r ∧ Below w.heap.size w w' := by
  have hu64 := Tryz.underlying64
  have HR0 := Aside0.mk hr0
  have HC0 := Aside0.mk hc0
  clear hr0 hc0
  have HB := Aside0.mk (Below.refl w.heap.size w)
  have H : (chirographref07_Copy.l0 k l0 ([] : List (List (S64))) 0) = some r := h
  clear h
  have H' := Aside0.mk H
  clear H
  go_enter Tryz.func40, Tryz.ntmps40
  go_wp2
  go_loopg [3, 4] k (fun kq v3 v4 w' => ∃ (x3_1 : List (List (S64))) (x4_1 : Int), v4 = .int .i64 x4_1 ∧ Aside0 (chirographref07_Copy.l0 kq l0 x3_1 x4_1 = some r) ∧ Aside0 (kq ≤ k) ∧ Aside0 (Kd.S (Kd.slice 64 k64) 62 w' w.heap.size (fun _ => True) v3 x3_1) ∧ Aside0 (Below w.heap.size w w'))
  case atStart => exact ⟨(([] : List (List (S64)))), (0), (by first | rfl | (simp; done) | (simp [*]; done)), H', ⟨Nat.le_refl _⟩, ⟨by exact Kd.S_nil _ _ _ _ _⟩, ⟨by repeat (first | (with_reducible first | exact HB.out | apply below_alloc | apply pw_below_drewN | apply below_drew1) | exact HB.out)⟩⟩
  case round =>
    clear H'
    obtain ⟨x3_1, x4_1, rfl, HA, HK1, HO_3, HB⟩ := hrel
    rename World => wq
    have HQ := HO_3
    have HBo := HB
    clear HO_3 HB
    have HO_3 := Aside0.mk (Kd.S_R HQ.out)
    have HB := Aside0.mk (Below.refl wq.heap.size wq)
    cases gk with
    | zero => exact absurd HA.out (by simp [chirographref07_Copy.l0])
    | succ k1 =>
      have H := HA.out
      clear HA
      simp only [chirographref07_Copy.l0] at H
      by_cases c2 : x4_1 < (l0.length : Int)
      · rw [if_pos c2] at H
        have c2b0 : decide (x4_1 < (l0.length : Int)) = true := decide_eq_true c2
        clear c2
        obtain ⟨y942, hy942⟩ : ∃ y_ : List (S64), y_ = (([] : List (S64))) := ⟨_, rfl⟩
        replace H : (chirographref07_Copy.l1 k1 l0 x3_1 x4_1 y942 0) = some r := by first | (rw [hy942]; with_reducible exact H) | (have H2_ := (Option.bind_some _ _).symm.trans H; rw [hy942]; with_reducible exact H2_) | (have H2_ := (Option.bind_some _ _).symm.trans H; with_reducible exact H2_) | with_reducible exact H | (rw [hy942]; exact H) | exact H
        have Ny942 := Aside0.mk hy942
        clear hy942
        have H' := Aside0.mk H
        clear H
        go_wp2_with (first | ((with_reducible refine gate_dst (N := 14) rfl ?_); refine Kd.S_lit k64 _ 64 ?hg (N := 14) ?hd (xs := ([] : List (S64))) (inner := []) (ok := fun _ => True) (okp := fun _ => True) ?hr ?hp (fun _ hk => hk) trivial (Below.refl _ _) (Nat.le_refl _) (by simp) ?_; (case hd => rfl); (case hg => rfl); (case hr => first | (go_simp; done) | (go_simp; rfl)); (case hp => exact (Reps.none _ _)); intro v943 w3 ho4 hb hg_ hnew_; clear hg_ hnew_; (first | rw [← Ny942.out] at ho4 | (simp only [Int.reduceToNat] at ho4; rw [← Ny942.out] at ho4)); have n0_ := Aside0.mk (Kd.R_elder' (by (with_reducible repeat (first | apply Kd.R_alloc | apply Kd.R_drewN | apply Kd.R_drew)); exact HO_3.out) (Kd.S_base ho4) hb); have n1_ := Aside0.mk (Kd.S_lower ho4 (below_size (by repeat (first | (with_reducible first | exact HB.out | apply below_alloc | apply pw_below_drewN | apply below_drew1) | exact HB.out)))); have n2_ := Aside0.mk (below_step (by repeat (first | (with_reducible first | exact HB.out | apply below_alloc | apply pw_below_drewN | apply below_drew1) | exact HB.out)) hb); clear HO_3; clear HB; have HO_3 := n0_; have HO944 := n1_; have HB := n2_; clear n0_ n1_ n2_; clear hb ho4))
        go_loopg [5, 6] k1 (fun kq v5 v6 w' => ∃ (x5_2 : List (S64)) (x6_2 : Int), v6 = .int .i64 x6_2 ∧ Aside0 (chirographref07_Copy.l1 kq l0 x3_1 x4_1 x5_2 x6_2 = some r) ∧ Aside0 (kq ≤ k1) ∧ Aside0 (Kd.R (Kd.slice 64 k64) 62 w' w.heap.size (fun k_ => some k_ ≠ (v5 : Value).ownBlock) u3 x3_1) ∧ Aside0 (Kd.S k64 64 w' wq.heap.size (fun _ => True) v5 x5_2) ∧ Aside0 (Below wq.heap.size wq w'))
        case atStart => exact ⟨(y942), (0), (by first | rfl | (simp; done) | (simp [*]; done)), H', ⟨Nat.le_refl _⟩, ⟨by (with_reducible repeat (first | apply Kd.R_alloc | apply Kd.R_drewN | apply Kd.R_drew)); exact Kd.R_mono HO_3.out (fun _ hk => hk.2)⟩, ⟨by (with_reducible repeat (first | apply Kd.S_alloc | apply Kd.S_drewN | apply Kd.S_drew)); exact HO944.out⟩, ⟨by repeat (first | (with_reducible first | exact HB.out | apply below_alloc | apply pw_below_drewN | apply below_drew1) | exact HB.out)⟩⟩
        case round =>
          clear H'
          try clear c2
          try clear c2b0
          try clear p2
          try clear c4
          obtain ⟨x5_2, x6_2, rfl, HA, HK2, HO_3, HO_5, HB⟩ := hrel
          cases gk with
          | zero => exact absurd HA.out (by simp [chirographref07_Copy.l1])
          | succ k2 =>
            have H := HA.out
            clear HA
            simp only [chirographref07_Copy.l1] at H
            by_cases c5 : 0 ≤ x4_1
            · rw [if_pos c5] at H
              have c5b0 : decide (0 ≤ x4_1) = true := decide_eq_true c5
              clear c5
              by_cases c6 : x4_1 < (l0.length : Int)
              · rw [if_pos c6] at H
                have c6b0 : decide (x4_1 < (l0.length : Int)) = true := decide_eq_true c6
                clear c6
                by_cases c7 : x6_2 < ((rd_L5 l0 x4_1).length : Int)
                · rw [if_pos c7] at H
                  have c7b0 : decide (x6_2 < ((rd_L5 l0 x4_1).length : Int)) = true := decide_eq_true c7
                  clear c7
                  by_cases c8 : 0 ≤ x6_2
                  · rw [if_pos c8] at H
                    have c8b0 : decide (0 ≤ x6_2) = true := decide_eq_true c8
                    clear c8
                    obtain ⟨y949, hy949⟩ : ∃ y_ : List Int, y_ = (([] : List Int)) := ⟨_, rfl⟩
                    replace H : (if y949.length + ((rd_T64 (rd_L5 l0 x4_1) x6_2).f2).length < 140737488355328 then (if x5_2.length < 2932031007402 then (chirographref07_Copy.l1 k2 l0 x3_1 x4_1 (x5_2 ++ [(⟨(rd_T64 (rd_L5 l0 x4_1) x6_2).f0, (rd_T64 (rd_L5 l0 x4_1) x6_2).f1, (y949 ++ ((rd_T64 (rd_L5 l0 x4_1) x6_2).f2))⟩ : S64)]) (wrap64 (x6_2 + 1))) else (none)) else (none)) = some r := by first | (rw [hy949]; with_reducible exact H) | (have H2_ := (Option.bind_some _ _).symm.trans H; rw [hy949]; with_reducible exact H2_) | (have H2_ := (Option.bind_some _ _).symm.trans H; with_reducible exact H2_) | with_reducible exact H | (rw [hy949]; exact H) | exact H
                    have Ny949 := Aside0.mk hy949
                    clear hy949
                    by_cases c9 : y949.length + ((rd_T64 (rd_L5 l0 x4_1) x6_2).f2).length < 140737488355328
                    · rw [if_pos c9] at H
                      have LMc9 := Aside0.mk c9
                      clear c9
                      obtain ⟨y952, hy952⟩ : ∃ y_ : List Int, y_ = (y949 ++ ((rd_T64 (rd_L5 l0 x4_1) x6_2).f2)) := ⟨_, rfl⟩
                      replace H : (if x5_2.length < 2932031007402 then (chirographref07_Copy.l1 k2 l0 x3_1 x4_1 (x5_2 ++ [(⟨(rd_T64 (rd_L5 l0 x4_1) x6_2).f0, (rd_T64 (rd_L5 l0 x4_1) x6_2).f1, y952⟩ : S64)]) (wrap64 (x6_2 + 1))) else (none)) = some r := by first | (rw [hy952]; with_reducible exact H) | (have H2_ := (Option.bind_some _ _).symm.trans H; rw [hy952]; with_reducible exact H2_) | (have H2_ := (Option.bind_some _ _).symm.trans H; with_reducible exact H2_) | with_reducible exact H | (rw [hy952]; exact H) | exact H
                      have Ny952 := Aside0.mk hy952
                      clear hy952
                      by_cases c10 : x5_2.length < 2932031007402
                      · rw [if_pos c10] at H
                        have LMc10 := Aside0.mk c10
                        clear c10
                        obtain ⟨y955, hy955⟩ : ∃ y_ : List (S64), y_ = (x5_2 ++ [(⟨(rd_T64 (rd_L5 l0 x4_1) x6_2).f0, (rd_T64 (rd_L5 l0 x4_1) x6_2).f1, y952⟩ : S64)]) := ⟨_, rfl⟩
                        replace H : (chirographref07_Copy.l1 k2 l0 x3_1 x4_1 y955 (wrap64 (x6_2 + 1))) = some r := by first | (rw [hy955]; with_reducible exact H) | (have H2_ := (Option.bind_some _ _).symm.trans H; rw [hy955]; with_reducible exact H2_) | (have H2_ := (Option.bind_some _ _).symm.trans H; with_reducible exact H2_) | with_reducible exact H | (rw [hy955]; exact H) | exact H
                        have Ny955 := Aside0.mk hy955
                        clear hy955
                        have H' := Aside0.mk H
                        clear H
                        have p945 : 0 ≤ (x4_1 : Int) := of_decide_eq_true (by first | (with_reducible assumption) | assumption)
                        have q945 : x4_1 < (l0.length : Int) := of_decide_eq_true (by first | (with_reducible assumption) | assumption)
                        obtain ⟨ad945, A945_0, c945_0, e945, hx945_0, hl945_0, hi945_0⟩ := at_L5 HR0.out x4_1 p945 q945
                        cases e945
                        replace hx945_0 := ((below_step HBo.out HB.out).cell (World.block_lt_of_cell? w _ hx945_0)).trans hx945_0
                        have HR945_0 := Aside0.mk hi945_0
                        have HC945_0 := Aside0.mk hl945_0
                        clear hi945_0 hl945_0
                        replace p945 := eq_true p945
                        replace q945 := eq_true q945
                        have p946 : 0 ≤ (x4_1 : Int) := of_decide_eq_true (by first | (with_reducible assumption) | assumption)
                        have q946 : x4_1 < (l0.length : Int) := of_decide_eq_true (by first | (with_reducible assumption) | assumption)
                        obtain ⟨ad946, A946_0, c946_0, e946, hx946_0, hl946_0, hi946_0⟩ := at_L5 HR0.out x4_1 p946 q946
                        obtain rfl : ad945 = ad946 := (by injection e946)
                        replace hx946_0 := ((below_step HBo.out HB.out).cell (World.block_lt_of_cell? w _ hx946_0)).trans hx946_0
                        have HR946_0 := Aside0.mk hi946_0
                        have HC946_0 := Aside0.mk hl946_0
                        clear hi946_0 hl946_0
                        replace p946 := eq_true p946
                        replace q946 := eq_true q946
                        have ea_ := Option.some.inj (hx945_0.symm.trans hx946_0)
                        injection ea_ with ea_ en_ ec_
                        subst ea_
                        subst ec_
                        clear en_
                        have p947 : 0 ≤ (x6_2 : Int) := of_decide_eq_true (by first | (with_reducible assumption) | assumption)
                        have q947 : x6_2 < ((rd_L5 l0 x4_1).length : Int) := of_decide_eq_true (by first | (with_reducible assumption) | assumption)
                        obtain ⟨ad947, A947_2, c947_2, e947, hx947_0, hx947_1, hx947_2, hl947_2, hi947_2⟩ := at_T64 HR946_0.out x6_2 p947 q947
                        cases e947
                        replace hx947_0 := ((below_step HBo.out HB.out).cell (World.block_lt_of_cell? w _ hx947_0)).trans hx947_0
                        replace hx947_1 := ((below_step HBo.out HB.out).cell (World.block_lt_of_cell? w _ hx947_1)).trans hx947_1
                        replace hx947_2 := ((below_step HBo.out HB.out).cell (World.block_lt_of_cell? w _ hx947_2)).trans hx947_2
                        have HR947_2 := Aside0.mk hi947_2
                        have HC947_2 := Aside0.mk hl947_2
                        clear hi947_2 hl947_2
                        replace p947 := eq_true p947
                        replace q947 := eq_true q947
                        go_wp2_with (first | ((with_reducible refine gate_dst (N := 7) rfl ?_); refine box_event ?hg (N := 7) ?hd (cs := #[.string (⟨#[]⟩ : ByteArray), .int .i64 0, .slice none 0 0]) (t := 64) ?hr ?_; (case hd => rfl); (case hg => rfl); (case hr => first | (go_simp; done) | (go_simp; rfl)); intro gb948 hg w11 hbox hb; have n0_ := Aside0.mk (Kd.R_below (Kd.R_elderB (by (with_reducible repeat (first | apply Kd.R_alloc | apply Kd.R_drewN | apply Kd.R_drew)); exact HO_3.out) gb948 (Nat.le_of_eq hg.symm)) hb); have n1_ := Aside0.mk (Kd.S_below (Kd.S_elderB (by (with_reducible repeat (first | apply Kd.S_alloc | apply Kd.S_drewN | apply Kd.S_drew)); exact HO_5.out) gb948 (Nat.le_of_eq hg.symm)) hb); have n2_ := Aside0.mk (below_step (by repeat (first | (with_reducible first | exact HB.out | apply below_alloc | apply pw_below_drewN | apply below_drew1) | exact HB.out)) hb); have n3_ := Aside0.mk (hbox); have n4_ := Aside0.mk ((by rw [hg]; exact (below_size (by repeat (first | (with_reducible first | exact HB.out | apply below_alloc | apply pw_below_drewN | apply below_drew1) | exact HB.out))) : wq.heap.size ≤ gb948)); have n5_ := Aside0.mk ((by rw [hg]; exact (below_size (by repeat (first | (with_reducible first | exact HB.out | apply below_alloc | apply pw_below_drewN | apply below_drew1) | exact HB.out))) : wq.heap.size ≤ gb948)); clear HO_3; clear HO_5; clear HB; have HO_3 := n0_; have HO_5 := n1_; have HB := n2_; have BK948 := n3_; have GW948 := n4_; have GE948 := n5_; clear n0_ n1_ n2_ n3_ n4_ n5_; clear hb hbox hg; have hcz12_0 : w11.cell? ⟨gb948, 0, none⟩ = some (.string (⟨#[]⟩ : ByteArray)) := (blk_cell BK948.out 0).trans rfl; have hcz12_1 : w11.cell? ⟨gb948, 1, none⟩ = some (.int .i64 0) := (blk_cell BK948.out 1).trans rfl; have hcz12_2 : w11.cell? ⟨gb948, 2, none⟩ = some (.slice none 0 0) := (blk_cell BK948.out 2).trans rfl; have hfz12_0 := blk_frozen BK948.out 0; have hfz12_1 := blk_frozen BK948.out 1; have hfz12_2 := blk_frozen BK948.out 2) | ((with_reducible refine gate_dst (N := 31) rfl ?_); refine Kd.R_lit (Kd.int .u8) _ 5 ?hg (N := 31) ?hd (xs := ([] : List Int)) (inner := []) (ok := fun _ => True) (okp := fun _ => True) ?hr ?hp (fun _ hk => hk) trivial (Below.refl _ _) (Nat.le_refl _) (by simp) ?_; (case hd => rfl); (case hg => rfl); (case hr => first | (go_simp; done) | (go_simp; rfl)); (case hp => exact (Reps.none _ _)); intro v950 w13 ho14 hb hg_ hnew_; clear hg_ hnew_; (first | rw [← Ny949.out] at ho14 | (simp only [Int.reduceToNat] at ho14; rw [← Ny949.out] at ho14)); have n0_ := Aside0.mk (Kd.R_elder' (by (with_reducible repeat (first | apply Kd.R_alloc | apply Kd.R_drewN | apply Kd.R_drew)); exact (Kd.R_mono (Kd.R_far (p := ⟨gb948, 2, none⟩) (Kd.R_far (p := ⟨gb948, 1, none⟩) (Kd.R_far (p := ⟨gb948, 0, none⟩) (Kd.R_mono HO_3.out (fun k_ hk => (⟨hk, hk.2⟩ : _ ∧ k_ ≠ gb948))) (fun _ hk => hk.2) (.string ((rd_T64 (rd_L5 l0 x4_1) x6_2).f0))) (fun _ hk => hk.2) (.int .i64 ((rd_T64 (rd_L5 l0 x4_1) x6_2).f1))) (fun _ hk => hk.2) (.slice A947_2 ((rd_T64 (rd_L5 l0 x4_1) x6_2).f2).length c947_2)) (fun _ h_ => h_.1))) (Kd.R_base ho14) hb); have n1_ := Aside0.mk (Kd.S_elder' (by (with_reducible repeat (first | apply Kd.S_alloc | apply Kd.S_drewN | apply Kd.S_drew)); exact (Kd.S_mono (Kd.S_far (p := ⟨gb948, 2, none⟩) (Kd.S_far (p := ⟨gb948, 1, none⟩) (Kd.S_far (p := ⟨gb948, 0, none⟩) (Kd.S_mono HO_5.out (fun k_ hk => (⟨hk, hk.2⟩ : _ ∧ k_ ≠ gb948))) (fun _ hk => hk.2) (.string ((rd_T64 (rd_L5 l0 x4_1) x6_2).f0))) (fun _ hk => hk.2) (.int .i64 ((rd_T64 (rd_L5 l0 x4_1) x6_2).f1))) (fun _ hk => hk.2) (.slice A947_2 ((rd_T64 (rd_L5 l0 x4_1) x6_2).f2).length c947_2)) (fun _ h_ => h_.1))) (Kd.R_base ho14) hb); have n2_ := Aside0.mk (Kd.R_lower ho14 (below_size (by repeat (first | (with_reducible first | exact HB.out | apply below_alloc | apply pw_below_drewN | apply below_drew1 | refine below_set ?_ GE948.out) | exact HB.out)))); have n3_ := Aside0.mk (blk_below (g := gb948) (o := .cells #[.string ((rd_T64 (rd_L5 l0 x4_1) x6_2).f0), .int .i64 ((rd_T64 (rd_L5 l0 x4_1) x6_2).f1), .slice A947_2 ((rd_T64 (rd_L5 l0 x4_1) x6_2).f2).length c947_2] 64 (0, 0)) (by (with_reducible repeat (first | refine blk_drewN ?_ _ | refine blk_drew ?_ | refine blk_alloc ?_ _)); refine blk_put (cs := #[.string ((rd_T64 (rd_L5 l0 x4_1) x6_2).f0), .int .i64 ((rd_T64 (rd_L5 l0 x4_1) x6_2).f1), .slice none 0 0]) ?_ 2 _ rfl; (with_reducible repeat (first | refine blk_drewN ?_ _ | refine blk_drew ?_ | refine blk_alloc ?_ _)); refine blk_put (cs := #[.string ((rd_T64 (rd_L5 l0 x4_1) x6_2).f0), .int .i64 0, .slice none 0 0]) ?_ 1 _ rfl; (with_reducible repeat (first | refine blk_drewN ?_ _ | refine blk_drew ?_ | refine blk_alloc ?_ _)); refine blk_put (cs := #[.string (⟨#[]⟩ : ByteArray), .int .i64 0, .slice none 0 0]) ?_ 0 _ rfl; (with_reducible repeat (first | refine blk_drewN ?_ _ | refine blk_drew ?_ | refine blk_alloc ?_ _)); exact BK948.out) hb); have n4_ := Aside0.mk (below_step (by repeat (first | (with_reducible first | exact HB.out | apply below_alloc | apply pw_below_drewN | apply below_drew1 | refine below_set ?_ GE948.out) | exact HB.out)) hb); clear HO_3; clear HO_5; clear BK948; clear HB; have HO_3 := n0_; have HO_5 := n1_; have HO951 := n2_; have BK948 := n3_; have HB := n4_; clear n0_ n1_ n2_ n3_ n4_; clear hb ho14; have hcz15_0 : w13.cell? ⟨gb948, 0, none⟩ = some (.string ((rd_T64 (rd_L5 l0 x4_1) x6_2).f0)) := (blk_cell BK948.out 0).trans rfl; have hcz15_1 : w13.cell? ⟨gb948, 1, none⟩ = some (.int .i64 ((rd_T64 (rd_L5 l0 x4_1) x6_2).f1)) := (blk_cell BK948.out 1).trans rfl; have hcz15_2 : w13.cell? ⟨gb948, 2, none⟩ = some (.slice A947_2 ((rd_T64 (rd_L5 l0 x4_1) x6_2).f2).length c947_2) := (blk_cell BK948.out 2).trans rfl; have hfz15_0 := blk_frozen BK948.out 0; have hfz15_1 := blk_frozen BK948.out 1; have hfz15_2 := blk_frozen BK948.out 2) | ((with_reducible refine gate_builtin (b := .append) (xs := #[.tmp 31, .tmp 33]) rfl ?_); at_builtin; refine Kd.R_append_rows (Kd.int .u8) (w0 := wq) wq.heap.size rfl (.tmp 31) (.tmp 33) 22 5 (.int .u8 0) 1 rfl Tryz.underlying22 info5 rfl (by decide) (by omega) v950 y949 ((rd_T64 (rd_L5 l0 x4_1) x6_2).f2) _ _ _ (fun _ => True) (fun _ => False) rfl rfl ?aO ?aR (fun _ _ h => h) (fun _ h => h.elim) ?aF ?aB ?aS ?aL ?_; (case aR => repeat (first | exact (Kd.C_below HR947_2.out (below_step HBo.out HB.out)) | (with_reducible refine Kd.C_alloc ?_ _) | (with_reducible refine Kd.C_drewN ?_ _) | (with_reducible refine Kd.C_drew ?_))); (case aB => exact (by repeat (first | (with_reducible first | exact HB.out | apply below_alloc | apply pw_below_drewN | apply below_drew1 | refine below_set ?_ GE948.out) | exact HB.out))); (case aF => exact (fun _ _ => trivial)); (case aO => exact (by (with_reducible repeat (first | apply Kd.R_alloc | apply Kd.R_drewN | apply Kd.R_drew)); exact HO951.out)); (case aS => exact (below_size (by repeat (first | (with_reducible first | exact HB.out | apply below_alloc | apply pw_below_drewN | apply below_drew1 | refine below_set ?_ GE948.out) | exact HB.out)))); (case aL => have := LMc9.out; omega); intro v953 w16 ho hb hg hat; rw [← Ny952.out] at ho; have n0_ := Aside0.mk (Kd.R_after (ok := (fun k_ => some k_ ≠ (u5 : Value).ownBlock ∧ k_ ≠ gb948)) (by (with_reducible repeat (first | apply Kd.R_alloc | apply Kd.R_drewN | apply Kd.R_drew)); exact HO_3.out) hg hat); have n1_ := Aside0.mk (Kd.S_after (ok := (fun k_ => k_ ≠ gb948)) (by (with_reducible repeat (first | apply Kd.S_alloc | apply Kd.S_drewN | apply Kd.S_drew)); exact Kd.S_mono HO_5.out (fun _ hk => ⟨hk.1.2, hk.2⟩)) hg hat); have n2_ := Aside0.mk (blk_grown (g := gb948) (o := .cells #[.string ((rd_T64 (rd_L5 l0 x4_1) x6_2).f0), .int .i64 ((rd_T64 (rd_L5 l0 x4_1) x6_2).f1), .slice A947_2 ((rd_T64 (rd_L5 l0 x4_1) x6_2).f2).length c947_2] 64 (0, 0)) (by (with_reducible repeat (first | refine blk_drewN ?_ _ | refine blk_drew ?_ | refine blk_alloc ?_ _)); exact BK948.out) hg (Kd.R_ne HO951.out BK948.out (by decide))); have n3_ := Aside0.mk (hb); have n4_ := Aside0.mk (ho); clear HO_3; clear HO_5; clear BK948; clear HB; clear HO951; have HO_3 := n0_; have HO_5 := n1_; have BK948 := n2_; have HB := n3_; have HO954 := n4_; clear n0_ n1_ n2_ n3_ n4_; clear ho hb hg hat; obtain ⟨Ao17, co17, eo17⟩ := Kd.R_slice HO954.out; subst eo17; have hcz18_0 : w16.cell? ⟨gb948, 0, none⟩ = some (.string ((rd_T64 (rd_L5 l0 x4_1) x6_2).f0)) := (blk_cell BK948.out 0).trans rfl; have hcz18_1 : w16.cell? ⟨gb948, 1, none⟩ = some (.int .i64 ((rd_T64 (rd_L5 l0 x4_1) x6_2).f1)) := (blk_cell BK948.out 1).trans rfl; have hcz18_2 : w16.cell? ⟨gb948, 2, none⟩ = some (.slice A947_2 ((rd_T64 (rd_L5 l0 x4_1) x6_2).f2).length c947_2) := (blk_cell BK948.out 2).trans rfl; have hfz18_0 := blk_frozen BK948.out 0; have hfz18_1 := blk_frozen BK948.out 1; have hfz18_2 := blk_frozen BK948.out 2) | ((with_reducible refine gate_store (t := 22) (p := 35) rfl ?_); refine store_event (t := 22) (p := 35) (v := ?vo_w19) (w1 := (w16.setCell ⟨gb948, 2, none⟩ (.slice Ao17 y952.length co17))) ?hg ?ho ?hn ?hr ?_; (case ho => rfl); (case hg => rfl); (case hn => rfl); (case hr => first | (go_simp; done) | (go_simp; rfl)); intro w19 hw; have n0_ : Aside0 (Kd.R (Kd.slice 64 k64) 62 w19 w.heap.size (fun k_ => some k_ ≠ (u5 : Value).ownBlock ∧ some k_ ≠ (.slice Ao17 y952.length co17 : Value).ownBlock ∧ k_ ≠ gb948) u3 x3_1) := ⟨(by rw [hw]; exact (by (with_reducible repeat (first | apply Kd.R_alloc | apply Kd.R_drewN | apply Kd.R_drew)); exact Kd.R_mono (Kd.R_far (p := ⟨gb948, 2, none⟩) (Kd.R_mono HO_3.out (fun k_ hk => (⟨hk, hk.1.2⟩ : _ ∧ k_ ≠ gb948))) (fun _ hk => hk.2) (.slice Ao17 y952.length co17)) (fun _ hk => ⟨hk.1.1.1, ⟨hk.1.2, hk.1.1.2⟩⟩)))⟩; have n1_ : Aside0 (Kd.S k64 64 w19 wq.heap.size (fun k_ => some k_ ≠ (.slice Ao17 y952.length co17 : Value).ownBlock ∧ k_ ≠ gb948) u5 x5_2) := ⟨(by rw [hw]; exact (by (with_reducible repeat (first | apply Kd.S_alloc | apply Kd.S_drewN | apply Kd.S_drew)); exact Kd.S_mono (Kd.S_far (p := ⟨gb948, 2, none⟩) (Kd.S_mono HO_5.out (fun k_ hk => (⟨hk, hk.1⟩ : _ ∧ k_ ≠ gb948))) (fun _ hk => hk.2) (.slice Ao17 y952.length co17)) (fun _ hk => ⟨hk.1.2, hk.1.1⟩)))⟩; have n2_ : Aside0 (Kd.R (Kd.int .u8) 5 w19 wq.heap.size (fun _ => True) (.slice Ao17 y952.length co17) y952) := ⟨(by rw [hw]; exact (by (with_reducible repeat (first | apply Kd.R_alloc | apply Kd.R_drewN | apply Kd.R_drew)); exact Kd.R_mono (Kd.R_far (p := ⟨gb948, 2, none⟩) (Kd.R_types HO954.out BK948.out (by decide)) (fun _ hk => hk.2) (.slice Ao17 y952.length co17)) (fun _ hk => trivial)))⟩; have n3_ : Aside0 (w19.heap[gb948]? = some (.cells #[.string ((rd_T64 (rd_L5 l0 x4_1) x6_2).f0), .int .i64 ((rd_T64 (rd_L5 l0 x4_1) x6_2).f1), .slice Ao17 y952.length co17] 64 (0, 0))) := ⟨(by rw [hw]; exact (by (with_reducible repeat (first | refine blk_drewN ?_ _ | refine blk_drew ?_ | refine blk_alloc ?_ _)); refine blk_put (cs := #[.string ((rd_T64 (rd_L5 l0 x4_1) x6_2).f0), .int .i64 ((rd_T64 (rd_L5 l0 x4_1) x6_2).f1), .slice A947_2 ((rd_T64 (rd_L5 l0 x4_1) x6_2).f2).length c947_2]) ?_ 2 _ rfl; (with_reducible repeat (first | refine blk_drewN ?_ _ | refine blk_drew ?_ | refine blk_alloc ?_ _)); exact BK948.out))⟩; have n4_ : Aside0 (Below wq.heap.size wq w19) := ⟨(by rw [hw]; exact (by repeat (first | (with_reducible first | exact HB.out | apply below_alloc | apply pw_below_drewN | apply below_drew1 | refine below_set ?_ GE948.out) | exact HB.out)))⟩; clear hw; clear HO_3; clear HO_5; clear HO954; clear BK948; clear HB; have HO_3 := n0_; have HO_5 := n1_; have HO954 := n2_; have BK948 := n3_; have HB := n4_; clear n0_ n1_ n2_ n3_ n4_; have hcz20_0 : w19.cell? ⟨gb948, 0, none⟩ = some (.string ((rd_T64 (rd_L5 l0 x4_1) x6_2).f0)) := (blk_cell BK948.out 0).trans rfl; have hcz20_1 : w19.cell? ⟨gb948, 1, none⟩ = some (.int .i64 ((rd_T64 (rd_L5 l0 x4_1) x6_2).f1)) := (blk_cell BK948.out 1).trans rfl; have hcz20_2 : w19.cell? ⟨gb948, 2, none⟩ = some (.slice Ao17 y952.length co17) := (blk_cell BK948.out 2).trans rfl; have hfz20_0 := blk_frozen BK948.out 0; have hfz20_1 := blk_frozen BK948.out 1; have hfz20_2 := blk_frozen BK948.out 2) | ((with_reducible refine gate_builtin (b := .append) (xs := #[.tmp 36, .tmp 38]) rfl ?_); at_builtin; refine Kd.S_append k64 (w0 := wq) wq.heap.size rfl (.tmp 36) (.tmp 38) 62 64 (.agg #[(.string ⟨#[]⟩), (.int .i64 0), (.slice none 0 0)]) 48 rfl Tryz.underlying62 info64 rfl (by decide) (by omega) u5 x5_2 (⟨(rd_T64 (rd_L5 l0 x4_1) x6_2).f0, (rd_T64 (rd_L5 l0 x4_1) x6_2).f1, y952⟩ : S64) [.string ((rd_T64 (rd_L5 l0 x4_1) x6_2).f0), .int .i64 ((rd_T64 (rd_L5 l0 x4_1) x6_2).f1), .slice Ao17 y952.length co17] (fun k_ => k_ ≠ gb948) (fun k_ => some k_ = (.slice Ao17 y952.length co17 : Value).ownBlock) rfl rfl ?aP (fun k_ hk_ => ((Kd.R_mono (ok' := fun k_ => ((fun k_ => k_ ≠ gb948)) k_ ∧ some k_ ≠ (u5 : Value).ownBlock) (Kd.R_types (Kd.R_apart' (HO954.out) (Kd.S_typed HO_5.out) (by decide)) BK948.out (by decide)) (fun k_ hk => ⟨hk.2, hk.1.2⟩))).1 k_ hk_.symm) ?aF ?aO ?aB ?aS ?aL ?_; (case aP => exact k64_mkM _ _ _ (⟨(rd_T64 (rd_L5 l0 x4_1) x6_2).f0, (rd_T64 (rd_L5 l0 x4_1) x6_2).f1, y952⟩ : S64) (Kd.R_mono (Kd.R_tight rfl (Kd.R_mono (ok' := fun k_ => ((fun k_ => k_ ≠ gb948)) k_ ∧ some k_ ≠ (u5 : Value).ownBlock) (Kd.R_types (Kd.R_apart' (HO954.out) (Kd.S_typed HO_5.out) (by decide)) BK948.out (by decide)) (fun k_ hk => ⟨hk.2, hk.1.2⟩))) (fun _ h_ => h_))); (case aB => exact (by repeat (first | (with_reducible first | exact HB.out | apply below_alloc | apply pw_below_drewN | apply below_drew1 | refine below_set ?_ GE948.out) | exact HB.out))); (case aF => exact (fun k_ hk => Kd.freshB (g := gb948) (o := .cells #[.string ((rd_T64 (rd_L5 l0 x4_1) x6_2).f0), .int .i64 ((rd_T64 (rd_L5 l0 x4_1) x6_2).f1), .slice Ao17 y952.length co17] 64 (0, 0)) (by (with_reducible repeat (first | refine blk_drewN ?_ _ | refine blk_drew ?_ | refine blk_alloc ?_ _)); exact BK948.out) k_ hk)); (case aO => exact (by (with_reducible repeat (first | apply Kd.S_alloc | apply Kd.S_drewN | apply Kd.S_drew)); exact Kd.S_mono HO_5.out (fun k_ hk => ⟨hk.2, fun e_ => hk.1 e_⟩))); (case aS => exact (below_size (by repeat (first | (with_reducible first | exact HB.out | apply below_alloc | apply pw_below_drewN | apply below_drew1 | refine below_set ?_ GE948.out) | exact HB.out)))); (case aL => have := LMc10.out; omega); intro v956 w21 ho hb hg hat; rw [← Ny955.out] at ho; have n0_ := Aside0.mk (Kd.R_after (ok := (fun k_ => some k_ ≠ (.slice Ao17 y952.length co17 : Value).ownBlock ∧ k_ ≠ gb948)) (by (with_reducible repeat (first | apply Kd.R_alloc | apply Kd.R_drewN | apply Kd.R_drew)); exact Kd.R_mono HO_3.out (fun _ hk => ⟨⟨hk.2.1, hk.2.2⟩, hk.1⟩)) hg hat); have n1_ := Aside0.mk (blk_grown (g := gb948) (o := .cells #[.string ((rd_T64 (rd_L5 l0 x4_1) x6_2).f0), .int .i64 ((rd_T64 (rd_L5 l0 x4_1) x6_2).f1), .slice Ao17 y952.length co17] 64 (0, 0)) (by (with_reducible repeat (first | refine blk_drewN ?_ _ | refine blk_drew ?_ | refine blk_alloc ?_ _)); exact BK948.out) hg (Kd.S_away HO_5.out (fun _ hk => hk.2))); have n2_ := Aside0.mk (hb); have n3_ := Aside0.mk (ho); clear HO_3; clear BK948; clear HB; clear HO_5; clear HO954; have HO_3 := n0_; have BK948 := n1_; have HB := n2_; have HO957 := n3_; clear n0_ n1_ n2_ n3_; clear ho hb hg hat))
                        go_roundg k2
                        case measure => have := HK1.out; have := HK2.out; omega
                        case rel => exact ⟨(y955), (wrap64 (x6_2 + 1)), (by first | rfl | (simp; done) | (simp [*]; done)), H', ⟨by have := HK1.out; have := HK2.out; omega⟩, ⟨by (with_reducible repeat (first | apply Kd.R_alloc | apply Kd.R_drewN | apply Kd.R_drew)); exact Kd.R_mono HO_3.out (fun _ hk => hk.2)⟩, ⟨by (with_reducible repeat (first | apply Kd.S_alloc | apply Kd.S_drewN | apply Kd.S_drew)); exact Kd.S_mono HO957.out (fun _ hk => trivial)⟩, ⟨by repeat (first | (with_reducible first | exact HB.out | apply below_alloc | apply pw_below_drewN | apply below_drew1 | refine below_set ?_ GE948.out) | exact HB.out)⟩⟩
                      · rw [if_neg c10] at H
                        exact absurd H (by simp)
                    · rw [if_neg c9] at H
                      exact absurd H (by simp)
                  · rw [if_neg c8] at H
                    exact absurd H (by simp)
                · rw [if_neg c7] at H
                  have c7b0 : decide (x6_2 < ((rd_L5 l0 x4_1).length : Int)) = false := decide_eq_false c7
                  clear c7
                  by_cases c22 : x3_1.length < 5864062014805
                  · rw [if_pos c22] at H
                    have LMc22 := Aside0.mk c22
                    clear c22
                    obtain ⟨y958, hy958⟩ : ∃ y_ : List (List (S64)), y_ = (x3_1 ++ [x5_2]) := ⟨_, rfl⟩
                    replace H : (chirographref07_Copy.l0 k2 l0 y958 (wrap64 (x4_1 + 1))) = some r := by first | (rw [hy958]; with_reducible exact H) | (have H2_ := (Option.bind_some _ _).symm.trans H; rw [hy958]; with_reducible exact H2_) | (have H2_ := (Option.bind_some _ _).symm.trans H; with_reducible exact H2_) | with_reducible exact H | (rw [hy958]; exact H) | exact H
                    have Ny958 := Aside0.mk hy958
                    clear hy958
                    have H' := Aside0.mk H
                    clear H
                    have p945 : 0 ≤ (x4_1 : Int) := of_decide_eq_true (by first | (with_reducible assumption) | assumption)
                    have q945 : x4_1 < (l0.length : Int) := of_decide_eq_true (by first | (with_reducible assumption) | assumption)
                    obtain ⟨ad945, A945_0, c945_0, e945, hx945_0, hl945_0, hi945_0⟩ := at_L5 HR0.out x4_1 p945 q945
                    cases e945
                    replace hx945_0 := ((below_step HBo.out HB.out).cell (World.block_lt_of_cell? w _ hx945_0)).trans hx945_0
                    have HR945_0 := Aside0.mk hi945_0
                    have HC945_0 := Aside0.mk hl945_0
                    clear hi945_0 hl945_0
                    replace p945 := eq_true p945
                    replace q945 := eq_true q945
                    obtain ⟨Ao24, co24, eo24⟩ := Kd.S_slice HO_5.out
                    subst eo24
                    go_wp2_with ((with_reducible refine gate_builtin (b := .append) (xs := #[.tmp 40, .tmp 42]) rfl ?_); at_builtin; refine Kd.S_append (Kd.slice 64 k64) (w0 := w) w.heap.size rfl (.tmp 40) (.tmp 42) 23 62 (.slice none 0 0) 24 rfl Tryz.underlying23 info62 rfl (by decide) (by omega) u3 x3_1 x5_2 [.slice Ao24 x5_2.length co24] (fun _ => True) (fun k_ => wq.heap.size ≤ k_) rfl rfl ?aP (fun k_ hk_ => ⟨trivial, fun e_ => absurd (Kd.S_lt HQ.out k_ e_.symm) (by omega)⟩) ?aF ?aO ?aB ?aS ?aL ?_; (case aP => exact Kd.M_row (Kd.R_lower (Kd.R_mono (Kd.R_bound (Kd.S_R (by (with_reducible repeat (first | apply Kd.S_alloc | apply Kd.S_drewN | apply Kd.S_drew)); exact HO_5.out))) (fun k_ hk => hk.2.1)) (below_size HBo.out))); (case aB => exact (by repeat (first | (with_reducible first | exact (below_step HBo.out HB.out) | apply below_alloc | apply pw_below_drewN | apply below_drew1) | exact (below_step HBo.out HB.out)))); (case aF => exact (fun _ _ => trivial)); (case aO => exact (by (with_reducible repeat (first | apply Kd.S_alloc | apply Kd.S_drewN | apply Kd.S_drew)); exact Kd.S_mono (Kd.S_old HQ.out HB.out) (fun k_ hk => ⟨trivial, by have := hk.2; omega⟩))); (case aS => exact (below_size (by repeat (first | (with_reducible first | exact (below_step HBo.out HB.out) | apply below_alloc | apply pw_below_drewN | apply below_drew1) | exact (below_step HBo.out HB.out))))); (case aL => have := LMc22.out; omega); intro v959 w25 ho hb hg hat; rw [← Ny958.out] at ho; have n0_ := Aside0.mk hb; have n1_ := Aside0.mk ho; clear HB HBo HQ HO_3 HO_5; have HB := n0_; have HO960 := n1_; clear n0_ n1_ ho hb hg hat)
                    go_roundg k2
                    case measure => have := HK1.out; have := HK2.out; omega
                    case rel => exact ⟨(y958), (wrap64 (x4_1 + 1)), (by first | rfl | (simp; done) | (simp [*]; done)), H', ⟨by have := HK1.out; have := HK2.out; omega⟩, ⟨by (with_reducible repeat (first | apply Kd.S_alloc | apply Kd.S_drewN | apply Kd.S_drew)); exact HO960.out⟩, ⟨by repeat (first | (with_reducible first | exact HB.out | apply below_alloc | apply pw_below_drewN | apply below_drew1) | exact HB.out)⟩⟩
                  · rw [if_neg c22] at H
                    exact absurd H (by simp)
              · rw [if_neg c6] at H
                exact absurd H (by simp)
            · rw [if_neg c5] at H
              exact absurd H (by simp)
      · rw [if_neg c2] at H
        have c2b0 : decide (x4_1 < (l0.length : Int)) = false := decide_eq_false c2
        clear c2
        obtain rfl := Option.some.inj H
        go_wp2
        go_ret
        exact ⟨_, by first | rfl | (simp [errW_none, errW_some] <;> rfl) | (simp [*, errW_none, errW_some] <;> rfl), by (with_reducible repeat (first | apply Kd.S_alloc | apply Kd.S_drewN | apply Kd.S_drew)); exact HQ.out, by repeat (first | (with_reducible first | exact HBo.out | apply below_alloc | apply pw_below_drewN | apply below_drew1) | exact HBo.out)⟩
end Go.Proofs.YtkioddjjfifadaaGreatDoor.P
namespace Go.Proofs.YtkioddjjfifadaaGreatDoor.P
open Go.RowKit Go.Proofs.YtkioddjjfifadaaGreatDoorW.PrintWords Go.Proofs.YtkioddjjfifadaaGreatDoorW.PrintLast Go.Proofs.YtkioddjjfifadaaGreatDoorW.PrintMore
theorem C_row1 {α : Type} (d : Kd α) {w : World} {g : Nat} {x : α} {cs more : List Value} {t : TypeId} {fr : Nat × Nat} (hK : d.K w x cs) (hg : w.heap[g]? = some (.cells (cs ++ more).toArray t fr)) : d.C w (some ⟨g, 0, none⟩) 1 [x] := by
  refine ⟨rfl, by decide, fun _ => ⟨_, rfl, fun j y hj => ?_⟩⟩
  cases j with
  | zero =>
    obtain rfl : x = y := by simpa using hj
    refine ⟨cs, d.K_len hK, hK, fun i u hu => ?_⟩
    rw [Nat.zero_mul, Nat.zero_add, add_plain, cell_of_row w g i _ t fr hg]
    have hi := (List.getElem?_eq_some_iff.1 hu).1
    rw [List.getElem?_toArray, List.getElem?_append_left hi, hu]
  | succ j => simp at hj
theorem arr_app (a b : Array Value) : a ++ b = (a.toList ++ b.toList).toArray := by simp
theorem at_alloc (A : World) (o : Obj) (n : Nat) (hs : A.heap.size = n) : (A.alloc o).drew.heap[n]? = some o := by
  subst hs
  show (A.heap.push o)[A.heap.size]? = _
  simp
theorem new_alloc (A : World) (o : Obj) : (A.alloc o).heap[A.heap.size]? = some o := by
  show (A.heap.push o)[A.heap.size]? = _
  simp
abbrev kB : Kd (List Int) := Kd.slice 5 (Kd.int .u8)
theorem kB_mk {w : World} {A : Option Addr} {c : Nat} {l : List Int} (hl : l.length ≤ c) (h : Kd.C (Kd.int .u8) w A l.length l) : kB.K w l [.slice A l.length c] := ⟨A, c, rfl, hl, h⟩
theorem C_row2 {α : Type} (d : Kd α) (h1 : d.sz = 1) {w : World} {g : Nat} {x y : α} {u v : Value} {t : TypeId} {fr : Nat × Nat} (hK : d.K w x [u]) (hL : d.K w y [v]) (hg : w.heap[g]? = some (.cells #[u, v] t fr)) : d.C w (some ⟨g, 0, none⟩) 2 [x, y] := by
  refine ⟨rfl, by decide, fun _ => ⟨_, rfl, fun j z hj => ?_⟩⟩
  match j, hj with
  | 0, hj =>
    obtain rfl : x = z := by simpa using hj
    refine ⟨[u], d.K_len hK, hK, fun i a ha => ?_⟩
    rw [h1, add_plain, cell_of_row w g _ _ t fr hg]
    match i, ha with
    | 0, ha => exact ha
    | i + 1, ha => simp at ha
  | 1, hj =>
    obtain rfl : y = z := by simpa using hj
    refine ⟨[v], d.K_len hL, hL, fun i a ha => ?_⟩
    rw [h1, add_plain, cell_of_row w g _ _ t fr hg]
    match i, ha with
    | 0, ha => exact ha
    | i + 1, ha => simp at ha
  | j + 2, hj => simp at hj
end Go.Proofs.YtkioddjjfifadaaGreatDoor.P
namespace Go.Proofs.YtkioddjjfifadaaGreatDoor.P
open Go.RowKit Go.Proofs.YtkioddjjfifadaaGreatDoorW.PrintWords Go.Proofs.YtkioddjjfifadaaGreatDoorW.PrintLast Go.Proofs.YtkioddjjfifadaaGreatDoorW.PrintMore
attribute [local go_sem] max2_int min2_int max_two min_two max_three min_three max_four min_four   -- for this text's walks alone
set_option linter.unusedVariables false
set_option linter.unusedSimpArgs false
def chirographref01_SameBytes.l0 : Nat → List Int → List Int → Int → Option (Bool)
  | 0, _, _, _ => none
  | k + 1, x0, x1, x5 => if x5 < (x0.length : Int) then (if 0 ≤ x5 then (if x5 < (x1.length : Int) then (if (rd x0 x5) = (rd x1 x5) then (chirographref01_SameBytes.l0 k x0 x1 (wrap64 (x5 + 1))) else (some false)) else (none)) else (none)) else (some true)
def chirographref01_SameBytes.f (k : Nat) (l0 : List Int) (l1 : List Int) : Option (Bool) := if (l0.length : Int) = (l1.length : Int) then (chirographref01_SameBytes.l0 k l0 l1 0) else (some false)
set_option maxHeartbeats 8000000 in
set_option maxRecDepth 100000 in
theorem chirographref01_SameBytes.calls (k : Nat) (A0 : Option Addr) (c0 : Nat) (l0 : List Int) (A1 : Option Addr) (c1 : Nat) (l1 : List Int) (r : Bool) (w : World) (hr0 : Kd.C (Kd.int .u8) w A0 l0.length l0) (hc0 : l0.length ≤ c0) (hr1 : Kd.C (Kd.int .u8) w A1 l1.length l1) (hc1 : l1.length ≤ c1) (h : chirographref01_SameBytes.f k l0 l1 = some r) :
    Calls Tryz.prog 31 #[.slice A0 l0.length c0, .slice A1 l1.length c1] w fun e w' => e = .returned (.bool r) ∧ Drawn0 w w' := by
  have HR0 := Aside0.mk hr0
  have HC0 := Aside0.mk hc0
  clear hr0 hc0
  have HR1 := Aside0.mk hr1
  have HC1 := Aside0.mk hc1
  clear hr1 hc1
  have H : (if (l0.length : Int) = (l1.length : Int) then (chirographref01_SameBytes.l0 k l0 l1 0) else (some false)) = some r := h
  clear h
  by_cases c3 : (l0.length : Int) = (l1.length : Int)
  · rw [if_pos c3] at H
    have c3b0 : ((l0.length : Int) == (l1.length : Int)) = true := beq_iff_eq.mpr c3
    have c3b1 : ((l0.length : Int) != (l1.length : Int)) = false := bne_eq_false_iff_eq.mpr c3
    have c3b2 : (l0.length == l1.length) = true := by first | simpa using c3 | (simp at c3 ⊢; omega)
    clear c3
    have H' := Aside0.mk H
    clear H
    go_enter Tryz.func31, Tryz.ntmps31
    go_wp2
    repeat (go_quiet (fail); try go_wp2)
    go_loopg [5] k (fun kq v5 w' => ∃ (x5_1 : Int), v5 = .int .i64 x5_1 ∧ Aside0 (chirographref01_SameBytes.l0 kq l0 l1 x5_1 = some r) ∧ Aside0 (kq ≤ k) ∧ Drawn0 w w')
    case atStart => exact ⟨(0), (by first | rfl | (simp; done) | (simp [*]; done)), H', ⟨Nat.le_refl _⟩, by repeat (first | exact Drawn0.refl _ | apply Drawn0.step)⟩
    case round =>
      clear H'
      try clear c1
      try clear p2
      try clear c3
      try clear c3b0
      try clear c3b1
      try clear c3b2
      obtain ⟨x5_1, rfl, HA, HK1, ⟨m1, rfl⟩⟩ := hrel
      cases gk with
      | zero => exact absurd HA.out (by simp [chirographref01_SameBytes.l0])
      | succ k1 =>
        have H := HA.out
        clear HA
        simp only [chirographref01_SameBytes.l0] at H
        by_cases c4 : x5_1 < (l0.length : Int)
        · rw [if_pos c4] at H
          have c4b0 : decide (x5_1 < (l0.length : Int)) = true := decide_eq_true c4
          clear c4
          by_cases c5 : 0 ≤ x5_1
          · rw [if_pos c5] at H
            have c5b0 : decide (0 ≤ x5_1) = true := decide_eq_true c5
            clear c5
            by_cases c6 : x5_1 < (l1.length : Int)
            · rw [if_pos c6] at H
              have c6b0 : decide (x5_1 < (l1.length : Int)) = true := decide_eq_true c6
              clear c6
              by_cases c7 : (rd l0 x5_1) = (rd l1 x5_1)
              · rw [if_pos c7] at H
                have c7b0 : ((rd l0 x5_1) == (rd l1 x5_1)) = true := beq_iff_eq.mpr c7
                have c7b1 : ((rd l0 x5_1) != (rd l1 x5_1)) = false := bne_eq_false_iff_eq.mpr c7
                clear c7
                have H' := Aside0.mk H
                clear H
                have p413 : 0 ≤ (x5_1 : Int) := of_decide_eq_true (by first | (with_reducible assumption) | assumption)
                have q413 : x5_1 < (l0.length : Int) := of_decide_eq_true (by first | (with_reducible assumption) | assumption)
                obtain ⟨ad413, e413, hx413_0⟩ := Kd.at_int HR0.out x5_1 p413 q413
                cases e413
                replace p413 := eq_true p413
                replace q413 := eq_true q413
                have p414 : 0 ≤ (x5_1 : Int) := of_decide_eq_true (by first | (with_reducible assumption) | assumption)
                have q414 : x5_1 < (l1.length : Int) := of_decide_eq_true (by first | (with_reducible assumption) | assumption)
                obtain ⟨ad414, e414, hx414_0⟩ := Kd.at_int HR1.out x5_1 p414 q414
                cases e414
                replace p414 := eq_true p414
                replace q414 := eq_true q414
                go_wp2
                repeat (go_quiet (fail); try go_wp2)
                go_roundg k1
                case measure => have := HK1.out; omega
                case rel => exact ⟨(wrap64 (x5_1 + 1)), (by first | rfl | (simp; done) | (simp [*]; done)), H', ⟨by have := HK1.out; omega⟩, by repeat (first | exact Drawn0.refl _ | apply Drawn0.step)⟩
              · rw [if_neg c7] at H
                have c7b0 : ((rd l0 x5_1) == (rd l1 x5_1)) = false := beq_eq_false_iff_ne.mpr c7
                have c7b1 : ((rd l0 x5_1) != (rd l1 x5_1)) = true := bne_iff_ne.mpr c7
                obtain rfl := Option.some.inj H
                have p413 : 0 ≤ (x5_1 : Int) := of_decide_eq_true (by first | (with_reducible assumption) | assumption)
                have q413 : x5_1 < (l0.length : Int) := of_decide_eq_true (by first | (with_reducible assumption) | assumption)
                obtain ⟨ad413, e413, hx413_0⟩ := Kd.at_int HR0.out x5_1 p413 q413
                cases e413
                replace p413 := eq_true p413
                replace q413 := eq_true q413
                have p414 : 0 ≤ (x5_1 : Int) := of_decide_eq_true (by first | (with_reducible assumption) | assumption)
                have q414 : x5_1 < (l1.length : Int) := of_decide_eq_true (by first | (with_reducible assumption) | assumption)
                obtain ⟨ad414, e414, hx414_0⟩ := Kd.at_int HR1.out x5_1 p414 q414
                cases e414
                replace p414 := eq_true p414
                replace q414 := eq_true q414
                go_wp2
                repeat (go_quiet (fail); try go_wp2)
                go_ret
                exact ⟨by first | rfl | (simp; done) | (simp [*]; done), by repeat (first | exact Drawn0.refl _ | apply Drawn0.step)⟩
            · rw [if_neg c6] at H
              exact absurd H (by simp)
          · rw [if_neg c5] at H
            exact absurd H (by simp)
        · rw [if_neg c4] at H
          have c4b0 : decide (x5_1 < (l0.length : Int)) = false := decide_eq_false c4
          clear c4
          obtain rfl := Option.some.inj H
          go_wp2
          repeat (go_quiet (fail); try go_wp2)
          go_ret
          exact ⟨by first | rfl | (simp; done) | (simp [*]; done), by repeat (first | exact Drawn0.refl _ | apply Drawn0.step)⟩
  · rw [if_neg c3] at H
    have c3b0 : ((l0.length : Int) == (l1.length : Int)) = false := beq_eq_false_iff_ne.mpr c3
    have c3b1 : ((l0.length : Int) != (l1.length : Int)) = true := bne_iff_ne.mpr c3
    have c3b2 : (l0.length == l1.length) = false := by first | simpa using c3 | (simp at c3 ⊢; omega)
    obtain rfl := Option.some.inj H
    go_enter Tryz.func31, Tryz.ntmps31
    go_wp2
    repeat (go_quiet (fail); try go_wp2)
    go_ret
    exact ⟨by first | rfl | (simp; done) | (simp [*]; done), by repeat (first | exact Drawn0.refl _ | apply Drawn0.step)⟩
end Go.Proofs.YtkioddjjfifadaaGreatDoor.P
set_option linter.unusedVariables false
set_option linter.unusedSimpArgs false
namespace Go.Proofs.YtkioddjjfifadaaGreatDoor.P
open Go.RowKit Go.Proofs.YtkioddjjfifadaaGreatDoorW.PrintWords Go.Proofs.YtkioddjjfifadaaGreatDoorW.PrintLast Go.Proofs.YtkioddjjfifadaaGreatDoorW.PrintMore
theorem old0 {w : World} {a : Addr} {v : Value} (h : w.cell? a = some v) (m : Nat) : (w.drewN m).cell? a = some v := h
theorem old1 {w : World} {a : Addr} {v : Value} (h : w.cell? a = some v) (m : Nat) (o : Obj) : ((w.drewN m).alloc o).cell? a = some v :=
  (World.cell?_alloc_some (w.drewN m) a o (by rw [old0 h m]; rfl)).trans (old0 h m)
theorem old2 {w : World} {a : Addr} {v : Value} (h : w.cell? a = some v) (m : Nat) (o o' : Obj) : (((w.drewN m).alloc o).alloc o').cell? a = some v :=
  (World.cell?_alloc_some ((w.drewN m).alloc o) a o' (by rw [old1 h m o]; rfl)).trans (old1 h m o)
theorem two_cell (w : World) (m i : Nat) (Z : Array Value) (t : TypeId) (o : Obj) : (((w.drewN m).alloc (.cells Z t)).alloc o).cell? ⟨w.heap.size, i, none⟩ = Z[i]? := World.cell?_alloc2_first (w := w.drewN m) Z t o i
theorem two_frozen (w : World) (m i : Nat) (Z : Array Value) (t : TypeId) (o : Obj) : (((w.drewN m).alloc (.cells Z t)).alloc o).frozen? ⟨w.heap.size, i, none⟩ = false := World.frozen?_alloc2_first (w := w.drewN m) Z t o i
theorem two_set (w : World) (m i : Nat) (Z : Array Value) (t : TypeId) (o : Obj) (v : Value) : (((w.drewN m).alloc (.cells Z t)).alloc o).setCell ⟨w.heap.size, i, none⟩ v = ((w.drewN m).alloc (.cells (Z.setIfInBounds i v) t)).alloc o :=
  (World.setCell_alloc_past (w := (w.drewN m).alloc (.cells Z t)) o w.heap.size i v (by show w.heap.size < (w.heap.push _).size; simp)).trans (congrArg (fun z => World.alloc z o) (World.setCell_alloc_at (w := w.drewN m) Z t w.heap.size i v rfl))
theorem old1z {w : World} {a : Addr} {v : Value} (h : w.cell? a = some v) (o : Obj) : (w.alloc o).cell? a = some v := (World.cell?_alloc_some w a o (by rw [h]; rfl)).trans h
theorem old2z {w : World} {a : Addr} {v : Value} (h : w.cell? a = some v) (o o' : Obj) : ((w.alloc o).alloc o').cell? a = some v := (World.cell?_alloc_some (w.alloc o) a o' (by rw [old1z h o]; rfl)).trans (old1z h o)
theorem two_cellz (w : World) (i : Nat) (Z : Array Value) (t : TypeId) (o : Obj) : ((w.alloc (.cells Z t)).alloc o).cell? ⟨w.heap.size, i, none⟩ = Z[i]? := World.cell?_alloc2_first (w := w) Z t o i
theorem two_frozenz (w : World) (i : Nat) (Z : Array Value) (t : TypeId) (o : Obj) : ((w.alloc (.cells Z t)).alloc o).frozen? ⟨w.heap.size, i, none⟩ = false := World.frozen?_alloc2_first (w := w) Z t o i
theorem two_setz (w : World) (i : Nat) (Z : Array Value) (t : TypeId) (o : Obj) (v : Value) : ((w.alloc (.cells Z t)).alloc o).setCell ⟨w.heap.size, i, none⟩ v = (w.alloc (.cells (Z.setIfInBounds i v) t)).alloc o :=
  (World.setCell_alloc_past (w := w.alloc (.cells Z t)) o w.heap.size i v (by show w.heap.size < (w.heap.push _).size; simp)).trans (congrArg (fun z => World.alloc z o) (World.setCell_alloc_at (w := w) Z t w.heap.size i v rfl))
set_option maxHeartbeats 8000000 in
set_option maxRecDepth 100000 in
theorem equal_same (w : World) (A B : Option Addr) (c d : Nat) (n : List (List S64)) (hA : Kd.C (Kd.slice 64 k64) w A n.length n) (hB : Kd.C (Kd.slice 64 k64) w B n.length n) (hn : n.length ≤ 200) (hs : ∀ s ∈ n, s.length ≤ 200 ∧ ∀ p ∈ s, p.f2.length ≤ 8192)
    (hsb : ∀ s ∈ n, ∀ p ∈ s, chirographref01_SameBytes.f 10000 p.f2 p.f2 = some true) :
    Calls Tryz.prog 32 #[.slice A n.length c, .slice B n.length d] w fun e w' => e = .returned (.bool true) ∧ Below w.heap.size w w' := by
  have hu64 := Tryz.underlying64
  have HA := Aside0.mk hA
  have HD := Aside0.mk hB
  have HN := Aside0.mk hn
  have HS := Aside0.mk hs
  have HSB := Aside0.mk hsb
  have HB0 := Aside0.mk (Below.refl w.heap.size w)
  clear hA hB hn hs hsb
  go_enter Tryz.func32, Tryz.ntmps32
  go_wp2_with fail
  go_loopg [5] (n.length + 1) (fun kq v5 w' => ∃ (i : Nat), v5 = .int .i64 (i : Int) ∧ Aside0 (i ≤ n.length ∧ n.length < kq + i) ∧ Aside0 (Below w.heap.size w w'))
  case atStart => exact ⟨0, rfl, ⟨⟨Nat.zero_le _, by omega⟩⟩, HB0⟩
  case round =>
    clear HB0
    obtain ⟨i, rfl, HI, HB⟩ := hrel
    cases gk with
    | zero => exact absurd HI.out (by omega)
    | succ g1 =>
      by_cases hi : i < n.length
      · have c1 : decide ((i : Int) < (n.length : Int)) = true := decide_eq_true (by omega)
        have p1 : ((0 : Int) ≤ (i : Int)) = True := eq_true (by omega)
        have q1 : ((i : Int) < (n.length : Int)) = True := eq_true (by omega)
        obtain ⟨ad, A1, a1, rfl, hx, la, hC⟩ := at_L5 HA.out (i : Int) (by omega) (by omega)
        obtain ⟨bd, B1, b1, rfl, hy, lb, hD⟩ := at_L5 HD.out (i : Int) (by omega) (by omega)
        have hmem : rd_L5 n (i : Int) ∈ n := by
          unfold rd_L5
          rw [Int.toNat_natCast, List.getD_eq_getElem?_getD, List.getElem?_eq_getElem hi]
          exact List.getElem_mem _
        have HX0 := Aside0.mk hx
        have HY0 := Aside0.mk hy
        replace hx := (HB.out.cell (World.block_lt_of_cell? w _ hx)).trans hx
        replace hy := (HB.out.cell (World.block_lt_of_cell? w _ hy)).trans hy
        rw [Int.toNat_natCast] at hx hy
        have HSI := Aside0.mk (HS.out _ hmem)
        have HSBI := Aside0.mk (HSB.out _ hmem)
        have HC := Aside0.mk hC
        have HE := Aside0.mk hD
        clear hmem hC hD la lb
        generalize rd_L5 n (i : Int) = s at *
        have hw : wrap64 ((i : Int) + 1) = ((i + 1 : Nat) : Int) := by unfold wrap64; have := HN.out; omega
        go_wp2_with fail
        go_quiet (fail)
        go_wp2_with fail
        go_loopg [6] (s.length + 1) (fun kq v6 w' => ∃ (j : Nat), v6 = .int .i64 (j : Int) ∧ Aside0 (j ≤ s.length ∧ s.length < kq + j) ∧ Aside0 (Below w.heap.size w w'))
        case atStart => exact ⟨0, rfl, ⟨⟨Nat.zero_le _, by omega⟩⟩, ⟨pw_below_drewN HB.out _⟩⟩
        case round =>
          obtain ⟨j, rfl, HJ, HB2⟩ := hrel
          clear HB hx hy
          have hx := (HB2.out.cell (World.block_lt_of_cell? w _ HX0.out)).trans HX0.out
          have hy := (HB2.out.cell (World.block_lt_of_cell? w _ HY0.out)).trans HY0.out
          rw [Int.toNat_natCast] at hx hy
          cases gk with
          | zero => exact absurd HJ.out (by omega)
          | succ g2 =>
            by_cases hj : j < s.length
            · have c2 : decide ((j : Int) < (s.length : Int)) = true := decide_eq_true (by omega)
              have p2 : ((0 : Int) ≤ (j : Int)) = True := eq_true (by omega)
              have q2 : ((j : Int) < (s.length : Int)) = True := eq_true (by omega)
              obtain ⟨ad2, X, x, rfl, h0, h1, h2, lx, hX⟩ := at_T64 HC.out (j : Int) (by omega) (by omega)
              obtain ⟨bd2, Y, y, rfl, k0, k1, k2, ly, hY⟩ := at_T64 HE.out (j : Int) (by omega) (by omega)
              have hmem : rd_T64 s (j : Int) ∈ s := by
                unfold rd_T64
                rw [Int.toNat_natCast, List.getD_eq_getElem?_getD, List.getElem?_eq_getElem hj]
                exact List.getElem_mem _
              have HP := Aside0.mk (HSBI.out _ hmem)
              have lt1 := World.block_lt_of_cell? w _ h0
              have lt2 := World.block_lt_of_cell? w _ k0
              replace h0 := (HB2.out.cell (World.block_lt_of_cell? w _ h0)).trans h0
              replace h1 := (HB2.out.cell (World.block_lt_of_cell? w _ h1)).trans h1
              replace h2 := (HB2.out.cell (World.block_lt_of_cell? w _ h2)).trans h2
              replace k0 := (HB2.out.cell (World.block_lt_of_cell? w _ k0)).trans k0
              replace k1 := (HB2.out.cell (World.block_lt_of_cell? w _ k1)).trans k1
              replace k2 := (HB2.out.cell (World.block_lt_of_cell? w _ k2)).trans k2
              rw [Int.toNat_natCast] at h0 h1 h2 k0 k1 k2
              have HX := Aside0.mk (Kd.C_below hX HB2.out)
              have HY := Aside0.mk (Kd.C_below hY HB2.out)
              have LX := Aside0.mk lx
              have LY := Aside0.mk ly
              clear hmem hX hY lx ly
              generalize rd_T64 s (j : Int) = p at *
              have hw2 : wrap64 ((j : Int) + 1) = ((j + 1 : Nat) : Int) := by unfold wrap64; have := HSI.out.1; omega
              go_wp2_with fail
              have q0_ := old1 hx
              have r0_ := old2 hx
              have s0_ := old1z hx
              have t0_ := old2z hx
              have q1_ := old1 hy
              have r1_ := old2 hy
              have s1_ := old1z hy
              have t1_ := old2z hy
              have q2_ := old1 h0
              have r2_ := old2 h0
              have s2_ := old1z h0
              have t2_ := old2z h0
              have q3_ := old1 h1
              have r3_ := old2 h1
              have s3_ := old1z h1
              have t3_ := old2z h1
              have q4_ := old1 h2
              have r4_ := old2 h2
              have s4_ := old1z h2
              have t4_ := old2z h2
              have q5_ := old1 k0
              have r5_ := old2 k0
              have s5_ := old1z k0
              have t5_ := old2z k0
              have q6_ := old1 k1
              have r6_ := old2 k1
              have s6_ := old1z k1
              have t6_ := old2z k1
              have q7_ := old1 k2
              have r7_ := old2 k2
              have s7_ := old1z k2
              have t7_ := old2z k2
              have sc := two_cell wr
              have sf := two_frozen wr
              have sw := two_set wr
              have sc0 := two_cellz wr
              have sf0 := two_frozenz wr
              have sw0 := two_setz wr
              go_big_region
              all_goals clear hx hy h0 h1 h2 k0 k1 k2 q0_ r0_ s0_ t0_ q1_ r1_ s1_ t1_ q2_ r2_ s2_ t2_ q3_ r3_ s3_ t3_ q4_ r4_ s4_ t4_ q5_ r5_ s5_ t5_ q6_ r6_ s6_ t6_ q7_ r7_ s7_ t7_ sc sf sw sc0 sf0 sw0
              all_goals
                go_wp2_with fail
                refine (chirographref01_SameBytes.calls 10000 _ _ p.f2 _ _ p.f2 true _ (by repeat (first | exact HX.out | (with_reducible refine Kd.C_alloc ?_ _) | (with_reducible refine Kd.C_drewN ?_ _) | (with_reducible refine Kd.C_drew ?_))) LX.out (by repeat (first | exact HY.out | (with_reducible refine Kd.C_alloc ?_ _) | (with_reducible refine Kd.C_drewN ?_ _) | (with_reducible refine Kd.C_drew ?_))) LY.out HP.out).mono ?_
                rintro e w1 ⟨rfl, ⟨nd, rfl⟩⟩
                go_wp2_with fail
                go_roundg g2
                case measure => exact Nat.lt_succ_self _
                case rel => exact ⟨j + 1, congrArg (Value.int .i64) hw2, ⟨by have := HJ.out; omega⟩, ⟨by repeat (first | exact HB2.out | apply pw_below_drewN | apply below_drew1 | apply below_alloc)⟩⟩
            · have c2 : decide ((j : Int) < (s.length : Int)) = false := decide_eq_false (by omega)
              go_wp2_with fail
              go_roundg g1
              case measure => exact Nat.lt_succ_self _
              case rel => exact ⟨i + 1, congrArg (Value.int .i64) hw, ⟨by have := HI.out; omega⟩, HB2⟩
      · have c1 : decide ((i : Int) < (n.length : Int)) = false := decide_eq_false (by omega)
        go_wp2_with fail
        go_ret
        exact ⟨by first | rfl | trace_state, HB.out⟩
end Go.Proofs.YtkioddjjfifadaaGreatDoor.P
namespace Go.Proofs.YtkioddjjfifadaaGreatDoor.P
open Go.RowKit Go.Proofs.YtkioddjjfifadaaGreatDoorW.PrintWords Go.Proofs.YtkioddjjfifadaaGreatDoorW.PrintLast Go.Proofs.YtkioddjjfifadaaGreatDoorW.PrintMore
attribute [local go_sem] max2_int min2_int max_two min_two max_three min_three max_four min_four   -- for this text's walks alone
set_option linter.unusedVariables false
set_option linter.unusedSimpArgs false
def chirographlaw07_num.f (a0 : Int) : Option (Int) := some a0
set_option maxHeartbeats 8000000 in
set_option maxRecDepth 100000 in
theorem chirographlaw07_num.calls (a0 : Int) (r : Int) (w : World) (h : chirographlaw07_num.f a0 = some r) :
    Calls Tryz.prog 37 #[.int .i64 a0] w fun e w' => e = .returned (.int .i64 r) ∧ Drawn0 w w' := by
  have H : (some a0) = some r := h
  clear h
  obtain rfl := Option.some.inj H
  go_enter Tryz.func37, Tryz.ntmps37
  go_wp2
  go_ret
  exact ⟨by first | rfl | (simp; done) | (simp [*]; done), by repeat (first | exact Drawn0.refl _ | apply Drawn0.step)⟩
end Go.Proofs.YtkioddjjfifadaaGreatDoor.P
set_option linter.unusedVariables false
set_option linter.unusedSimpArgs false
namespace Go.Proofs.YtkioddjjfifadaaGreatDoor.P
open Go.RowKit Go.Proofs.YtkioddjjfifadaaGreatDoorW.PrintWords Go.Proofs.YtkioddjjfifadaaGreatDoorW.PrintLast Go.Proofs.YtkioddjjfifadaaGreatDoorW.PrintMore
theorem cell_kept {W W' : World} {S : Nat → Prop} {a : Addr} {v : Value} (hk : Kept W W' S) (h : W.cell? a = some v) (hn : ¬ S a.block) : W'.cell? a = some v :=
  (World.cell?_of_block (hk.2 _ (World.block_lt_of_cell? W a h) hn)).trans h
theorem row_app {W W1 : World} {g1 cap1 q : Nat} {v : Value} {oki : Nat → Prop} (hown : ∀ j, v.ownBlock = some j → oki j) (h3 : (v = .slice (some ⟨g1, 0, none⟩) q cap1 ∧ W.grownBy W1 (some g1)) ∨ (W.heap.size ≤ g1 ∧ W.grownBy W1 none)) : Kept W W1 oki ∧ (oki g1 ∨ W.heap.size ≤ g1) := by
  rcases h3 with ⟨hv, hg⟩ | ⟨hlt, hg⟩
  · have h1 : oki g1 := hown g1 (by rw [hv]; rfl)
    exact ⟨Kept.of_grown hg (Kept.refl W _) (fun k hk => .inl (by injection hk with hk; rw [← hk]; exact h1)), .inl h1⟩
  · exact ⟨Kept.of_grown hg (Kept.refl W _) (fun k hk => by cases hk), .inr hlt⟩
theorem row_app2 {wr W W1 : World} {g1 cap1 q : Nat} {v : Value} {oki : Nat → Prop} (hb : Below wr.heap.size wr W) (hown : ∀ j, v.ownBlock = some j → oki j) (h3 : (v = .slice (some ⟨g1, 0, none⟩) q cap1 ∧ W.grownBy W1 (some g1)) ∨ (W.heap.size ≤ g1 ∧ W.grownBy W1 none)) : Kept wr W1 oki ∧ (oki g1 ∨ wr.heap.size ≤ g1) :=
  ⟨Kept.then_ (Kept.of_below hb _) (row_app hown h3).1 (fun j hj => .inl hj), (row_app hown h3).2.imp id (fun h => Nat.le_trans (below_size hb) h)⟩
theorem row_head {W : World} {base e g1 cap1 q : Nat} {inner : List Value} (h : W.ownsRow base e 3 (.slice (some ⟨g1, 0, none⟩) (q + 1) cap1) (q + 1) inner) : (∃ u, W.cell? ⟨g1, 0, none⟩ = some u) ∧ W.frozen? ⟨g1, 0, none⟩ = false ∧ base ≤ g1 := by
  obtain ⟨u, hu⟩ : ∃ u, inner[0]? = some u := ⟨_, List.getElem?_eq_getElem (by rw [h.1]; omega)⟩
  refine ⟨⟨u, by have h1 := h.cells (g := g1) rfl 0 u hu; rwa [add_plain] at h1⟩, ?_, own_base h g1 rfl⟩
  rcases h.2 with ⟨hv, _⟩ | ⟨g, cap, cur, hv, _, hg, _⟩
  · cases hv
  · injection hv with a _ _
    injection a with a
    injection a with a _ _
    rw [a]
    exact blk_frozen hg 0
theorem lit_cells (X : World) (cs : List Value) (e : Nat) : ∀ (j : Nat) (u : Value), cs[j]? = some u → (X.alloc (.cells cs.toArray e)).cell? ((⟨X.heap.size, 0, none⟩ : Addr).add j) = some u := fun j u hu => by
  rw [add_plain, cell_of_row _ X.heap.size j cs.toArray e (0, 0) (new_alloc X _), List.getElem?_toArray, hu]
theorem below_cell {W W2 : World} {a : Addr} {v : Value} (hb : Below W.heap.size W W2) (h : W.cell? a = some v) : W2.cell? a = some v := (hb.cell (World.block_lt_of_cell? W a h)).trans h
theorem two_first (w : World) (o o2 : Obj) : ((w.alloc o).alloc o2).heap[w.heap.size]? = some o := by
  show ((w.heap.push o).push o2)[w.heap.size]? = _
  rw [Array.getElem?_push_lt (by simp)]
  simp
theorem two_second (w : World) (o o2 : Obj) : ((w.alloc o).alloc o2).heap[w.heap.size + 1]? = some o2 := by
  rw [← sz_alloc w o]
  exact new_alloc (w.alloc o) o2
set_option maxHeartbeats 16000000 in
set_option maxRecDepth 100000 in
theorem own_walk (K : Nat) (A0 : Option Addr) (c0 : Nat) (l0 : List Int) (w : World) (n : List (List S64)) (hr0 : Kd.C (Kd.int .u8) w A0 l0.length l0) (hc0 : l0.length ≤ c0) (hl : l0.length ≤ 2000)
    (hp : name_Parse.f K l0 = some (n, 0)) (hn : n.length ≤ 200) (hs : ∀ s ∈ n, s.length ≤ 200 ∧ ∀ p ∈ s, p.f2.length ≤ 8192) (hcp : chirographref07_Copy.f K n = some n)
    (hsb : ∀ s ∈ n, ∀ p ∈ s, chirographref01_SameBytes.f 10000 p.f2 p.f2 = some true) (hT : Tb w) (hD : Hd w)
    (cLive : ∀ w', Below w.heap.size w w' → Calls Tryz.prog 33 #[] w' fun e w2 => e = .returned (.bool true) ∧ Below w'.heap.size w' w2) :
    Calls Tryz.prog 11 #[.slice A0 l0.length c0] w fun e w' => e = .returned (.bool true) ∧ Below w.heap.size w w' := by
  have hu64 := Tryz.underlying64
  have c2b0 : decide (2000 < (l0.length : Int)) = false := decide_eq_false (by omega)
  have c2b1 : decide (2000 < l0.length) = false := decide_eq_false (by omega)
  have HR0 := Aside0.mk hr0
  have HC0 := Aside0.mk hc0
  have HL0 := Aside0.mk hl
  have HPA := Aside0.mk hp
  have HN := Aside0.mk hn
  have HSS := Aside0.mk hs
  have HCP := Aside0.mk hcp
  have HSB := Aside0.mk hsb
  have HT := Aside0.mk hT
  have HD := Aside0.mk hD
  have CLive := Aside0.mk cLive
  have HB := Aside0.mk (Below.refl w.heap.size w)
  clear hr0 hc0 hl hp hn hs hcp hsb hT hD cLive
  obtain ⟨y817, hy817⟩ : ∃ y_ : List Int, y_ = (([] : List Int)) := ⟨_, rfl⟩
  have Ny817 := Aside0.mk hy817
  have LMc2 : Aside0 (y817.length + l0.length < 140737488355328) := ⟨by rw [hy817, List.length_nil]; have := HL0.out; omega⟩
  obtain ⟨y820, hy820⟩ : ∃ y_ : List Int, y_ = (y817 ++ l0) := ⟨_, rfl⟩
  have Ny820 := Aside0.mk hy820
  have e820 := Aside0.mk (show y820 = l0 by rw [hy820, hy817, List.nil_append])
  clear hy817 hy820
  go_enter Tryz.func11, Tryz.ntmps11
  go_wp2_with (first | ((with_reducible refine gate_dst (N := 14) rfl ?_); refine Kd.R_lit (Kd.int .u8) _ 5 ?hg (N := 14) ?hd (xs := ([] : List Int)) (inner := []) (ok := fun _ => True) (okp := fun _ => True) ?hr ?hp (fun _ hk => hk) trivial (Below.refl _ _) (Nat.le_refl _) (by simp) ?_; (case hd => rfl); (case hg => rfl); (case hr => first | (go_simp; done) | (go_simp; rfl)); (case hp => exact (Reps.none _ _)); intro v818 w6 ho7 hb hg_ hnew_; clear hg_ hnew_; (first | rw [← Ny817.out] at ho7 | (simp only [Int.reduceToNat] at ho7; rw [← Ny817.out] at ho7)); have n0_ := Aside0.mk (Kd.R_lower ho7 (below_size (by repeat (first | (with_reducible first | exact HB.out | apply below_alloc | apply pw_below_drewN | apply below_drew1) | exact HB.out)))); have n1_ := Aside0.mk (below_step (by repeat (first | (with_reducible first | exact HB.out | apply below_alloc | apply pw_below_drewN | apply below_drew1) | exact HB.out)) hb); clear HB; have HO819 := n0_; have HB := n1_; clear n0_ n1_; clear hb ho7) | ((with_reducible refine gate_builtin (b := .append) (xs := #[.tmp 14, .tmp 15]) rfl ?_); at_builtin; refine Kd.R_append_rows (Kd.int .u8) (w0 := w) w.heap.size rfl (.tmp 14) (.tmp 15) 22 5 (.int .u8 0) 1 rfl Tryz.underlying22 info5 rfl (by decide) (by omega) v818 y817 l0 _ _ _ (fun _ => True) (fun _ => False) rfl rfl ?aO ?aR (fun _ _ h => h) (fun _ h => h.elim) ?aF ?aB ?aS ?aL ?_; (case aR => repeat (first | exact (Kd.C_below HR0.out HB.out) | (with_reducible refine Kd.C_alloc ?_ _) | (with_reducible refine Kd.C_drewN ?_ _) | (with_reducible refine Kd.C_drew ?_))); (case aB => exact (by repeat (first | (with_reducible first | exact HB.out | apply below_alloc | apply pw_below_drewN | apply below_drew1) | exact HB.out))); (case aF => exact (fun _ _ => trivial)); (case aO => exact (by (with_reducible repeat (first | apply Kd.R_alloc | apply Kd.R_drewN | apply Kd.R_drew)); exact HO819.out)); (case aS => exact (below_size (by repeat (first | (with_reducible first | exact HB.out | apply below_alloc | apply pw_below_drewN | apply below_drew1) | exact HB.out)))); (case aL => have := LMc2.out; omega); intro v821 w8 ho hb hg hat; rw [← Ny820.out, e820.out] at ho; have n0_ := Aside0.mk (hb); have n1_ := Aside0.mk (ho); clear HB; clear HO819; have HB := n0_; have HO822 := n1_; clear n0_ n1_; clear ho hb hg hat))
  obtain ⟨Ac, cc, rfl⟩ := Kd.R_slice HO822.out
  have HCr := Aside0.mk (Kd.R_reads' HO822.out)
  refine (name_Parse_sole K Ac cc l0 n 0 _ HCr.out.2.2 HCr.out.2.1 HPA.out (Tb.below HT.out HB.out) (Hd.below HD.out HB.out)).mono ?_
  rintro e w9 ⟨v9, rfl, ho, hb⟩
  obtain ⟨NA, nc, rfl⟩ := Kd.S_slice ho
  obtain ⟨N0, hN0⟩ : ∃ N, N = w8.heap.size := ⟨_, rfl⟩
  have HN9 : Aside0 (Kd.S (sliceS 64 k64) 62 w9 w.heap.size (fun k => N0 ≤ k ∧ k < w9.heap.size) (.slice NA n.length nc) n) := ⟨Kd.S_lower (Kd.S_mono (Kd.S_bound ho) (fun k hk => ⟨by rw [hN0]; exact hk.2.1, hk.2.2.1⟩)) (below_size HB.out)⟩
  have HC9 : Aside0 (Kd.R (Kd.int .u8) 5 w9 w.heap.size (fun k => k < N0) (.slice Ac l0.length cc) l0) := ⟨Kd.R_mono (Kd.R_below (Kd.R_bound HO822.out) hb) (fun k hk => by rw [hN0]; exact hk.2.2.1)⟩
  have LN0 := Aside0.mk (show N0 ≤ w9.heap.size by rw [hN0]; exact below_size hb)
  have HBn := Aside0.mk (below_step HB.out hb)
  clear HB HO822 HCr ho hb hN0
  have HB := HBn
  clear HBn
  go_wp2_with fail
  refine (chirographlaw07_num.calls 0 0 _ rfl).mono ?_
  rintro e w10 ⟨rfl, ⟨n1, rfl⟩⟩
  go_wp2_with fail
  obtain ⟨N1, hN1⟩ : ∃ N, N = w9.heap.size := ⟨_, rfl⟩
  refine (copy_sole K NA nc n n _ (by (repeat (first | exact (Kd.S_reads' HN9.out).2.2 | (with_reducible refine Kd.C_alloc ?_ _) | (with_reducible refine Kd.C_drewN ?_ _) | (with_reducible refine Kd.C_drew ?_)))) (Kd.S_reads' HN9.out).2.1 HCP.out).mono ?_
  rintro e w11 ⟨v11, rfl, ho, hb⟩
  obtain ⟨WA, wc, rfl⟩ := Kd.S_slice ho
  have hb9 : Below w9.heap.size w9 w11 := below_step (by repeat (first | (with_reducible first | exact (Below.refl w9.heap.size w9) | apply below_alloc | apply pw_below_drewN | apply below_drew1) | exact (Below.refl w9.heap.size w9))) hb
  obtain ⟨N2, hN2⟩ : ∃ N, N = w11.heap.size := ⟨_, rfl⟩
  have HN11 : Aside0 (Kd.S (sliceS 64 k64) 62 w11 w.heap.size (fun k => N0 ≤ k ∧ k < N1) (.slice NA n.length nc) n) := ⟨by rw [hN1]; exact Kd.S_below HN9.out hb9⟩
  have HC11 : Aside0 (Kd.R (Kd.int .u8) 5 w11 w.heap.size (fun k => k < N0) (.slice Ac l0.length cc) l0) := ⟨Kd.R_below HC9.out hb9⟩
  have HW11 : Aside0 (Kd.R (Kd.slice 64 k64) 62 w11 w.heap.size (fun k => N1 ≤ k ∧ k < N2) (.slice WA n.length wc) n) := ⟨Kd.R_lower (Kd.R_mono (Kd.R_bound (Kd.S_R ho)) (fun k hk => ⟨by rw [hN1]; exact hk.2.1, by rw [hN2]; exact hk.2.2.1⟩)) (below_size (by repeat (first | (with_reducible first | exact HB.out | apply below_alloc | apply pw_below_drewN | apply below_drew1) | exact HB.out)))⟩
  have HN2 := Aside0.mk (Nat.le_of_eq hN2)
  have HN01 := Aside0.mk (show N0 ≤ N1 by rw [hN1]; exact LN0.out)
  have HN12 := Aside0.mk (show N1 ≤ N2 by rw [hN1, hN2]; exact below_size hb9)
  have HBn := Aside0.mk (below_step HB.out hb9)
  clear HB HN9 HC9 ho hb hb9 hN1 hN2
  have HB := HBn
  clear HBn
  go_wp2_with fail
  refine (spoil_own (.slice Ac l0.length cc) l0 w _ (fun k => k < N0) (by have := HL0.out; omega) (by repeat (first | (with_reducible first | exact HB.out | apply below_alloc | apply pw_below_drewN | apply below_drew1) | exact HB.out)) (by (with_reducible repeat (first | apply Kd.R_alloc | apply Kd.R_drewN | apply Kd.R_drew)); exact HC11.out)).mono ?_
  rintro e w12 ⟨rfl, _, hb, hk⟩
  have hk2 : Kept w11 w12 (fun k => some k = (Value.slice Ac l0.length cc).ownBlock) := Kept.then_ (Kept.of_below (by repeat (first | (with_reducible first | exact (Below.refl w11.heap.size w11) | apply below_alloc | apply pw_below_drewN | apply below_drew1) | exact (Below.refl w11.heap.size w11))) _) hk (fun k hk => .inl hk)
  have hkc : ∀ k, N0 ≤ k → ¬ some k = (Value.slice Ac l0.length cc).ownBlock := fun k h1 h2 => by have := HC11.out.1 k h2.symm; omega
  have HN12_ : Aside0 (Kd.S kS 62 w12 w.heap.size (fun k => N0 ≤ k ∧ k < N1) (.slice NA n.length nc) (n.map fun s => some (s.map some))) := ⟨S_open (Kd.S_kept HN11.out hk2 (fun k h1 => hkc k h1.1))⟩
  have HE12 : Aside0 (Kd.C (Kd.slice 64 k64) w12 NA n.length n) := ⟨(Kd.S_reads' (Kd.S_kept HN11.out hk2 (fun k h1 => hkc k h1.1))).2.2⟩
  have HW12 : Aside0 (Kd.R (Kd.slice 64 k64) 62 w12 w.heap.size (fun k => N1 ≤ k ∧ k < N2) (.slice WA n.length wc) n) := ⟨Kd.R_kept HW11.out hk2 (fun k h1 h2 => by have := HC11.out.1 k h2.symm; have := h1.1; have := HN01.out; omega)⟩
  have HN2b := Aside0.mk (show N2 ≤ w12.heap.size from Nat.le_trans HN2.out hk2.1)
  have HBn := Aside0.mk hb
  clear HB HN11 HC11 HW11 hb hk hk2 hkc HN2
  have HB := HBn
  clear HBn
  go_wp2_with fail
  refine (equal_same _ NA WA nc wc n (by repeat (first | exact HE12.out | (with_reducible refine Kd.C_alloc ?_ _) | (with_reducible refine Kd.C_drewN ?_ _) | (with_reducible refine Kd.C_drew ?_))) (by repeat (first | exact (Kd.R_reads' HW12.out).2.2 | (with_reducible refine Kd.C_alloc ?_ _) | (with_reducible refine Kd.C_drewN ?_ _) | (with_reducible refine Kd.C_drew ?_))) HN.out HSS.out HSB.out).mono ?_
  rintro e w13 ⟨rfl, hb⟩
  have hb12 : Below w12.heap.size w12 w13 := below_step (by repeat (first | (with_reducible first | exact (Below.refl w12.heap.size w12) | apply below_alloc | apply pw_below_drewN | apply below_drew1) | exact (Below.refl w12.heap.size w12))) hb
  have HS := Aside0.mk (Kd.S_below HN12_.out hb12)
  have HW := Aside0.mk (Kd.R_below HW12.out hb12)
  have HZ := Aside0.mk (Nat.le_trans HN2b.out (below_size hb12))
  have HBn := Aside0.mk (below_step HB.out hb12)
  clear HB HN12_ HE12 HW12 HN2b hb hb12
  have HB := HBn
  clear HBn
  go_wp2_with fail
  go_loopg [7] n.length (fun kq v7 w' => ∃ (i : Nat) (L : List (Option (List (Option S64)))), v7 = .int .i64 (i : Int) ∧ Aside0 (i + kq = n.length) ∧ Aside0 (LeftN L n i) ∧ Aside0 (Kd.S kS 62 w' w.heap.size (fun k => N0 ≤ k ∧ k < N1) (.slice NA n.length nc) L) ∧ Aside0 (Kd.R (Kd.slice 64 k64) 62 w' w.heap.size (fun k => N1 ≤ k ∧ k < N2) (.slice WA n.length wc) n) ∧ Aside0 (N2 ≤ w'.heap.size) ∧ Aside0 (Below w.heap.size w w'))
  case atStart => exact ⟨0, n.map (fun s => some (s.map some)), rfl, ⟨Nat.zero_add _⟩, ⟨⟨List.length_map _, fun j _ => List.getElem?_map ..⟩⟩, HS, HW, HZ, HB⟩
  case round =>
    clear HS HW HZ HB
    obtain ⟨i, L, rfl, HI, HLL, HS, HW, HZ, HB⟩ := hrel
    cases gk with
    | zero =>
      have hi : i = n.length := by have := HI.out; omega
      have ci : decide ((i : Int) < (n.length : Int)) = false := decide_eq_false (by omega)
      have ci2 : decide (i < n.length) = false := decide_eq_false (by omega)
      have ci3 : (i < n.length) = False := eq_false (by omega)
      clear hi HS HW
      go_wp2_with fail
      refine (CLive.out _ (by repeat (first | (with_reducible first | exact HB.out | apply below_alloc | apply pw_below_drewN | apply below_drew1) | exact HB.out))).mono ?_
      rintro e w14 ⟨rfl, hb⟩
      have HBn := Aside0.mk (below_step (by repeat (first | (with_reducible first | exact HB.out | apply below_alloc | apply pw_below_drewN | apply below_drew1) | exact HB.out)) hb)
      clear hb
      go_wp2_with fail
      go_ret
      exact ⟨rfl, HBn.out⟩
    | succ k1 =>
      have hi : i < n.length := by have := HI.out; omega
      have ci : decide ((i : Int) < (n.length : Int)) = true := decide_eq_true (by omega)
      have ci2 : decide (i < n.length) = true := decide_eq_true hi
      obtain ⟨s, hs⟩ : ∃ s, n[i]? = some s := ⟨_, List.getElem?_eq_getElem hi⟩
      have hmem : s ∈ n := List.mem_of_getElem? hs
      have HSI := Aside0.mk (HSS.out s hmem)
      have HSBI := Aside0.mk (HSB.out s hmem)
      have hLi : L[i]? = some (some (s.map some)) := by rw [HLL.out.2 i (Nat.le_refl _), hs]; rfl
      obtain ⟨g, ncx, hv, _, _, _⟩ := Kd.S_form HS.out (by rw [HLL.out.1]; omega)
      rw [HLL.out.1] at hv
      obtain ⟨rfl, rfl⟩ : NA = some ⟨g, 0, none⟩ ∧ nc = ncx := by injection hv with a b c; exact ⟨a, c⟩
      obtain ⟨gw, wcx, hv2, _, _, _⟩ := Kd.R_form HW.out (by omega)
      obtain ⟨rfl, rfl⟩ : WA = some ⟨gw, 0, none⟩ ∧ wc = wcx := by injection hv2 with a b c; exact ⟨a, c⟩
      have HHI := Aside0.mk hi
      have HSN := Aside0.mk hs
      have HLI := Aside0.mk hLi
      have HME := Aside0.mk hmem
      have b0 := eq_true (show 0 ≤ (i : Int) by omega)
      have b1 := eq_true (show (i : Int) < (n.length : Int) by omega)
      have hL0 : L.set i (some (s.map some)) = L := by
        apply List.ext_getElem?
        intro j
        by_cases h : i = j
        · subst h; rw [List.getElem?_set, if_pos rfl, if_pos (by rw [HLL.out.1]; exact hi), hLi]
        · rw [List.getElem?_set, if_neg h]
      have HL0e := Aside0.mk hL0
      clear hv hv2 hi hs hLi hmem hL0
      obtain ⟨q, hq⟩ : ∃ q, q = s.length := ⟨_, rfl⟩
      have HQ := Aside0.mk hq
      clear hq
      obtain ⟨ji, hji⟩ : ∃ j : Int, j = ((i + 1 : Nat) : Int) := ⟨_, rfl⟩
      have HJI := Aside0.mk hji
      have hjn : ji.toNat = i + 1 := by omega
      have HWI2 : Aside0 (wrap64 ((i : Int) + 1) = ji) := ⟨by unfold wrap64; have := HHI.out; have := HN.out; omega⟩
      have HWI : Aside0 (IntKind.i64.wrap ((i : Int) + 1) = ji) := ⟨(i64_w _).trans HWI2.out⟩
      obtain ⟨i62, hi62, _, hs62, _⟩ := info_parts info62
      obtain ⟨i64x, hi64, _, hs64, _⟩ := info_parts info64
      have hcutN := cut_from (P := Tryz.prog) 23 62 .i64 Tryz.underlying23 hi62 1 hs62 (some ⟨g, 0, none⟩) n.length nc ji (by omega) (by have := HHI.out; omega)
      have hcutW := cut_from (P := Tryz.prog) 23 62 .i64 Tryz.underlying23 hi62 1 hs62 (some ⟨gw, 0, none⟩) n.length wc ji (by omega) (by have := HHI.out; omega)
      rw [hjn, Nat.mul_one] at hcutN hcutW
      obtain ⟨NB, hNB⟩ : ∃ B, B = (if nc = i + 1 then some (⟨g, 0, none⟩ : Addr) else (some (⟨g, 0, none⟩ : Addr)).map (·.add (i + 1))) := ⟨_, rfl⟩
      obtain ⟨WB, hWB⟩ : ∃ B, B = (if wc = i + 1 then some (⟨gw, 0, none⟩ : Addr) else (some (⟨gw, 0, none⟩ : Addr)).map (·.add (i + 1))) := ⟨_, rfl⟩
      obtain ⟨m1, hm1⟩ : ∃ m, m = n.length - (i + 1) := ⟨_, rfl⟩
      obtain ⟨nd, hnd⟩ : ∃ m, m = nc - (i + 1) := ⟨_, rfl⟩
      obtain ⟨wd, hwd⟩ : ∃ m, m = wc - (i + 1) := ⟨_, rfl⟩
      rw [← hNB, ← hm1, ← hnd] at hcutN
      rw [← hWB, ← hm1, ← hwd] at hcutW
      have hEq : ∀ (W' : World) (L' : List (Option (List (Option S64)))), LeftN L' n (i + 1) → Kd.S kS 62 W' w.heap.size (fun k => N0 ≤ k ∧ k < N1) (.slice (some ⟨g, 0, none⟩) n.length nc) L' → Kd.R (Kd.slice 64 k64) 62 W' w.heap.size (fun k => N1 ≤ k ∧ k < N2) (.slice (some ⟨gw, 0, none⟩) n.length wc) n →
          Calls Tryz.prog 32 #[.slice NB m1 nd, .slice WB m1 wd] W' fun e w2 => e = .returned (.bool true) ∧ Below W'.heap.size W' w2 := by
        intro W' L' h1 h2 h3
        obtain ⟨_, _, hA⟩ := left_row h2 h1 (by have := HHI.out; omega)
        have hB := Kd.C_drop (k := Kd.slice 64 k64) (m := i + 1) (c := wc) (Kd.R_reads' h3).2.2 (by have := HHI.out; omega) (Kd.R_reads' h3).2.1
        rw [show (Kd.slice 64 k64).sz = 1 from rfl, Nat.mul_one, ← hWB] at hB
        rw [← hNB] at hA
        have hdl : (n.drop (i + 1)).length = m1 := by rw [List.length_drop, hm1]
        rw [← hm1] at hA
        rw [← hdl] at hA ⊢
        exact equal_same _ _ _ _ _ _ hA hB (by rw [hdl, hm1]; have := HN.out; omega) (fun s hs => HSS.out s (List.mem_of_mem_drop hs)) (fun s hs => HSB.out s (List.mem_of_mem_drop hs))
      have HEQ := Aside0.mk hEq
      clear hEq hji hjn hNB hWB hm1 hnd hwd hi62 hs62
      have HI64 := Aside0.mk hi64
      have HS64 := Aside0.mk hs64
      clear hi64 hs64
      go_wp2_with fail
      go_loopg [8] q (fun kq v8 w' => ∃ (k : Nat) (row : List (Option S64)), v8 = .int .i64 (k : Int) ∧ Aside0 (k + kq = q) ∧ Aside0 (LeftP row s k) ∧ Aside0 (Kd.S kS 62 w' w.heap.size (fun k => N0 ≤ k ∧ k < N1) (.slice (some ⟨g, 0, none⟩) n.length nc) (L.set i (some row))) ∧ Aside0 (Kd.R (Kd.slice 64 k64) 62 w' w.heap.size (fun k => N1 ≤ k ∧ k < N2) (.slice (some ⟨gw, 0, none⟩) n.length wc) n) ∧ Aside0 (N2 ≤ w'.heap.size) ∧ Aside0 (Below w.heap.size w w'))
      case atStart => exact ⟨0, s.map some, rfl, ⟨Nat.zero_add _⟩, ⟨⟨List.length_map _, fun j _ => List.getElem?_map ..⟩⟩, ⟨by rw [HL0e.out]; exact HS.out⟩, HW, HZ, HB⟩
      case round =>
        clear HS HW HZ HB
        obtain ⟨k, row, rfl, HK, HP, HS, HW, HZ, HB⟩ := hrel
        have hLi : (L.set i (some row))[i]? = some (some row) := by rw [List.getElem?_set, if_pos rfl, if_pos (by rw [HLL.out.1]; exact HHI.out)]
        have HLI2 := Aside0.mk hLi
        clear hLi
        cases gk with
        | zero =>
          have hk : k = q := by have := HK.out; omega
          obtain ⟨oki, v, inner, hx, ho, hown, hok, hgive⟩ := lend1 HS.out HHI.out HLI2.out
          have hrl : row.length = q := by rw [HP.out.1, HQ.out]
          rw [hrl] at ho
          obtain ⟨Av, cv, rfl⟩ := own_slice ho
          have ck : decide ((k : Int) < (q : Int)) = false := decide_eq_false (by omega)
          have ck2 : decide (k < q) = false := decide_eq_false (by omega)
          have ck3 : (k < q) = False := eq_false (by omega)
          have HO := Aside0.mk ho
          have HOWN := Aside0.mk hown
          have HOK := Aside0.mk hok
          have HG := Aside0.mk hgive
          have HBR := Aside0.mk (Below.refl wr.heap.size wr)
          clear hk ho hown hok hgive hrl HS
          have p0 := eq_true (show (0 : Int) < (q : Int) + 1 by omega)
          have p1 := eq_true (show 0 < q + 1 by omega)
          have p2 : decide ((0 : Int) < (q : Int) + 1) = true := decide_eq_true (by omega)
          go_wp2_with (((with_reducible refine gate_builtin (b := .append) (xs := #[.tmp 107, .tmp 109]) rfl ?_); at_builtin; refine append_kept (w0 := w) w.heap.size rfl (.tmp 107) (.tmp 109) 62 64 (.agg #[(.string ⟨#[]⟩), (.int .i64 0), (.slice none 0 0)]) 3 48 rfl Tryz.underlying62 info64 rfl (by decide) (by omega) (.slice Av q cv) q inner ⟨_, 0, none⟩ 1 1 [.string ⟨#[120]⟩, .int .i64 0, .slice none 0 0] rfl rfl ?aO rfl ?aN ?a1 (by omega) ?aB ?aS ?aM ?_; (case aO => exact (pw_own_below HO.out (by repeat (first | (with_reducible first | exact (Below.refl wr.heap.size wr) | apply below_alloc | apply pw_below_drewN | apply below_drew1) | exact (Below.refl wr.heap.size wr))))); (case aN => exact lit_cells _ _ _); (case a1 => intro u hu; simp only [List.mem_cons, List.not_mem_nil, or_false] at hu; rcases hu with rfl | rfl | rfl <;> rfl); (case aB => exact (by repeat (first | (with_reducible first | exact HB.out | apply below_alloc | apply pw_below_drewN | apply below_drew1) | exact HB.out))); (case aS => exact below_size (by repeat (first | (with_reducible first | exact HB.out | apply below_alloc | apply pw_below_drewN | apply below_drew1) | exact HB.out))); (case aM => have := HQ.out; have := HSI.out.1; omega); intro g1 cap1 w7 hq1 hq2 hq3 hb7; have KA := Aside0.mk (row_app2 (by repeat (first | (with_reducible first | exact (Below.refl wr.heap.size wr) | apply below_alloc | apply pw_below_drewN | apply below_drew1) | exact (Below.refl wr.heap.size wr))) HOWN.out hq3); obtain ⟨⟨u7, hc7⟩, hf7, hg7⟩ := row_head hq1; have HG7 := Aside0.mk hg7; have HB7 := Aside0.mk hb7; clear hq1 hq2 hq3 hb7 hg7))
          obtain ⟨wb, hwb⟩ : ∃ W, W = w7.setCell ⟨g1, 0, none⟩ (.string ⟨#[121]⟩) := ⟨_, rfl⟩
          rw [← hwb]
          have hk7 : Kept wr w7 oki := KA.out.1
          have hkb : Kept wr wb oki := by rw [hwb]; exact Kept.setCell hk7 KA.out.2 _
          have HS9 := Aside0.mk (show Kd.S kS 62 wb w.heap.size (fun k => N0 ≤ k ∧ k < N1) (.slice (some ⟨g, 0, none⟩) n.length nc) (L.set i none) by have h := HG.out wb hkb; rwa [List.set_set] at h)
          have HW9 := Aside0.mk (Kd.R_kept HW.out hkb (fun j h1 h2 => by have := (HOK.out j h2).1; omega))
          have HZ9 := Aside0.mk (Nat.le_trans HZ.out hkb.1)
          have HB9 := Aside0.mk (show Below w.heap.size w wb by rw [hwb]; exact below_set HB7.out HG7.out)
          have HL2 : Aside0 (LeftN (L.set i none) n (i + 1)) := ⟨by rw [List.length_set]; exact HLL.out.1, fun j hj => by rw [List.getElem?_set, if_neg (by omega)]; exact HLL.out.2 j (by omega)⟩
          clear hwb hk7 hkb KA hc7 hf7 HG7 HB7 HG HO HOWN HOK hx HB HW HZ HBR p0 p1 p2
          have wi := HWI.out
          have wi2 := HWI2.out
          refine wp_region_noPanic ?_
          refine wp_region_held_drew (S := fun W' => Below wb.heap.size wb W') (by kernel_rfl) (below_drew1 (Below.refl _ _)) (fun hHeld => ?_)
          refine take_nth (i := 0) (v := ?_) (by repeat' (first | exact Nth.here _ | apply Nth.next)) (by kernel_rfl) (by kernel_rfl) (by kernel_rfl) (fun _ _ _ h => h) (Or.inl ⟨by rfl, ?_⟩) (by assumption) ?_; rotate_left; (intro w' hSw; (try dsimp only at hSw); (try obtain ⟨_, _, _⟩ := hSw); go_simp; try with_reducible rfl)
          try simp only [Act.put, List.setIfInBounds_toArray, List.set_cons_zero, List.set_cons_succ]
          refine take_nth (i := 1) (v := ?_) (by repeat' (first | exact Nth.here _ | apply Nth.next)) (by kernel_rfl) (by kernel_rfl) (by kernel_rfl) (fun _ _ _ h => h) (Or.inl ⟨by rfl, ?_⟩) (by assumption) ?_; rotate_left; (intro w' hSw; (try dsimp only at hSw); (try obtain ⟨_, _, _⟩ := hSw); go_simp; try with_reducible rfl)
          try simp only [Act.put, List.setIfInBounds_toArray, List.set_cons_zero, List.set_cons_succ]
          refine take_nth (i := 2) (v := ?_) (by repeat' (first | exact Nth.here _ | apply Nth.next)) (by kernel_rfl) (by kernel_rfl) (by kernel_rfl) (fun _ _ _ h => h) (Or.inl ⟨by rfl, ?_⟩) (by assumption) ?_; rotate_left; (intro w' hSw; (try dsimp only at hSw); (try obtain ⟨_, _, _⟩ := hSw); go_simp; try with_reducible rfl)
          try simp only [Act.put, List.setIfInBounds_toArray, List.set_cons_zero, List.set_cons_succ]
          refine take_nth (i := 3) (v := ?_) (by repeat' (first | exact Nth.here _ | apply Nth.next)) (by kernel_rfl) (by kernel_rfl) (by kernel_rfl) (fun _ _ _ h => h) (Or.inl ⟨by rfl, ?_⟩) (by assumption) ?_; rotate_left; (intro w' hSw; (try dsimp only at hSw); (try obtain ⟨_, _, _⟩ := hSw); go_simp; try with_reducible rfl)
          try simp only [Act.put, List.setIfInBounds_toArray, List.set_cons_zero, List.set_cons_succ]
          refine take_nth (i := 4) (v := ?_) (by repeat' (first | exact Nth.here _ | apply Nth.next)) (by kernel_rfl) (by kernel_rfl) (by kernel_rfl) (fun _ _ _ h => h) (Or.inl ⟨by rfl, ?_⟩) (by assumption) ?_; rotate_left; (intro w' hSw; (try dsimp only at hSw); (try obtain ⟨_, _, _⟩ := hSw); go_simp; try with_reducible rfl)
          try simp only [Act.put, List.setIfInBounds_toArray, List.set_cons_zero, List.set_cons_succ]
          refine take_nth (i := 5) (v := ?_) (by repeat' (first | exact Nth.here _ | apply Nth.next)) (by kernel_rfl) (by kernel_rfl) (by kernel_rfl) (fun _ _ _ h => h) (Or.inl ⟨by rfl, ?_⟩) (by assumption) ?_; rotate_left; (intro w' hSw; (try dsimp only at hSw); (try obtain ⟨_, _, _⟩ := hSw); go_simp; try with_reducible rfl)
          try simp only [Act.put, List.setIfInBounds_toArray, List.set_cons_zero, List.set_cons_succ]
          refine take_nth (i := 6) (v := ?_) (by repeat' (first | exact Nth.here _ | apply Nth.next)) (by kernel_rfl) (by kernel_rfl) (by kernel_rfl) (fun _ _ _ h => h) (Or.inl ⟨by rfl, ?_⟩) (by assumption) ?_; rotate_left; (intro w' hSw; (try dsimp only at hSw); (try obtain ⟨_, _, _⟩ := hSw); go_simp; try with_reducible rfl)
          try simp only [Act.put, List.setIfInBounds_toArray, List.set_cons_zero, List.set_cons_succ]
          refine take_nth (i := 7) (v := ?_) (by repeat' (first | exact Nth.here _ | apply Nth.next)) (by kernel_rfl) (by kernel_rfl) (by kernel_rfl) (fun _ _ _ h => h) (Or.inl ⟨by rfl, ?_⟩) (by assumption) ?_; rotate_left; (intro w' hSw; (try dsimp only at hSw); (try obtain ⟨_, _, _⟩ := hSw); go_simp; try with_reducible rfl)
          try simp only [Act.put, List.setIfInBounds_toArray, List.set_cons_zero, List.set_cons_succ]
          refine wpAnyH_ready (rs := [8]) (by kernel_rfl) (by simp) ?_
          refine cons_nth (by repeat' (first | exact Nth.here _ | apply Nth.next)) (fun K hK => ?_) AllReadyH.nil
          go_simp
          refine (HEQ.out _ _ HL2.out (by (with_reducible repeat (first | apply Kd.S_alloc | apply Kd.S_drewN | apply Kd.S_drew)); exact HS9.out) (by (with_reducible repeat (first | apply Kd.R_alloc | apply Kd.R_drewN | apply Kd.R_drew)); exact HW9.out)).mono ?_
          rintro e w14 ⟨rfl, hb14⟩
          go_wp2_with fail
          have hh := below_step hHeld hb14
          clear hHeld
          refine hK.out _ _ hh (fun hHeld => ?_)
          clear hK K hh hb14
          try simp only [Act.put, List.setIfInBounds_toArray, List.set_cons_zero, List.set_cons_succ]
          refine take_nth (i := 9) (v := ?_) (by repeat' (first | exact Nth.here _ | apply Nth.next)) (by kernel_rfl) (by kernel_rfl) (by kernel_rfl) (fun _ _ _ h => h) (Or.inl ⟨by rfl, ?_⟩) (by assumption) ?_; rotate_left; (intro w' hSw; (try dsimp only at hSw); (try obtain ⟨_, _, _⟩ := hSw); go_simp; try with_reducible rfl)
          try simp only [Act.put, List.setIfInBounds_toArray, List.set_cons_zero, List.set_cons_succ]
          refine wpAnyH_done (by kernel_rfl) ?_ _
          refine NoPanic.normal ?_
          have HH := Aside0.mk hHeld
          clear hHeld
          go_wp2_with fail
          go_roundg k1
          case measure => clear wi wi2; omega
          case rel => clear wi wi2; exact ⟨i + 1, L.set i none, congrArg (Value.int .i64) HJI.out, ⟨by have := HI.out; omega⟩, HL2, ⟨Kd.S_below HS9.out (by repeat (first | (with_reducible first | exact HH.out | apply below_alloc | apply pw_below_drewN | apply below_drew1) | exact HH.out))⟩, ⟨Kd.R_below HW9.out (by repeat (first | (with_reducible first | exact HH.out | apply below_alloc | apply pw_below_drewN | apply below_drew1) | exact HH.out))⟩, ⟨Nat.le_trans HZ9.out (below_size (by repeat (first | (with_reducible first | exact HH.out | apply below_alloc | apply pw_below_drewN | apply below_drew1) | exact HH.out)))⟩, ⟨below_step HB9.out (by repeat (first | (with_reducible first | exact HH.out | apply below_alloc | apply pw_below_drewN | apply below_drew1) | exact HH.out))⟩⟩
        | succ k2 =>
          have hk : k < q := by have := HK.out; omega
          obtain ⟨p, hp⟩ : ∃ p, s[k]? = some p := ⟨_, List.getElem?_eq_getElem (by have := HQ.out; omega)⟩
          have hrl : row.length = q := by rw [HP.out.1, HQ.out]
          have hrp : row[k]? = some (some p) := by rw [HP.out.2 k (Nat.le_refl _), hp]; rfl
          have HPL := Aside0.mk (show p.f2.length ≤ 8192 from HSI.out.2 p (List.mem_of_getElem? hp))
          obtain ⟨gi, rc, okk, dv, hx, hz, hrc, hD, hokk, hgive⟩ := lend2 HS.out HHI.out HLI2.out (by omega) hrp
          rw [hrl] at hx hrc
          obtain ⟨DA, dc, rfl⟩ := Kd.R_slice hD
          have ck : decide ((k : Int) < (q : Int)) = true := decide_eq_true (by omega)
          have ck2 : decide (k < q) = true := decide_eq_true hk
          have ck3 : (k < q) = True := eq_true hk
          have b2 := eq_true (show 0 ≤ (k : Int) by omega)
          have b3 := eq_true (show (k : Int) < (q : Int) by omega)
          have HX := Aside0.mk hx
          have HZD := Aside0.mk hz
          have HRC := Aside0.mk hrc
          have HDD := Aside0.mk hD
          have HOK := Aside0.mk hokk
          have HG := Aside0.mk hgive
          have HPK := Aside0.mk hp
          have HKQ := Aside0.mk hk
          have HRL := Aside0.mk hrl
          have HBR := Aside0.mk (Below.refl wr.heap.size wr)
          clear hk hp hrl hrp hrc hD hokk hgive HS
          go_wp2_with (first | ((with_reducible refine gate_dst (N := 62) rfl ?_); refine Kd.R_lit (Kd.int .u8) _ 5 ?hg (N := 62) ?hd (xs := ([1, 2, 3] : List Int)) (inner := [.int .u8 1, .int .u8 2, .int .u8 3]) (ok := fun _ => True) (okp := fun _ => True) ?hr ?hp (fun _ hk => hk) trivial (Below.refl _ _) (Nat.le_refl _) (by simp) ?_; (case hd => rfl); (case hg => rfl); (case hr => first | (go_simp; done) | (go_simp; rfl)); (case hp => exact (Reps.one (show Kd.M (Kd.int .u8) _ _ _ 1 [.int .u8 1] from rfl) (Reps.one (show Kd.M (Kd.int .u8) _ _ _ 2 [.int .u8 2] from rfl) (Reps.one (show Kd.M (Kd.int .u8) _ _ _ 3 [.int .u8 3] from rfl) (Reps.none _ _))))); intro v62 w6 ho6 hb6 hg6 hnew6; obtain ⟨gl, cl, rfl, _, _, _⟩ := Kd.R_form ho6 (by decide); clear hg6 hnew6; have HL6 := Aside0.mk ho6; have n1_ := Aside0.mk (below_step (by repeat (first | (with_reducible first | exact HBR.out | apply below_alloc | apply pw_below_drewN | apply below_drew1) | exact HBR.out)) hb6); clear HBR; have HBR := n1_; clear n1_ hb6 ho6) | ((with_reducible refine gate_builtin (b := .append) (xs := #[.tmp 61, .tmp 62]) rfl ?_); at_builtin; refine append_kept (w0 := w) w.heap.size rfl (.tmp 61) (.tmp 62) 22 5 (.int .u8 0) 1 1 rfl Tryz.underlying22 info5 rfl (by decide) (by omega) (.slice DA p.f2.length dc) p.f2.length (encs (Value.int .u8) p.f2) ⟨gl, 0, none⟩ 3 cl (encs (Value.int .u8) [1, 2, 3]) rfl rfl ?aO rfl ?aN ?a1 (by omega) ?aB ?aS ?aM ?_; (case aO => exact Kd.own_of_R (by (with_reducible repeat (first | apply Kd.R_alloc | apply Kd.R_drewN | apply Kd.R_drew)); exact (Kd.R_below HDD.out HBR.out))); (case aN => exact (Kd.own_of_R (by (with_reducible repeat (first | apply Kd.R_alloc | apply Kd.R_drewN | apply Kd.R_drew)); exact HL6.out)).cells (g := gl) rfl); (case a1 => intro u hu; simp only [encs, List.map_cons, List.map_nil, List.mem_cons, List.not_mem_nil, or_false] at hu; rcases hu with rfl | rfl | rfl <;> rfl); (case aB => exact (below_step HB.out (by repeat (first | (with_reducible first | exact HBR.out | apply below_alloc | apply pw_below_drewN | apply below_drew1) | exact HBR.out)))); (case aS => exact below_size (below_step HB.out (by repeat (first | (with_reducible first | exact HBR.out | apply below_alloc | apply pw_below_drewN | apply below_drew1) | exact HBR.out)))); (case aM => have := HPL.out; omega); intro g1 cap1 w7 hq1 hq2 hq3 hb7; have KC := Aside0.mk (spoil_app (w0 := w) (ok := okk) [1, 2, 3] (by have := HPL.out; show p.f2.length + 3 ≤ 1000000; omega) (by (with_reducible repeat (first | apply Kd.R_alloc | apply Kd.R_drewN | apply Kd.R_drew)); exact (Kd.R_below HDD.out HBR.out)) hq1 hq2 hq3 hb7); have KB := Aside0.mk (by repeat (first | (with_reducible first | exact HBR.out | apply below_alloc | apply pw_below_drewN | apply below_drew1) | exact HBR.out)); clear hq1 hq2 hq3 HL6))
          refine KC.out.mono ?_
          rintro e w8 ⟨rfl, ⟨d1, hd1, hR1⟩, hb8, hk8⟩
          have hkk : Kept wr w8 okk := Kept.then_ (Kept.of_below KB.out _) hk8 (fun j hj => .inl (HDD.out.1 j hj.symm))
          have hx8 : w8.cell? ⟨g, i, none⟩ = some (.slice (some ⟨gi, 0, none⟩) q rc) := cell_kept hkk HX.out (fun h => (HOK.out _ h).2.1 rfl)
          have hz8 : w8.cell? ⟨gi, k * 3 + 2, none⟩ = some (.slice DA p.f2.length dc) := cell_kept hkk HZD.out (fun h => (HOK.out _ h).2.2 rfl)
          have HR1 := Aside0.mk hR1
          have HD1 := Aside0.mk hd1
          have HB8 := Aside0.mk hb8
          have HKK := Aside0.mk hkk
          clear hR1 hd1 hb8 hkk hk8 KC KB HBR hx hz
          go_wp2_with fail
          refine (spoil_own (.slice DA p.f2.length dc) d1 w _ okk (by have := HD1.out; have := HPL.out; omega) (by repeat (first | (with_reducible first | exact HB8.out | apply below_alloc | apply pw_below_drewN | apply below_drew1) | exact HB8.out)) (by (with_reducible repeat (first | apply Kd.R_alloc | apply Kd.R_drewN | apply Kd.R_drew)); exact HR1.out)).mono ?_
          rintro e w9 ⟨rfl, _, hb9, hk9⟩
          have hkk : Kept wr w9 okk := Kept.then_ (Kept.below HKK.out (by repeat (first | (with_reducible first | exact (Below.refl w8.heap.size w8) | apply below_alloc | apply pw_below_drewN | apply below_drew1) | exact (Below.refl w8.heap.size w8)))) hk9 (fun j hj => .inl (HDD.out.1 j hj.symm))
          have HS9 : Aside0 (Kd.S kS 62 w9 w.heap.size (fun k => N0 ≤ k ∧ k < N1) (.slice (some ⟨g, 0, none⟩) n.length nc) (L.set i (some (row.set k none)))) := ⟨by have h := HG.out w9 hkk; rwa [List.set_set] at h⟩
          have HW9 := Aside0.mk (Kd.R_kept HW.out hkk (fun j h1 h2 => by have := (HOK.out j h2).1; omega))
          have HZ9 := Aside0.mk (Nat.le_trans HZ.out hkk.1)
          have hx9 : w9.cell? ⟨g, i, none⟩ = some (.slice (some ⟨gi, 0, none⟩) q rc) := cell_kept hkk HX.out (fun h => (HOK.out _ h).2.1 rfl)
          have HX9 := Aside0.mk hx9
          have HB9 := Aside0.mk hb9
          have HP2 : Aside0 (LeftP (row.set k none) s (k + 1)) := ⟨by rw [List.length_set]; exact HP.out.1, fun j hj => by rw [List.getElem?_set, if_neg (by omega)]; exact HP.out.2 j (by omega)⟩
          have HL2 : Aside0 (LeftN (L.set i (some (row.set k none))) n (i + 1)) := ⟨by rw [List.length_set]; exact HLL.out.1, fun j hj => by rw [List.getElem?_set, if_neg (by omega)]; exact HLL.out.2 j (by omega)⟩
          obtain ⟨_, v9, hR9, hc9, _⟩ := lend_row HS9.out HHI.out (by rw [List.getElem?_set, if_pos rfl, if_pos (by rw [HLL.out.1]; exact HHI.out)] : (L.set i (some (row.set k none)))[i]? = some (some (row.set k none)))
          obtain rfl : v9 = .slice (some ⟨gi, 0, none⟩) q rc := Option.some.inj (hc9.symm.trans hx9)
          have hP9 := left_parts (Kd.S_reads' hR9).2.2 (c := rc) (by have := HP2.out.1; have := HRC.out; have := HQ.out; omega) HP2.out (by have := HP2.out.1; have := HKQ.out; have := HQ.out; omega)
          obtain ⟨ad, SA, sc, e_, hy9, hsc, hC9⟩ := at_L5 (Kd.R_reads' HW9.out).2.2 (i : Int) (by omega) (by have := HHI.out; omega)
          injection e_ with e_
          subst e_
          have hsd : rd_L5 n (i : Int) = s := getD_at (by rw [Int.toNat_natCast]; exact HSN.out)
          rw [hsd, Int.toNat_natCast, add_plain, ← HQ.out] at hy9
          rw [hsd] at hsc hC9
          have hQ9 := Kd.C_drop (k := k64) (m := k + 1) (c := sc) hC9 (by have := HKQ.out; have := HQ.out; omega) hsc
          rw [show k64.sz = 3 from rfl] at hQ9
          obtain ⟨jk, hjk⟩ : ∃ j : Int, j = ((k + 1 : Nat) : Int) := ⟨_, rfl⟩
          have HJK := Aside0.mk hjk
          have hjn : jk.toNat = k + 1 := by omega
          have hcutR := cut_from (P := Tryz.prog) 62 64 .i64 Tryz.underlying62 HI64.out 3 HS64.out (some ⟨gi, 0, none⟩) q rc jk (by omega) (by have := HKQ.out; omega)
          have hcutS := cut_from (P := Tryz.prog) 62 64 .i64 Tryz.underlying62 HI64.out 3 HS64.out SA q sc jk (by omega) (by have := HKQ.out; omega)
          rw [hjn] at hcutR hcutS
          obtain ⟨RB, hRB⟩ : ∃ B, B = (if rc = k + 1 then some (⟨gi, 0, none⟩ : Addr) else (some (⟨gi, 0, none⟩ : Addr)).map (·.add ((k + 1) * 3))) := ⟨_, rfl⟩
          obtain ⟨SB, hSB⟩ : ∃ B, B = (if sc = k + 1 then SA else SA.map (·.add ((k + 1) * 3))) := ⟨_, rfl⟩
          obtain ⟨q1, hq1⟩ : ∃ m, m = q - (k + 1) := ⟨_, rfl⟩
          obtain ⟨rd1, hrd1⟩ : ∃ m, m = rc - (k + 1) := ⟨_, rfl⟩
          obtain ⟨sd1, hsd1⟩ : ∃ m, m = sc - (k + 1) := ⟨_, rfl⟩
          rw [← hRB, ← hq1, ← hrd1] at hcutR
          rw [← hSB, ← hq1, ← hsd1] at hcutS
          have hdl : (s.drop (k + 1)).length = q1 := by rw [List.length_drop, hq1, HQ.out]
          rw [← hRB, ← HQ.out, ← hq1] at hP9
          rw [← hSB, hdl] at hQ9
          have hEq2 : ∀ (W' : World) (x y : Nat) (f1 f2 : Nat × Nat), Below w9.heap.size w9 W' → W'.heap[x]? = some (.cells #[.slice RB q1 rd1] 62 f1) → W'.heap[y]? = some (.cells #[.slice SB q1 sd1] 62 f2) → Calls Tryz.prog 32 #[.slice (some ⟨x, 0, none⟩) 1 1, .slice (some ⟨y, 0, none⟩) 1 1] W' fun e w2 => e = .returned (.bool true) ∧ Below W'.heap.size W' w2 := by
            intro W' x y f1 f2 h1 h2 h3
            have hA := C_row1 (Kd.slice 64 k64) (x := s.drop (k + 1)) (cs := [.slice RB q1 rd1]) (more := []) ⟨RB, rd1, by rw [hdl], by rw [hdl]; have := HRC.out; omega, by rw [hdl]; exact Kd.C_below hP9 h1⟩ h2
            have hB := C_row1 (Kd.slice 64 k64) (x := s.drop (k + 1)) (cs := [.slice SB q1 sd1]) (more := []) ⟨SB, sd1, by rw [hdl], by rw [hdl]; have := HQ.out; omega, by rw [hdl]; exact Kd.C_below hQ9 h1⟩ h3
            exact equal_same W' _ _ 1 1 [s.drop (k + 1)] hA hB (Nat.le_of_ble_eq_true rfl) (fun t ht => by rw [List.mem_singleton.1 ht]; exact ⟨by rw [hdl]; have := HSI.out.1; have := HQ.out; omega, fun p hp => HSI.out.2 p (List.mem_of_mem_drop hp)⟩) (fun t ht p hp => by rw [List.mem_singleton.1 ht] at hp; exact HSBI.out p (List.mem_of_mem_drop hp))
          have HEQ2 := Aside0.mk hEq2
          have wk2 : wrap64 ((k : Int) + 1) = jk := by have := HJK.out; unfold wrap64; have := HKQ.out; have := HQ.out; have := HSI.out.1; omega
          have wk : IntKind.i64.wrap ((k : Int) + 1) = jk := (i64_w _).trans wk2
          have wi := HWI.out
          have wi2 := HWI2.out
          clear hEq2 hjk hjn hk9 hb9 hkk HX HZD HDD HG HR1 HD1 HB8 HKK hx8 hz8 HB HW HZ hR9 hc9 hP9 hQ9 hsc hC9 hsd hRB hSB hq1 hrd1 hsd1 hdl
          go_wp2_with fail
          refine wp_region_noPanic ?_
          refine wp_region_held_drew (S := fun W' => Below w9.heap.size w9 W' ∧ W'.cell? ⟨g, i, none⟩ = some (.slice (some ⟨gi, 0, none⟩) q rc) ∧ W'.cell? ⟨gw, i, none⟩ = some (.slice SA q sc)) (by kernel_rfl) ⟨below_drew1 (Below.refl _ _), hx9, hy9⟩ (fun hHeld => ?_)
          clear hx9 hy9
          refine take_nth (i := 0) (v := ?_) (by repeat' (first | exact Nth.here _ | apply Nth.next)) (by kernel_rfl) (by kernel_rfl) (by kernel_rfl) (fun _ _ _ h => h) (Or.inl ⟨by rfl, ?_⟩) (by assumption) ?_; rotate_left; (intro w' hSw; (try dsimp only at hSw); (try obtain ⟨_, _, _⟩ := hSw); go_simp; try with_reducible rfl)
          try simp only [Act.put, List.setIfInBounds_toArray, List.set_cons_zero, List.set_cons_succ]
          refine take_nth (i := 1) (v := ?_) (by repeat' (first | exact Nth.here _ | apply Nth.next)) (by kernel_rfl) (by kernel_rfl) (by kernel_rfl) (fun _ _ _ h => h) (Or.inl ⟨by rfl, ?_⟩) (by assumption) ?_; rotate_left; (intro w' hSw; (try dsimp only at hSw); (try obtain ⟨_, _, _⟩ := hSw); go_simp; try with_reducible rfl)
          try simp only [Act.put, List.setIfInBounds_toArray, List.set_cons_zero, List.set_cons_succ]
          refine take_nth (i := 2) (v := ?_) (by repeat' (first | exact Nth.here _ | apply Nth.next)) (by kernel_rfl) (by kernel_rfl) (by kernel_rfl) (fun _ _ _ h => h) (Or.inl ⟨by rfl, ?_⟩) (by assumption) ?_; rotate_left; (intro w' hSw; (try dsimp only at hSw); (try obtain ⟨_, _, _⟩ := hSw); go_simp; try with_reducible rfl)
          try simp only [Act.put, List.setIfInBounds_toArray, List.set_cons_zero, List.set_cons_succ]
          refine take_nth (i := 3) (v := ?_) (by repeat' (first | exact Nth.here _ | apply Nth.next)) (by kernel_rfl) (by kernel_rfl) (by kernel_rfl) (fun _ _ _ h => h) (Or.inl ⟨by rfl, ?_⟩) (by assumption) ?_; rotate_left; (intro w' hSw; (try dsimp only at hSw); (try obtain ⟨_, _, _⟩ := hSw); go_simp; try with_reducible rfl)
          try simp only [Act.put, List.setIfInBounds_toArray, List.set_cons_zero, List.set_cons_succ]
          refine take_nth (i := 4) (v := ?_) (by repeat' (first | exact Nth.here _ | apply Nth.next)) (by kernel_rfl) (by kernel_rfl) (by kernel_rfl) (fun _ _ _ h => h) (Or.inl ⟨by rfl, ?_⟩) (by assumption) ?_; rotate_left; (intro w' hSw; (try dsimp only at hSw); (try obtain ⟨_, _, _⟩ := hSw); go_simp; try with_reducible rfl)
          try simp only [Act.put, List.setIfInBounds_toArray, List.set_cons_zero, List.set_cons_succ]
          refine take_nth (i := 5) (v := ?_) (by repeat' (first | exact Nth.here _ | apply Nth.next)) (by kernel_rfl) (by kernel_rfl) (by kernel_rfl) (fun _ _ _ h => h) (Or.inl ⟨by rfl, ?_⟩) (by assumption) ?_; rotate_left; (intro w' hSw; (try dsimp only at hSw); (try obtain ⟨_, _, _⟩ := hSw); go_simp; try with_reducible rfl)
          try simp only [Act.put, List.setIfInBounds_toArray, List.set_cons_zero, List.set_cons_succ]
          refine take_nth (i := 6) (v := ?_) (by repeat' (first | exact Nth.here _ | apply Nth.next)) (by kernel_rfl) (by kernel_rfl) (by kernel_rfl) (fun _ _ _ h => h) (Or.inl ⟨by rfl, ?_⟩) (by assumption) ?_; rotate_left; (intro w' hSw; (try dsimp only at hSw); (try obtain ⟨_, _, _⟩ := hSw); go_simp; try with_reducible rfl)
          try simp only [Act.put, List.setIfInBounds_toArray, List.set_cons_zero, List.set_cons_succ]
          refine take_nth (i := 7) (v := ?_) (by repeat' (first | exact Nth.here _ | apply Nth.next)) (by kernel_rfl) (by kernel_rfl) (by kernel_rfl) (fun _ _ _ h => h) (Or.inl ⟨by rfl, ?_⟩) (by assumption) ?_; rotate_left; (intro w' hSw; (try dsimp only at hSw); (try obtain ⟨_, _, _⟩ := hSw); go_simp; try with_reducible rfl)
          try simp only [Act.put, List.setIfInBounds_toArray, List.set_cons_zero, List.set_cons_succ]
          refine wpAnyH_ready (rs := [8]) (by kernel_rfl) (by simp) ?_
          refine cons_nth (by repeat' (first | exact Nth.here _ | apply Nth.next)) (fun K hK => ?_) AllReadyH.nil
          go_simp
          obtain ⟨hB_, hx_, hy_⟩ := hHeld
          refine (HEQ.out _ _ HL2.out (Kd.S_below HS9.out hB_) (Kd.R_below HW9.out hB_)).mono ?_
          rintro e w14 ⟨rfl, hb14⟩
          go_wp2_with fail
          refine hK.out _ _ ⟨below_step hB_ hb14, below_cell hb14 hx_, below_cell hb14 hy_⟩ (fun hHeld => ?_)
          clear hK K hB_ hx_ hy_ hb14
          try simp only [Act.put, List.setIfInBounds_toArray, List.set_cons_zero, List.set_cons_succ]
          refine take_nth (i := 9) (v := ?_) (by repeat' (first | exact Nth.here _ | apply Nth.next)) (by kernel_rfl) (by kernel_rfl) (by kernel_rfl) (fun _ _ _ h => h) (Or.inl ⟨by rfl, ?_⟩) (by assumption) ?_; rotate_left; (intro w' hSw; (try dsimp only at hSw); (try obtain ⟨_, _, _⟩ := hSw); go_simp; try with_reducible rfl)
          try simp only [Act.put, List.setIfInBounds_toArray, List.set_cons_zero, List.set_cons_succ]
          refine take_nth (i := 10) (v := ?_) (by repeat' (first | exact Nth.here _ | apply Nth.next)) (by kernel_rfl) (by kernel_rfl) (by kernel_rfl) (fun _ _ _ h => h) (Or.inl ⟨by rfl, ?_⟩) (by assumption) ?_; rotate_left; (intro w' hSw; (try dsimp only at hSw); (try obtain ⟨_, _, _⟩ := hSw); go_simp; try with_reducible rfl)
          try simp only [Act.put, List.setIfInBounds_toArray, List.set_cons_zero, List.set_cons_succ]
          refine take_nth (i := 11) (v := ?_) (by repeat' (first | exact Nth.here _ | apply Nth.next)) (by kernel_rfl) (by kernel_rfl) (by kernel_rfl) (fun _ _ _ h => h) (Or.inl ⟨by rfl, ?_⟩) (by assumption) ?_; rotate_left; (intro w' hSw; (try dsimp only at hSw); (try obtain ⟨_, _, _⟩ := hSw); go_simp; try with_reducible rfl)
          try simp only [Act.put, List.setIfInBounds_toArray, List.set_cons_zero, List.set_cons_succ]
          refine take_nth (i := 12) (v := ?_) (by repeat' (first | exact Nth.here _ | apply Nth.next)) (by kernel_rfl) (by kernel_rfl) (by kernel_rfl) (fun _ _ _ h => h) (Or.inl ⟨by rfl, ?_⟩) (by assumption) ?_; rotate_left; (intro w' hSw; (try dsimp only at hSw); (try obtain ⟨_, _, _⟩ := hSw); go_simp; try with_reducible rfl)
          try simp only [Act.put, List.setIfInBounds_toArray, List.set_cons_zero, List.set_cons_succ]
          refine take_nth (i := 13) (v := ?_) (by repeat' (first | exact Nth.here _ | apply Nth.next)) (by kernel_rfl) (by kernel_rfl) (by kernel_rfl) (fun _ _ _ h => h) (Or.inl ⟨by rfl, ?_⟩) (by assumption) ?_; rotate_left; (intro w' hSw; (try dsimp only at hSw); (try obtain ⟨_, _, _⟩ := hSw); go_simp; try with_reducible rfl)
          try simp only [Act.put, List.setIfInBounds_toArray, List.set_cons_zero, List.set_cons_succ]
          refine take_nth (i := 14) (v := ?_) (by repeat' (first | exact Nth.here _ | apply Nth.next)) (by kernel_rfl) (by kernel_rfl) (by kernel_rfl) (fun _ _ _ h => h) (Or.inl ⟨by rfl, ?_⟩) (by assumption) ?_; rotate_left; (intro w' hSw; (try dsimp only at hSw); (try obtain ⟨_, _, _⟩ := hSw); go_simp; try with_reducible rfl)
          try simp only [Act.put, List.setIfInBounds_toArray, List.set_cons_zero, List.set_cons_succ]
          refine take_nth (i := 15) (v := ?_) (by repeat' (first | exact Nth.here _ | apply Nth.next)) (by kernel_rfl) (by kernel_rfl) (by kernel_rfl) (fun _ _ _ h => h) (Or.inl ⟨by rfl, ?_⟩) (by assumption) ?_; rotate_left; (intro w' hSw; (try dsimp only at hSw); (try obtain ⟨_, _, _⟩ := hSw); go_simp; try with_reducible rfl)
          try simp only [Act.put, List.setIfInBounds_toArray, List.set_cons_zero, List.set_cons_succ]
          refine take_nth (i := 16) (v := ?_) (by repeat' (first | exact Nth.here _ | apply Nth.next)) (by kernel_rfl) (by kernel_rfl) (by kernel_rfl) (fun _ _ _ h => h) (Or.inl ⟨by rfl, ?_⟩) (by assumption) ?_; rotate_left; (intro w' hSw; (try dsimp only at hSw); (try obtain ⟨_, _, _⟩ := hSw); go_simp; try with_reducible rfl)
          try simp only [Act.put, List.setIfInBounds_toArray, List.set_cons_zero, List.set_cons_succ]
          refine take_nth (i := 17) (v := ?_) (by repeat' (first | exact Nth.here _ | apply Nth.next)) (by kernel_rfl) (by kernel_rfl) (by kernel_rfl) (fun _ _ _ h => h) (Or.inl ⟨by rfl, ?_⟩) (by assumption) ?_; rotate_left; (intro w' hSw; (try dsimp only at hSw); (try obtain ⟨_, _, _⟩ := hSw); go_simp; try with_reducible rfl)
          try simp only [Act.put, List.setIfInBounds_toArray, List.set_cons_zero, List.set_cons_succ]
          refine take_nth (i := 19) (v := ?_) (by repeat' (first | exact Nth.here _ | apply Nth.next)) (by kernel_rfl) (by kernel_rfl) (by kernel_rfl) (fun _ _ _ h => h) (Or.inl ⟨by rfl, ?_⟩) (by assumption) ?_; rotate_left; (intro w' hSw; (try dsimp only at hSw); (try obtain ⟨_, _, _⟩ := hSw); go_simp; try with_reducible rfl)
          try simp only [Act.put, List.setIfInBounds_toArray, List.set_cons_zero, List.set_cons_succ]
          refine take_nth (i := 20) (v := ?_) (by repeat' (first | exact Nth.here _ | apply Nth.next)) (by kernel_rfl) (by kernel_rfl) (by kernel_rfl) (fun _ _ _ h => h) (Or.inl ⟨by rfl, ?_⟩) (by assumption) ?_; rotate_left; (intro w' hSw; (try dsimp only at hSw); (try obtain ⟨_, _, _⟩ := hSw); go_simp; try with_reducible rfl)
          try simp only [Act.put, List.setIfInBounds_toArray, List.set_cons_zero, List.set_cons_succ]
          refine take_nth (i := 21) (v := ?_) (by repeat' (first | exact Nth.here _ | apply Nth.next)) (by kernel_rfl) (by kernel_rfl) (by kernel_rfl) (fun _ _ _ h => h) (Or.inl ⟨by rfl, ?_⟩) (by assumption) ?_; rotate_left; (intro w' hSw; (try dsimp only at hSw); (try obtain ⟨_, _, _⟩ := hSw); go_simp; try with_reducible rfl)
          try simp only [Act.put, List.setIfInBounds_toArray, List.set_cons_zero, List.set_cons_succ]
          refine take_nth (i := 22) (v := ?_) (by repeat' (first | exact Nth.here _ | apply Nth.next)) (by kernel_rfl) (by kernel_rfl) (by kernel_rfl) (fun _ _ _ h => h) (Or.inl ⟨by rfl, ?_⟩) (by assumption) ?_; rotate_left; (intro w' hSw; (try dsimp only at hSw); (try obtain ⟨_, _, _⟩ := hSw); go_simp; try with_reducible rfl)
          try simp only [Act.put, List.setIfInBounds_toArray, List.set_cons_zero, List.set_cons_succ]
          refine take_nth (i := 23) (v := ?_) (by repeat' (first | exact Nth.here _ | apply Nth.next)) (by kernel_rfl) (by kernel_rfl) (by kernel_rfl) (fun _ _ _ h => h) (Or.inl ⟨by rfl, ?_⟩) (by assumption) ?_; rotate_left; (intro w' hSw; (try dsimp only at hSw); (try obtain ⟨_, _, _⟩ := hSw); go_simp; try with_reducible rfl)
          try simp only [Act.put, List.setIfInBounds_toArray, List.set_cons_zero, List.set_cons_succ]
          refine take_nth (i := 24) (v := ?_) (by repeat' (first | exact Nth.here _ | apply Nth.next)) (by kernel_rfl) (by kernel_rfl) (by kernel_rfl) (fun _ _ _ h => h) (Or.inl ⟨by rfl, ?_⟩) (by assumption) ?_; rotate_left; (intro w' hSw; (try dsimp only at hSw); (try obtain ⟨_, _, _⟩ := hSw); go_simp; try with_reducible rfl)
          try simp only [Act.put, List.setIfInBounds_toArray, List.set_cons_zero, List.set_cons_succ]
          refine take_nth (i := 25) (v := ?_) (by repeat' (first | exact Nth.here _ | apply Nth.next)) (by kernel_rfl) (by kernel_rfl) (by kernel_rfl) (fun _ _ _ h => h) (Or.inl ⟨by rfl, ?_⟩) (by assumption) ?_; rotate_left; (intro w' hSw; (try dsimp only at hSw); (try obtain ⟨_, _, _⟩ := hSw); go_simp; try with_reducible rfl)
          try simp only [Act.put, List.setIfInBounds_toArray, List.set_cons_zero, List.set_cons_succ]
          refine wpAnyH_ready (rs := [18, 26]) (by kernel_rfl) (by simp) ?_
          refine cons_nth (by repeat' (first | exact Nth.here _ | apply Nth.next)) (fun K hK => ?_) (cons_nth (by repeat' (first | exact Nth.here _ | apply Nth.next)) (fun K hK => ?_) AllReadyH.nil)
          · skip
            go_simp
            obtain ⟨hB_, hx_, hy_⟩ := hHeld
            refine hK.out _ _ ⟨below_alloc hB_ _, old1z hx_ _, old1z hy_ _⟩ (fun hHeld => ?_)
            clear hK K hB_ hx_ hy_
            try simp only [Act.put, List.setIfInBounds_toArray, List.set_cons_zero, List.set_cons_succ]
            refine wpAnyH_ready (rs := [26]) (by kernel_rfl) (by simp) ?_
            refine cons_nth (by repeat' (first | exact Nth.here _ | apply Nth.next)) (fun K hK => ?_) AllReadyH.nil
            go_simp
            obtain ⟨hB_, hx_, hy_⟩ := hHeld
            refine hK.out _ _ ⟨below_alloc hB_ _, old1z hx_ _, old1z hy_ _⟩ (fun hHeld => ?_)
            clear hK K hB_ hx_ hy_
            try simp only [Act.put, List.setIfInBounds_toArray, List.set_cons_zero, List.set_cons_succ]
            refine wpAnyH_ready (rs := [27]) (by kernel_rfl) (by simp) ?_
            refine cons_nth (by repeat' (first | exact Nth.here _ | apply Nth.next)) (fun K hK => ?_) AllReadyH.nil
            go_simp
            obtain ⟨hB_, hx_, hy_⟩ := hHeld
            refine (HEQ2.out _ _ _ _ _ hB_ (two_first _ _ _) (two_second _ _ _)).mono ?_
            rintro e w14 ⟨rfl, hb14⟩
            go_wp2_with fail
            refine hK.out _ _ ⟨below_step hB_ hb14, below_cell hb14 hx_, below_cell hb14 hy_⟩ (fun hHeld => ?_)
            clear hK K hB_ hx_ hy_ hb14
            try simp only [Act.put, List.setIfInBounds_toArray, List.set_cons_zero, List.set_cons_succ]
            refine take_nth (i := 28) (v := ?_) (by repeat' (first | exact Nth.here _ | apply Nth.next)) (by kernel_rfl) (by kernel_rfl) (by kernel_rfl) (fun _ _ _ h => h) (Or.inl ⟨by rfl, ?_⟩) (by assumption) ?_; rotate_left; (intro w' hSw; (try dsimp only at hSw); (try obtain ⟨_, _, _⟩ := hSw); go_simp; try with_reducible rfl)
            try simp only [Act.put, List.setIfInBounds_toArray, List.set_cons_zero, List.set_cons_succ]
            refine take_nth (i := 29) (v := ?_) (by repeat' (first | exact Nth.here _ | apply Nth.next)) (by kernel_rfl) (by kernel_rfl) (by kernel_rfl) (fun _ _ _ h => h) (Or.inl ⟨by rfl, ?_⟩) (by assumption) ?_; rotate_left; (intro w' hSw; (try dsimp only at hSw); (try obtain ⟨_, _, _⟩ := hSw); go_simp; try with_reducible rfl)
            try simp only [Act.put, List.setIfInBounds_toArray, List.set_cons_zero, List.set_cons_succ]
            refine wpAnyH_done (by kernel_rfl) ?_ _
            refine NoPanic.normal ?_
            have HH := Aside0.mk hHeld.1
            clear hHeld
            go_wp2_with fail
            go_roundg k2
            case measure => clear wi wi2 wk wk2; omega
            case rel => clear wi wi2 wk wk2; exact ⟨k + 1, row.set k none, congrArg (Value.int .i64) HJK.out, ⟨by have := HK.out; omega⟩, HP2, ⟨Kd.S_below HS9.out (by repeat (first | (with_reducible first | exact HH.out | apply below_alloc | apply pw_below_drewN | apply below_drew1) | exact HH.out))⟩, ⟨Kd.R_below HW9.out (by repeat (first | (with_reducible first | exact HH.out | apply below_alloc | apply pw_below_drewN | apply below_drew1) | exact HH.out))⟩, ⟨Nat.le_trans HZ9.out (below_size (by repeat (first | (with_reducible first | exact HH.out | apply below_alloc | apply pw_below_drewN | apply below_drew1) | exact HH.out)))⟩, ⟨below_step HB9.out (by repeat (first | (with_reducible first | exact HH.out | apply below_alloc | apply pw_below_drewN | apply below_drew1) | exact HH.out))⟩⟩
          · skip
            go_simp
            obtain ⟨hB_, hx_, hy_⟩ := hHeld
            refine hK.out _ _ ⟨below_alloc hB_ _, old1z hx_ _, old1z hy_ _⟩ (fun hHeld => ?_)
            clear hK K hB_ hx_ hy_
            try simp only [Act.put, List.setIfInBounds_toArray, List.set_cons_zero, List.set_cons_succ]
            refine wpAnyH_ready (rs := [18]) (by kernel_rfl) (by simp) ?_
            refine cons_nth (by repeat' (first | exact Nth.here _ | apply Nth.next)) (fun K hK => ?_) AllReadyH.nil
            go_simp
            obtain ⟨hB_, hx_, hy_⟩ := hHeld
            refine hK.out _ _ ⟨below_alloc hB_ _, old1z hx_ _, old1z hy_ _⟩ (fun hHeld => ?_)
            clear hK K hB_ hx_ hy_
            try simp only [Act.put, List.setIfInBounds_toArray, List.set_cons_zero, List.set_cons_succ]
            refine wpAnyH_ready (rs := [27]) (by kernel_rfl) (by simp) ?_
            refine cons_nth (by repeat' (first | exact Nth.here _ | apply Nth.next)) (fun K hK => ?_) AllReadyH.nil
            go_simp
            obtain ⟨hB_, hx_, hy_⟩ := hHeld
            refine (HEQ2.out _ _ _ _ _ hB_ (two_second _ _ _) (two_first _ _ _)).mono ?_
            rintro e w14 ⟨rfl, hb14⟩
            go_wp2_with fail
            refine hK.out _ _ ⟨below_step hB_ hb14, below_cell hb14 hx_, below_cell hb14 hy_⟩ (fun hHeld => ?_)
            clear hK K hB_ hx_ hy_ hb14
            try simp only [Act.put, List.setIfInBounds_toArray, List.set_cons_zero, List.set_cons_succ]
            refine take_nth (i := 28) (v := ?_) (by repeat' (first | exact Nth.here _ | apply Nth.next)) (by kernel_rfl) (by kernel_rfl) (by kernel_rfl) (fun _ _ _ h => h) (Or.inl ⟨by rfl, ?_⟩) (by assumption) ?_; rotate_left; (intro w' hSw; (try dsimp only at hSw); (try obtain ⟨_, _, _⟩ := hSw); go_simp; try with_reducible rfl)
            try simp only [Act.put, List.setIfInBounds_toArray, List.set_cons_zero, List.set_cons_succ]
            refine take_nth (i := 29) (v := ?_) (by repeat' (first | exact Nth.here _ | apply Nth.next)) (by kernel_rfl) (by kernel_rfl) (by kernel_rfl) (fun _ _ _ h => h) (Or.inl ⟨by rfl, ?_⟩) (by assumption) ?_; rotate_left; (intro w' hSw; (try dsimp only at hSw); (try obtain ⟨_, _, _⟩ := hSw); go_simp; try with_reducible rfl)
            try simp only [Act.put, List.setIfInBounds_toArray, List.set_cons_zero, List.set_cons_succ]
            refine wpAnyH_done (by kernel_rfl) ?_ _
            refine NoPanic.normal ?_
            have HH := Aside0.mk hHeld.1
            clear hHeld
            go_wp2_with fail
            go_roundg k2
            case measure => clear wi wi2 wk wk2; omega
            case rel => clear wi wi2 wk wk2; exact ⟨k + 1, row.set k none, congrArg (Value.int .i64) HJK.out, ⟨by have := HK.out; omega⟩, HP2, ⟨Kd.S_below HS9.out (by repeat (first | (with_reducible first | exact HH.out | apply below_alloc | apply pw_below_drewN | apply below_drew1) | exact HH.out))⟩, ⟨Kd.R_below HW9.out (by repeat (first | (with_reducible first | exact HH.out | apply below_alloc | apply pw_below_drewN | apply below_drew1) | exact HH.out))⟩, ⟨Nat.le_trans HZ9.out (below_size (by repeat (first | (with_reducible first | exact HH.out | apply below_alloc | apply pw_below_drewN | apply below_drew1) | exact HH.out)))⟩, ⟨below_step HB9.out (by repeat (first | (with_reducible first | exact HH.out | apply below_alloc | apply pw_below_drewN | apply below_drew1) | exact HH.out))⟩⟩
set_option maxHeartbeats 16000000 in
set_option maxRecDepth 100000 in
theorem own_err (K : Nat) (A0 : Option Addr) (c0 : Nat) (l0 : List Int) (w : World) (e0 : Int) (hr0 : Kd.C (Kd.int .u8) w A0 l0.length l0) (hc0 : l0.length ≤ c0) (hl : l0.length ≤ 2000)
    (hp : name_Parse.f K l0 = some ([], e0)) (he : e0 ≠ 0) (hT : Tb w) (hD : Hd w)
    (cLive : ∀ w', Below w.heap.size w w' → Calls Tryz.prog 33 #[] w' fun e w2 => e = .returned (.bool true) ∧ Below w'.heap.size w' w2) :
    Calls Tryz.prog 11 #[.slice A0 l0.length c0] w fun e w' => e = .returned (.bool true) ∧ Below w.heap.size w w' := by
  have c2b0 : decide (2000 < (l0.length : Int)) = false := decide_eq_false (by omega)
  have c2b1 : decide (2000 < l0.length) = false := decide_eq_false (by omega)
  have N1 : (e0 == 0) = false := beq_eq_false_iff_ne.mpr he
  have N2 : (e0 != 0) = true := bne_iff_ne.mpr he
  have HR0 := Aside0.mk hr0
  have HC0 := Aside0.mk hc0
  have HL0 := Aside0.mk hl
  have HPA := Aside0.mk hp
  have HT := Aside0.mk hT
  have HD := Aside0.mk hD
  have CLive := Aside0.mk cLive
  have HB := Aside0.mk (Below.refl w.heap.size w)
  clear hr0 hc0 hl hp hT hD cLive he
  obtain ⟨y817, hy817⟩ : ∃ y_ : List Int, y_ = (([] : List Int)) := ⟨_, rfl⟩
  have Ny817 := Aside0.mk hy817
  have LMc2 : Aside0 (y817.length + l0.length < 140737488355328) := ⟨by rw [hy817, List.length_nil]; have := HL0.out; omega⟩
  obtain ⟨y820, hy820⟩ : ∃ y_ : List Int, y_ = (y817 ++ l0) := ⟨_, rfl⟩
  have Ny820 := Aside0.mk hy820
  have e820 := Aside0.mk (show y820 = l0 by rw [hy820, hy817, List.nil_append])
  clear hy817 hy820
  go_enter Tryz.func11, Tryz.ntmps11
  go_wp2_with (first | ((with_reducible refine gate_dst (N := 14) rfl ?_); refine Kd.R_lit (Kd.int .u8) _ 5 ?hg (N := 14) ?hd (xs := ([] : List Int)) (inner := []) (ok := fun _ => True) (okp := fun _ => True) ?hr ?hp (fun _ hk => hk) trivial (Below.refl _ _) (Nat.le_refl _) (by simp) ?_; (case hd => rfl); (case hg => rfl); (case hr => first | (go_simp; done) | (go_simp; rfl)); (case hp => exact (Reps.none _ _)); intro v818 w6 ho7 hb hg_ hnew_; clear hg_ hnew_; (first | rw [← Ny817.out] at ho7 | (simp only [Int.reduceToNat] at ho7; rw [← Ny817.out] at ho7)); have n0_ := Aside0.mk (Kd.R_lower ho7 (below_size (by repeat (first | (with_reducible first | exact HB.out | apply below_alloc | apply pw_below_drewN | apply below_drew1) | exact HB.out)))); have n1_ := Aside0.mk (below_step (by repeat (first | (with_reducible first | exact HB.out | apply below_alloc | apply pw_below_drewN | apply below_drew1) | exact HB.out)) hb); clear HB; have HO819 := n0_; have HB := n1_; clear n0_ n1_; clear hb ho7) | ((with_reducible refine gate_builtin (b := .append) (xs := #[.tmp 14, .tmp 15]) rfl ?_); at_builtin; refine Kd.R_append_rows (Kd.int .u8) (w0 := w) w.heap.size rfl (.tmp 14) (.tmp 15) 22 5 (.int .u8 0) 1 rfl Tryz.underlying22 info5 rfl (by decide) (by omega) v818 y817 l0 _ _ _ (fun _ => True) (fun _ => False) rfl rfl ?aO ?aR (fun _ _ h => h) (fun _ h => h.elim) ?aF ?aB ?aS ?aL ?_; (case aR => repeat (first | exact (Kd.C_below HR0.out HB.out) | (with_reducible refine Kd.C_alloc ?_ _) | (with_reducible refine Kd.C_drewN ?_ _) | (with_reducible refine Kd.C_drew ?_))); (case aB => exact (by repeat (first | (with_reducible first | exact HB.out | apply below_alloc | apply pw_below_drewN | apply below_drew1) | exact HB.out))); (case aF => exact (fun _ _ => trivial)); (case aO => exact (by (with_reducible repeat (first | apply Kd.R_alloc | apply Kd.R_drewN | apply Kd.R_drew)); exact HO819.out)); (case aS => exact (below_size (by repeat (first | (with_reducible first | exact HB.out | apply below_alloc | apply pw_below_drewN | apply below_drew1) | exact HB.out)))); (case aL => have := LMc2.out; omega); intro v821 w8 ho hb hg hat; rw [← Ny820.out, e820.out] at ho; have n0_ := Aside0.mk (hb); have n1_ := Aside0.mk (ho); clear HB; clear HO819; have HB := n0_; have HO822 := n1_; clear n0_ n1_; clear ho hb hg hat))
  obtain ⟨Ac, cc, rfl⟩ := Kd.R_slice HO822.out
  have HCr := Aside0.mk (Kd.R_reads' HO822.out)
  refine (name_Parse_sole K Ac cc l0 [] e0 _ HCr.out.2.2 HCr.out.2.1 HPA.out (Tb.below HT.out HB.out) (Hd.below HD.out HB.out)).mono ?_
  rintro e w9 ⟨v9, rfl, ho, hb⟩
  obtain ⟨NA, nc, rfl⟩ := Kd.S_slice ho
  have HBn := Aside0.mk (below_step HB.out hb)
  clear HB HO822 HCr ho hb
  have HB := HBn
  clear HBn
  go_wp2_with fail
  refine (chirographlaw07_num.calls e0 e0 _ rfl).mono ?_
  rintro e w10 ⟨rfl, ⟨n1, rfl⟩⟩
  go_wp2_with fail
  refine (CLive.out _ (by repeat (first | (with_reducible first | exact HB.out | apply below_alloc | apply pw_below_drewN | apply below_drew1) | exact HB.out))).mono ?_
  rintro e w14 ⟨rfl, hb⟩
  have HBn := Aside0.mk (below_step (by repeat (first | (with_reducible first | exact HB.out | apply below_alloc | apply pw_below_drewN | apply below_drew1) | exact HB.out)) hb)
  clear hb
  go_wp2_with fail
  go_ret
  exact ⟨rfl, HBn.out⟩
end Go.Proofs.YtkioddjjfifadaaGreatDoor.P
namespace Go.Proofs.YtkioddjjfifadaaGreatDoor.P
open Go.RowKit Go.Proofs.YtkioddjjfifadaaGreatDoorW.PrintWords Go.Proofs.YtkioddjjfifadaaGreatDoorW.PrintLast Go.Proofs.YtkioddjjfifadaaGreatDoorW.PrintMore
attribute [local go_sem] max2_int min2_int max_two min_two max_three min_three max_four min_four   -- for this text's walks alone
set_option linter.unusedVariables false
set_option linter.unusedSimpArgs false
def bytes_trimLeftByte.l0 : Nat → List Int → Int → Option (List Int)
  | 0, _, _ => none
  | k + 1, x0, x1 => if (x0.length : Int) > 0 then (if 0 < (x0.length : Int) then (if (rd x0 0) = x1 then (if 1 ≤ (x0.length : Int) then (bytes_trimLeftByte.l0 k (x0.drop 1) x1) else (none)) else (if (x0.length : Int) = 0 then (some ([] : List Int)) else (some x0))) else (none)) else (if (x0.length : Int) = 0 then (some ([] : List Int)) else (some x0))
def bytes_trimLeftByte.f (k : Nat) (l0 : List Int) (a1 : Int) : Option (List Int) := bytes_trimLeftByte.l0 k l0 a1
set_option maxHeartbeats 8000000 in
set_option maxRecDepth 100000 in
theorem bytes_trimLeftByte.calls (k : Nat) (P0_ : Nat → Prop) (A0 : Option Addr) (c0 : Nat) (l0 : List Int) (a1 : Int) (r : List Int) (w : World) (hs0 : Kd.V (Kd.int .u8) 5 w w.heap.size (fun k_ => P0_ k_) (.slice A0 l0.length c0) l0) (h : bytes_trimLeftByte.f k l0 a1 = some r) :
    Calls Tryz.prog 266 #[.slice A0 l0.length c0, .int .u8 a1] w fun e w' => ∃ v0_ : Value, e = .returned (v0_) ∧ Kd.V (Kd.int .u8) 5 w' w.heap.size (fun k_ => (P0_ k_ ∨ w.heap.size ≤ k_)) v0_ r ∧ Below w.heap.size w w' := by
  have HO0 := Aside0.mk (show Kd.V (Kd.int .u8) 5 w w.heap.size (fun k_ => (P0_ k_ ∨ w.heap.size ≤ k_)) (.slice A0 l0.length c0) l0 from Kd.V_mono hs0 (fun k_ hk => .inl hk))
  have HB := Aside0.mk (Below.refl w.heap.size w)
  have H : (bytes_trimLeftByte.l0 k l0 a1) = some r := h
  clear h
  have H' := Aside0.mk H
  clear H
  go_enter Tryz.func266, Tryz.ntmps266
  go_wp2
  go_loopg [0] k (fun kq v0 w' => ∃ (x0_1 : List Int), Aside0 (bytes_trimLeftByte.l0 kq x0_1 a1 = some r) ∧ Aside0 (kq ≤ k) ∧ Aside0 (Kd.V (Kd.int .u8) 5 w' w.heap.size (fun k_ => (P0_ k_ ∨ w.heap.size ≤ k_)) v0 x0_1) ∧ Aside0 (Below w.heap.size w w'))
  case atStart => exact ⟨(l0), H', ⟨Nat.le_refl _⟩, ⟨by (with_reducible repeat (first | apply Kd.V_alloc | apply Kd.V_drewN | apply Kd.V_drew)); exact HO0.out⟩, ⟨by repeat (first | (with_reducible first | exact HB.out | apply below_alloc | apply pw_below_drewN | apply below_drew1) | exact HB.out)⟩⟩
  case round =>
    clear H'
    try clear c2
    try clear p2
    obtain ⟨x0_1, HA, HK1, HO_0, HB⟩ := hrel
    cases gk with
    | zero => exact absurd HA.out (by simp [bytes_trimLeftByte.l0])
    | succ k1 =>
      have H := HA.out
      clear HA
      simp only [bytes_trimLeftByte.l0] at H
      by_cases c3 : (x0_1.length : Int) > 0
      · rw [if_pos c3] at H
        have c3b0 : decide (0 < (x0_1.length : Int)) = true := decide_eq_true c3
        have c3b1 : decide (0 < x0_1.length) = true := decide_eq_true (by omega)
        clear c3
        by_cases c4 : 0 < (x0_1.length : Int)
        · rw [if_pos c4] at H
          have c4b0 : decide (0 < (x0_1.length : Int)) = true := decide_eq_true c4
          have c4b1 : decide (0 < x0_1.length) = true := decide_eq_true (by omega)
          clear c4
          by_cases c5 : (rd x0_1 0) = a1
          · rw [if_pos c5] at H
            have c5b0 : ((rd x0_1 0) == a1) = true := beq_iff_eq.mpr c5
            have c5b1 : ((rd x0_1 0) != a1) = false := bne_eq_false_iff_eq.mpr c5
            clear c5
            by_cases c6 : 1 ≤ (x0_1.length : Int)
            · rw [if_pos c6] at H
              have c6b0 := eq_true c6
              have c6b1 : decide (1 ≤ (x0_1.length : Int)) = true := decide_eq_true c6
              clear c6
              obtain ⟨y348, hy348⟩ : ∃ y_ : List Int, y_ = (x0_1.drop 1) := ⟨_, rfl⟩
              replace H : (bytes_trimLeftByte.l0 k1 y348 a1) = some r := by first | (rw [hy348]; with_reducible exact H) | (have H2_ := (Option.bind_some _ _).symm.trans H; rw [hy348]; with_reducible exact H2_) | (have H2_ := (Option.bind_some _ _).symm.trans H; with_reducible exact H2_) | with_reducible exact H | (rw [hy348]; exact H) | exact H
              have Ny348 := Aside0.mk hy348
              clear hy348
              have H' := Aside0.mk H
              clear H
              obtain ⟨Ao7, co7, eo7⟩ := Kd.V_slice HO_0.out
              subst eo7
              have p347 : 0 ≤ (0 : Int) := (by omega)
              have q347 : 0 < (x0_1.length : Int) := of_decide_eq_true (by first | (with_reducible assumption) | assumption)
              obtain ⟨ad347, e347, hx347_0⟩ := Kd.at_int (Kd.V_reads' HO_0.out).2.2 0 p347 q347
              cases e347
              have qi347 : (0 < x0_1.length) = True := eq_true (by omega)
              (try rw [show ((0 : Int)).toNat = 0 from rfl] at hx347_0)
              (try rw [Addr.add_zero'] at hx347_0)
              replace p347 := eq_true p347
              replace q347 := eq_true q347
              have q8 : (1 : Int) ≤ ((x0_1.length : Int) : Int) := of_decide_eq_true (by first | (with_reducible assumption) | assumption)
              obtain ⟨i08, hi08, _, hsz8, _⟩ := info_parts info5
              have hroom8 : x0_1.length ≤ co7 := (Kd.V_reads' HO_0.out).2.1
              have hC8 : Kd.F (Kd.int .u8) _ _ (some ad347) x0_1.length x0_1 := (Kd.V_at (base := w.heap.size) HO_0.out).2.2
              have hcut8 := cut_from (P := Tryz.prog) 22 5 .i64 Tryz.underlying22 hi08 1 hsz8 (some ad347) x0_1.length co7 1 (by omega) q8
              have hr8 := Kd.F_cut (m := (1 : Int).toNat) (c := co7) hC8 (by omega) hroom8
              obtain ⟨A8, hA8⟩ : ∃ A1, A1 = (if co7 = (1 : Int).toNat then (some ad347) else ((some ad347) : Option Addr).map (·.add ((1 : Int).toNat * 1))) := ⟨_, rfl⟩
              obtain ⟨c8, hc8⟩ : ∃ c1, c1 = co7 - (1 : Int).toNat := ⟨_, rfl⟩
              have hy8 : y348.length = x0_1.length - (1 : Int).toNat := (by rw [Ny348.out, List.length_drop] <;> omega)
              rw [show (x0_1).drop (1 : Int).toNat = y348 from Ny348.out.symm] at hr8
              replace hr8 : Kd.F (Kd.int .u8) _ _ A8 y348.length y348 := (by rw [hA8]; exact hr8)
              rw [← hy8, ← hA8, ← hc8] at hcut8
              have HO352 := Aside0.mk (show Kd.V (Kd.int .u8) 5 _ w.heap.size _ (.slice A8 y348.length c8) y348 from Kd.V_mk (by rw [hy8, hc8]; exact Nat.sub_le_sub_right hroom8 _) hr8)
              have HC352 := Aside0.mk (show y348.length ≤ c8 from by rw [hy8, hc8]; exact Nat.sub_le_sub_right hroom8 _)
              clear hr8 hC8 hroom8 hi08 hsz8 hc8
              have KY8 := Aside0.mk hy8
              have KA8 := Aside0.mk hA8
              clear hy8 hA8
              replace q8 := eq_true q8
              go_wp2
              go_roundg k1
              case measure => have := HK1.out; omega
              case rel => exact ⟨(y348), H', ⟨by have := HK1.out; omega⟩, ⟨by (with_reducible repeat (first | apply Kd.V_alloc | apply Kd.V_drewN | apply Kd.V_drew)); exact HO352.out⟩, ⟨by repeat (first | (with_reducible first | exact HB.out | apply below_alloc | apply pw_below_drewN | apply below_drew1) | exact HB.out)⟩⟩
            · rw [if_neg c6] at H
              exact absurd H (by simp)
          · rw [if_neg c5] at H
            have c5b0 : ((rd x0_1 0) == a1) = false := beq_eq_false_iff_ne.mpr c5
            have c5b1 : ((rd x0_1 0) != a1) = true := bne_iff_ne.mpr c5
            by_cases c9 : (x0_1.length : Int) = 0
            · rw [if_pos c9] at H
              have c9b0 : ((x0_1.length : Int) == 0) = true := beq_iff_eq.mpr c9
              have c9b1 : ((x0_1.length : Int) != 0) = false := bne_eq_false_iff_eq.mpr c9
              clear c9
              obtain rfl := Option.some.inj H
              obtain ⟨Ao10, co10, eo10⟩ := Kd.V_slice HO_0.out
              subst eo10
              have p347 : 0 ≤ (0 : Int) := (by omega)
              have q347 : 0 < (x0_1.length : Int) := of_decide_eq_true (by first | (with_reducible assumption) | assumption)
              obtain ⟨ad347, e347, hx347_0⟩ := Kd.at_int (Kd.V_reads' HO_0.out).2.2 0 p347 q347
              cases e347
              have qi347 : (0 < x0_1.length) = True := eq_true (by omega)
              (try rw [show ((0 : Int)).toNat = 0 from rfl] at hx347_0)
              (try rw [Addr.add_zero'] at hx347_0)
              replace p347 := eq_true p347
              replace q347 := eq_true q347
              go_wp2
              go_ret
              exact ⟨_, by first | rfl | (simp [errW_none, errW_some] <;> rfl) | (simp [*, errW_none, errW_some] <;> rfl), (Kd.V_nil _ _ _ _ _), by repeat (first | (with_reducible first | exact HB.out | apply below_alloc | apply pw_below_drewN | apply below_drew1) | exact HB.out)⟩
            · rw [if_neg c9] at H
              have c9b0 : ((x0_1.length : Int) == 0) = false := beq_eq_false_iff_ne.mpr c9
              have c9b1 : ((x0_1.length : Int) != 0) = true := bne_iff_ne.mpr c9
              have c9b2 : ¬ (x0_1 = []) := fun h_ => c9 (by rw [h_]; rfl)
              obtain rfl := Option.some.inj H
              obtain ⟨Ao11, co11, eo11⟩ := Kd.V_slice HO_0.out
              subst eo11
              have p347 : 0 ≤ (0 : Int) := (by omega)
              have q347 : 0 < (x0_1.length : Int) := of_decide_eq_true (by first | (with_reducible assumption) | assumption)
              obtain ⟨ad347, e347, hx347_0⟩ := Kd.at_int (Kd.V_reads' HO_0.out).2.2 0 p347 q347
              cases e347
              have qi347 : (0 < x0_1.length) = True := eq_true (by omega)
              (try rw [show ((0 : Int)).toNat = 0 from rfl] at hx347_0)
              (try rw [Addr.add_zero'] at hx347_0)
              replace p347 := eq_true p347
              replace q347 := eq_true q347
              go_wp2
              go_ret
              exact ⟨_, by first | rfl | (simp [errW_none, errW_some] <;> rfl) | (simp [*, errW_none, errW_some] <;> rfl), by (with_reducible repeat (first | apply Kd.V_alloc | apply Kd.V_drewN | apply Kd.V_drew)); exact HO_0.out, by repeat (first | (with_reducible first | exact HB.out | apply below_alloc | apply pw_below_drewN | apply below_drew1) | exact HB.out)⟩
        · rw [if_neg c4] at H
          exact absurd H (by simp)
      · rw [if_neg c3] at H
        have c3b0 : decide (0 < (x0_1.length : Int)) = false := decide_eq_false c3
        have c3b1 : decide (0 < x0_1.length) = false := decide_eq_false (by omega)
        clear c3
        by_cases c12 : (x0_1.length : Int) = 0
        · rw [if_pos c12] at H
          have c12b0 : ((x0_1.length : Int) == 0) = true := beq_iff_eq.mpr c12
          have c12b1 : ((x0_1.length : Int) != 0) = false := bne_eq_false_iff_eq.mpr c12
          clear c12
          obtain rfl := Option.some.inj H
          obtain ⟨Ao13, co13, eo13⟩ := Kd.V_slice HO_0.out
          subst eo13
          go_wp2
          go_ret
          exact ⟨_, by first | rfl | (simp [errW_none, errW_some] <;> rfl) | (simp [*, errW_none, errW_some] <;> rfl), (Kd.V_nil _ _ _ _ _), by repeat (first | (with_reducible first | exact HB.out | apply below_alloc | apply pw_below_drewN | apply below_drew1) | exact HB.out)⟩
        · rw [if_neg c12] at H
          have c12b0 : ((x0_1.length : Int) == 0) = false := beq_eq_false_iff_ne.mpr c12
          have c12b1 : ((x0_1.length : Int) != 0) = true := bne_iff_ne.mpr c12
          have c12b2 : ¬ (x0_1 = []) := fun h_ => c12 (by rw [h_]; rfl)
          obtain rfl := Option.some.inj H
          obtain ⟨Ao14, co14, eo14⟩ := Kd.V_slice HO_0.out
          subst eo14
          go_wp2
          go_ret
          exact ⟨_, by first | rfl | (simp [errW_none, errW_some] <;> rfl) | (simp [*, errW_none, errW_some] <;> rfl), by (with_reducible repeat (first | apply Kd.V_alloc | apply Kd.V_drewN | apply Kd.V_drew)); exact HO_0.out, by repeat (first | (with_reducible first | exact HB.out | apply below_alloc | apply pw_below_drewN | apply below_drew1) | exact HB.out)⟩
end Go.Proofs.YtkioddjjfifadaaGreatDoor.P
set_option linter.unusedVariables false
set_option linter.unusedSimpArgs false
namespace Go.Proofs.YtkioddjjfifadaaGreatDoor.P
open Go.RowKit Go.Proofs.YtkioddjjfifadaaGreatDoorW.PrintWords Go.Proofs.YtkioddjjfifadaaGreatDoorW.PrintLast Go.Proofs.YtkioddjjfifadaaGreatDoorW.PrintMore
theorem put_len {x : Int} {n : Nat} (h : 0 ≤ x ∧ x ≤ 16777216) (c : ¬ ((n : Int) > wrap64 (16777216 - x))) : 0 ≤ wrap64 (x + (n : Int)) ∧ wrap64 (x + (n : Int)) ≤ 16777216 := by
  unfold wrap64 at *; omega
theorem put_cap {x : Int} (h : 0 ≤ x ∧ x ≤ 16777216) : wrap64 (x + 10) = ((x + 10).toNat : Int) := by unfold wrap64; omega
theorem put_cap2 {x : Int} (h : 0 ≤ x ∧ x ≤ 16777216) : (x + 10).toNat ≤ 140737488355328 := by omega
theorem trimLeftByte_nil {k : Nat} {a : Int} {r : List Int} (h : bytes_trimLeftByte.f k [] a = some r) : r = [] := by
  cases k with
  | zero => simp [bytes_trimLeftByte.f, bytes_trimLeftByte.l0] at h
  | succ k => simpa [bytes_trimLeftByte.f, bytes_trimLeftByte.l0] using h.symm
set_option maxRecDepth 100000 in
theorem bytes_TrimLeft0.calls (k : Nat) (P0_ : Nat → Prop) (A0 : Option Addr) (c0 : Nat) (l0 : List Int) (r : List Int) (w : World) (hs0 : Kd.V (Kd.int .u8) 5 w w.heap.size (fun k_ => P0_ k_) (.slice A0 l0.length c0) l0) (h : bytes_trimLeftByte.f k l0 0 = some r) :
    Calls Tryz.prog 218 #[.slice A0 l0.length c0, .string ⟨#[0]⟩] w fun e w' => ∃ v0_ : Value, e = .returned (v0_) ∧ Kd.V (Kd.int .u8) 5 w' w.heap.size (fun k_ => (P0_ k_ ∨ w.heap.size ≤ k_)) v0_ r ∧ Below w.heap.size w w' := by
  have HO := Aside0.mk hs0
  have H := Aside0.mk h
  have HB := Aside0.mk (Below.refl w.heap.size w)
  clear hs0
  by_cases hl : l0 = []
  · subst hl
    have hr := trimLeftByte_nil h
    clear h
    subst hr
    simp only [List.length_nil] at *
    go_enter Tryz.func218, Tryz.ntmps218
    go_wp2_with fail
    go_ret
    exact ⟨_, rfl, Kd.V_nil _ _ _ _ _, HB.out⟩
  · have h0 : 0 < l0.length := List.length_pos_iff.2 hl
    have c1 : ((l0.length : Int) == 0) = false := beq_eq_false_iff_ne.mpr (by omega)
    clear h h0 hl
    go_enter Tryz.func218, Tryz.ntmps218
    go_wp2_with (go_at_call 266; refine (bytes_trimLeftByte.calls k P0_ A0 c0 l0 0 r _ ?side1 H.out).mono ?_; (case side1 => exact HO.out); rintro e w5 ⟨v, rfl, hv, hb⟩; have HV := Aside0.mk hv; have HB2 := Aside0.mk hb; clear hv hb)
    go_ret
    exact ⟨_, rfl, HV.out, HB2.out⟩
end Go.Proofs.YtkioddjjfifadaaGreatDoor.P
namespace Go.Proofs.YtkioddjjfifadaaGreatDoor.P
open Go.RowKit Go.Proofs.YtkioddjjfifadaaGreatDoorW.PrintWords Go.Proofs.YtkioddjjfifadaaGreatDoorW.PrintLast Go.Proofs.YtkioddjjfifadaaGreatDoorW.PrintMore
theorem append_rune (w0 : World) (v : Value) (acc : List Int) (r : Int) (hr0 : -2147483648 ≤ r) (hr1 : r ≤ 2147483647) (w : World) (hR : (Kd.int .u8).R 5 w w0.heap.size (fun _ => True) v acc) (hl : acc.length + 4 ≤ 140737488355328) (h0 : Below w0.heap.size w0 w) :
    Calls Tryz.prog 249 #[v, .int .i32 r] w fun e w' => ∃ v', e = .returned v' ∧ (Kd.int .u8).R 5 w' w0.heap.size (fun _ => True) v' (acc ++ Lib.encodeRuneZ r) ∧ Below w0.heap.size w0 w' ∧ ∀ k o, w.heap[k]? = some o → some k ≠ v.ownBlock → w'.heap[k]? = some o := by
  have ho := Kd.own_of_R hR
  refine (Tryz.utf8_AppendRune_plain w0.heap.size v acc.length _ r hr0 hr1 w ho hl h0.size).mono ?_
  rintro e w' ⟨v', rfl, ho', o, hg⟩
  have hsz := h0.size
  refine ⟨v', rfl, Kd.R_of_own ?_ (fun _ _ => trivial), pw_below_grown (below_alloc h0 o) _ (Nat.le_trans hsz (by show w.heap.size ≤ (w.heap.push o).size; rw [Array.size_push]; omega)) hg (fun k hk => own_base ho k hk), fun k ob hk hne => blk_grown (blk_alloc hk o) hg hne⟩
  rw [List.length_append, encs_append]
  have : (Lib.runeCells r).length = (Lib.encodeRuneZ r).length := by simp [Lib.runeCells]
  rw [this] at ho'
  exact ho'
theorem make_bytes {P : Program} {ops : Array Oper} {rest : List Oper} {o : Oper} {a : Act} {Q : Exit → Act → World → Prop} {W : World} (w0 : World) {t : TypeId} {x y : Operand} (hgd : o.guard = none) (ho : o.op = .makeSlice t x y) (hx : a.eval x = .int .i64 0) (c : Nat) (hy : a.eval y = .int .i64 (c : Int))
    (ht : P.underlying t = some (.slice 5)) (hinfo : (P.info? 5).map (fun i => (i.zero, i.size, i.bytes)) = some (some (.int .u8 0), 1, 1)) (hc : c ≤ 140737488355328) (h0 : Below w0.heap.size w0 W)
    (h : ∀ v w1, (Kd.int .u8).R 5 w1 w0.heap.size (fun _ => True) v [] → Below w0.heap.size w0 w1 → wpList P ops Q rest (a.put o.dst v) w1) : wpList P ops Q (o :: rest) a W := by
  obtain ⟨i0, hi, hz0, hz1, hz2⟩ := info_parts hinfo
  obtain ⟨w1, hr, hown, hg⟩ := run_make_own (P := P) W w0.heap.size t 5 i0 _ 1 ht hi hz0 hz1 .i64 .i64 c (by rw [hz2]; omega) (by unfold maxLen; omega) h0.size
  refine wpList_plain hgd fun K hK => ?_
  unfold Oper.wp execOp
  simp only [ho, hx, hy, Sem.run_bind, hr, Result.andThen_ok, Sem.run_pure]
  exact hK _ _ (h _ _ (Kd.R_of_own hown (fun _ _ => trivial)) (pw_below_grown h0 none h0.size hg (fun k hk => by cases hk)))
theorem encodeRuneZ_len (r : Int) : (Lib.encodeRuneZ r).length ≤ 4 := by
  unfold Lib.encodeRuneZ
  split
  · simp
  · split
    · simp
    · split
      · simp
      · split <;> simp
def wideL : List Int → Option (List Int)
  | a :: b :: r => if 55296 ≤ a * 256 + b ∧ a * 256 + b < 57344 then none else (wideL r).map (Lib.encodeRuneZ (a * 256 + b) ++ ·)
  | _ => some []
def isByte (x : Int) : Bool := decide (0 ≤ x) && decide (x ≤ 255)
def text_wide.f (l : List Int) : Option (ByteArray × Int) :=
  if l.all isByte = true ∧ l.length ≤ 35184372088832 then (if l.length % 2 = 1 then some (⟨#[]⟩, 60) else (match wideL l with | none => some (⟨#[]⟩, 60) | some x => some (strOfNums x, 0))) else none
theorem drop_two (l : List Int) (i : Nat) (h : i + 1 < l.length) : l.drop i = rd l (i : Int) :: rd l ((i : Int) + 1) :: l.drop (i + 2) := by
  rw [List.drop_eq_getElem_cons (by omega), List.drop_eq_getElem_cons h]
  have e1 : rd l (i : Int) = l[i]'(by omega) := by
    show l.getD (i : Int).toNat 0 = _
    rw [Int.toNat_natCast, List.getD_eq_getElem?_getD, List.getElem?_eq_getElem (by omega)]
    rfl
  have e2 : rd l ((i : Int) + 1) = l[i + 1]'h := by
    show l.getD ((i : Int) + 1).toNat 0 = _
    rw [show ((i : Int) + 1).toNat = i + 1 by omega, List.getD_eq_getElem?_getD, List.getElem?_eq_getElem h]
    rfl
  rw [e1, e2]
theorem rd_byte (l : List Int) (h : l.all isByte = true) (i : Int) (h0 : 0 ≤ i) (h1 : i < (l.length : Int)) : 0 ≤ rd l i ∧ rd l i ≤ 255 := by
  have hm : rd l i ∈ l := by
    show l.getD i.toNat 0 ∈ l
    rw [List.getD_eq_getElem?_getD, List.getElem?_eq_getElem (by omega)]
    exact List.getElem_mem _
  have := List.all_eq_true.1 h _ hm
  simpa [isByte] using this
set_option maxRecDepth 100000 in
set_option maxHeartbeats 4000000 in
theorem text_wide.calls (A0 : Option Addr) (c0 : Nat) (l0 : List Int) (r1 : ByteArray) (r2 : Int) (w : World) (hr0 : Kd.C (Kd.int .u8) w A0 l0.length l0) (hc0 : l0.length ≤ c0) (h : text_wide.f l0 = some (r1, r2)) :
    Calls Tryz.prog 203 #[.slice A0 l0.length c0] w fun e w' => e = .returned (.tuple #[.string r1, .int .i64 r2]) ∧ Below w.heap.size w w' := by
  have HR0 := Aside0.mk hr0
  have HC0 := Aside0.mk hc0
  clear hr0 hc0
  unfold text_wide.f at h
  split at h
  case isFalse => cases h
  case isTrue hb =>
  obtain ⟨hbytes, hlen⟩ := hb
  have HBY := Aside0.mk hbytes
  have HLEN := Aside0.mk hlen
  clear hbytes hlen
  by_cases hodd : l0.length % 2 = 1
  · rw [if_pos hodd] at h
    simp only [Option.some.injEq, Prod.mk.injEq] at h
    obtain ⟨rfl, rfl⟩ := h
    have hm : ((l0.length : Int).tmod 2 != 0) = true := by
      rw [Int.tmod_eq_emod_of_nonneg (by omega)]
      exact bne_iff_ne.2 (by omega)
    go_enter Tryz.func203, Tryz.ntmps203
    go_wp2_with fail
    go_ret2
    exact ⟨rfl, Below.refl _ _⟩
  · rw [if_neg hodd] at h
    have hm : ((l0.length : Int).tmod 2 != 0) = false := by
      rw [Int.tmod_eq_emod_of_nonneg (by omega)]
      exact bne_eq_false_iff_eq.2 (by omega)
    go_enter Tryz.func203, Tryz.ntmps203
    have hw2 : wrap64 ((l0.length : Int) * 2) = ((l0.length * 2 : Nat) : Int) := by unfold wrap64; have := HLEN.out; omega
    have HB := Aside0.mk (Below.refl w.heap.size w)
    go_wp2_with ((with_reducible refine gate_dst (N := 14) rfl ?_); refine make_bytes w rfl rfl rfl (l0.length * 2) (congrArg (Value.int .i64) hw2) Tryz.underlying22 info5 (by have := HLEN.out; omega) HB.out ?_; intro v w1 hv hb; have HO := Aside0.mk hv; have HB1 := Aside0.mk hb; clear hv hb HB)
    clear hm hw2
    go_loopg [4, 5] (l0.length + 1) (fun kq v4 v5 w' => ∃ (i : Nat) (acc : List Int), v5 = .int .i64 (i : Int) ∧ Aside0 (i ≤ l0.length ∧ i % 2 = 0 ∧ l0.length < kq + i) ∧ Aside0 (wideL l0 = (wideL (l0.drop i)).map (acc ++ ·)) ∧ Aside0 (acc.length ≤ 2 * i) ∧
      Aside0 ((Kd.int .u8).R 5 w' w.heap.size (fun _ => True) v4 acc) ∧ Aside0 (Below w.heap.size w w'))
    case atStart => exact ⟨0, [], rfl, ⟨⟨Nat.zero_le _, rfl, by omega⟩⟩, ⟨by simp⟩, ⟨Nat.zero_le _⟩, HO, HB1⟩
    case round =>
      clear HO HB1
      obtain ⟨i, acc, rfl, HI, HW, HA, HO, HB⟩ := hrel
      cases gk with
      | zero => exact absurd HI.out (by omega)
      | succ g1 =>
        by_cases hi : i < l0.length
        · have hi1 : i + 1 < l0.length := by have := HI.out; omega
          have c1 : decide ((i : Int) < (l0.length : Int)) = true := decide_eq_true (by omega)
          have p1 : ((0 : Int) ≤ (i : Int)) = True := eq_true (by omega)
          have q1 : ((i : Int) < (l0.length : Int)) = True := eq_true (by omega)
          have hw1 : wrap64 ((i : Int) + 1) = (i : Int) + 1 := by unfold wrap64; have := HLEN.out; omega
          have p2 : ((0 : Int) ≤ (i : Int) + 1) = True := eq_true (by omega)
          have q2 : ((i : Int) + 1 < (l0.length : Int)) = True := eq_true (by omega)
          obtain ⟨ad, rfl, hx1⟩ := Kd.at_int HR0.out (i : Int) (by omega) (by omega)
          obtain ⟨ad', e', hx2⟩ := Kd.at_int HR0.out ((i : Int) + 1) (by omega) (by omega)
          cases e'
          replace hx1 := (HB.out.cell (World.block_lt_of_cell? w _ hx1)).trans hx1
          replace hx2 := (HB.out.cell (World.block_lt_of_cell? w _ hx2)).trans hx2
          rw [Int.toNat_natCast] at hx1
          rw [show ((i : Int) + 1).toNat = i + 1 by omega, Go.Addr.add_succ'] at hx2
          obtain ⟨a0, a1⟩ := rd_byte l0 HBY.out (i : Int) (by omega) (by omega)
          obtain ⟨b0, b1⟩ := rd_byte l0 HBY.out ((i : Int) + 1) (by omega) (by omega)
          have HD := Aside0.mk (drop_two l0 i hi1)
          generalize rd l0 (i : Int) = x at *
          generalize rd l0 ((i : Int) + 1) = y at *
          have hor : Go.bits .or .i32 (x * 256) y = x * 256 + y := bits_join .i32 31 (by decide) wraps_i32 8 (x * 256) y (by omega) (by omega) (by omega) b0 (by omega) (by omega)
          have HWD : Aside0 (wideL l0 = (if 55296 ≤ x * 256 + y ∧ x * 256 + y < 57344 then none else (wideL (l0.drop (i + 2))).map (Lib.encodeRuneZ (x * 256 + y) ++ ·)).map (acc ++ ·)) := ⟨by rw [HW.out, HD.out]; rfl⟩
          have hw3 : wrap64 ((i : Int) + 2) = ((i + 2 : Nat) : Int) := by unfold wrap64; have := HLEN.out; omega
          clear HW HD
          have hc0 : 0 ≤ x * 256 + y := by omega
          have hc1 : x * 256 + y ≤ 65535 := by omega
          generalize x * 256 + y = c at *
          by_cases hbad : 55296 ≤ c ∧ c < 57344
          · have d1 : decide (55296 ≤ c) = true := decide_eq_true hbad.1
            have d2 : decide (c < 57344) = true := decide_eq_true hbad.2
            have hwl : wideL l0 = none := by rw [HWD.out, if_pos hbad]; rfl
            rw [hwl] at h
            simp only [Option.some.injEq, Prod.mk.injEq] at h
            obtain ⟨rfl, rfl⟩ := h
            go_wp2_with fail
            go_region
            go_wp2_with fail
            go_ret2
            exact ⟨rfl, below_drew HB.out⟩
          by_cases hge : 55296 ≤ c
          · have d1 : decide (55296 ≤ c) = true := decide_eq_true hge
            have d2 : decide (c < 57344) = false := decide_eq_false (by omega)
            go_wp2_with fail
            go_region
            go_wp2_with fail
            refine (append_rune w u4 acc c (by omega) (by omega) _ (Kd.R_drew HO.out) (by have := HA.out; have := HI.out; have := HLEN.out; omega) (below_drew HB.out)).mono ?_
            rintro e w5 ⟨v5, rfl, hR5, hb5, -⟩
            have HO5 := Aside0.mk hR5
            have HB5 := Aside0.mk hb5
            clear hR5 hb5 HO HB hx1 hx2
            go_wp2_with fail
            go_roundg g1
            case measure => exact Nat.lt_succ_self _
            case rel => exact ⟨i + 2, acc ++ Lib.encodeRuneZ c, congrArg (Value.int .i64) hw3, ⟨by have := HI.out; omega⟩, ⟨by rw [HWD.out, if_neg hbad, Option.map_map]; congr 1; funext z; simp⟩, ⟨by rw [List.length_append]; have := encodeRuneZ_len c; have := HA.out; omega⟩, HO5, HB5⟩
          · have d1 : decide (55296 ≤ c) = false := decide_eq_false hge
            go_wp2_with fail
            go_region
            go_wp2_with fail
            refine (append_rune w u4 acc c (by omega) (by omega) _ (Kd.R_drew HO.out) (by have := HA.out; have := HI.out; have := HLEN.out; omega) (below_drew HB.out)).mono ?_
            rintro e w5 ⟨v5, rfl, hR5, hb5, -⟩
            have HO5 := Aside0.mk hR5
            have HB5 := Aside0.mk hb5
            clear hR5 hb5 HO HB hx1 hx2
            go_wp2_with fail
            go_roundg g1
            case measure => exact Nat.lt_succ_self _
            case rel => exact ⟨i + 2, acc ++ Lib.encodeRuneZ c, congrArg (Value.int .i64) hw3, ⟨by have := HI.out; omega⟩, ⟨by rw [HWD.out, if_neg hbad, Option.map_map]; congr 1; funext z; simp⟩, ⟨by rw [List.length_append]; have := encodeRuneZ_len c; have := HA.out; omega⟩, HO5, HB5⟩
        · have c1 : decide ((i : Int) < (l0.length : Int)) = false := decide_eq_false (by omega)
          have hie : i = l0.length := by have := HI.out; omega
          have hcv := own_string (P := Tryz.prog) Tryz.underlying22 Tryz.underlying5 Tryz.underlying9 (Kd.own_of_R HO.out)
          have hwl : wideL l0 = some acc := by rw [HW.out, hie, List.drop_length]; simp [wideL]
          rw [hwl] at h
          simp only [Option.some.injEq, Prod.mk.injEq] at h
          obtain ⟨rfl, rfl⟩ := h
          go_wp2_with fail
          go_ret2
          exact ⟨rfl, HB.out⟩
end Go.Proofs.YtkioddjjfifadaaGreatDoor.P
