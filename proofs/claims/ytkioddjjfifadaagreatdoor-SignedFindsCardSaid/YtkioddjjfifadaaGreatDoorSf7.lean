/- What the proof of SignedFinds needs of: Pxf39. -/
import Derived.Test.YtkioddjjfifadaaGreatDoorSf2
namespace Go.Proofs.YtkioddjjfifadaaGreatDoor.P
open Go.RowKit Go.Proofs.YtkioddjjfifadaaGreatDoorW.PrintWords Go.Proofs.YtkioddjjfifadaaGreatDoorW.PrintLast Go.Proofs.YtkioddjjfifadaaGreatDoorW.PrintMore
attribute [local go_sem] max2_int min2_int max_two min_two max_three min_three max_four min_four   -- for this text's walks alone
set_option linter.unusedVariables false
set_option linter.unusedSimpArgs false
mutual
def chirographref07_Huge.l0 : Nat → List (List (S64)) → Int → Int → Int → Option (Bool)
  | 0, _, _, _, _ => none
  | k + 1, x0, x1, x5, x6 => if x6 < (x0.length : Int) then (if 0 ≤ x6 then (if ((rd_L5 x0 x6).length : Int) > 200 then (some true) else (chirographref07_Huge.l1 k x0 x1 x5 x6 0)) else (none)) else (some false)
def chirographref07_Huge.l1 : Nat → List (List (S64)) → Int → Int → Int → Int → Option (Bool)
  | 0, _, _, _, _, _ => none
  | k + 1, x0, x1, x5, x6, x7 => if 0 ≤ x6 then (if x6 < (x0.length : Int) then (if x7 < ((rd_L5 x0 x6).length : Int) then (if 0 ≤ x7 then (if (((rd_T64 (rd_L5 x0 x6) x7).f2).length : Int) > (wrap64 (x1 - x5)) then (some true) else (if (((rd_T64 (rd_L5 x0 x6) x7).f0).size : Int) > (wrap64 (x1 - (wrap64 (x5 + (((rd_T64 (rd_L5 x0 x6) x7).f2).length : Int))))) then (some true) else (chirographref07_Huge.l1 k x0 x1 (wrap64 ((wrap64 (x5 + (((rd_T64 (rd_L5 x0 x6) x7).f2).length : Int))) + (((rd_T64 (rd_L5 x0 x6) x7).f0).size : Int))) x6 (wrap64 (x7 + 1))))) else (none)) else (chirographref07_Huge.l0 k x0 x1 x5 (wrap64 (x6 + 1)))) else (none)) else (none)
end
def chirographref07_Huge.f (k : Nat) (l0 : List (List (S64))) (a1 : Int) : Option (Bool) := if (l0.length : Int) > 200 then (some true) else (chirographref07_Huge.l0 k l0 a1 0 0)
set_option maxHeartbeats 8000000 in
set_option maxRecDepth 100000 in
theorem chirographref07_Huge.calls (k : Nat) (A0 : Option Addr) (c0 : Nat) (l0 : List (List (S64))) (a1 : Int) (r : Bool) (w : World) (hr0 : Kd.C (Kd.slice 64 k64) w A0 l0.length l0) (hc0 : l0.length ≤ c0) (h : chirographref07_Huge.f k l0 a1 = some r) :
    Calls Tryz.prog 39 #[.slice A0 l0.length c0, .int .i64 a1] w fun e w' => e = .returned (.bool r) ∧ Drawn0 w w' := by
  have HR0 := Aside0.mk hr0
  have HC0 := Aside0.mk hc0
  clear hr0 hc0
  have H : (if (l0.length : Int) > 200 then (some true) else (chirographref07_Huge.l0 k l0 a1 0 0)) = some r := h
  clear h
  by_cases c3 : (l0.length : Int) > 200
  · rw [if_pos c3] at H
    have c3b0 : decide (200 < (l0.length : Int)) = true := decide_eq_true c3
    have c3b1 : decide (200 < l0.length) = true := decide_eq_true (by omega)
    clear c3
    obtain rfl := Option.some.inj H
    go_enter Tryz.func39, Tryz.ntmps39
    go_wp2
    go_ret
    exact ⟨by first | rfl | (simp; done) | (simp [*]; done), by repeat (first | exact Drawn0.refl _ | apply Drawn0.step)⟩
  · rw [if_neg c3] at H
    have c3b0 : decide (200 < (l0.length : Int)) = false := decide_eq_false c3
    have c3b1 : decide (200 < l0.length) = false := decide_eq_false (by omega)
    clear c3
    have H' := Aside0.mk H
    clear H
    go_enter Tryz.func39, Tryz.ntmps39
    go_wp2
    go_loopg [5, 6] k (fun kq v5 v6 w' => ∃ (x5_1 : Int) (x6_1 : Int), v5 = .int .i64 x5_1 ∧ v6 = .int .i64 x6_1 ∧ Aside0 (chirographref07_Huge.l0 kq l0 a1 x5_1 x6_1 = some r) ∧ Aside0 (kq ≤ k) ∧ Drawn0 w w')
    case atStart => exact ⟨(0), (0), (by first | rfl | (simp; done) | (simp [*]; done)), (by first | rfl | (simp; done) | (simp [*]; done)), H', ⟨Nat.le_refl _⟩, by repeat (first | exact Drawn0.refl _ | apply Drawn0.step)⟩
    case round =>
      clear H'
      try clear p2
      try clear c3
      try clear c3b0
      try clear c3b1
      obtain ⟨x5_1, x6_1, rfl, rfl, HA, HK1, ⟨m1, rfl⟩⟩ := hrel
      cases gk with
      | zero => exact absurd HA.out (by simp [chirographref07_Huge.l0])
      | succ k1 =>
        have H := HA.out
        clear HA
        simp only [chirographref07_Huge.l0] at H
        by_cases c4 : x6_1 < (l0.length : Int)
        · rw [if_pos c4] at H
          have c4b0 : decide (x6_1 < (l0.length : Int)) = true := decide_eq_true c4
          clear c4
          by_cases c5 : 0 ≤ x6_1
          · rw [if_pos c5] at H
            have c5b0 : decide (0 ≤ x6_1) = true := decide_eq_true c5
            clear c5
            by_cases c6 : ((rd_L5 l0 x6_1).length : Int) > 200
            · rw [if_pos c6] at H
              have c6b0 : decide (200 < ((rd_L5 l0 x6_1).length : Int)) = true := decide_eq_true c6
              have c6b1 : decide (200 < (rd_L5 l0 x6_1).length) = true := decide_eq_true (by omega)
              clear c6
              obtain rfl := Option.some.inj H
              have p866 : 0 ≤ (x6_1 : Int) := of_decide_eq_true (by first | (with_reducible assumption) | assumption)
              have q866 : x6_1 < (l0.length : Int) := of_decide_eq_true (by first | (with_reducible assumption) | assumption)
              obtain ⟨ad866, A866_0, c866_0, e866, hx866_0, hl866_0, hi866_0⟩ := at_L5 HR0.out x6_1 p866 q866
              cases e866
              have HR866_0 := Aside0.mk hi866_0
              have HC866_0 := Aside0.mk hl866_0
              clear hi866_0 hl866_0
              replace p866 := eq_true p866
              replace q866 := eq_true q866
              go_wp2
              go_ret
              exact ⟨by first | rfl | (simp; done) | (simp [*]; done), by repeat (first | exact Drawn0.refl _ | apply Drawn0.step)⟩
            · rw [if_neg c6] at H
              have c6b0 : decide (200 < ((rd_L5 l0 x6_1).length : Int)) = false := decide_eq_false c6
              have c6b1 : decide (200 < (rd_L5 l0 x6_1).length) = false := decide_eq_false (by omega)
              clear c6
              have H' := Aside0.mk H
              clear H
              have p866 : 0 ≤ (x6_1 : Int) := of_decide_eq_true (by first | (with_reducible assumption) | assumption)
              have q866 : x6_1 < (l0.length : Int) := of_decide_eq_true (by first | (with_reducible assumption) | assumption)
              obtain ⟨ad866, A866_0, c866_0, e866, hx866_0, hl866_0, hi866_0⟩ := at_L5 HR0.out x6_1 p866 q866
              cases e866
              have HR866_0 := Aside0.mk hi866_0
              have HC866_0 := Aside0.mk hl866_0
              clear hi866_0 hl866_0
              replace p866 := eq_true p866
              replace q866 := eq_true q866
              go_wp2
              go_loopg [5, 7] k1 (fun kq v5 v7 w' => ∃ (x5_2 : Int) (x7_2 : Int), v5 = .int .i64 x5_2 ∧ v7 = .int .i64 x7_2 ∧ Aside0 (chirographref07_Huge.l1 kq l0 a1 x5_2 x6_1 x7_2 = some r) ∧ Aside0 (kq ≤ k1) ∧ Drawn0 w w')
              case atStart => exact ⟨(x5_1), (0), (by first | rfl | (simp; done) | (simp [*]; done)), (by first | rfl | (simp; done) | (simp [*]; done)), H', ⟨Nat.le_refl _⟩, by repeat (first | exact Drawn0.refl _ | apply Drawn0.step)⟩
              case round =>
                clear H'
                try clear p2
                try clear c3
                try clear c3b0
                try clear c3b1
                try clear c4
                try clear c4b0
                try clear c5
                try clear c5b0
                try clear c6
                try clear c6b0
                try clear c6b1
                try clear hx866_0
                try clear p2
                try clear p866
                try clear q866
                obtain ⟨x5_2, x7_2, rfl, rfl, HA, HK2, ⟨m2, rfl⟩⟩ := hrel
                cases gk with
                | zero => exact absurd HA.out (by simp [chirographref07_Huge.l1])
                | succ k2 =>
                  have H := HA.out
                  clear HA
                  simp only [chirographref07_Huge.l1] at H
                  by_cases c7 : 0 ≤ x6_1
                  · rw [if_pos c7] at H
                    have c7b0 : decide (0 ≤ x6_1) = true := decide_eq_true c7
                    clear c7
                    by_cases c8 : x6_1 < (l0.length : Int)
                    · rw [if_pos c8] at H
                      have c8b0 : decide (x6_1 < (l0.length : Int)) = true := decide_eq_true c8
                      clear c8
                      by_cases c9 : x7_2 < ((rd_L5 l0 x6_1).length : Int)
                      · rw [if_pos c9] at H
                        have c9b0 : decide (x7_2 < ((rd_L5 l0 x6_1).length : Int)) = true := decide_eq_true c9
                        clear c9
                        by_cases c10 : 0 ≤ x7_2
                        · rw [if_pos c10] at H
                          have c10b0 : decide (0 ≤ x7_2) = true := decide_eq_true c10
                          clear c10
                          by_cases c11 : (((rd_T64 (rd_L5 l0 x6_1) x7_2).f2).length : Int) > (wrap64 (a1 - x5_2))
                          · rw [if_pos c11] at H
                            have c11b0 : decide ((wrap64 (a1 - x5_2)) < (((rd_T64 (rd_L5 l0 x6_1) x7_2).f2).length : Int)) = true := decide_eq_true c11
                            clear c11
                            obtain rfl := Option.some.inj H
                            have p867 : 0 ≤ (x6_1 : Int) := of_decide_eq_true (by first | (with_reducible assumption) | assumption)
                            have q867 : x6_1 < (l0.length : Int) := of_decide_eq_true (by first | (with_reducible assumption) | assumption)
                            obtain ⟨ad867, A867_0, c867_0, e867, hx867_0, hl867_0, hi867_0⟩ := at_L5 HR0.out x6_1 p867 q867
                            obtain rfl : ad866 = ad867 := (by injection e867)
                            have HR867_0 := Aside0.mk hi867_0
                            have HC867_0 := Aside0.mk hl867_0
                            clear hi867_0 hl867_0
                            replace p867 := eq_true p867
                            replace q867 := eq_true q867
                            have p868 : 0 ≤ (x6_1 : Int) := of_decide_eq_true (by first | (with_reducible assumption) | assumption)
                            have q868 : x6_1 < (l0.length : Int) := of_decide_eq_true (by first | (with_reducible assumption) | assumption)
                            obtain ⟨ad868, A868_0, c868_0, e868, hx868_0, hl868_0, hi868_0⟩ := at_L5 HR0.out x6_1 p868 q868
                            obtain rfl : ad866 = ad868 := (by injection e868)
                            have HR868_0 := Aside0.mk hi868_0
                            have HC868_0 := Aside0.mk hl868_0
                            clear hi868_0 hl868_0
                            replace p868 := eq_true p868
                            replace q868 := eq_true q868
                            have ea_ := Option.some.inj (hx867_0.symm.trans hx868_0)
                            injection ea_ with ea_ en_ ec_
                            subst ea_
                            subst ec_
                            clear en_
                            have p869 : 0 ≤ (x7_2 : Int) := of_decide_eq_true (by first | (with_reducible assumption) | assumption)
                            have q869 : x7_2 < ((rd_L5 l0 x6_1).length : Int) := of_decide_eq_true (by first | (with_reducible assumption) | assumption)
                            obtain ⟨ad869, A869_2, c869_2, e869, hx869_0, hx869_1, hx869_2, hl869_2, hi869_2⟩ := at_T64 HR868_0.out x7_2 p869 q869
                            cases e869
                            have HR869_2 := Aside0.mk hi869_2
                            have HC869_2 := Aside0.mk hl869_2
                            clear hi869_2 hl869_2
                            replace p869 := eq_true p869
                            replace q869 := eq_true q869
                            go_wp2
                            go_ret
                            exact ⟨by first | rfl | (simp; done) | (simp [*]; done), by repeat (first | exact Drawn0.refl _ | apply Drawn0.step)⟩
                          · rw [if_neg c11] at H
                            have c11b0 : decide ((wrap64 (a1 - x5_2)) < (((rd_T64 (rd_L5 l0 x6_1) x7_2).f2).length : Int)) = false := decide_eq_false c11
                            clear c11
                            by_cases c12 : (((rd_T64 (rd_L5 l0 x6_1) x7_2).f0).size : Int) > (wrap64 (a1 - (wrap64 (x5_2 + (((rd_T64 (rd_L5 l0 x6_1) x7_2).f2).length : Int)))))
                            · rw [if_pos c12] at H
                              have c12b0 : decide ((wrap64 (a1 - (wrap64 (x5_2 + (((rd_T64 (rd_L5 l0 x6_1) x7_2).f2).length : Int))))) < (((rd_T64 (rd_L5 l0 x6_1) x7_2).f0).size : Int)) = true := decide_eq_true c12
                              clear c12
                              obtain rfl := Option.some.inj H
                              have p867 : 0 ≤ (x6_1 : Int) := of_decide_eq_true (by first | (with_reducible assumption) | assumption)
                              have q867 : x6_1 < (l0.length : Int) := of_decide_eq_true (by first | (with_reducible assumption) | assumption)
                              obtain ⟨ad867, A867_0, c867_0, e867, hx867_0, hl867_0, hi867_0⟩ := at_L5 HR0.out x6_1 p867 q867
                              obtain rfl : ad866 = ad867 := (by injection e867)
                              have HR867_0 := Aside0.mk hi867_0
                              have HC867_0 := Aside0.mk hl867_0
                              clear hi867_0 hl867_0
                              replace p867 := eq_true p867
                              replace q867 := eq_true q867
                              have p868 : 0 ≤ (x6_1 : Int) := of_decide_eq_true (by first | (with_reducible assumption) | assumption)
                              have q868 : x6_1 < (l0.length : Int) := of_decide_eq_true (by first | (with_reducible assumption) | assumption)
                              obtain ⟨ad868, A868_0, c868_0, e868, hx868_0, hl868_0, hi868_0⟩ := at_L5 HR0.out x6_1 p868 q868
                              obtain rfl : ad866 = ad868 := (by injection e868)
                              have HR868_0 := Aside0.mk hi868_0
                              have HC868_0 := Aside0.mk hl868_0
                              clear hi868_0 hl868_0
                              replace p868 := eq_true p868
                              replace q868 := eq_true q868
                              have ea_ := Option.some.inj (hx867_0.symm.trans hx868_0)
                              injection ea_ with ea_ en_ ec_
                              subst ea_
                              subst ec_
                              clear en_
                              have p869 : 0 ≤ (x7_2 : Int) := of_decide_eq_true (by first | (with_reducible assumption) | assumption)
                              have q869 : x7_2 < ((rd_L5 l0 x6_1).length : Int) := of_decide_eq_true (by first | (with_reducible assumption) | assumption)
                              obtain ⟨ad869, A869_2, c869_2, e869, hx869_0, hx869_1, hx869_2, hl869_2, hi869_2⟩ := at_T64 HR868_0.out x7_2 p869 q869
                              cases e869
                              have HR869_2 := Aside0.mk hi869_2
                              have HC869_2 := Aside0.mk hl869_2
                              clear hi869_2 hl869_2
                              replace p869 := eq_true p869
                              replace q869 := eq_true q869
                              have p870 : 0 ≤ (x6_1 : Int) := of_decide_eq_true (by first | (with_reducible assumption) | assumption)
                              have q870 : x6_1 < (l0.length : Int) := of_decide_eq_true (by first | (with_reducible assumption) | assumption)
                              obtain ⟨ad870, A870_0, c870_0, e870, hx870_0, hl870_0, hi870_0⟩ := at_L5 HR0.out x6_1 p870 q870
                              obtain rfl : ad866 = ad870 := (by injection e870)
                              have HR870_0 := Aside0.mk hi870_0
                              have HC870_0 := Aside0.mk hl870_0
                              clear hi870_0 hl870_0
                              replace p870 := eq_true p870
                              replace q870 := eq_true q870
                              have ea_ := Option.some.inj (hx867_0.symm.trans hx870_0)
                              injection ea_ with ea_ en_ ec_
                              subst ea_
                              subst ec_
                              clear en_
                              have p871 : 0 ≤ (x7_2 : Int) := of_decide_eq_true (by first | (with_reducible assumption) | assumption)
                              have q871 : x7_2 < ((rd_L5 l0 x6_1).length : Int) := of_decide_eq_true (by first | (with_reducible assumption) | assumption)
                              obtain ⟨ad871, A871_2, c871_2, e871, hx871_0, hx871_1, hx871_2, hl871_2, hi871_2⟩ := at_T64 HR870_0.out x7_2 p871 q871
                              cases e871
                              have HR871_2 := Aside0.mk hi871_2
                              have HC871_2 := Aside0.mk hl871_2
                              clear hi871_2 hl871_2
                              replace p871 := eq_true p871
                              replace q871 := eq_true q871
                              have p872 : 0 ≤ (x6_1 : Int) := of_decide_eq_true (by first | (with_reducible assumption) | assumption)
                              have q872 : x6_1 < (l0.length : Int) := of_decide_eq_true (by first | (with_reducible assumption) | assumption)
                              obtain ⟨ad872, A872_0, c872_0, e872, hx872_0, hl872_0, hi872_0⟩ := at_L5 HR0.out x6_1 p872 q872
                              obtain rfl : ad866 = ad872 := (by injection e872)
                              have HR872_0 := Aside0.mk hi872_0
                              have HC872_0 := Aside0.mk hl872_0
                              clear hi872_0 hl872_0
                              replace p872 := eq_true p872
                              replace q872 := eq_true q872
                              have ea_ := Option.some.inj (hx867_0.symm.trans hx872_0)
                              injection ea_ with ea_ en_ ec_
                              subst ea_
                              subst ec_
                              clear en_
                              have p873 : 0 ≤ (x7_2 : Int) := of_decide_eq_true (by first | (with_reducible assumption) | assumption)
                              have q873 : x7_2 < ((rd_L5 l0 x6_1).length : Int) := of_decide_eq_true (by first | (with_reducible assumption) | assumption)
                              obtain ⟨ad873, A873_2, c873_2, e873, hx873_0, hx873_1, hx873_2, hl873_2, hi873_2⟩ := at_T64 HR872_0.out x7_2 p873 q873
                              cases e873
                              have HR873_2 := Aside0.mk hi873_2
                              have HC873_2 := Aside0.mk hl873_2
                              clear hi873_2 hl873_2
                              replace p873 := eq_true p873
                              replace q873 := eq_true q873
                              go_wp2
                              go_ret
                              exact ⟨by first | rfl | (simp; done) | (simp [*]; done), by repeat (first | exact Drawn0.refl _ | apply Drawn0.step)⟩
                            · rw [if_neg c12] at H
                              have c12b0 : decide ((wrap64 (a1 - (wrap64 (x5_2 + (((rd_T64 (rd_L5 l0 x6_1) x7_2).f2).length : Int))))) < (((rd_T64 (rd_L5 l0 x6_1) x7_2).f0).size : Int)) = false := decide_eq_false c12
                              clear c12
                              have H' := Aside0.mk H
                              clear H
                              have p867 : 0 ≤ (x6_1 : Int) := of_decide_eq_true (by first | (with_reducible assumption) | assumption)
                              have q867 : x6_1 < (l0.length : Int) := of_decide_eq_true (by first | (with_reducible assumption) | assumption)
                              obtain ⟨ad867, A867_0, c867_0, e867, hx867_0, hl867_0, hi867_0⟩ := at_L5 HR0.out x6_1 p867 q867
                              obtain rfl : ad866 = ad867 := (by injection e867)
                              have HR867_0 := Aside0.mk hi867_0
                              have HC867_0 := Aside0.mk hl867_0
                              clear hi867_0 hl867_0
                              replace p867 := eq_true p867
                              replace q867 := eq_true q867
                              have p868 : 0 ≤ (x6_1 : Int) := of_decide_eq_true (by first | (with_reducible assumption) | assumption)
                              have q868 : x6_1 < (l0.length : Int) := of_decide_eq_true (by first | (with_reducible assumption) | assumption)
                              obtain ⟨ad868, A868_0, c868_0, e868, hx868_0, hl868_0, hi868_0⟩ := at_L5 HR0.out x6_1 p868 q868
                              obtain rfl : ad866 = ad868 := (by injection e868)
                              have HR868_0 := Aside0.mk hi868_0
                              have HC868_0 := Aside0.mk hl868_0
                              clear hi868_0 hl868_0
                              replace p868 := eq_true p868
                              replace q868 := eq_true q868
                              have ea_ := Option.some.inj (hx867_0.symm.trans hx868_0)
                              injection ea_ with ea_ en_ ec_
                              subst ea_
                              subst ec_
                              clear en_
                              have p869 : 0 ≤ (x7_2 : Int) := of_decide_eq_true (by first | (with_reducible assumption) | assumption)
                              have q869 : x7_2 < ((rd_L5 l0 x6_1).length : Int) := of_decide_eq_true (by first | (with_reducible assumption) | assumption)
                              obtain ⟨ad869, A869_2, c869_2, e869, hx869_0, hx869_1, hx869_2, hl869_2, hi869_2⟩ := at_T64 HR868_0.out x7_2 p869 q869
                              cases e869
                              have HR869_2 := Aside0.mk hi869_2
                              have HC869_2 := Aside0.mk hl869_2
                              clear hi869_2 hl869_2
                              replace p869 := eq_true p869
                              replace q869 := eq_true q869
                              have p870 : 0 ≤ (x6_1 : Int) := of_decide_eq_true (by first | (with_reducible assumption) | assumption)
                              have q870 : x6_1 < (l0.length : Int) := of_decide_eq_true (by first | (with_reducible assumption) | assumption)
                              obtain ⟨ad870, A870_0, c870_0, e870, hx870_0, hl870_0, hi870_0⟩ := at_L5 HR0.out x6_1 p870 q870
                              obtain rfl : ad866 = ad870 := (by injection e870)
                              have HR870_0 := Aside0.mk hi870_0
                              have HC870_0 := Aside0.mk hl870_0
                              clear hi870_0 hl870_0
                              replace p870 := eq_true p870
                              replace q870 := eq_true q870
                              have ea_ := Option.some.inj (hx867_0.symm.trans hx870_0)
                              injection ea_ with ea_ en_ ec_
                              subst ea_
                              subst ec_
                              clear en_
                              have p871 : 0 ≤ (x7_2 : Int) := of_decide_eq_true (by first | (with_reducible assumption) | assumption)
                              have q871 : x7_2 < ((rd_L5 l0 x6_1).length : Int) := of_decide_eq_true (by first | (with_reducible assumption) | assumption)
                              obtain ⟨ad871, A871_2, c871_2, e871, hx871_0, hx871_1, hx871_2, hl871_2, hi871_2⟩ := at_T64 HR870_0.out x7_2 p871 q871
                              cases e871
                              have HR871_2 := Aside0.mk hi871_2
                              have HC871_2 := Aside0.mk hl871_2
                              clear hi871_2 hl871_2
                              replace p871 := eq_true p871
                              replace q871 := eq_true q871
                              have p872 : 0 ≤ (x6_1 : Int) := of_decide_eq_true (by first | (with_reducible assumption) | assumption)
                              have q872 : x6_1 < (l0.length : Int) := of_decide_eq_true (by first | (with_reducible assumption) | assumption)
                              obtain ⟨ad872, A872_0, c872_0, e872, hx872_0, hl872_0, hi872_0⟩ := at_L5 HR0.out x6_1 p872 q872
                              obtain rfl : ad866 = ad872 := (by injection e872)
                              have HR872_0 := Aside0.mk hi872_0
                              have HC872_0 := Aside0.mk hl872_0
                              clear hi872_0 hl872_0
                              replace p872 := eq_true p872
                              replace q872 := eq_true q872
                              have ea_ := Option.some.inj (hx867_0.symm.trans hx872_0)
                              injection ea_ with ea_ en_ ec_
                              subst ea_
                              subst ec_
                              clear en_
                              have p873 : 0 ≤ (x7_2 : Int) := of_decide_eq_true (by first | (with_reducible assumption) | assumption)
                              have q873 : x7_2 < ((rd_L5 l0 x6_1).length : Int) := of_decide_eq_true (by first | (with_reducible assumption) | assumption)
                              obtain ⟨ad873, A873_2, c873_2, e873, hx873_0, hx873_1, hx873_2, hl873_2, hi873_2⟩ := at_T64 HR872_0.out x7_2 p873 q873
                              cases e873
                              have HR873_2 := Aside0.mk hi873_2
                              have HC873_2 := Aside0.mk hl873_2
                              clear hi873_2 hl873_2
                              replace p873 := eq_true p873
                              replace q873 := eq_true q873
                              have p874 : 0 ≤ (x6_1 : Int) := of_decide_eq_true (by first | (with_reducible assumption) | assumption)
                              have q874 : x6_1 < (l0.length : Int) := of_decide_eq_true (by first | (with_reducible assumption) | assumption)
                              obtain ⟨ad874, A874_0, c874_0, e874, hx874_0, hl874_0, hi874_0⟩ := at_L5 HR0.out x6_1 p874 q874
                              obtain rfl : ad866 = ad874 := (by injection e874)
                              have HR874_0 := Aside0.mk hi874_0
                              have HC874_0 := Aside0.mk hl874_0
                              clear hi874_0 hl874_0
                              replace p874 := eq_true p874
                              replace q874 := eq_true q874
                              have ea_ := Option.some.inj (hx867_0.symm.trans hx874_0)
                              injection ea_ with ea_ en_ ec_
                              subst ea_
                              subst ec_
                              clear en_
                              have p875 : 0 ≤ (x7_2 : Int) := of_decide_eq_true (by first | (with_reducible assumption) | assumption)
                              have q875 : x7_2 < ((rd_L5 l0 x6_1).length : Int) := of_decide_eq_true (by first | (with_reducible assumption) | assumption)
                              obtain ⟨ad875, A875_2, c875_2, e875, hx875_0, hx875_1, hx875_2, hl875_2, hi875_2⟩ := at_T64 HR874_0.out x7_2 p875 q875
                              cases e875
                              have HR875_2 := Aside0.mk hi875_2
                              have HC875_2 := Aside0.mk hl875_2
                              clear hi875_2 hl875_2
                              replace p875 := eq_true p875
                              replace q875 := eq_true q875
                              go_wp2
                              go_roundg k2
                              case measure => have := HK1.out; have := HK2.out; omega
                              case rel => exact ⟨(wrap64 ((wrap64 (x5_2 + (((rd_T64 (rd_L5 l0 x6_1) x7_2).f2).length : Int))) + (((rd_T64 (rd_L5 l0 x6_1) x7_2).f0).size : Int))), (wrap64 (x7_2 + 1)), (by first | rfl | (simp; done) | (simp [*]; done)), (by first | rfl | (simp; done) | (simp [*]; done)), H', ⟨by have := HK1.out; have := HK2.out; omega⟩, by repeat (first | exact Drawn0.refl _ | apply Drawn0.step)⟩
                        · rw [if_neg c10] at H
                          exact absurd H (by simp)
                      · rw [if_neg c9] at H
                        have c9b0 : decide (x7_2 < ((rd_L5 l0 x6_1).length : Int)) = false := decide_eq_false c9
                        clear c9
                        have H' := Aside0.mk H
                        clear H
                        have p867 : 0 ≤ (x6_1 : Int) := of_decide_eq_true (by first | (with_reducible assumption) | assumption)
                        have q867 : x6_1 < (l0.length : Int) := of_decide_eq_true (by first | (with_reducible assumption) | assumption)
                        obtain ⟨ad867, A867_0, c867_0, e867, hx867_0, hl867_0, hi867_0⟩ := at_L5 HR0.out x6_1 p867 q867
                        obtain rfl : ad866 = ad867 := (by injection e867)
                        have HR867_0 := Aside0.mk hi867_0
                        have HC867_0 := Aside0.mk hl867_0
                        clear hi867_0 hl867_0
                        replace p867 := eq_true p867
                        replace q867 := eq_true q867
                        go_wp2
                        go_roundg k2
                        case measure => have := HK1.out; have := HK2.out; omega
                        case rel => exact ⟨(x5_2), (wrap64 (x6_1 + 1)), (by first | rfl | (simp; done) | (simp [*]; done)), (by first | rfl | (simp; done) | (simp [*]; done)), H', ⟨by have := HK1.out; have := HK2.out; omega⟩, by repeat (first | exact Drawn0.refl _ | apply Drawn0.step)⟩
                    · rw [if_neg c8] at H
                      exact absurd H (by simp)
                  · rw [if_neg c7] at H
                    exact absurd H (by simp)
          · rw [if_neg c5] at H
            exact absurd H (by simp)
        · rw [if_neg c4] at H
          have c4b0 : decide (x6_1 < (l0.length : Int)) = false := decide_eq_false c4
          clear c4
          obtain rfl := Option.some.inj H
          go_wp2
          go_ret
          exact ⟨by first | rfl | (simp; done) | (simp [*]; done), by repeat (first | exact Drawn0.refl _ | apply Drawn0.step)⟩
end Go.Proofs.YtkioddjjfifadaaGreatDoor.P
