/- What the proof of NameShows needs of: Pxf156, Pxf157, Pxf91, Pxf229, Pxf183, Lt0, Pxf230, Ht3, Lt2. -/
import Derived.Lib.ItoaNum
import Derived.Lib.OthersKept
import Derived.Lib.RuneCountTail
import Derived.Lib.RuneBytes
import Derived.Lib.ValidAsc
import Derived.Lib.TrimUEq
import Derived.Test.YtkioddjjfifadaaGreatDoorNs2
import Derived.Test.YtkioddjjfifadaaGreatDoorNs4
namespace Go.Proofs.YtkioddjjfifadaaGreatDoor.P
open Go.RowKit Go.Proofs.YtkioddjjfifadaaGreatDoorW.PrintWords Go.Proofs.YtkioddjjfifadaaGreatDoorW.PrintLast Go.Proofs.YtkioddjjfifadaaGreatDoorW.PrintMore
attribute [local go_sem] max2_int min2_int max_two min_two max_three min_three max_four min_four   -- for this text's walks alone
set_option linter.unusedVariables false
set_option linter.unusedSimpArgs false
mutual
def chirographref06_Text.l0 : Nat → List Int → List Int → Int → Option (ByteArray × Int)
  | 0, _, _, _ => none
  | k + 1, x1, x6, x7 => if x7 < (x1.length : Int) then (if 0 ≤ x7 then (if 0 ≤ (wrap64 (x7 + 1)) then (if (wrap64 (x7 + 1)) < (x1.length : Int) then (if (wrap64 ((wrap64 ((wrap64 (rd x1 x7)) * 256)) + (wrap64 (rd x1 (wrap64 (x7 + 1)))))) ≥ 55296 then (chirographref06_Text.j1 k x1 x6 x7 (wrap64 ((wrap64 ((wrap64 (rd x1 x7)) * 256)) + (wrap64 (rd x1 (wrap64 (x7 + 1)))))) (decide ((wrap64 ((wrap64 ((wrap64 (rd x1 x7)) * 256)) + (wrap64 (rd x1 (wrap64 (x7 + 1)))))) ≤ 57343))) else (chirographref06_Text.j1 k x1 x6 x7 (wrap64 ((wrap64 ((wrap64 (rd x1 x7)) * 256)) + (wrap64 (rd x1 (wrap64 (x7 + 1)))))) false)) else (none)) else (none)) else (none)) else (some (strOfNums x6, 0))
def chirographref06_Text.j1 : Nat → List Int → List Int → Int → Int → Bool → Option (ByteArray × Int)
  | 0, _, _, _, _, _ => none
  | k + 1, x1, x6, x7, x8, x61 => if x61 = true then (some ((⟨#[]⟩ : ByteArray), 60)) else (if x8 < 128 then (if x6.length < 140737488355328 then (chirographref06_Text.l0 k x1 (x6 ++ [(x8) % 256]) (wrap64 (x7 + 2))) else (none)) else (if x8 < 2048 then ((some (([(wrap64 (192 + (wrap64 (Int.tdiv x8 64)))) % 256, (wrap64 (128 + (Int.tmod x8 64))) % 256] : List Int) : List Int)).bind fun y1078 => (if x6.length + y1078.length < 140737488355328 then (chirographref06_Text.l0 k x1 (x6 ++ y1078) (wrap64 (x7 + 2))) else (none))) else ((some (([(wrap64 (224 + (wrap64 (Int.tdiv x8 4096)))) % 256, (wrap64 (128 + (Int.tmod (wrap64 (Int.tdiv x8 64)) 64))) % 256, (wrap64 (128 + (Int.tmod x8 64))) % 256] : List Int) : List Int)).bind fun y1084 => (if x6.length + y1084.length < 140737488355328 then (chirographref06_Text.l0 k x1 (x6 ++ y1084) (wrap64 (x7 + 2))) else (none)))))
def chirographref06_Text.j2 : Nat → Int → List Int → Bool → Option (ByteArray × Int)
  | 0, _, _, _ => none
  | k + 1, x0, x1, x92 => if x92 = true then (chirographref06_Text.l1 k x0 x1 0) else (some ((⟨#[]⟩ : ByteArray), 61))
def chirographref06_Text.l1 : Nat → Int → List Int → Int → Option (ByteArray × Int)
  | 0, _, _, _ => none
  | k + 1, x0, x1, x9 => if x9 < (x1.length : Int) then (if 0 ≤ x9 then (if (rd x1 x9) ≥ 48 then (if (rd x1 x9) ≤ 57 then (chirographref06_Text.j4 k x0 x1 x9 (rd x1 x9) true) else (chirographref06_Text.j4 k x0 x1 x9 (rd x1 x9) ((rd x1 x9) == 32))) else (chirographref06_Text.j4 k x0 x1 x9 (rd x1 x9) ((rd x1 x9) == 32))) else (none)) else (some (strOfNums x1, 0))
def chirographref06_Text.j4 : Nat → Int → List Int → Int → Int → Bool → Option (ByteArray × Int)
  | 0, _, _, _, _, _ => none
  | k + 1, x0, x1, x9, x10, x11 => if x0 = 19 then ((chirographref06_printable.f k x10).bind fun t1091 => (chirographref06_Text.j5 k x0 x1 x9 x10 t1091)) else (chirographref06_Text.j5 k x0 x1 x9 x10 x11)
def chirographref06_Text.j5 : Nat → Int → List Int → Int → Int → Bool → Option (ByteArray × Int)
  | 0, _, _, _, _, _ => none
  | k + 1, x0, x1, x9, x10, x11 => if x0 = 22 then (chirographref06_Text.j6 k x0 x1 x9 x10 (decide (x10 < 128))) else (chirographref06_Text.j6 k x0 x1 x9 x10 x11)
def chirographref06_Text.j6 : Nat → Int → List Int → Int → Int → Bool → Option (ByteArray × Int)
  | 0, _, _, _, _, _ => none
  | k + 1, x0, x1, x9, x10, x11 => if x0 = 26 then (if x10 ≥ 32 then (if x10 ≤ 126 then (chirographref06_Text.l1 k x0 x1 (wrap64 (x9 + 1))) else (some ((⟨#[]⟩ : ByteArray), 60))) else (some ((⟨#[]⟩ : ByteArray), 60))) else (if x11 = true then (chirographref06_Text.l1 k x0 x1 (wrap64 (x9 + 1))) else (some ((⟨#[]⟩ : ByteArray), 60)))
end
def chirographref06_Text.f (k : Nat) (a0 : Int) (l1 : List Int) : Option (ByteArray × Int) := if a0 = 12 then ((chirographref06_utf8.f k l1).bind fun t1072 => (if t1072 = true then (some (strOfNums l1, 0)) else (some ((⟨#[]⟩ : ByteArray), 60)))) else (if a0 = 30 then (if ((l1.length : Int) % 2) = 1 then (some ((⟨#[]⟩ : ByteArray), 60)) else (chirographref06_Text.l0 k l1 ([] : List Int) 0)) else (if a0 = 18 then (chirographref06_Text.j2 k a0 l1 (a0 == 18)) else (if a0 = 19 then (chirographref06_Text.j2 k a0 l1 (a0 == 19)) else (if a0 = 22 then (chirographref06_Text.j2 k a0 l1 (a0 == 22)) else (chirographref06_Text.j2 k a0 l1 (a0 == 26))))))
set_option maxHeartbeats 8000000 in
set_option maxRecDepth 100000 in
theorem chirographref06_Text.calls (k : Nat) (a0 : Int) (A1 : Option Addr) (c1 : Nat) (l1 : List Int) (r1 : ByteArray) (r2 : Int) (w : World) (hr1 : Kd.C (Kd.int .u8) w A1 l1.length l1) (hc1 : l1.length ≤ c1) (h : chirographref06_Text.f k a0 l1 = some (r1, r2)) :
    Calls Tryz.prog 156 #[.int .i64 a0, .slice A1 l1.length c1] w fun e w' => e = .returned (.tuple #[.string r1, .int .i64 r2]) ∧ Below w.heap.size w w' := by
  have HR1 := Aside0.mk hr1
  have HC1 := Aside0.mk hc1
  clear hr1 hc1
  have HB := Aside0.mk (Below.refl w.heap.size w)
  have H : (if a0 = 12 then ((chirographref06_utf8.f k l1).bind fun t1072 => (if t1072 = true then (some (strOfNums l1, 0)) else (some ((⟨#[]⟩ : ByteArray), 60)))) else (if a0 = 30 then (if ((l1.length : Int) % 2) = 1 then (some ((⟨#[]⟩ : ByteArray), 60)) else (chirographref06_Text.l0 k l1 ([] : List Int) 0)) else (if a0 = 18 then (chirographref06_Text.j2 k a0 l1 (a0 == 18)) else (if a0 = 19 then (chirographref06_Text.j2 k a0 l1 (a0 == 19)) else (if a0 = 22 then (chirographref06_Text.j2 k a0 l1 (a0 == 22)) else (chirographref06_Text.j2 k a0 l1 (a0 == 26))))))) = some (r1, r2) := h
  clear h
  by_cases c3 : a0 = 12
  · rw [if_pos c3] at H
    have c3b0 : (a0 == 12) = true := beq_iff_eq.mpr c3
    have c3b1 : (a0 != 12) = false := bne_eq_false_iff_eq.mpr c3
    clear c3
    replace H := Option.bind_eq_some_iff.mp H
    obtain ⟨t1072, A40, H⟩ := H
    replace H : (if t1072 = true then (some (strOfNums l1, 0)) else (some ((⟨#[]⟩ : ByteArray), 60))) = some (r1, r2) := H
    have A4 := Aside0.mk A40
    clear A40
    by_cases c5 : t1072 = true
    · subst c5
      have H1 : (some (strOfNums l1, 0)) = some (r1, r2) := by rw [if_pos rfl] at H; exact H
      clear H
      have H := H1
      clear H1
      simp only [Option.some.injEq, Prod.mk.injEq] at H
      obtain ⟨rfl, rfl⟩ := H
      go_enter Tryz.func156, Tryz.ntmps156
      go_wp2_with (first | (go_at_call 208; (with_reducible refine (chirographref06_utf8.calls k _ _ l1 true _ ?side1 ?side2 A4.out).mono ?_); (case side1 => repeat (first | exact HR1.out | (with_reducible refine Kd.C_alloc ?_ _) | (with_reducible refine Kd.C_drewN ?_ _) | (with_reducible refine Kd.C_drew ?_))); (case side2 => exact HC1.out); rintro e w' ⟨rfl, ⟨nd, rfl⟩⟩; (try first | exact ⟨rfl, _, World.drewN_drewN _ _ _⟩ | exact ⟨rfl, _, Eq.trans (World.drewN_drewN _ _ _) (congrArg (World.drewN _) (Nat.add_assoc _ _ _))⟩); have hcv6 := Kd.C_string (P := Tryz.prog) (A := A1) (c := c1) Tryz.underlying22 Tryz.underlying5 Tryz.underlying9 (Kd.C_drewN HR1.out nd)))
      repeat (go_quiet (first | (go_at_call 208; (with_reducible refine (chirographref06_utf8.calls k _ _ l1 true _ ?side1 ?side2 A4.out).mono ?_); (case side1 => repeat (first | exact HR1.out | (with_reducible refine Kd.C_alloc ?_ _) | (with_reducible refine Kd.C_drewN ?_ _) | (with_reducible refine Kd.C_drew ?_))); (case side2 => exact HC1.out); rintro e w' ⟨rfl, ⟨nd, rfl⟩⟩; (try first | exact ⟨rfl, _, World.drewN_drewN _ _ _⟩ | exact ⟨rfl, _, Eq.trans (World.drewN_drewN _ _ _) (congrArg (World.drewN _) (Nat.add_assoc _ _ _))⟩); have hcv6 := Kd.C_string (P := Tryz.prog) (A := A1) (c := c1) Tryz.underlying22 Tryz.underlying5 Tryz.underlying9 (Kd.C_drewN HR1.out nd))); try go_wp2_with (first | (go_at_call 208; (with_reducible refine (chirographref06_utf8.calls k _ _ l1 true _ ?side1 ?side2 A4.out).mono ?_); (case side1 => repeat (first | exact HR1.out | (with_reducible refine Kd.C_alloc ?_ _) | (with_reducible refine Kd.C_drewN ?_ _) | (with_reducible refine Kd.C_drew ?_))); (case side2 => exact HC1.out); rintro e w' ⟨rfl, ⟨nd, rfl⟩⟩; (try first | exact ⟨rfl, _, World.drewN_drewN _ _ _⟩ | exact ⟨rfl, _, Eq.trans (World.drewN_drewN _ _ _) (congrArg (World.drewN _) (Nat.add_assoc _ _ _))⟩); have hcv6 := Kd.C_string (P := Tryz.prog) (A := A1) (c := c1) Tryz.underlying22 Tryz.underlying5 Tryz.underlying9 (Kd.C_drewN HR1.out nd))))
      go_ret2
      exact ⟨by first | rfl | (simp [errW_none, errW_some] <;> rfl) | (simp [*, errW_none, errW_some] <;> rfl), by repeat (first | (with_reducible first | exact HB.out | apply below_alloc | apply pw_below_drewN | apply below_drew1) | exact HB.out)⟩
    replace c5 := Bool.eq_false_iff.mpr c5
    subst c5
    have H1 : (some ((⟨#[]⟩ : ByteArray), 60)) = some (r1, r2) := by rw [if_neg (show ¬ (false = true) by decide)] at H; exact H
    clear H
    have H := H1
    clear H1
    simp only [Option.some.injEq, Prod.mk.injEq] at H
    obtain ⟨rfl, rfl⟩ := H
    go_enter Tryz.func156, Tryz.ntmps156
    go_wp2_with (first | (go_at_call 208; (with_reducible refine (chirographref06_utf8.calls k _ _ l1 false _ ?side1 ?side2 A4.out).mono ?_); (case side1 => repeat (first | exact HR1.out | (with_reducible refine Kd.C_alloc ?_ _) | (with_reducible refine Kd.C_drewN ?_ _) | (with_reducible refine Kd.C_drew ?_))); (case side2 => exact HC1.out); rintro e w' ⟨rfl, ⟨nd, rfl⟩⟩; (try first | exact ⟨rfl, _, World.drewN_drewN _ _ _⟩ | exact ⟨rfl, _, Eq.trans (World.drewN_drewN _ _ _) (congrArg (World.drewN _) (Nat.add_assoc _ _ _))⟩)))
    repeat (go_quiet (first | (go_at_call 208; (with_reducible refine (chirographref06_utf8.calls k _ _ l1 false _ ?side1 ?side2 A4.out).mono ?_); (case side1 => repeat (first | exact HR1.out | (with_reducible refine Kd.C_alloc ?_ _) | (with_reducible refine Kd.C_drewN ?_ _) | (with_reducible refine Kd.C_drew ?_))); (case side2 => exact HC1.out); rintro e w' ⟨rfl, ⟨nd, rfl⟩⟩; (try first | exact ⟨rfl, _, World.drewN_drewN _ _ _⟩ | exact ⟨rfl, _, Eq.trans (World.drewN_drewN _ _ _) (congrArg (World.drewN _) (Nat.add_assoc _ _ _))⟩))); try go_wp2_with (first | (go_at_call 208; (with_reducible refine (chirographref06_utf8.calls k _ _ l1 false _ ?side1 ?side2 A4.out).mono ?_); (case side1 => repeat (first | exact HR1.out | (with_reducible refine Kd.C_alloc ?_ _) | (with_reducible refine Kd.C_drewN ?_ _) | (with_reducible refine Kd.C_drew ?_))); (case side2 => exact HC1.out); rintro e w' ⟨rfl, ⟨nd, rfl⟩⟩; (try first | exact ⟨rfl, _, World.drewN_drewN _ _ _⟩ | exact ⟨rfl, _, Eq.trans (World.drewN_drewN _ _ _) (congrArg (World.drewN _) (Nat.add_assoc _ _ _))⟩))))
    go_ret2
    exact ⟨by first | rfl | (simp [errW_none, errW_some] <;> rfl) | (simp [*, errW_none, errW_some] <;> rfl), by repeat (first | (with_reducible first | exact HB.out | apply below_alloc | apply pw_below_drewN | apply below_drew1) | exact HB.out)⟩
  rw [if_neg c3] at H
  have c3b0 : (a0 == 12) = false := beq_eq_false_iff_ne.mpr c3
  have c3b1 : (a0 != 12) = true := bne_iff_ne.mpr c3
  by_cases c7 : a0 = 30
  · rw [if_pos c7] at H
    have c7b0 : (a0 == 30) = true := beq_iff_eq.mpr c7
    have c7b1 : (a0 != 30) = false := bne_eq_false_iff_eq.mpr c7
    clear c7
    by_cases c8 : ((l1.length : Int) % 2) = 1
    · rw [if_pos c8] at H
      have c8b0 : (((l1.length : Int) % 2) == 1) = true := beq_iff_eq.mpr c8
      have c8b1 : (((l1.length : Int) % 2) != 1) = false := bne_eq_false_iff_eq.mpr c8
      clear c8
      simp only [Option.some.injEq, Prod.mk.injEq] at H
      obtain ⟨rfl, rfl⟩ := H
      go_enter Tryz.func156, Tryz.ntmps156
      go_wp2
      repeat (go_quiet (fail); try go_wp2)
      go_ret2
      exact ⟨by first | rfl | (simp [errW_none, errW_some] <;> rfl) | (simp [*, errW_none, errW_some] <;> rfl), by repeat (first | (with_reducible first | exact HB.out | apply below_alloc | apply pw_below_drewN | apply below_drew1) | exact HB.out)⟩
    rw [if_neg c8] at H
    have c8b0 : (((l1.length : Int) % 2) == 1) = false := beq_eq_false_iff_ne.mpr c8
    have c8b1 : (((l1.length : Int) % 2) != 1) = true := bne_iff_ne.mpr c8
    have H' := Aside0.mk H
    clear H
    go_enter Tryz.func156, Tryz.ntmps156
    go_wp2
    repeat (go_quiet (fail); try go_wp2)
    go_loopg [6, 7] k (fun kq v6 v7 w' => ∃ (x6_1 : List Int) (x7_1 : Int), v7 = .int .i64 x7_1 ∧ Aside0 (chirographref06_Text.l0 kq l1 x6_1 x7_1 = some (r1, r2)) ∧ Aside0 (kq ≤ k) ∧ Aside0 (Kd.R (Kd.int .u8) 5 w' w.heap.size (fun _ => True) v6 x6_1) ∧ Aside0 (Below w.heap.size w w'))
    case atStart => exact ⟨(([] : List Int)), (0), (by first | rfl | (simp; done) | (simp [*]; done)), H', ⟨Nat.le_refl _⟩, ⟨by first | exact Kd.R_nil _ _ _ _ _ | exact Kd.N_nil _ _ _ _ _ | exact Kd.V_nil _ _ _ _ _ | exact Kd.Q_nil _ _ _ _ _ | exact Kd.S_nil _ _ _ _ _⟩, ⟨by repeat (first | (with_reducible first | exact HB.out | apply below_alloc | apply pw_below_drewN | apply below_drew1) | exact HB.out)⟩⟩
    case round =>
      clear H'
      obtain ⟨x6_1, x7_1, rfl, HA, HK1, HO_6, HB⟩ := hrel
      cases gk with
      | zero => exact absurd HA.out (by simp [chirographref06_Text.l0])
      | succ k1 =>
        have H := HA.out
        clear HA
        simp only [chirographref06_Text.l0] at H
        by_cases c9 : x7_1 < (l1.length : Int)
        rotate_left
        · rw [if_neg c9] at H
          have c9b0 : decide (x7_1 < (l1.length : Int)) = false := decide_eq_false c9
          clear c9
          simp only [Option.some.injEq, Prod.mk.injEq] at H
          obtain ⟨rfl, rfl⟩ := H
          have hcv30 := own_string (P := Tryz.prog) Tryz.underlying22 Tryz.underlying5 Tryz.underlying9 (Kd.own_of_R HO_6.out)
          go_wp2
          repeat (go_quiet (fail); try go_wp2)
          go_ret2
          exact ⟨by first | rfl | (simp [errW_none, errW_some] <;> rfl) | (simp [*, errW_none, errW_some] <;> rfl), by repeat (first | (with_reducible first | exact HB.out | apply below_alloc | apply pw_below_drewN | apply below_drew1) | exact HB.out)⟩
        rw [if_pos c9] at H
        have c9b0 : decide (x7_1 < (l1.length : Int)) = true := decide_eq_true c9
        clear c9
        by_cases c10 : 0 ≤ x7_1
        rotate_left
        · rw [if_neg c10] at H
          exact absurd H (by simp)
        rw [if_pos c10] at H
        have c10b0 : decide (0 ≤ x7_1) = true := decide_eq_true c10
        clear c10
        by_cases c11 : 0 ≤ (wrap64 (x7_1 + 1))
        rotate_left
        · rw [if_neg c11] at H
          exact absurd H (by simp)
        rw [if_pos c11] at H
        have c11b0 : decide (0 ≤ (wrap64 (x7_1 + 1))) = true := decide_eq_true c11
        clear c11
        by_cases c12 : (wrap64 (x7_1 + 1)) < (l1.length : Int)
        rotate_left
        · rw [if_neg c12] at H
          exact absurd H (by simp)
        rw [if_pos c12] at H
        have c12b0 : decide ((wrap64 (x7_1 + 1)) < (l1.length : Int)) = true := decide_eq_true c12
        clear c12
        have HC13 := Aside0.mk H
        clear H
        have p1073 : 0 ≤ (x7_1 : Int) := of_decide_eq_true (by first | (with_reducible assumption) | assumption)
        have q1073 : x7_1 < (l1.length : Int) := of_decide_eq_true (by first | (with_reducible assumption) | assumption)
        obtain ⟨ad1073, e1073, hx1073_0⟩ := Kd.at_int HR1.out x7_1 p1073 q1073
        cases e1073
        replace hx1073_0 := (HB.out.cell (World.block_lt_of_cell? w _ hx1073_0)).trans hx1073_0
        replace p1073 := eq_true p1073
        replace q1073 := eq_true q1073
        have p1074 : 0 ≤ ((wrap64 (x7_1 + 1)) : Int) := of_decide_eq_true (by first | (with_reducible assumption) | assumption)
        have q1074 : (wrap64 (x7_1 + 1)) < (l1.length : Int) := of_decide_eq_true (by first | (with_reducible assumption) | assumption)
        obtain ⟨ad1074, e1074, hx1074_0⟩ := Kd.at_int HR1.out (wrap64 (x7_1 + 1)) p1074 q1074
        obtain rfl : ad1073 = ad1074 := (by injection e1074)
        replace hx1074_0 := (HB.out.cell (World.block_lt_of_cell? w _ hx1074_0)).trans hx1074_0
        replace p1074 := eq_true p1074
        replace q1074 := eq_true q1074
        go_upto_region 15 with (fail)
        repeat (go_quiet (fail); go_upto_region 15 with (fail))
        go_cut [61] (fun v61 wc => ∃ (kq : Nat) (x61_12 : Bool), v61 = .bool x61_12 ∧ Aside0 (chirographref06_Text.j1 kq l1 x6_1 x7_1 (wrap64 ((wrap64 ((wrap64 (rd l1 x7_1)) * 256)) + (wrap64 (rd l1 (wrap64 (x7_1 + 1)))))) x61_12 = some (r1, r2)) ∧ Aside0 (kq ≤ k1) ∧ Aside0 (Kd.R (Kd.int .u8) 5 wc w.heap.size (fun _ => True) u6 x6_1) ∧ Aside0 (Below w.heap.size w wc))
        case first =>
          have H := HC13.out
          clear HC13
          by_cases c14 : (wrap64 ((wrap64 ((wrap64 (rd l1 x7_1)) * 256)) + (wrap64 (rd l1 (wrap64 (x7_1 + 1)))))) ≥ 55296
          rotate_left
          · rw [if_neg c14] at H
            have c14b0 : decide (55296 ≤ (wrap64 ((wrap64 ((wrap64 (rd l1 x7_1)) * 256)) + (wrap64 (rd l1 (wrap64 (x7_1 + 1))))))) = false := decide_eq_false c14
            clear c14
            (first | rw [c14b0] | (simp only [i64_w, i32_w]; rw [c14b0]) | skip)
            have H' := Aside0.mk H
            clear H
            go_wp2
            repeat (go_quiet (fail); try go_wp2)
            go_meet
            case rel => exact ⟨_, (false), (by first | rfl | (simp; done) | (simp [*]; done)), H', ⟨by have := HK1.out; first | omega | exact Nat.le_refl _⟩, ⟨by (with_reducible repeat (first | apply Kd.R_alloc | apply Kd.R_drewN | apply Kd.R_drew)); exact HO_6.out⟩, ⟨by repeat (first | (with_reducible first | exact HB.out | apply below_alloc | apply pw_below_drewN | apply below_drew1) | exact HB.out)⟩⟩
          rw [if_pos c14] at H
          have c14b0 : decide (55296 ≤ (wrap64 ((wrap64 ((wrap64 (rd l1 x7_1)) * 256)) + (wrap64 (rd l1 (wrap64 (x7_1 + 1))))))) = true := decide_eq_true c14
          clear c14
          (first | rw [c14b0] | (simp only [i64_w, i32_w]; rw [c14b0]) | skip)
          have H' := Aside0.mk H
          clear H
          go_wp2
          repeat (go_quiet (fail); try go_wp2)
          go_meet
          case rel => exact ⟨_, (decide ((wrap64 ((wrap64 ((wrap64 (rd l1 x7_1)) * 256)) + (wrap64 (rd l1 (wrap64 (x7_1 + 1)))))) ≤ 57343)), (by first | rfl | (simp; done) | (simp [*]; done)), H', ⟨by have := HK1.out; first | omega | exact Nat.le_refl _⟩, ⟨by (with_reducible repeat (first | apply Kd.R_alloc | apply Kd.R_drewN | apply Kd.R_drew)); exact HO_6.out⟩, ⟨by repeat (first | (with_reducible first | exact HB.out | apply below_alloc | apply pw_below_drewN | apply below_drew1) | exact HB.out)⟩⟩
        clear HC13
        obtain ⟨kq, x61_12, rfl, HA, HJ12, HO_6, HB⟩ := hcut
        cases kq with
        | zero => exact absurd HA.out (by simp [chirographref06_Text.j1])
        | succ kj12 =>
          have H := HA.out
          clear HA
          simp only [chirographref06_Text.j1] at H
          by_cases c15 : x61_12 = true
          · subst c15
            have H1 : (some ((⟨#[]⟩ : ByteArray), 60)) = some (r1, r2) := by rw [if_pos rfl] at H; exact H
            clear H
            have H := H1
            clear H1
            simp only [Option.some.injEq, Prod.mk.injEq] at H
            obtain ⟨rfl, rfl⟩ := H
            go_wp2
            repeat (go_quiet (fail); try go_wp2)
            go_ret2
            exact ⟨by first | rfl | (simp [errW_none, errW_some] <;> rfl) | (simp [*, errW_none, errW_some] <;> rfl), by repeat (first | (with_reducible first | exact HB.out | apply below_alloc | apply pw_below_drewN | apply below_drew1) | exact HB.out)⟩
          replace c15 := Bool.eq_false_iff.mpr c15
          subst c15
          have H1 : (if (wrap64 ((wrap64 ((wrap64 (rd l1 x7_1)) * 256)) + (wrap64 (rd l1 (wrap64 (x7_1 + 1)))))) < 128 then (if x6_1.length < 140737488355328 then (chirographref06_Text.l0 kj12 l1 (x6_1 ++ [((wrap64 ((wrap64 ((wrap64 (rd l1 x7_1)) * 256)) + (wrap64 (rd l1 (wrap64 (x7_1 + 1))))))) % 256]) (wrap64 (x7_1 + 2))) else (none)) else (if (wrap64 ((wrap64 ((wrap64 (rd l1 x7_1)) * 256)) + (wrap64 (rd l1 (wrap64 (x7_1 + 1)))))) < 2048 then ((some (([(wrap64 (192 + (wrap64 (Int.tdiv (wrap64 ((wrap64 ((wrap64 (rd l1 x7_1)) * 256)) + (wrap64 (rd l1 (wrap64 (x7_1 + 1)))))) 64)))) % 256, (wrap64 (128 + (Int.tmod (wrap64 ((wrap64 ((wrap64 (rd l1 x7_1)) * 256)) + (wrap64 (rd l1 (wrap64 (x7_1 + 1)))))) 64))) % 256] : List Int) : List Int)).bind fun y1078 => (if x6_1.length + y1078.length < 140737488355328 then (chirographref06_Text.l0 kj12 l1 (x6_1 ++ y1078) (wrap64 (x7_1 + 2))) else (none))) else ((some (([(wrap64 (224 + (wrap64 (Int.tdiv (wrap64 ((wrap64 ((wrap64 (rd l1 x7_1)) * 256)) + (wrap64 (rd l1 (wrap64 (x7_1 + 1)))))) 4096)))) % 256, (wrap64 (128 + (Int.tmod (wrap64 (Int.tdiv (wrap64 ((wrap64 ((wrap64 (rd l1 x7_1)) * 256)) + (wrap64 (rd l1 (wrap64 (x7_1 + 1)))))) 64)) 64))) % 256, (wrap64 (128 + (Int.tmod (wrap64 ((wrap64 ((wrap64 (rd l1 x7_1)) * 256)) + (wrap64 (rd l1 (wrap64 (x7_1 + 1)))))) 64))) % 256] : List Int) : List Int)).bind fun y1084 => (if x6_1.length + y1084.length < 140737488355328 then (chirographref06_Text.l0 kj12 l1 (x6_1 ++ y1084) (wrap64 (x7_1 + 2))) else (none))))) = some (r1, r2) := by rw [if_neg (show ¬ (false = true) by decide)] at H; exact H
          clear H
          have H := H1
          clear H1
          by_cases c16 : (wrap64 ((wrap64 ((wrap64 (rd l1 x7_1)) * 256)) + (wrap64 (rd l1 (wrap64 (x7_1 + 1)))))) < 128
          · rw [if_pos c16] at H
            have c16b0 : decide ((wrap64 ((wrap64 ((wrap64 (rd l1 x7_1)) * 256)) + (wrap64 (rd l1 (wrap64 (x7_1 + 1)))))) < 128) = true := decide_eq_true c16
            clear c16
            by_cases c17 : x6_1.length < 140737488355328
            rotate_left
            · rw [if_neg c17] at H
              exact absurd H (by simp)
            rw [if_pos c17] at H
            have LMc17 := Aside0.mk c17
            clear c17
            obtain ⟨y1075, hy1075⟩ : ∃ y_ : List Int, y_ = (x6_1 ++ [((wrap64 ((wrap64 ((wrap64 (rd l1 x7_1)) * 256)) + (wrap64 (rd l1 (wrap64 (x7_1 + 1))))))) % 256]) := ⟨_, rfl⟩
            replace H : (chirographref06_Text.l0 kj12 l1 y1075 (wrap64 (x7_1 + 2))) = some (r1, r2) := by first | (rw [hy1075]; with_reducible exact H) | (have H2_ := (Option.bind_some _ _).symm.trans H; rw [hy1075]; with_reducible exact H2_) | (have H2_ := (Option.bind_some _ _).symm.trans H; with_reducible exact H2_) | with_reducible exact H | (rw [hy1075]; exact H) | exact H
            have Ny1075 := Aside0.mk hy1075
            clear hy1075
            have H' := Aside0.mk H
            clear H
            go_wp2_with (first | ((with_reducible refine gate_builtin (b := .append) (xs := #[.tmp 71, .tmp 74]) rfl ?_); at_builtin; refine Kd.R_append (Kd.int .u8) (w0 := w) w.heap.size rfl (.tmp 71) (.tmp 74) 22 5 (.int .u8 0) 1 rfl Tryz.underlying22 info5 rfl (by decide) (by omega) u6 x6_1 (((wrap64 ((wrap64 ((wrap64 (rd l1 x7_1)) * 256)) + (wrap64 (rd l1 (wrap64 (x7_1 + 1))))))) % 256) [.int .u8 (((wrap64 ((wrap64 ((wrap64 (rd l1 x7_1)) * 256)) + (wrap64 (rd l1 (wrap64 (x7_1 + 1))))))) % 256)] (fun _ => True) (fun _ => False) rfl rfl ?aP (fun _ hk => hk.elim) ?aF ?aO ?aB ?aS ?aL ?_; (case aP => exact rfl); (case aB => exact (by repeat (first | (with_reducible first | exact HB.out | apply below_alloc | apply pw_below_drewN | apply below_drew1) | exact HB.out))); (case aF => exact (fun _ _ => trivial)); (case aO => exact (by (with_reducible repeat (first | apply Kd.R_alloc | apply Kd.R_drewN | apply Kd.R_drew)); exact HO_6.out)); (case aS => exact (below_size (by repeat (first | (with_reducible first | exact HB.out | apply below_alloc | apply pw_below_drewN | apply below_drew1) | exact HB.out)))); (case aL => have := LMc17.out; omega); intro v1076 w18 ho hb hg hat; rw [← Ny1075.out] at ho; have n0_ := Aside0.mk (hb); have n1_ := Aside0.mk (ho); clear HB; clear HO_6; have HB := n0_; have HO1077 := n1_; clear n0_ n1_; clear ho hb hg hat))
            repeat (go_quiet (first | ((with_reducible refine gate_builtin (b := .append) (xs := #[.tmp 71, .tmp 74]) rfl ?_); at_builtin; refine Kd.R_append (Kd.int .u8) (w0 := w) w.heap.size rfl (.tmp 71) (.tmp 74) 22 5 (.int .u8 0) 1 rfl Tryz.underlying22 info5 rfl (by decide) (by omega) u6 x6_1 (((wrap64 ((wrap64 ((wrap64 (rd l1 x7_1)) * 256)) + (wrap64 (rd l1 (wrap64 (x7_1 + 1))))))) % 256) [.int .u8 (((wrap64 ((wrap64 ((wrap64 (rd l1 x7_1)) * 256)) + (wrap64 (rd l1 (wrap64 (x7_1 + 1))))))) % 256)] (fun _ => True) (fun _ => False) rfl rfl ?aP (fun _ hk => hk.elim) ?aF ?aO ?aB ?aS ?aL ?_; (case aP => exact rfl); (case aB => exact (by repeat (first | (with_reducible first | exact HB.out | apply below_alloc | apply pw_below_drewN | apply below_drew1) | exact HB.out))); (case aF => exact (fun _ _ => trivial)); (case aO => exact (by (with_reducible repeat (first | apply Kd.R_alloc | apply Kd.R_drewN | apply Kd.R_drew)); exact HO_6.out)); (case aS => exact (below_size (by repeat (first | (with_reducible first | exact HB.out | apply below_alloc | apply pw_below_drewN | apply below_drew1) | exact HB.out)))); (case aL => have := LMc17.out; omega); intro v1076 w18 ho hb hg hat; rw [← Ny1075.out] at ho; have n0_ := Aside0.mk (hb); have n1_ := Aside0.mk (ho); clear HB; clear HO_6; have HB := n0_; have HO1077 := n1_; clear n0_ n1_; clear ho hb hg hat)); try go_wp2_with (first | ((with_reducible refine gate_builtin (b := .append) (xs := #[.tmp 71, .tmp 74]) rfl ?_); at_builtin; refine Kd.R_append (Kd.int .u8) (w0 := w) w.heap.size rfl (.tmp 71) (.tmp 74) 22 5 (.int .u8 0) 1 rfl Tryz.underlying22 info5 rfl (by decide) (by omega) u6 x6_1 (((wrap64 ((wrap64 ((wrap64 (rd l1 x7_1)) * 256)) + (wrap64 (rd l1 (wrap64 (x7_1 + 1))))))) % 256) [.int .u8 (((wrap64 ((wrap64 ((wrap64 (rd l1 x7_1)) * 256)) + (wrap64 (rd l1 (wrap64 (x7_1 + 1))))))) % 256)] (fun _ => True) (fun _ => False) rfl rfl ?aP (fun _ hk => hk.elim) ?aF ?aO ?aB ?aS ?aL ?_; (case aP => exact rfl); (case aB => exact (by repeat (first | (with_reducible first | exact HB.out | apply below_alloc | apply pw_below_drewN | apply below_drew1) | exact HB.out))); (case aF => exact (fun _ _ => trivial)); (case aO => exact (by (with_reducible repeat (first | apply Kd.R_alloc | apply Kd.R_drewN | apply Kd.R_drew)); exact HO_6.out)); (case aS => exact (below_size (by repeat (first | (with_reducible first | exact HB.out | apply below_alloc | apply pw_below_drewN | apply below_drew1) | exact HB.out)))); (case aL => have := LMc17.out; omega); intro v1076 w18 ho hb hg hat; rw [← Ny1075.out] at ho; have n0_ := Aside0.mk (hb); have n1_ := Aside0.mk (ho); clear HB; clear HO_6; have HB := n0_; have HO1077 := n1_; clear n0_ n1_; clear ho hb hg hat)))
            go_roundg kj12
            case measure => have := HK1.out; have := HJ12.out; omega
            case rel => exact ⟨(y1075), (wrap64 (x7_1 + 2)), (by first | rfl | (simp; done) | (simp [*]; done)), H', ⟨by have := HK1.out; have := HJ12.out; omega⟩, ⟨by (with_reducible repeat (first | apply Kd.R_alloc | apply Kd.R_drewN | apply Kd.R_drew)); exact HO1077.out⟩, ⟨by repeat (first | (with_reducible first | exact HB.out | apply below_alloc | apply pw_below_drewN | apply below_drew1) | exact HB.out)⟩⟩
          rw [if_neg c16] at H
          have c16b0 : decide ((wrap64 ((wrap64 ((wrap64 (rd l1 x7_1)) * 256)) + (wrap64 (rd l1 (wrap64 (x7_1 + 1)))))) < 128) = false := decide_eq_false c16
          clear c16
          by_cases c19 : (wrap64 ((wrap64 ((wrap64 (rd l1 x7_1)) * 256)) + (wrap64 (rd l1 (wrap64 (x7_1 + 1)))))) < 2048
          rotate_left
          · rw [if_neg c19] at H
            have c19b0 : decide ((wrap64 ((wrap64 ((wrap64 (rd l1 x7_1)) * 256)) + (wrap64 (rd l1 (wrap64 (x7_1 + 1)))))) < 2048) = false := decide_eq_false c19
            clear c19
            obtain ⟨y1084, hy1084⟩ : ∃ y_ : List Int, y_ = (([(wrap64 (224 + (wrap64 (Int.tdiv (wrap64 ((wrap64 ((wrap64 (rd l1 x7_1)) * 256)) + (wrap64 (rd l1 (wrap64 (x7_1 + 1)))))) 4096)))) % 256, (wrap64 (128 + (Int.tmod (wrap64 (Int.tdiv (wrap64 ((wrap64 ((wrap64 (rd l1 x7_1)) * 256)) + (wrap64 (rd l1 (wrap64 (x7_1 + 1)))))) 64)) 64))) % 256, (wrap64 (128 + (Int.tmod (wrap64 ((wrap64 ((wrap64 (rd l1 x7_1)) * 256)) + (wrap64 (rd l1 (wrap64 (x7_1 + 1)))))) 64))) % 256] : List Int)) := ⟨_, rfl⟩
            replace H : (if x6_1.length + y1084.length < 140737488355328 then (chirographref06_Text.l0 kj12 l1 (x6_1 ++ y1084) (wrap64 (x7_1 + 2))) else (none)) = some (r1, r2) := by first | (rw [hy1084]; with_reducible exact H) | (have H2_ := (Option.bind_some _ _).symm.trans H; rw [hy1084]; with_reducible exact H2_) | (have H2_ := (Option.bind_some _ _).symm.trans H; with_reducible exact H2_) | with_reducible exact H | (rw [hy1084]; exact H) | exact H
            have Ny1084 := Aside0.mk hy1084
            clear hy1084
            by_cases c25 : x6_1.length + y1084.length < 140737488355328
            rotate_left
            · rw [if_neg c25] at H
              exact absurd H (by simp)
            rw [if_pos c25] at H
            have LMc25 := Aside0.mk c25
            clear c25
            obtain ⟨y1087, hy1087⟩ : ∃ y_ : List Int, y_ = (x6_1 ++ y1084) := ⟨_, rfl⟩
            replace H : (chirographref06_Text.l0 kj12 l1 y1087 (wrap64 (x7_1 + 2))) = some (r1, r2) := by first | (rw [hy1087]; with_reducible exact H) | (have H2_ := (Option.bind_some _ _).symm.trans H; rw [hy1087]; with_reducible exact H2_) | (have H2_ := (Option.bind_some _ _).symm.trans H; with_reducible exact H2_) | with_reducible exact H | (rw [hy1087]; exact H) | exact H
            have Ny1087 := Aside0.mk hy1087
            clear hy1087
            have H' := Aside0.mk H
            clear H
            go_wp2_with (first | ((with_reducible refine gate_dst (N := 59) rfl ?_); refine Kd.R_lit (Kd.int .u8) _ 5 ?hg (N := 59) ?hd (xs := ([(wrap64 (224 + (wrap64 (Int.tdiv (wrap64 ((wrap64 ((wrap64 (rd l1 x7_1)) * 256)) + (wrap64 (rd l1 (wrap64 (x7_1 + 1)))))) 4096)))) % 256, (wrap64 (128 + (Int.tmod (wrap64 (Int.tdiv (wrap64 ((wrap64 ((wrap64 (rd l1 x7_1)) * 256)) + (wrap64 (rd l1 (wrap64 (x7_1 + 1)))))) 64)) 64))) % 256, (wrap64 (128 + (Int.tmod (wrap64 ((wrap64 ((wrap64 (rd l1 x7_1)) * 256)) + (wrap64 (rd l1 (wrap64 (x7_1 + 1)))))) 64))) % 256] : List Int)) (inner := [.int .u8 ((wrap64 (224 + (wrap64 (Int.tdiv (wrap64 ((wrap64 ((wrap64 (rd l1 x7_1)) * 256)) + (wrap64 (rd l1 (wrap64 (x7_1 + 1)))))) 4096)))) % 256), .int .u8 ((wrap64 (128 + (Int.tmod (wrap64 (Int.tdiv (wrap64 ((wrap64 ((wrap64 (rd l1 x7_1)) * 256)) + (wrap64 (rd l1 (wrap64 (x7_1 + 1)))))) 64)) 64))) % 256), .int .u8 ((wrap64 (128 + (Int.tmod (wrap64 ((wrap64 ((wrap64 (rd l1 x7_1)) * 256)) + (wrap64 (rd l1 (wrap64 (x7_1 + 1)))))) 64))) % 256)]) (ok := fun _ => True) (okp := fun _ => True) ?hr ?hp (fun _ hk => hk) trivial (Below.refl _ _) (Nat.le_refl _) (by simp) ?_; (case hd => rfl); (case hg => rfl); (case hr => first | (go_simp; done) | (go_simp; rfl)); (case hp => exact (Reps.one (show Kd.M (Kd.int .u8) _ _ _ ((wrap64 (224 + (wrap64 (Int.tdiv (wrap64 ((wrap64 ((wrap64 (rd l1 x7_1)) * 256)) + (wrap64 (rd l1 (wrap64 (x7_1 + 1)))))) 4096)))) % 256) [.int .u8 ((wrap64 (224 + (wrap64 (Int.tdiv (wrap64 ((wrap64 ((wrap64 (rd l1 x7_1)) * 256)) + (wrap64 (rd l1 (wrap64 (x7_1 + 1)))))) 4096)))) % 256)] from rfl) (Reps.one (show Kd.M (Kd.int .u8) _ _ _ ((wrap64 (128 + (Int.tmod (wrap64 (Int.tdiv (wrap64 ((wrap64 ((wrap64 (rd l1 x7_1)) * 256)) + (wrap64 (rd l1 (wrap64 (x7_1 + 1)))))) 64)) 64))) % 256) [.int .u8 ((wrap64 (128 + (Int.tmod (wrap64 (Int.tdiv (wrap64 ((wrap64 ((wrap64 (rd l1 x7_1)) * 256)) + (wrap64 (rd l1 (wrap64 (x7_1 + 1)))))) 64)) 64))) % 256)] from rfl) (Reps.one (show Kd.M (Kd.int .u8) _ _ _ ((wrap64 (128 + (Int.tmod (wrap64 ((wrap64 ((wrap64 (rd l1 x7_1)) * 256)) + (wrap64 (rd l1 (wrap64 (x7_1 + 1)))))) 64))) % 256) [.int .u8 ((wrap64 (128 + (Int.tmod (wrap64 ((wrap64 ((wrap64 (rd l1 x7_1)) * 256)) + (wrap64 (rd l1 (wrap64 (x7_1 + 1)))))) 64))) % 256)] from rfl) (Reps.none _ _))))); intro v1085 w26 ho27 hb hg_ hnew_; clear hg_ hnew_; (first | rw [← Ny1084.out] at ho27 | (simp only [Int.reduceToNat] at ho27; rw [← Ny1084.out] at ho27)); have n0_ := Aside0.mk (Kd.R_elder' (by (with_reducible repeat (first | apply Kd.R_alloc | apply Kd.R_drewN | apply Kd.R_drew)); exact HO_6.out) (Kd.R_base ho27) hb); have n1_ := Aside0.mk (Kd.R_lower (Kd.R_new' ho27 (Kd.R_lt (by (with_reducible repeat (first | apply Kd.R_alloc | apply Kd.R_drewN | apply Kd.R_drew)); exact HO_6.out))) (below_size (by repeat (first | (with_reducible first | exact HB.out | apply below_alloc | apply pw_below_drewN | apply below_drew1) | exact HB.out)))); have n2_ := Aside0.mk (below_step (by repeat (first | (with_reducible first | exact HB.out | apply below_alloc | apply pw_below_drewN | apply below_drew1) | exact HB.out)) hb); clear HO_6; clear HB; have HO_6 := n0_; have HO1086 := n1_; have HB := n2_; clear n0_ n1_ n2_; clear hb ho27; obtain ⟨Ao29, co29, eo29⟩ := Kd.R_slice HO1086.out; subst eo29) | ((with_reducible refine gate_builtin (b := .append) (xs := #[.tmp 45, .tmp 59]) rfl ?_); at_builtin; refine Kd.R_append_rows (Kd.int .u8) (w0 := w) w.heap.size rfl (.tmp 45) (.tmp 59) 22 5 (.int .u8 0) 1 rfl Tryz.underlying22 info5 rfl (by decide) (by omega) u6 x6_1 y1084 _ _ _ (fun k_ => some k_ ≠ (.slice Ao29 y1084.length co29 : Value).ownBlock) (fun _ => False) rfl rfl ?aO ?aR (fun _ _ h => h) (fun _ h => h.elim) ?aF ?aB ?aS ?aL ?_; (case aR => repeat (first | exact (Kd.R_reads' HO1086.out).2.2 | (with_reducible refine Kd.C_alloc ?_ _) | (with_reducible refine Kd.C_drewN ?_ _) | (with_reducible refine Kd.C_drew ?_))); (case aB => exact (by repeat (first | (with_reducible first | exact HB.out | apply below_alloc | apply pw_below_drewN | apply below_drew1) | exact HB.out))); (case aF => exact (fun k_ hk => Kd.fresh' (Kd.R_lt (by (with_reducible repeat (first | apply Kd.R_alloc | apply Kd.R_drewN | apply Kd.R_drew)); exact HO1086.out)) k_ hk)); (case aO => exact (by (with_reducible repeat (first | apply Kd.R_alloc | apply Kd.R_drewN | apply Kd.R_drew)); exact Kd.R_mono HO_6.out (fun _ hk => hk.2))); (case aS => exact (below_size (by repeat (first | (with_reducible first | exact HB.out | apply below_alloc | apply pw_below_drewN | apply below_drew1) | exact HB.out)))); (case aL => have := LMc25.out; omega); intro v1088 w28 ho hb hg hat; rw [← Ny1087.out] at ho; have n0_ := Aside0.mk (Kd.R_after (ok := (fun _ => True)) (by (with_reducible repeat (first | apply Kd.R_alloc | apply Kd.R_drewN | apply Kd.R_drew)); exact HO1086.out) hg hat); have n1_ := Aside0.mk (hb); have n2_ := Aside0.mk (ho); clear HO1086; clear HB; clear HO_6; have HO1086 := n0_; have HB := n1_; have HO1089 := n2_; clear n0_ n1_ n2_; clear ho hb hg hat))
            repeat (go_quiet (first | ((with_reducible refine gate_dst (N := 59) rfl ?_); refine Kd.R_lit (Kd.int .u8) _ 5 ?hg (N := 59) ?hd (xs := ([(wrap64 (224 + (wrap64 (Int.tdiv (wrap64 ((wrap64 ((wrap64 (rd l1 x7_1)) * 256)) + (wrap64 (rd l1 (wrap64 (x7_1 + 1)))))) 4096)))) % 256, (wrap64 (128 + (Int.tmod (wrap64 (Int.tdiv (wrap64 ((wrap64 ((wrap64 (rd l1 x7_1)) * 256)) + (wrap64 (rd l1 (wrap64 (x7_1 + 1)))))) 64)) 64))) % 256, (wrap64 (128 + (Int.tmod (wrap64 ((wrap64 ((wrap64 (rd l1 x7_1)) * 256)) + (wrap64 (rd l1 (wrap64 (x7_1 + 1)))))) 64))) % 256] : List Int)) (inner := [.int .u8 ((wrap64 (224 + (wrap64 (Int.tdiv (wrap64 ((wrap64 ((wrap64 (rd l1 x7_1)) * 256)) + (wrap64 (rd l1 (wrap64 (x7_1 + 1)))))) 4096)))) % 256), .int .u8 ((wrap64 (128 + (Int.tmod (wrap64 (Int.tdiv (wrap64 ((wrap64 ((wrap64 (rd l1 x7_1)) * 256)) + (wrap64 (rd l1 (wrap64 (x7_1 + 1)))))) 64)) 64))) % 256), .int .u8 ((wrap64 (128 + (Int.tmod (wrap64 ((wrap64 ((wrap64 (rd l1 x7_1)) * 256)) + (wrap64 (rd l1 (wrap64 (x7_1 + 1)))))) 64))) % 256)]) (ok := fun _ => True) (okp := fun _ => True) ?hr ?hp (fun _ hk => hk) trivial (Below.refl _ _) (Nat.le_refl _) (by simp) ?_; (case hd => rfl); (case hg => rfl); (case hr => first | (go_simp; done) | (go_simp; rfl)); (case hp => exact (Reps.one (show Kd.M (Kd.int .u8) _ _ _ ((wrap64 (224 + (wrap64 (Int.tdiv (wrap64 ((wrap64 ((wrap64 (rd l1 x7_1)) * 256)) + (wrap64 (rd l1 (wrap64 (x7_1 + 1)))))) 4096)))) % 256) [.int .u8 ((wrap64 (224 + (wrap64 (Int.tdiv (wrap64 ((wrap64 ((wrap64 (rd l1 x7_1)) * 256)) + (wrap64 (rd l1 (wrap64 (x7_1 + 1)))))) 4096)))) % 256)] from rfl) (Reps.one (show Kd.M (Kd.int .u8) _ _ _ ((wrap64 (128 + (Int.tmod (wrap64 (Int.tdiv (wrap64 ((wrap64 ((wrap64 (rd l1 x7_1)) * 256)) + (wrap64 (rd l1 (wrap64 (x7_1 + 1)))))) 64)) 64))) % 256) [.int .u8 ((wrap64 (128 + (Int.tmod (wrap64 (Int.tdiv (wrap64 ((wrap64 ((wrap64 (rd l1 x7_1)) * 256)) + (wrap64 (rd l1 (wrap64 (x7_1 + 1)))))) 64)) 64))) % 256)] from rfl) (Reps.one (show Kd.M (Kd.int .u8) _ _ _ ((wrap64 (128 + (Int.tmod (wrap64 ((wrap64 ((wrap64 (rd l1 x7_1)) * 256)) + (wrap64 (rd l1 (wrap64 (x7_1 + 1)))))) 64))) % 256) [.int .u8 ((wrap64 (128 + (Int.tmod (wrap64 ((wrap64 ((wrap64 (rd l1 x7_1)) * 256)) + (wrap64 (rd l1 (wrap64 (x7_1 + 1)))))) 64))) % 256)] from rfl) (Reps.none _ _))))); intro v1085 w26 ho27 hb hg_ hnew_; clear hg_ hnew_; (first | rw [← Ny1084.out] at ho27 | (simp only [Int.reduceToNat] at ho27; rw [← Ny1084.out] at ho27)); have n0_ := Aside0.mk (Kd.R_elder' (by (with_reducible repeat (first | apply Kd.R_alloc | apply Kd.R_drewN | apply Kd.R_drew)); exact HO_6.out) (Kd.R_base ho27) hb); have n1_ := Aside0.mk (Kd.R_lower (Kd.R_new' ho27 (Kd.R_lt (by (with_reducible repeat (first | apply Kd.R_alloc | apply Kd.R_drewN | apply Kd.R_drew)); exact HO_6.out))) (below_size (by repeat (first | (with_reducible first | exact HB.out | apply below_alloc | apply pw_below_drewN | apply below_drew1) | exact HB.out)))); have n2_ := Aside0.mk (below_step (by repeat (first | (with_reducible first | exact HB.out | apply below_alloc | apply pw_below_drewN | apply below_drew1) | exact HB.out)) hb); clear HO_6; clear HB; have HO_6 := n0_; have HO1086 := n1_; have HB := n2_; clear n0_ n1_ n2_; clear hb ho27; obtain ⟨Ao29, co29, eo29⟩ := Kd.R_slice HO1086.out; subst eo29) | ((with_reducible refine gate_builtin (b := .append) (xs := #[.tmp 45, .tmp 59]) rfl ?_); at_builtin; refine Kd.R_append_rows (Kd.int .u8) (w0 := w) w.heap.size rfl (.tmp 45) (.tmp 59) 22 5 (.int .u8 0) 1 rfl Tryz.underlying22 info5 rfl (by decide) (by omega) u6 x6_1 y1084 _ _ _ (fun k_ => some k_ ≠ (.slice Ao29 y1084.length co29 : Value).ownBlock) (fun _ => False) rfl rfl ?aO ?aR (fun _ _ h => h) (fun _ h => h.elim) ?aF ?aB ?aS ?aL ?_; (case aR => repeat (first | exact (Kd.R_reads' HO1086.out).2.2 | (with_reducible refine Kd.C_alloc ?_ _) | (with_reducible refine Kd.C_drewN ?_ _) | (with_reducible refine Kd.C_drew ?_))); (case aB => exact (by repeat (first | (with_reducible first | exact HB.out | apply below_alloc | apply pw_below_drewN | apply below_drew1) | exact HB.out))); (case aF => exact (fun k_ hk => Kd.fresh' (Kd.R_lt (by (with_reducible repeat (first | apply Kd.R_alloc | apply Kd.R_drewN | apply Kd.R_drew)); exact HO1086.out)) k_ hk)); (case aO => exact (by (with_reducible repeat (first | apply Kd.R_alloc | apply Kd.R_drewN | apply Kd.R_drew)); exact Kd.R_mono HO_6.out (fun _ hk => hk.2))); (case aS => exact (below_size (by repeat (first | (with_reducible first | exact HB.out | apply below_alloc | apply pw_below_drewN | apply below_drew1) | exact HB.out)))); (case aL => have := LMc25.out; omega); intro v1088 w28 ho hb hg hat; rw [← Ny1087.out] at ho; have n0_ := Aside0.mk (Kd.R_after (ok := (fun _ => True)) (by (with_reducible repeat (first | apply Kd.R_alloc | apply Kd.R_drewN | apply Kd.R_drew)); exact HO1086.out) hg hat); have n1_ := Aside0.mk (hb); have n2_ := Aside0.mk (ho); clear HO1086; clear HB; clear HO_6; have HO1086 := n0_; have HB := n1_; have HO1089 := n2_; clear n0_ n1_ n2_; clear ho hb hg hat)); try go_wp2_with (first | ((with_reducible refine gate_dst (N := 59) rfl ?_); refine Kd.R_lit (Kd.int .u8) _ 5 ?hg (N := 59) ?hd (xs := ([(wrap64 (224 + (wrap64 (Int.tdiv (wrap64 ((wrap64 ((wrap64 (rd l1 x7_1)) * 256)) + (wrap64 (rd l1 (wrap64 (x7_1 + 1)))))) 4096)))) % 256, (wrap64 (128 + (Int.tmod (wrap64 (Int.tdiv (wrap64 ((wrap64 ((wrap64 (rd l1 x7_1)) * 256)) + (wrap64 (rd l1 (wrap64 (x7_1 + 1)))))) 64)) 64))) % 256, (wrap64 (128 + (Int.tmod (wrap64 ((wrap64 ((wrap64 (rd l1 x7_1)) * 256)) + (wrap64 (rd l1 (wrap64 (x7_1 + 1)))))) 64))) % 256] : List Int)) (inner := [.int .u8 ((wrap64 (224 + (wrap64 (Int.tdiv (wrap64 ((wrap64 ((wrap64 (rd l1 x7_1)) * 256)) + (wrap64 (rd l1 (wrap64 (x7_1 + 1)))))) 4096)))) % 256), .int .u8 ((wrap64 (128 + (Int.tmod (wrap64 (Int.tdiv (wrap64 ((wrap64 ((wrap64 (rd l1 x7_1)) * 256)) + (wrap64 (rd l1 (wrap64 (x7_1 + 1)))))) 64)) 64))) % 256), .int .u8 ((wrap64 (128 + (Int.tmod (wrap64 ((wrap64 ((wrap64 (rd l1 x7_1)) * 256)) + (wrap64 (rd l1 (wrap64 (x7_1 + 1)))))) 64))) % 256)]) (ok := fun _ => True) (okp := fun _ => True) ?hr ?hp (fun _ hk => hk) trivial (Below.refl _ _) (Nat.le_refl _) (by simp) ?_; (case hd => rfl); (case hg => rfl); (case hr => first | (go_simp; done) | (go_simp; rfl)); (case hp => exact (Reps.one (show Kd.M (Kd.int .u8) _ _ _ ((wrap64 (224 + (wrap64 (Int.tdiv (wrap64 ((wrap64 ((wrap64 (rd l1 x7_1)) * 256)) + (wrap64 (rd l1 (wrap64 (x7_1 + 1)))))) 4096)))) % 256) [.int .u8 ((wrap64 (224 + (wrap64 (Int.tdiv (wrap64 ((wrap64 ((wrap64 (rd l1 x7_1)) * 256)) + (wrap64 (rd l1 (wrap64 (x7_1 + 1)))))) 4096)))) % 256)] from rfl) (Reps.one (show Kd.M (Kd.int .u8) _ _ _ ((wrap64 (128 + (Int.tmod (wrap64 (Int.tdiv (wrap64 ((wrap64 ((wrap64 (rd l1 x7_1)) * 256)) + (wrap64 (rd l1 (wrap64 (x7_1 + 1)))))) 64)) 64))) % 256) [.int .u8 ((wrap64 (128 + (Int.tmod (wrap64 (Int.tdiv (wrap64 ((wrap64 ((wrap64 (rd l1 x7_1)) * 256)) + (wrap64 (rd l1 (wrap64 (x7_1 + 1)))))) 64)) 64))) % 256)] from rfl) (Reps.one (show Kd.M (Kd.int .u8) _ _ _ ((wrap64 (128 + (Int.tmod (wrap64 ((wrap64 ((wrap64 (rd l1 x7_1)) * 256)) + (wrap64 (rd l1 (wrap64 (x7_1 + 1)))))) 64))) % 256) [.int .u8 ((wrap64 (128 + (Int.tmod (wrap64 ((wrap64 ((wrap64 (rd l1 x7_1)) * 256)) + (wrap64 (rd l1 (wrap64 (x7_1 + 1)))))) 64))) % 256)] from rfl) (Reps.none _ _))))); intro v1085 w26 ho27 hb hg_ hnew_; clear hg_ hnew_; (first | rw [← Ny1084.out] at ho27 | (simp only [Int.reduceToNat] at ho27; rw [← Ny1084.out] at ho27)); have n0_ := Aside0.mk (Kd.R_elder' (by (with_reducible repeat (first | apply Kd.R_alloc | apply Kd.R_drewN | apply Kd.R_drew)); exact HO_6.out) (Kd.R_base ho27) hb); have n1_ := Aside0.mk (Kd.R_lower (Kd.R_new' ho27 (Kd.R_lt (by (with_reducible repeat (first | apply Kd.R_alloc | apply Kd.R_drewN | apply Kd.R_drew)); exact HO_6.out))) (below_size (by repeat (first | (with_reducible first | exact HB.out | apply below_alloc | apply pw_below_drewN | apply below_drew1) | exact HB.out)))); have n2_ := Aside0.mk (below_step (by repeat (first | (with_reducible first | exact HB.out | apply below_alloc | apply pw_below_drewN | apply below_drew1) | exact HB.out)) hb); clear HO_6; clear HB; have HO_6 := n0_; have HO1086 := n1_; have HB := n2_; clear n0_ n1_ n2_; clear hb ho27; obtain ⟨Ao29, co29, eo29⟩ := Kd.R_slice HO1086.out; subst eo29) | ((with_reducible refine gate_builtin (b := .append) (xs := #[.tmp 45, .tmp 59]) rfl ?_); at_builtin; refine Kd.R_append_rows (Kd.int .u8) (w0 := w) w.heap.size rfl (.tmp 45) (.tmp 59) 22 5 (.int .u8 0) 1 rfl Tryz.underlying22 info5 rfl (by decide) (by omega) u6 x6_1 y1084 _ _ _ (fun k_ => some k_ ≠ (.slice Ao29 y1084.length co29 : Value).ownBlock) (fun _ => False) rfl rfl ?aO ?aR (fun _ _ h => h) (fun _ h => h.elim) ?aF ?aB ?aS ?aL ?_; (case aR => repeat (first | exact (Kd.R_reads' HO1086.out).2.2 | (with_reducible refine Kd.C_alloc ?_ _) | (with_reducible refine Kd.C_drewN ?_ _) | (with_reducible refine Kd.C_drew ?_))); (case aB => exact (by repeat (first | (with_reducible first | exact HB.out | apply below_alloc | apply pw_below_drewN | apply below_drew1) | exact HB.out))); (case aF => exact (fun k_ hk => Kd.fresh' (Kd.R_lt (by (with_reducible repeat (first | apply Kd.R_alloc | apply Kd.R_drewN | apply Kd.R_drew)); exact HO1086.out)) k_ hk)); (case aO => exact (by (with_reducible repeat (first | apply Kd.R_alloc | apply Kd.R_drewN | apply Kd.R_drew)); exact Kd.R_mono HO_6.out (fun _ hk => hk.2))); (case aS => exact (below_size (by repeat (first | (with_reducible first | exact HB.out | apply below_alloc | apply pw_below_drewN | apply below_drew1) | exact HB.out)))); (case aL => have := LMc25.out; omega); intro v1088 w28 ho hb hg hat; rw [← Ny1087.out] at ho; have n0_ := Aside0.mk (Kd.R_after (ok := (fun _ => True)) (by (with_reducible repeat (first | apply Kd.R_alloc | apply Kd.R_drewN | apply Kd.R_drew)); exact HO1086.out) hg hat); have n1_ := Aside0.mk (hb); have n2_ := Aside0.mk (ho); clear HO1086; clear HB; clear HO_6; have HO1086 := n0_; have HB := n1_; have HO1089 := n2_; clear n0_ n1_ n2_; clear ho hb hg hat)))
            go_roundg kj12
            case measure => have := HK1.out; have := HJ12.out; omega
            case rel => exact ⟨(y1087), (wrap64 (x7_1 + 2)), (by first | rfl | (simp; done) | (simp [*]; done)), H', ⟨by have := HK1.out; have := HJ12.out; omega⟩, ⟨by (with_reducible repeat (first | apply Kd.R_alloc | apply Kd.R_drewN | apply Kd.R_drew)); exact Kd.R_mono HO1089.out (fun _ hk => trivial)⟩, ⟨by repeat (first | (with_reducible first | exact HB.out | apply below_alloc | apply pw_below_drewN | apply below_drew1) | exact HB.out)⟩⟩
          rw [if_pos c19] at H
          have c19b0 : decide ((wrap64 ((wrap64 ((wrap64 (rd l1 x7_1)) * 256)) + (wrap64 (rd l1 (wrap64 (x7_1 + 1)))))) < 2048) = true := decide_eq_true c19
          clear c19
          obtain ⟨y1078, hy1078⟩ : ∃ y_ : List Int, y_ = (([(wrap64 (192 + (wrap64 (Int.tdiv (wrap64 ((wrap64 ((wrap64 (rd l1 x7_1)) * 256)) + (wrap64 (rd l1 (wrap64 (x7_1 + 1)))))) 64)))) % 256, (wrap64 (128 + (Int.tmod (wrap64 ((wrap64 ((wrap64 (rd l1 x7_1)) * 256)) + (wrap64 (rd l1 (wrap64 (x7_1 + 1)))))) 64))) % 256] : List Int)) := ⟨_, rfl⟩
          replace H : (if x6_1.length + y1078.length < 140737488355328 then (chirographref06_Text.l0 kj12 l1 (x6_1 ++ y1078) (wrap64 (x7_1 + 2))) else (none)) = some (r1, r2) := by first | (rw [hy1078]; with_reducible exact H) | (have H2_ := (Option.bind_some _ _).symm.trans H; rw [hy1078]; with_reducible exact H2_) | (have H2_ := (Option.bind_some _ _).symm.trans H; with_reducible exact H2_) | with_reducible exact H | (rw [hy1078]; exact H) | exact H
          have Ny1078 := Aside0.mk hy1078
          clear hy1078
          by_cases c20 : x6_1.length + y1078.length < 140737488355328
          rotate_left
          · rw [if_neg c20] at H
            exact absurd H (by simp)
          rw [if_pos c20] at H
          have LMc20 := Aside0.mk c20
          clear c20
          obtain ⟨y1081, hy1081⟩ : ∃ y_ : List Int, y_ = (x6_1 ++ y1078) := ⟨_, rfl⟩
          replace H : (chirographref06_Text.l0 kj12 l1 y1081 (wrap64 (x7_1 + 2))) = some (r1, r2) := by first | (rw [hy1081]; with_reducible exact H) | (have H2_ := (Option.bind_some _ _).symm.trans H; rw [hy1081]; with_reducible exact H2_) | (have H2_ := (Option.bind_some _ _).symm.trans H; with_reducible exact H2_) | with_reducible exact H | (rw [hy1081]; exact H) | exact H
          have Ny1081 := Aside0.mk hy1081
          clear hy1081
          have H' := Aside0.mk H
          clear H
          go_wp2_with (first | ((with_reducible refine gate_dst (N := 88) rfl ?_); refine Kd.R_lit (Kd.int .u8) _ 5 ?hg (N := 88) ?hd (xs := ([(wrap64 (192 + (wrap64 (Int.tdiv (wrap64 ((wrap64 ((wrap64 (rd l1 x7_1)) * 256)) + (wrap64 (rd l1 (wrap64 (x7_1 + 1)))))) 64)))) % 256, (wrap64 (128 + (Int.tmod (wrap64 ((wrap64 ((wrap64 (rd l1 x7_1)) * 256)) + (wrap64 (rd l1 (wrap64 (x7_1 + 1)))))) 64))) % 256] : List Int)) (inner := [.int .u8 ((wrap64 (192 + (wrap64 (Int.tdiv (wrap64 ((wrap64 ((wrap64 (rd l1 x7_1)) * 256)) + (wrap64 (rd l1 (wrap64 (x7_1 + 1)))))) 64)))) % 256), .int .u8 ((wrap64 (128 + (Int.tmod (wrap64 ((wrap64 ((wrap64 (rd l1 x7_1)) * 256)) + (wrap64 (rd l1 (wrap64 (x7_1 + 1)))))) 64))) % 256)]) (ok := fun _ => True) (okp := fun _ => True) ?hr ?hp (fun _ hk => hk) trivial (Below.refl _ _) (Nat.le_refl _) (by simp) ?_; (case hd => rfl); (case hg => rfl); (case hr => first | (go_simp; done) | (go_simp; rfl)); (case hp => exact (Reps.one (show Kd.M (Kd.int .u8) _ _ _ ((wrap64 (192 + (wrap64 (Int.tdiv (wrap64 ((wrap64 ((wrap64 (rd l1 x7_1)) * 256)) + (wrap64 (rd l1 (wrap64 (x7_1 + 1)))))) 64)))) % 256) [.int .u8 ((wrap64 (192 + (wrap64 (Int.tdiv (wrap64 ((wrap64 ((wrap64 (rd l1 x7_1)) * 256)) + (wrap64 (rd l1 (wrap64 (x7_1 + 1)))))) 64)))) % 256)] from rfl) (Reps.one (show Kd.M (Kd.int .u8) _ _ _ ((wrap64 (128 + (Int.tmod (wrap64 ((wrap64 ((wrap64 (rd l1 x7_1)) * 256)) + (wrap64 (rd l1 (wrap64 (x7_1 + 1)))))) 64))) % 256) [.int .u8 ((wrap64 (128 + (Int.tmod (wrap64 ((wrap64 ((wrap64 (rd l1 x7_1)) * 256)) + (wrap64 (rd l1 (wrap64 (x7_1 + 1)))))) 64))) % 256)] from rfl) (Reps.none _ _)))); intro v1079 w21 ho22 hb hg_ hnew_; clear hg_ hnew_; (first | rw [← Ny1078.out] at ho22 | (simp only [Int.reduceToNat] at ho22; rw [← Ny1078.out] at ho22)); have n0_ := Aside0.mk (Kd.R_elder' (by (with_reducible repeat (first | apply Kd.R_alloc | apply Kd.R_drewN | apply Kd.R_drew)); exact HO_6.out) (Kd.R_base ho22) hb); have n1_ := Aside0.mk (Kd.R_lower (Kd.R_new' ho22 (Kd.R_lt (by (with_reducible repeat (first | apply Kd.R_alloc | apply Kd.R_drewN | apply Kd.R_drew)); exact HO_6.out))) (below_size (by repeat (first | (with_reducible first | exact HB.out | apply below_alloc | apply pw_below_drewN | apply below_drew1) | exact HB.out)))); have n2_ := Aside0.mk (below_step (by repeat (first | (with_reducible first | exact HB.out | apply below_alloc | apply pw_below_drewN | apply below_drew1) | exact HB.out)) hb); clear HO_6; clear HB; have HO_6 := n0_; have HO1080 := n1_; have HB := n2_; clear n0_ n1_ n2_; clear hb ho22; obtain ⟨Ao24, co24, eo24⟩ := Kd.R_slice HO1080.out; subst eo24) | ((with_reducible refine gate_builtin (b := .append) (xs := #[.tmp 79, .tmp 88]) rfl ?_); at_builtin; refine Kd.R_append_rows (Kd.int .u8) (w0 := w) w.heap.size rfl (.tmp 79) (.tmp 88) 22 5 (.int .u8 0) 1 rfl Tryz.underlying22 info5 rfl (by decide) (by omega) u6 x6_1 y1078 _ _ _ (fun k_ => some k_ ≠ (.slice Ao24 y1078.length co24 : Value).ownBlock) (fun _ => False) rfl rfl ?aO ?aR (fun _ _ h => h) (fun _ h => h.elim) ?aF ?aB ?aS ?aL ?_; (case aR => repeat (first | exact (Kd.R_reads' HO1080.out).2.2 | (with_reducible refine Kd.C_alloc ?_ _) | (with_reducible refine Kd.C_drewN ?_ _) | (with_reducible refine Kd.C_drew ?_))); (case aB => exact (by repeat (first | (with_reducible first | exact HB.out | apply below_alloc | apply pw_below_drewN | apply below_drew1) | exact HB.out))); (case aF => exact (fun k_ hk => Kd.fresh' (Kd.R_lt (by (with_reducible repeat (first | apply Kd.R_alloc | apply Kd.R_drewN | apply Kd.R_drew)); exact HO1080.out)) k_ hk)); (case aO => exact (by (with_reducible repeat (first | apply Kd.R_alloc | apply Kd.R_drewN | apply Kd.R_drew)); exact Kd.R_mono HO_6.out (fun _ hk => hk.2))); (case aS => exact (below_size (by repeat (first | (with_reducible first | exact HB.out | apply below_alloc | apply pw_below_drewN | apply below_drew1) | exact HB.out)))); (case aL => have := LMc20.out; omega); intro v1082 w23 ho hb hg hat; rw [← Ny1081.out] at ho; have n0_ := Aside0.mk (Kd.R_after (ok := (fun _ => True)) (by (with_reducible repeat (first | apply Kd.R_alloc | apply Kd.R_drewN | apply Kd.R_drew)); exact HO1080.out) hg hat); have n1_ := Aside0.mk (hb); have n2_ := Aside0.mk (ho); clear HO1080; clear HB; clear HO_6; have HO1080 := n0_; have HB := n1_; have HO1083 := n2_; clear n0_ n1_ n2_; clear ho hb hg hat))
          repeat (go_quiet (first | ((with_reducible refine gate_dst (N := 88) rfl ?_); refine Kd.R_lit (Kd.int .u8) _ 5 ?hg (N := 88) ?hd (xs := ([(wrap64 (192 + (wrap64 (Int.tdiv (wrap64 ((wrap64 ((wrap64 (rd l1 x7_1)) * 256)) + (wrap64 (rd l1 (wrap64 (x7_1 + 1)))))) 64)))) % 256, (wrap64 (128 + (Int.tmod (wrap64 ((wrap64 ((wrap64 (rd l1 x7_1)) * 256)) + (wrap64 (rd l1 (wrap64 (x7_1 + 1)))))) 64))) % 256] : List Int)) (inner := [.int .u8 ((wrap64 (192 + (wrap64 (Int.tdiv (wrap64 ((wrap64 ((wrap64 (rd l1 x7_1)) * 256)) + (wrap64 (rd l1 (wrap64 (x7_1 + 1)))))) 64)))) % 256), .int .u8 ((wrap64 (128 + (Int.tmod (wrap64 ((wrap64 ((wrap64 (rd l1 x7_1)) * 256)) + (wrap64 (rd l1 (wrap64 (x7_1 + 1)))))) 64))) % 256)]) (ok := fun _ => True) (okp := fun _ => True) ?hr ?hp (fun _ hk => hk) trivial (Below.refl _ _) (Nat.le_refl _) (by simp) ?_; (case hd => rfl); (case hg => rfl); (case hr => first | (go_simp; done) | (go_simp; rfl)); (case hp => exact (Reps.one (show Kd.M (Kd.int .u8) _ _ _ ((wrap64 (192 + (wrap64 (Int.tdiv (wrap64 ((wrap64 ((wrap64 (rd l1 x7_1)) * 256)) + (wrap64 (rd l1 (wrap64 (x7_1 + 1)))))) 64)))) % 256) [.int .u8 ((wrap64 (192 + (wrap64 (Int.tdiv (wrap64 ((wrap64 ((wrap64 (rd l1 x7_1)) * 256)) + (wrap64 (rd l1 (wrap64 (x7_1 + 1)))))) 64)))) % 256)] from rfl) (Reps.one (show Kd.M (Kd.int .u8) _ _ _ ((wrap64 (128 + (Int.tmod (wrap64 ((wrap64 ((wrap64 (rd l1 x7_1)) * 256)) + (wrap64 (rd l1 (wrap64 (x7_1 + 1)))))) 64))) % 256) [.int .u8 ((wrap64 (128 + (Int.tmod (wrap64 ((wrap64 ((wrap64 (rd l1 x7_1)) * 256)) + (wrap64 (rd l1 (wrap64 (x7_1 + 1)))))) 64))) % 256)] from rfl) (Reps.none _ _)))); intro v1079 w21 ho22 hb hg_ hnew_; clear hg_ hnew_; (first | rw [← Ny1078.out] at ho22 | (simp only [Int.reduceToNat] at ho22; rw [← Ny1078.out] at ho22)); have n0_ := Aside0.mk (Kd.R_elder' (by (with_reducible repeat (first | apply Kd.R_alloc | apply Kd.R_drewN | apply Kd.R_drew)); exact HO_6.out) (Kd.R_base ho22) hb); have n1_ := Aside0.mk (Kd.R_lower (Kd.R_new' ho22 (Kd.R_lt (by (with_reducible repeat (first | apply Kd.R_alloc | apply Kd.R_drewN | apply Kd.R_drew)); exact HO_6.out))) (below_size (by repeat (first | (with_reducible first | exact HB.out | apply below_alloc | apply pw_below_drewN | apply below_drew1) | exact HB.out)))); have n2_ := Aside0.mk (below_step (by repeat (first | (with_reducible first | exact HB.out | apply below_alloc | apply pw_below_drewN | apply below_drew1) | exact HB.out)) hb); clear HO_6; clear HB; have HO_6 := n0_; have HO1080 := n1_; have HB := n2_; clear n0_ n1_ n2_; clear hb ho22; obtain ⟨Ao24, co24, eo24⟩ := Kd.R_slice HO1080.out; subst eo24) | ((with_reducible refine gate_builtin (b := .append) (xs := #[.tmp 79, .tmp 88]) rfl ?_); at_builtin; refine Kd.R_append_rows (Kd.int .u8) (w0 := w) w.heap.size rfl (.tmp 79) (.tmp 88) 22 5 (.int .u8 0) 1 rfl Tryz.underlying22 info5 rfl (by decide) (by omega) u6 x6_1 y1078 _ _ _ (fun k_ => some k_ ≠ (.slice Ao24 y1078.length co24 : Value).ownBlock) (fun _ => False) rfl rfl ?aO ?aR (fun _ _ h => h) (fun _ h => h.elim) ?aF ?aB ?aS ?aL ?_; (case aR => repeat (first | exact (Kd.R_reads' HO1080.out).2.2 | (with_reducible refine Kd.C_alloc ?_ _) | (with_reducible refine Kd.C_drewN ?_ _) | (with_reducible refine Kd.C_drew ?_))); (case aB => exact (by repeat (first | (with_reducible first | exact HB.out | apply below_alloc | apply pw_below_drewN | apply below_drew1) | exact HB.out))); (case aF => exact (fun k_ hk => Kd.fresh' (Kd.R_lt (by (with_reducible repeat (first | apply Kd.R_alloc | apply Kd.R_drewN | apply Kd.R_drew)); exact HO1080.out)) k_ hk)); (case aO => exact (by (with_reducible repeat (first | apply Kd.R_alloc | apply Kd.R_drewN | apply Kd.R_drew)); exact Kd.R_mono HO_6.out (fun _ hk => hk.2))); (case aS => exact (below_size (by repeat (first | (with_reducible first | exact HB.out | apply below_alloc | apply pw_below_drewN | apply below_drew1) | exact HB.out)))); (case aL => have := LMc20.out; omega); intro v1082 w23 ho hb hg hat; rw [← Ny1081.out] at ho; have n0_ := Aside0.mk (Kd.R_after (ok := (fun _ => True)) (by (with_reducible repeat (first | apply Kd.R_alloc | apply Kd.R_drewN | apply Kd.R_drew)); exact HO1080.out) hg hat); have n1_ := Aside0.mk (hb); have n2_ := Aside0.mk (ho); clear HO1080; clear HB; clear HO_6; have HO1080 := n0_; have HB := n1_; have HO1083 := n2_; clear n0_ n1_ n2_; clear ho hb hg hat)); try go_wp2_with (first | ((with_reducible refine gate_dst (N := 88) rfl ?_); refine Kd.R_lit (Kd.int .u8) _ 5 ?hg (N := 88) ?hd (xs := ([(wrap64 (192 + (wrap64 (Int.tdiv (wrap64 ((wrap64 ((wrap64 (rd l1 x7_1)) * 256)) + (wrap64 (rd l1 (wrap64 (x7_1 + 1)))))) 64)))) % 256, (wrap64 (128 + (Int.tmod (wrap64 ((wrap64 ((wrap64 (rd l1 x7_1)) * 256)) + (wrap64 (rd l1 (wrap64 (x7_1 + 1)))))) 64))) % 256] : List Int)) (inner := [.int .u8 ((wrap64 (192 + (wrap64 (Int.tdiv (wrap64 ((wrap64 ((wrap64 (rd l1 x7_1)) * 256)) + (wrap64 (rd l1 (wrap64 (x7_1 + 1)))))) 64)))) % 256), .int .u8 ((wrap64 (128 + (Int.tmod (wrap64 ((wrap64 ((wrap64 (rd l1 x7_1)) * 256)) + (wrap64 (rd l1 (wrap64 (x7_1 + 1)))))) 64))) % 256)]) (ok := fun _ => True) (okp := fun _ => True) ?hr ?hp (fun _ hk => hk) trivial (Below.refl _ _) (Nat.le_refl _) (by simp) ?_; (case hd => rfl); (case hg => rfl); (case hr => first | (go_simp; done) | (go_simp; rfl)); (case hp => exact (Reps.one (show Kd.M (Kd.int .u8) _ _ _ ((wrap64 (192 + (wrap64 (Int.tdiv (wrap64 ((wrap64 ((wrap64 (rd l1 x7_1)) * 256)) + (wrap64 (rd l1 (wrap64 (x7_1 + 1)))))) 64)))) % 256) [.int .u8 ((wrap64 (192 + (wrap64 (Int.tdiv (wrap64 ((wrap64 ((wrap64 (rd l1 x7_1)) * 256)) + (wrap64 (rd l1 (wrap64 (x7_1 + 1)))))) 64)))) % 256)] from rfl) (Reps.one (show Kd.M (Kd.int .u8) _ _ _ ((wrap64 (128 + (Int.tmod (wrap64 ((wrap64 ((wrap64 (rd l1 x7_1)) * 256)) + (wrap64 (rd l1 (wrap64 (x7_1 + 1)))))) 64))) % 256) [.int .u8 ((wrap64 (128 + (Int.tmod (wrap64 ((wrap64 ((wrap64 (rd l1 x7_1)) * 256)) + (wrap64 (rd l1 (wrap64 (x7_1 + 1)))))) 64))) % 256)] from rfl) (Reps.none _ _)))); intro v1079 w21 ho22 hb hg_ hnew_; clear hg_ hnew_; (first | rw [← Ny1078.out] at ho22 | (simp only [Int.reduceToNat] at ho22; rw [← Ny1078.out] at ho22)); have n0_ := Aside0.mk (Kd.R_elder' (by (with_reducible repeat (first | apply Kd.R_alloc | apply Kd.R_drewN | apply Kd.R_drew)); exact HO_6.out) (Kd.R_base ho22) hb); have n1_ := Aside0.mk (Kd.R_lower (Kd.R_new' ho22 (Kd.R_lt (by (with_reducible repeat (first | apply Kd.R_alloc | apply Kd.R_drewN | apply Kd.R_drew)); exact HO_6.out))) (below_size (by repeat (first | (with_reducible first | exact HB.out | apply below_alloc | apply pw_below_drewN | apply below_drew1) | exact HB.out)))); have n2_ := Aside0.mk (below_step (by repeat (first | (with_reducible first | exact HB.out | apply below_alloc | apply pw_below_drewN | apply below_drew1) | exact HB.out)) hb); clear HO_6; clear HB; have HO_6 := n0_; have HO1080 := n1_; have HB := n2_; clear n0_ n1_ n2_; clear hb ho22; obtain ⟨Ao24, co24, eo24⟩ := Kd.R_slice HO1080.out; subst eo24) | ((with_reducible refine gate_builtin (b := .append) (xs := #[.tmp 79, .tmp 88]) rfl ?_); at_builtin; refine Kd.R_append_rows (Kd.int .u8) (w0 := w) w.heap.size rfl (.tmp 79) (.tmp 88) 22 5 (.int .u8 0) 1 rfl Tryz.underlying22 info5 rfl (by decide) (by omega) u6 x6_1 y1078 _ _ _ (fun k_ => some k_ ≠ (.slice Ao24 y1078.length co24 : Value).ownBlock) (fun _ => False) rfl rfl ?aO ?aR (fun _ _ h => h) (fun _ h => h.elim) ?aF ?aB ?aS ?aL ?_; (case aR => repeat (first | exact (Kd.R_reads' HO1080.out).2.2 | (with_reducible refine Kd.C_alloc ?_ _) | (with_reducible refine Kd.C_drewN ?_ _) | (with_reducible refine Kd.C_drew ?_))); (case aB => exact (by repeat (first | (with_reducible first | exact HB.out | apply below_alloc | apply pw_below_drewN | apply below_drew1) | exact HB.out))); (case aF => exact (fun k_ hk => Kd.fresh' (Kd.R_lt (by (with_reducible repeat (first | apply Kd.R_alloc | apply Kd.R_drewN | apply Kd.R_drew)); exact HO1080.out)) k_ hk)); (case aO => exact (by (with_reducible repeat (first | apply Kd.R_alloc | apply Kd.R_drewN | apply Kd.R_drew)); exact Kd.R_mono HO_6.out (fun _ hk => hk.2))); (case aS => exact (below_size (by repeat (first | (with_reducible first | exact HB.out | apply below_alloc | apply pw_below_drewN | apply below_drew1) | exact HB.out)))); (case aL => have := LMc20.out; omega); intro v1082 w23 ho hb hg hat; rw [← Ny1081.out] at ho; have n0_ := Aside0.mk (Kd.R_after (ok := (fun _ => True)) (by (with_reducible repeat (first | apply Kd.R_alloc | apply Kd.R_drewN | apply Kd.R_drew)); exact HO1080.out) hg hat); have n1_ := Aside0.mk (hb); have n2_ := Aside0.mk (ho); clear HO1080; clear HB; clear HO_6; have HO1080 := n0_; have HB := n1_; have HO1083 := n2_; clear n0_ n1_ n2_; clear ho hb hg hat)))
          go_roundg kj12
          case measure => have := HK1.out; have := HJ12.out; omega
          case rel => exact ⟨(y1081), (wrap64 (x7_1 + 2)), (by first | rfl | (simp; done) | (simp [*]; done)), H', ⟨by have := HK1.out; have := HJ12.out; omega⟩, ⟨by (with_reducible repeat (first | apply Kd.R_alloc | apply Kd.R_drewN | apply Kd.R_drew)); exact Kd.R_mono HO1083.out (fun _ hk => trivial)⟩, ⟨by repeat (first | (with_reducible first | exact HB.out | apply below_alloc | apply pw_below_drewN | apply below_drew1) | exact HB.out)⟩⟩
  rw [if_neg c7] at H
  have c7b0 : (a0 == 30) = false := beq_eq_false_iff_ne.mpr c7
  have c7b1 : (a0 != 30) = true := bne_iff_ne.mpr c7
  have HC31 := Aside0.mk H
  clear H
  go_enter Tryz.func156, Tryz.ntmps156
  go_upto_if 92 with (fail)
  repeat (go_quiet (fail); go_upto_if 92 with (fail))
  go_cut [92] (fun v92 wc => ∃ (kq : Nat) (x92_30 : Bool), v92 = .bool x92_30 ∧ Aside0 (chirographref06_Text.j2 kq a0 l1 x92_30 = some (r1, r2)) ∧ Aside0 (kq ≤ k) ∧ Aside0 (Below w.heap.size w wc))
  case first =>
    have H := HC31.out
    clear HC31
    by_cases c32 : a0 = 18
    · rw [if_pos c32] at H
      have c32b0 : (a0 == 18) = true := beq_iff_eq.mpr c32
      have c32b1 : (a0 != 18) = false := bne_eq_false_iff_eq.mpr c32
      clear c32
      (first | rw [c32b0] | (simp only [i64_w, i32_w]; rw [c32b0]) | skip)
      have H' := Aside0.mk H
      clear H
      go_wp2
      repeat (go_quiet (fail); try go_wp2)
      go_meet
      case rel => exact ⟨_, ((a0 == 18)), (by first | rfl | (simp; done) | (simp [*]; done)), H', ⟨by first | omega | exact Nat.le_refl _⟩, ⟨by repeat (first | (with_reducible first | exact HB.out | apply below_alloc | apply pw_below_drewN | apply below_drew1) | exact HB.out)⟩⟩
    rw [if_neg c32] at H
    have c32b0 : (a0 == 18) = false := beq_eq_false_iff_ne.mpr c32
    have c32b1 : (a0 != 18) = true := bne_iff_ne.mpr c32
    (first | rw [c32b0] | (simp only [i64_w, i32_w]; rw [c32b0]) | skip)
    by_cases c33 : a0 = 19
    · rw [if_pos c33] at H
      have c33b0 : (a0 == 19) = true := beq_iff_eq.mpr c33
      have c33b1 : (a0 != 19) = false := bne_eq_false_iff_eq.mpr c33
      clear c33
      have H' := Aside0.mk H
      clear H
      go_wp2
      repeat (go_quiet (fail); try go_wp2)
      go_meet
      case rel => exact ⟨_, ((a0 == 19)), (by first | rfl | (simp; done) | (simp [*]; done)), H', ⟨by first | omega | exact Nat.le_refl _⟩, ⟨by repeat (first | (with_reducible first | exact HB.out | apply below_alloc | apply pw_below_drewN | apply below_drew1) | exact HB.out)⟩⟩
    rw [if_neg c33] at H
    have c33b0 : (a0 == 19) = false := beq_eq_false_iff_ne.mpr c33
    have c33b1 : (a0 != 19) = true := bne_iff_ne.mpr c33
    by_cases c34 : a0 = 22
    rotate_left
    · rw [if_neg c34] at H
      have c34b0 : (a0 == 22) = false := beq_eq_false_iff_ne.mpr c34
      have c34b1 : (a0 != 22) = true := bne_iff_ne.mpr c34
      have H' := Aside0.mk H
      clear H
      go_wp2
      repeat (go_quiet (fail); try go_wp2)
      go_meet
      case rel => exact ⟨_, ((a0 == 26)), (by first | rfl | (simp; done) | (simp [*]; done)), H', ⟨by first | omega | exact Nat.le_refl _⟩, ⟨by repeat (first | (with_reducible first | exact HB.out | apply below_alloc | apply pw_below_drewN | apply below_drew1) | exact HB.out)⟩⟩
    rw [if_pos c34] at H
    have c34b0 : (a0 == 22) = true := beq_iff_eq.mpr c34
    have c34b1 : (a0 != 22) = false := bne_eq_false_iff_eq.mpr c34
    clear c34
    have H' := Aside0.mk H
    clear H
    go_wp2
    repeat (go_quiet (fail); try go_wp2)
    go_meet
    case rel => exact ⟨_, ((a0 == 22)), (by first | rfl | (simp; done) | (simp [*]; done)), H', ⟨by first | omega | exact Nat.le_refl _⟩, ⟨by repeat (first | (with_reducible first | exact HB.out | apply below_alloc | apply pw_below_drewN | apply below_drew1) | exact HB.out)⟩⟩
  clear HC31
  obtain ⟨kq, x92_30, rfl, HA, HJ30, HB⟩ := hcut
  cases kq with
  | zero => exact absurd HA.out (by simp [chirographref06_Text.j2])
  | succ kj30 =>
    have H := HA.out
    clear HA
    simp only [chirographref06_Text.j2] at H
    by_cases c35 : x92_30 = true
    rotate_left
    · replace c35 := Bool.eq_false_iff.mpr c35
      subst c35
      have H1 : (some ((⟨#[]⟩ : ByteArray), 61)) = some (r1, r2) := by rw [if_neg (show ¬ (false = true) by decide)] at H; exact H
      clear H
      have H := H1
      clear H1
      simp only [Option.some.injEq, Prod.mk.injEq] at H
      obtain ⟨rfl, rfl⟩ := H
      go_wp2
      repeat (go_quiet (fail); try go_wp2)
      go_ret2
      exact ⟨by first | rfl | (simp [errW_none, errW_some] <;> rfl) | (simp [*, errW_none, errW_some] <;> rfl), by repeat (first | (with_reducible first | exact HB.out | apply below_alloc | apply pw_below_drewN | apply below_drew1) | exact HB.out)⟩
    subst c35
    have H1 : (chirographref06_Text.l1 kj30 a0 l1 0) = some (r1, r2) := by rw [if_pos rfl] at H; exact H
    clear H
    have H := H1
    clear H1
    have H' := Aside0.mk H
    clear H
    go_wp2
    repeat (go_quiet (fail); try go_wp2)
    go_loopg [9] kj30 (fun kq v9 w' => ∃ (x9_2 : Int), v9 = .int .i64 x9_2 ∧ Aside0 (chirographref06_Text.l1 kq a0 l1 x9_2 = some (r1, r2)) ∧ Aside0 (kq ≤ kj30) ∧ Aside0 (Below w.heap.size w w'))
    case atStart => exact ⟨(0), (by first | rfl | (simp; done) | (simp [*]; done)), H', ⟨Nat.le_refl _⟩, ⟨by repeat (first | (with_reducible first | exact HB.out | apply below_alloc | apply pw_below_drewN | apply below_drew1) | exact HB.out)⟩⟩
    case round =>
      clear H'
      obtain ⟨x9_2, rfl, HA, HK2, HB⟩ := hrel
      cases gk with
      | zero => exact absurd HA.out (by simp [chirographref06_Text.l1])
      | succ k2 =>
        have H := HA.out
        clear HA
        simp only [chirographref06_Text.l1] at H
        by_cases c36 : x9_2 < (l1.length : Int)
        rotate_left
        · rw [if_neg c36] at H
          have c36b0 : decide (x9_2 < (l1.length : Int)) = false := decide_eq_false c36
          clear c36
          simp only [Option.some.injEq, Prod.mk.injEq] at H
          obtain ⟨rfl, rfl⟩ := H
          have hcv50 := Kd.C_string (P := Tryz.prog) (A := A1) (c := c1) Tryz.underlying22 Tryz.underlying5 Tryz.underlying9 (Kd.C_below HR1.out HB.out)
          go_wp2
          repeat (go_quiet (fail); try go_wp2)
          go_ret2
          exact ⟨by first | rfl | (simp [errW_none, errW_some] <;> rfl) | (simp [*, errW_none, errW_some] <;> rfl), by repeat (first | (with_reducible first | exact HB.out | apply below_alloc | apply pw_below_drewN | apply below_drew1) | exact HB.out)⟩
        rw [if_pos c36] at H
        have c36b0 : decide (x9_2 < (l1.length : Int)) = true := decide_eq_true c36
        clear c36
        by_cases c37 : 0 ≤ x9_2
        rotate_left
        · rw [if_neg c37] at H
          exact absurd H (by simp)
        rw [if_pos c37] at H
        have c37b0 : decide (0 ≤ x9_2) = true := decide_eq_true c37
        clear c37
        have HC38 := Aside0.mk H
        clear H
        have p1090 : 0 ≤ (x9_2 : Int) := of_decide_eq_true (by first | (with_reducible assumption) | assumption)
        have q1090 : x9_2 < (l1.length : Int) := of_decide_eq_true (by first | (with_reducible assumption) | assumption)
        obtain ⟨ad1090, e1090, hx1090_0⟩ := Kd.at_int HR1.out x9_2 p1090 q1090
        cases e1090
        replace hx1090_0 := (HB.out.cell (World.block_lt_of_cell? w _ hx1090_0)).trans hx1090_0
        replace p1090 := eq_true p1090
        replace q1090 := eq_true q1090
        go_upto_region 30 with (fail)
        repeat (go_quiet (fail); go_upto_region 30 with (fail))
        go_cut [11] (fun v11 wc => ∃ (kq : Nat) (x11_37 : Bool), v11 = .bool x11_37 ∧ Aside0 (chirographref06_Text.j4 kq a0 l1 x9_2 (rd l1 x9_2) x11_37 = some (r1, r2)) ∧ Aside0 (kq ≤ k2) ∧ Aside0 (Below w.heap.size w wc))
        case first =>
          have H := HC38.out
          clear HC38
          by_cases c39 : (rd l1 x9_2) ≥ 48
          rotate_left
          · rw [if_neg c39] at H
            have c39b0 : decide (48 ≤ (rd l1 x9_2)) = false := decide_eq_false c39
            clear c39
            (first | rw [c39b0] | (simp only [i64_w, i32_w]; rw [c39b0]) | skip)
            have H' := Aside0.mk H
            clear H
            go_wp2
            repeat (go_quiet (fail); try go_wp2)
            go_meet
            case rel => exact ⟨_, (((rd l1 x9_2) == 32)), (by first | rfl | (simp; done) | (simp [*]; done)), H', ⟨by have := HJ30.out; have := HK2.out; first | omega | exact Nat.le_refl _⟩, ⟨by repeat (first | (with_reducible first | exact HB.out | apply below_alloc | apply pw_below_drewN | apply below_drew1) | exact HB.out)⟩⟩
          rw [if_pos c39] at H
          have c39b0 : decide (48 ≤ (rd l1 x9_2)) = true := decide_eq_true c39
          clear c39
          (first | rw [c39b0] | (simp only [i64_w, i32_w]; rw [c39b0]) | skip)
          by_cases c40 : (rd l1 x9_2) ≤ 57
          rotate_left
          · rw [if_neg c40] at H
            have c40b0 : decide ((rd l1 x9_2) ≤ 57) = false := decide_eq_false c40
            clear c40
            have H' := Aside0.mk H
            clear H
            go_wp2
            repeat (go_quiet (fail); try go_wp2)
            go_meet
            case rel => exact ⟨_, (((rd l1 x9_2) == 32)), (by first | rfl | (simp; done) | (simp [*]; done)), H', ⟨by have := HJ30.out; have := HK2.out; first | omega | exact Nat.le_refl _⟩, ⟨by repeat (first | (with_reducible first | exact HB.out | apply below_alloc | apply pw_below_drewN | apply below_drew1) | exact HB.out)⟩⟩
          rw [if_pos c40] at H
          have c40b0 : decide ((rd l1 x9_2) ≤ 57) = true := decide_eq_true c40
          clear c40
          have H' := Aside0.mk H
          clear H
          go_wp2
          repeat (go_quiet (fail); try go_wp2)
          go_meet
          case rel => exact ⟨_, (true), (by first | rfl | (simp; done) | (simp [*]; done)), H', ⟨by have := HJ30.out; have := HK2.out; first | omega | exact Nat.le_refl _⟩, ⟨by repeat (first | (with_reducible first | exact HB.out | apply below_alloc | apply pw_below_drewN | apply below_drew1) | exact HB.out)⟩⟩
        clear HC38
        obtain ⟨kq, x11_37, rfl, HA, HJ37, HB⟩ := hcut
        cases kq with
        | zero => exact absurd HA.out (by simp [chirographref06_Text.j4])
        | succ kj37 =>
          have H := HA.out
          clear HA
          simp only [chirographref06_Text.j4] at H
          have HC41 := Aside0.mk H
          clear H
          go_upto_if 118 with (fail)
          repeat (go_quiet (fail); go_upto_if 118 with (fail))
          go_cut [11] (fun v11 wc => ∃ (kq : Nat) (x11_40 : Bool), v11 = .bool x11_40 ∧ Aside0 (chirographref06_Text.j5 kq a0 l1 x9_2 (rd l1 x9_2) x11_40 = some (r1, r2)) ∧ Aside0 (kq ≤ kj37) ∧ Aside0 (Below w.heap.size w wc))
          case first =>
            have H := HC41.out
            clear HC41
            by_cases c42 : a0 = 19
            rotate_left
            · rw [if_neg c42] at H
              have c42b0 : (a0 == 19) = false := beq_eq_false_iff_ne.mpr c42
              have c42b1 : (a0 != 19) = true := bne_iff_ne.mpr c42
              (first | rw [c42b0] | (simp only [i64_w, i32_w]; rw [c42b0]) | skip)
              have H' := Aside0.mk H
              clear H
              go_wp2
              repeat (go_quiet (fail); try go_wp2)
              go_meet
              case rel => exact ⟨_, (x11_37), (by first | rfl | (simp; done) | (simp [*]; done)), H', ⟨by have := HJ30.out; have := HK2.out; have := HJ37.out; first | omega | exact Nat.le_refl _⟩, ⟨by repeat (first | (with_reducible first | exact HB.out | apply below_alloc | apply pw_below_drewN | apply below_drew1) | exact HB.out)⟩⟩
            rw [if_pos c42] at H
            have c42b0 : (a0 == 19) = true := beq_iff_eq.mpr c42
            have c42b1 : (a0 != 19) = false := bne_eq_false_iff_eq.mpr c42
            clear c42
            (first | rw [c42b0] | (simp only [i64_w, i32_w]; rw [c42b0]) | skip)
            replace H := Option.bind_eq_some_iff.mp H
            obtain ⟨t1091, A430, H⟩ := H
            replace H : (chirographref06_Text.j5 kj37 a0 l1 x9_2 (rd l1 x9_2) t1091) = some (r1, r2) := H
            have A43 := Aside0.mk A430
            clear A430
            have H' := Aside0.mk H
            clear H
            go_wp2_with (first | (go_at_call 209; (with_reducible refine (chirographref06_printable.calls kj37 (rd l1 x9_2) t1091 _ A43.out).mono ?_); rintro e w' ⟨rfl, ⟨nd, rfl⟩⟩; (try first | exact ⟨rfl, _, World.drewN_drewN _ _ _⟩ | exact ⟨rfl, _, Eq.trans (World.drewN_drewN _ _ _) (congrArg (World.drewN _) (Nat.add_assoc _ _ _))⟩)))
            repeat (go_quiet (first | (go_at_call 209; (with_reducible refine (chirographref06_printable.calls kj37 (rd l1 x9_2) t1091 _ A43.out).mono ?_); rintro e w' ⟨rfl, ⟨nd, rfl⟩⟩; (try first | exact ⟨rfl, _, World.drewN_drewN _ _ _⟩ | exact ⟨rfl, _, Eq.trans (World.drewN_drewN _ _ _) (congrArg (World.drewN _) (Nat.add_assoc _ _ _))⟩))); try go_wp2_with (first | (go_at_call 209; (with_reducible refine (chirographref06_printable.calls kj37 (rd l1 x9_2) t1091 _ A43.out).mono ?_); rintro e w' ⟨rfl, ⟨nd, rfl⟩⟩; (try first | exact ⟨rfl, _, World.drewN_drewN _ _ _⟩ | exact ⟨rfl, _, Eq.trans (World.drewN_drewN _ _ _) (congrArg (World.drewN _) (Nat.add_assoc _ _ _))⟩))))
            go_meet
            case rel => exact ⟨_, (t1091), (by first | rfl | (simp; done) | (simp [*]; done)), H', ⟨by have := HJ30.out; have := HK2.out; have := HJ37.out; first | omega | exact Nat.le_refl _⟩, ⟨by repeat (first | (with_reducible first | exact HB.out | apply below_alloc | apply pw_below_drewN | apply below_drew1) | exact HB.out)⟩⟩
          clear HC41
          obtain ⟨kq, x11_40, rfl, HA, HJ40, HB⟩ := hcut
          cases kq with
          | zero => exact absurd HA.out (by simp [chirographref06_Text.j5])
          | succ kj40 =>
            have H := HA.out
            clear HA
            simp only [chirographref06_Text.j5] at H
            have HC44 := Aside0.mk H
            clear H
            go_upto_if 122 with (fail)
            repeat (go_quiet (fail); go_upto_if 122 with (fail))
            go_cut [11] (fun v11 wc => ∃ (kq : Nat) (x11_43 : Bool), v11 = .bool x11_43 ∧ Aside0 (chirographref06_Text.j6 kq a0 l1 x9_2 (rd l1 x9_2) x11_43 = some (r1, r2)) ∧ Aside0 (kq ≤ kj40) ∧ Aside0 (Below w.heap.size w wc))
            case first =>
              have H := HC44.out
              clear HC44
              by_cases c45 : a0 = 22
              rotate_left
              · rw [if_neg c45] at H
                have c45b0 : (a0 == 22) = false := beq_eq_false_iff_ne.mpr c45
                have c45b1 : (a0 != 22) = true := bne_iff_ne.mpr c45
                (first | rw [c45b0] | (simp only [i64_w, i32_w]; rw [c45b0]) | skip)
                have H' := Aside0.mk H
                clear H
                go_wp2
                repeat (go_quiet (fail); try go_wp2)
                go_meet
                case rel => exact ⟨_, (x11_40), (by first | rfl | (simp; done) | (simp [*]; done)), H', ⟨by have := HJ30.out; have := HK2.out; have := HJ37.out; have := HJ40.out; first | omega | exact Nat.le_refl _⟩, ⟨by repeat (first | (with_reducible first | exact HB.out | apply below_alloc | apply pw_below_drewN | apply below_drew1) | exact HB.out)⟩⟩
              rw [if_pos c45] at H
              have c45b0 : (a0 == 22) = true := beq_iff_eq.mpr c45
              have c45b1 : (a0 != 22) = false := bne_eq_false_iff_eq.mpr c45
              clear c45
              (first | rw [c45b0] | (simp only [i64_w, i32_w]; rw [c45b0]) | skip)
              have H' := Aside0.mk H
              clear H
              go_wp2
              repeat (go_quiet (fail); try go_wp2)
              go_meet
              case rel => exact ⟨_, (decide ((rd l1 x9_2) < 128)), (by first | rfl | (simp; done) | (simp [*]; done)), H', ⟨by have := HJ30.out; have := HK2.out; have := HJ37.out; have := HJ40.out; first | omega | exact Nat.le_refl _⟩, ⟨by repeat (first | (with_reducible first | exact HB.out | apply below_alloc | apply pw_below_drewN | apply below_drew1) | exact HB.out)⟩⟩
            clear HC44
            obtain ⟨kq, x11_43, rfl, HA, HJ43, HB⟩ := hcut
            cases kq with
            | zero => exact absurd HA.out (by simp [chirographref06_Text.j6])
            | succ kj43 =>
              have H := HA.out
              clear HA
              simp only [chirographref06_Text.j6] at H
              by_cases c46 : a0 = 26
              rotate_left
              · rw [if_neg c46] at H
                have c46b0 : (a0 == 26) = false := beq_eq_false_iff_ne.mpr c46
                have c46b1 : (a0 != 26) = true := bne_iff_ne.mpr c46
                by_cases c49 : x11_43 = true
                rotate_left
                · replace c49 := Bool.eq_false_iff.mpr c49
                  subst c49
                  have H1 : (some ((⟨#[]⟩ : ByteArray), 60)) = some (r1, r2) := by rw [if_neg (show ¬ (false = true) by decide)] at H; exact H
                  clear H
                  have H := H1
                  clear H1
                  simp only [Option.some.injEq, Prod.mk.injEq] at H
                  obtain ⟨rfl, rfl⟩ := H
                  go_wp2
                  repeat (go_quiet (fail); try go_wp2)
                  go_ret2
                  exact ⟨by first | rfl | (simp [errW_none, errW_some] <;> rfl) | (simp [*, errW_none, errW_some] <;> rfl), by repeat (first | (with_reducible first | exact HB.out | apply below_alloc | apply pw_below_drewN | apply below_drew1) | exact HB.out)⟩
                subst c49
                have H1 : (chirographref06_Text.l1 kj43 a0 l1 (wrap64 (x9_2 + 1))) = some (r1, r2) := by rw [if_pos rfl] at H; exact H
                clear H
                have H := H1
                clear H1
                have H' := Aside0.mk H
                clear H
                go_wp2
                repeat (go_quiet (fail); try go_wp2)
                go_roundg kj43
                case measure => have := HJ30.out; have := HK2.out; have := HJ37.out; have := HJ40.out; have := HJ43.out; omega
                case rel => exact ⟨(wrap64 (x9_2 + 1)), (by first | rfl | (simp; done) | (simp [*]; done)), H', ⟨by have := HJ30.out; have := HK2.out; have := HJ37.out; have := HJ40.out; have := HJ43.out; omega⟩, ⟨by repeat (first | (with_reducible first | exact HB.out | apply below_alloc | apply pw_below_drewN | apply below_drew1) | exact HB.out)⟩⟩
              rw [if_pos c46] at H
              have c46b0 : (a0 == 26) = true := beq_iff_eq.mpr c46
              have c46b1 : (a0 != 26) = false := bne_eq_false_iff_eq.mpr c46
              clear c46
              by_cases c47 : (rd l1 x9_2) ≥ 32
              rotate_left
              · rw [if_neg c47] at H
                have c47b0 : decide (32 ≤ (rd l1 x9_2)) = false := decide_eq_false c47
                clear c47
                simp only [Option.some.injEq, Prod.mk.injEq] at H
                obtain ⟨rfl, rfl⟩ := H
                go_wp2
                repeat (go_quiet (fail); try go_wp2)
                go_ret2
                exact ⟨by first | rfl | (simp [errW_none, errW_some] <;> rfl) | (simp [*, errW_none, errW_some] <;> rfl), by repeat (first | (with_reducible first | exact HB.out | apply below_alloc | apply pw_below_drewN | apply below_drew1) | exact HB.out)⟩
              rw [if_pos c47] at H
              have c47b0 : decide (32 ≤ (rd l1 x9_2)) = true := decide_eq_true c47
              clear c47
              by_cases c48 : (rd l1 x9_2) ≤ 126
              rotate_left
              · rw [if_neg c48] at H
                have c48b0 : decide ((rd l1 x9_2) ≤ 126) = false := decide_eq_false c48
                clear c48
                simp only [Option.some.injEq, Prod.mk.injEq] at H
                obtain ⟨rfl, rfl⟩ := H
                go_wp2
                repeat (go_quiet (fail); try go_wp2)
                go_ret2
                exact ⟨by first | rfl | (simp [errW_none, errW_some] <;> rfl) | (simp [*, errW_none, errW_some] <;> rfl), by repeat (first | (with_reducible first | exact HB.out | apply below_alloc | apply pw_below_drewN | apply below_drew1) | exact HB.out)⟩
              rw [if_pos c48] at H
              have c48b0 : decide ((rd l1 x9_2) ≤ 126) = true := decide_eq_true c48
              clear c48
              have H' := Aside0.mk H
              clear H
              go_wp2
              repeat (go_quiet (fail); try go_wp2)
              go_roundg kj43
              case measure => have := HJ30.out; have := HK2.out; have := HJ37.out; have := HJ40.out; have := HJ43.out; omega
              case rel => exact ⟨(wrap64 (x9_2 + 1)), (by first | rfl | (simp; done) | (simp [*]; done)), H', ⟨by have := HJ30.out; have := HK2.out; have := HJ37.out; have := HJ40.out; have := HJ43.out; omega⟩, ⟨by repeat (first | (with_reducible first | exact HB.out | apply below_alloc | apply pw_below_drewN | apply below_drew1) | exact HB.out)⟩⟩
end Go.Proofs.YtkioddjjfifadaaGreatDoor.P
namespace Go.Proofs.YtkioddjjfifadaaGreatDoor.P
open Go.RowKit Go.Proofs.YtkioddjjfifadaaGreatDoorW.PrintWords Go.Proofs.YtkioddjjfifadaaGreatDoorW.PrintLast Go.Proofs.YtkioddjjfifadaaGreatDoorW.PrintMore
attribute [local go_sem] IntKind.wrap_u8 max2_int min2_int max_two min_two max_three min_three max_four min_four   -- for this text's walks alone
set_option linter.unusedVariables false
set_option linter.unusedSimpArgs false
def chirographref07_two.f (a0 : Int) : Option (ByteArray) := if 0 ≤ ((Int.tdiv a0 16) % 256) then (if ((Int.tdiv a0 16) % 256) < 16 then (if 0 ≤ (Int.tmod a0 16) then (if (Int.tmod a0 16) < 16 then (some (strOfNums (([bt (⟨#[48, 49, 50, 51, 52, 53, 54, 55, 56, 57, 97, 98, 99, 100, 101, 102]⟩ : ByteArray) ((Int.tdiv a0 16) % 256), bt (⟨#[48, 49, 50, 51, 52, 53, 54, 55, 56, 57, 97, 98, 99, 100, 101, 102]⟩ : ByteArray) (Int.tmod a0 16)] : List Int)))) else (none)) else (none)) else (none)) else (none)
def chirographref07_two.T2 : Bool × List (List Nat × List Nat) := (true, [([], []), ([], []), ([1], [1]), ([0, 2], [0, 2]), ([], []), ([], []), ([5], [5]), ([4, 6], [4, 6]), ([3, 7], [3, 7]), ([8], [8]), ([9, 0, 1, 2, 3, 4, 5, 6, 7, 8, 9], [9])])
def chirographref07_two.B2 : List Nat := [0, 0, 2, 7, 0, 0, 32, 112, 255, 511, 1023]
theorem chirographref07_two.tab2 : rtab .any (opsOf Tryz.f157 2) = chirographref07_two.T2 := by kernel_rfl
theorem chirographref07_two.bits2 : waitsOk chirographref07_two.T2.2 chirographref07_two.B2 = true := by kernel_rfl
set_option maxHeartbeats 8000000 in
set_option maxRecDepth 100000 in
theorem chirographref07_two.calls (a0 : Int) (r : ByteArray) (w : World) (h : chirographref07_two.f a0 = some r) :
    Calls Tryz.prog 157 #[.int .u8 a0] w fun e w' => e = .returned (.string r) ∧ Below w.heap.size w w' := by
  have HB := Aside0.mk (Below.refl w.heap.size w)
  have H : (if 0 ≤ ((Int.tdiv a0 16) % 256) then (if ((Int.tdiv a0 16) % 256) < 16 then (if 0 ≤ (Int.tmod a0 16) then (if (Int.tmod a0 16) < 16 then (some (strOfNums (([bt (⟨#[48, 49, 50, 51, 52, 53, 54, 55, 56, 57, 97, 98, 99, 100, 101, 102]⟩ : ByteArray) ((Int.tdiv a0 16) % 256), bt (⟨#[48, 49, 50, 51, 52, 53, 54, 55, 56, 57, 97, 98, 99, 100, 101, 102]⟩ : ByteArray) (Int.tmod a0 16)] : List Int)))) else (none)) else (none)) else (none)) else (none)) = some r := h
  clear h
  by_cases c2 : 0 ≤ ((Int.tdiv a0 16) % 256)
  rotate_left
  · rw [if_neg c2] at H
    exact absurd H (by simp)
  rw [if_pos c2] at H
  have c2b0 : decide (0 ≤ ((Int.tdiv a0 16) % 256)) = true := decide_eq_true c2
  clear c2
  by_cases c3 : ((Int.tdiv a0 16) % 256) < 16
  rotate_left
  · rw [if_neg c3] at H
    exact absurd H (by simp)
  rw [if_pos c3] at H
  have c3b0 : decide (((Int.tdiv a0 16) % 256) < 16) = true := decide_eq_true c3
  clear c3
  by_cases c5 : 0 ≤ (Int.tmod a0 16)
  rotate_left
  · rw [if_neg c5] at H
    exact absurd H (by simp)
  rw [if_pos c5] at H
  have c5b0 : decide (0 ≤ (Int.tmod a0 16)) = true := decide_eq_true c5
  clear c5
  by_cases c6 : (Int.tmod a0 16) < 16
  rotate_left
  · rw [if_neg c6] at H
    exact absurd H (by simp)
  rw [if_pos c6] at H
  have c6b0 : decide ((Int.tmod a0 16) < 16) = true := decide_eq_true c6
  clear c6
  obtain ⟨y1102, hy1102⟩ : ∃ y_ : List Int, y_ = (([bt (⟨#[48, 49, 50, 51, 52, 53, 54, 55, 56, 57, 97, 98, 99, 100, 101, 102]⟩ : ByteArray) ((Int.tdiv a0 16) % 256), bt (⟨#[48, 49, 50, 51, 52, 53, 54, 55, 56, 57, 97, 98, 99, 100, 101, 102]⟩ : ByteArray) (Int.tmod a0 16)] : List Int)) := ⟨_, rfl⟩
  replace H : (some (strOfNums y1102)) = some r := by first | (rw [hy1102]; with_reducible exact H) | (have H2_ := (Option.bind_some _ _).symm.trans H; rw [hy1102]; with_reducible exact H2_) | (have H2_ := (Option.bind_some _ _).symm.trans H; with_reducible exact H2_) | with_reducible exact H | (rw [hy1102]; exact H) | exact H
  have Ny1102 := Aside0.mk hy1102
  clear hy1102
  obtain rfl := Option.some.inj H
  go_enter Tryz.func157, Tryz.ntmps157
  try go_wp2
  have n0_ := Aside0.mk (below_drew1 HB.out)
  clear HB
  have HB := n0_
  clear n0_
  have p4 : 0 ≤ (((Int.tdiv a0 16) % 256) : Int) := of_decide_eq_true (by first | (with_reducible assumption) | assumption)
  have q4 : ((Int.tdiv a0 16) % 256) < (16 : Int) := of_decide_eq_true (by first | (with_reducible assumption) | assumption)
  have hx4 := bt_at (⟨#[48, 49, 50, 51, 52, 53, 54, 55, 56, 57, 97, 98, 99, 100, 101, 102]⟩ : ByteArray) ((Int.tdiv a0 16) % 256)
  replace p4 := eq_true p4
  replace q4 := eq_true q4
  have p7 : 0 ≤ ((Int.tmod a0 16) : Int) := of_decide_eq_true (by first | (with_reducible assumption) | assumption)
  have q7 : (Int.tmod a0 16) < (16 : Int) := of_decide_eq_true (by first | (with_reducible assumption) | assumption)
  have hx7 := bt_at (⟨#[48, 49, 50, 51, 52, 53, 54, 55, 56, 57, 97, 98, 99, 100, 101, 102]⟩ : ByteArray) (Int.tmod a0 16)
  replace p7 := eq_true p7
  replace q7 := eq_true q7
  refine start_ (n := 11) (S := fun w' => True) (ds := []) #[false, false, false, false, false, false, false, false, false, false, false] (by kernel_rfl) rfl rfl trivial (fun hHeld => ?_); refine with_tabW chirographref07_two.tab2 chirographref07_two.bits2 (fun HT_ HW_ => ?_)
  generalize w.drew = w8 at HB hHeld ⊢
  refine pure_ (i := 0) (N := some 4) (v := ?_) (a' := ?_) #[true, false, false, false, false, false, false, false, false, false, false] rfl rfl (any_of HT_.out (by kernel_rfl)) (fun _ _ _ h => h) (Or.inl ⟨by rfl, ?_⟩) ?_ ?_; rotate_left; (intro w'; go_simp; with_reducible rfl); rotate_left; (simp only [Act.put, List.setIfInBounds_toArray, List.set_cons_zero, List.set_cons_succ, i64_w, i32_w]; rfl)
  refine pure_ (i := 1) (N := some 5) (v := ?_) (a' := ?_) #[true, true, false, false, false, false, false, false, false, false, false] rfl rfl (any_of HT_.out (by kernel_rfl)) (fun _ _ _ h => h) (Or.inl ⟨by rfl, ?_⟩) ?_ ?_; rotate_left; (intro w'; go_simp; with_reducible rfl); rotate_left; (simp only [Act.put, List.setIfInBounds_toArray, List.set_cons_zero, List.set_cons_succ, i64_w, i32_w]; rfl)
  refine pure_ (i := 2) (N := some 6) (v := ?_) (a' := ?_) #[true, true, true, false, false, false, false, false, false, false, false] rfl rfl (any_of HT_.out (by kernel_rfl)) (fun _ _ _ h => h) (Or.inl ⟨by rfl, ?_⟩) ?_ ?_; rotate_left; (intro w'; go_simp; with_reducible rfl); rotate_left; (simp only [Act.put, List.setIfInBounds_toArray, List.set_cons_zero, List.set_cons_succ, i64_w, i32_w]; rfl)
  refine pure_ (i := 4) (N := some 8) (v := ?_) (a' := ?_) #[true, true, true, false, true, false, false, false, false, false, false] rfl rfl (any_of HT_.out (by kernel_rfl)) (fun _ _ _ h => h) (Or.inl ⟨by rfl, ?_⟩) ?_ ?_; rotate_left; (intro w'; go_simp; with_reducible rfl); rotate_left; (simp only [Act.put, List.setIfInBounds_toArray, List.set_cons_zero, List.set_cons_succ, i64_w, i32_w]; rfl)
  refine pure_ (i := 5) (N := some 9) (v := ?_) (a' := ?_) #[true, true, true, false, true, true, false, false, false, false, false] rfl rfl (any_of HT_.out (by kernel_rfl)) (fun _ _ _ h => h) (Or.inl ⟨by rfl, ?_⟩) ?_ ?_; rotate_left; (intro w'; go_simp; with_reducible rfl); rotate_left; (simp only [Act.put, List.setIfInBounds_toArray, List.set_cons_zero, List.set_cons_succ, i64_w, i32_w]; rfl)
  refine pure_ (i := 6) (N := some 10) (v := ?_) (a' := ?_) #[true, true, true, false, true, true, true, false, false, false, false] rfl rfl (any_of HT_.out (by kernel_rfl)) (fun _ _ _ h => h) (Or.inl ⟨by rfl, ?_⟩) ?_ ?_; rotate_left; (intro w'; go_simp; with_reducible rfl); rotate_left; (simp only [Act.put, List.setIfInBounds_toArray, List.set_cons_zero, List.set_cons_succ, i64_w, i32_w]; rfl)
  refine take_ (i := 3) (N := some 7) (v := ?_) (a' := ?_) #[true, true, true, true, true, true, true, false, false, false, false] rfl rfl (take_ofW HT_.out HW_.out (by kernel_rfl)) (fun _ _ _ h => h) (Or.inl ⟨by rfl, ?_⟩) hHeld ?_ ?_; rotate_left; (intro w' _; go_simp; with_reducible rfl); rotate_left; (simp only [Act.put, List.setIfInBounds_toArray, List.set_cons_zero, List.set_cons_succ, i64_w, i32_w]; rfl)
  refine take_ (i := 7) (N := some 11) (v := ?_) (a' := ?_) #[true, true, true, true, true, true, true, true, false, false, false] rfl rfl (take_ofW HT_.out HW_.out (by kernel_rfl)) (fun _ _ _ h => h) (Or.inl ⟨by rfl, ?_⟩) hHeld ?_ ?_; rotate_left; (intro w' _; go_simp; with_reducible rfl); rotate_left; (simp only [Act.put, List.setIfInBounds_toArray, List.set_cons_zero, List.set_cons_succ, i64_w, i32_w]; rfl)
  refine one_ (i := 8) (N := some 12) #[true, true, true, true, true, true, true, true, true, false, false] rfl rfl (one_of HT_.out (by kernel_rfl)) (by decide) (fun K hK => ?_)
  refine Kd.R_lit_step (Kd.int .u8) _ 5 ?hg (N := 12) ?hd (xs := ([bt (⟨#[48, 49, 50, 51, 52, 53, 54, 55, 56, 57, 97, 98, 99, 100, 101, 102]⟩ : ByteArray) ((Int.tdiv a0 16) % 256), bt (⟨#[48, 49, 50, 51, 52, 53, 54, 55, 56, 57, 97, 98, 99, 100, 101, 102]⟩ : ByteArray) (Int.tmod a0 16)] : List Int)) (inner := [.int .u8 (bt (⟨#[48, 49, 50, 51, 52, 53, 54, 55, 56, 57, 97, 98, 99, 100, 101, 102]⟩ : ByteArray) ((Int.tdiv a0 16) % 256)), .int .u8 (bt (⟨#[48, 49, 50, 51, 52, 53, 54, 55, 56, 57, 97, 98, 99, 100, 101, 102]⟩ : ByteArray) (Int.tmod a0 16))]) (ok := fun _ => True) (okp := fun _ => True) ?hr ?hp (fun _ hk => hk) trivial (Below.refl _ _) (Nat.le_refl _) (by simp) ?_; (case hd => rfl); (case hg => rfl); (case hr => first | (go_simp; done) | (go_simp; rfl)); (case hp => exact (Reps.one (show Kd.M (Kd.int .u8) _ _ _ (bt (⟨#[48, 49, 50, 51, 52, 53, 54, 55, 56, 57, 97, 98, 99, 100, 101, 102]⟩ : ByteArray) ((Int.tdiv a0 16) % 256)) [.int .u8 (bt (⟨#[48, 49, 50, 51, 52, 53, 54, 55, 56, 57, 97, 98, 99, 100, 101, 102]⟩ : ByteArray) ((Int.tdiv a0 16) % 256))] from rfl) (Reps.one (show Kd.M (Kd.int .u8) _ _ _ (bt (⟨#[48, 49, 50, 51, 52, 53, 54, 55, 56, 57, 97, 98, 99, 100, 101, 102]⟩ : ByteArray) (Int.tmod a0 16)) [.int .u8 (bt (⟨#[48, 49, 50, 51, 52, 53, 54, 55, 56, 57, 97, 98, 99, 100, 101, 102]⟩ : ByteArray) (Int.tmod a0 16))] from rfl) (Reps.none _ _))))
  intro v1103 w9 ho10 hb hg_ hnew_
  clear hg_ hnew_
  (first | rw [← Ny1102.out] at ho10 | (simp only [Int.reduceToNat] at ho10; rw [← Ny1102.out] at ho10))
  have n0_ := Aside0.mk (Kd.R_lower ho10 (below_size (by repeat (first | (with_reducible first | exact HB.out | apply below_alloc | apply pw_below_drewN | apply below_drew1) | exact HB.out))))
  have n1_ := Aside0.mk (below_step (by repeat (first | (with_reducible first | exact HB.out | apply below_alloc | apply pw_below_drewN | apply below_drew1) | exact HB.out)) hb)
  clear HB
  have HO1104 := n0_
  have HB := n1_
  clear n0_ n1_
  clear hb ho10
  refine hK.out _ _ trivial (fun hHeld => ?_)
  clear hK K
  refine norm_ (a' := ?_) ?_ ?_; rotate_left; (show Act.put _ (some 12) _ = _; simp only [Act.put, List.setIfInBounds_toArray, List.set_cons_zero, List.set_cons_succ, i64_w, i32_w]; rfl)
  refine one_ (i := 9) (N := some 13) #[true, true, true, true, true, true, true, true, true, true, false] rfl rfl (one_of HT_.out (by kernel_rfl)) (by decide) (fun K hK => ?_)
  have hcv11 := own_string (P := Tryz.prog) Tryz.underlying22 Tryz.underlying5 Tryz.underlying9 (Kd.own_of_R HO1104.out)
  refine value_ (w1 := ?_) (v := ?_) (by rfl) rfl ?_ ?_
  rotate_left 2
  · go_simp
    constructor
    rotate_left
    · rfl
    rfl
  clear hcv11
  refine hK.out _ _ trivial (fun hHeld => ?_)
  clear hK K
  refine norm_ (a' := ?_) ?_ ?_; rotate_left; (show Act.put _ (some 13) _ = _; simp only [Act.put, List.setIfInBounds_toArray, List.set_cons_zero, List.set_cons_succ, i64_w, i32_w]; rfl)
  refine pure_ (i := 10) (N := some 2) (v := ?_) (a' := ?_) #[true, true, true, true, true, true, true, true, true, true, true] rfl rfl (any_of HT_.out (by kernel_rfl)) (fun _ _ _ h => h) (Or.inl ⟨by rfl, ?_⟩) ?_ ?_; rotate_left; (intro w'; go_simp; with_reducible rfl); rotate_left; (simp only [Act.put, List.setIfInBounds_toArray, List.set_cons_zero, List.set_cons_succ, i64_w, i32_w]; rfl)
  refine done_ (done_of HT_.out (by kernel_rfl)) ?_
  try go_wp2
  go_ret
  exact ⟨by first | rfl | (simp [errW_none, errW_some] <;> rfl) | (simp [*, errW_none, errW_some] <;> rfl), by repeat (first | (with_reducible first | exact HB.out | apply below_alloc | apply pw_below_drewN | apply below_drew1) | exact HB.out)⟩
end Go.Proofs.YtkioddjjfifadaaGreatDoor.P
namespace Go.Proofs.YtkioddjjfifadaaGreatDoor.P
open Go.RowKit Go.Proofs.YtkioddjjfifadaaGreatDoorW.PrintWords Go.Proofs.YtkioddjjfifadaaGreatDoorW.PrintLast Go.Proofs.YtkioddjjfifadaaGreatDoorW.PrintMore
attribute [local go_sem] max2_int min2_int max_two min_two max_three min_three max_four min_four   -- for this text's walks alone
set_option linter.unusedVariables false
set_option linter.unusedSimpArgs false
mutual
def chirographref07_value.l1 : Nat → ByteArray → ByteArray → Int → Option (ByteArray)
  | 0, _, _, _ => none
  | k + 1, x3, x7, x8 => if x8 < (x3.size : Int) then (if 0 ≤ x8 then ((some (([bt x3 x8] : List Int) : List Int)).bind fun y1110 => (if (bt x3 x8) < 32 then (chirographref07_value.j2 k x3 x7 x8 (bt x3 x8) (strOfNums y1110) true) else (chirographref07_value.j2 k x3 x7 x8 (bt x3 x8) (strOfNums y1110) ((bt x3 x8) == 127)))) else (none)) else (some x7)
def chirographref07_value.j2 : Nat → ByteArray → ByteArray → Int → Int → ByteArray → Bool → Option (ByteArray)
  | 0, _, _, _, _, _, _ => none
  | k + 1, x3, x7, x8, x9, x10, x49 => if x49 = true then ((chirographref07_two.f x9).bind fun t1113 => (if 1 + t1113.size ≤ 9223372036854775807 then (if x7.size + ((⟨#[92]⟩ : ByteArray) ++ t1113).size ≤ 9223372036854775807 then (chirographref07_value.l1 k x3 (x7 ++ ((⟨#[92]⟩ : ByteArray) ++ t1113)) (wrap64 (x8 + 1))) else (none)) else (none))) else (if x9 = 34 then (chirographref07_value.j3 k x3 x7 x8 x9 x10 true) else (if x9 = 43 then (chirographref07_value.j3 k x3 x7 x8 x9 x10 true) else (if x9 = 44 then (chirographref07_value.j3 k x3 x7 x8 x9 x10 true) else (if x9 = 59 then (chirographref07_value.j3 k x3 x7 x8 x9 x10 true) else (if x9 = 60 then (chirographref07_value.j3 k x3 x7 x8 x9 x10 true) else (if x9 = 62 then (chirographref07_value.j3 k x3 x7 x8 x9 x10 true) else (if x9 = 61 then (chirographref07_value.j3 k x3 x7 x8 x9 x10 true) else (chirographref07_value.j3 k x3 x7 x8 x9 x10 (x9 == 92)))))))))
def chirographref07_value.j3 : Nat → ByteArray → ByteArray → Int → Int → ByteArray → Bool → Option (ByteArray)
  | 0, _, _, _, _, _, _ => none
  | k + 1, x3, x7, x8, x9, x10, x59 => if x59 = true then (if 1 + x10.size ≤ 9223372036854775807 then (if x7.size + ((⟨#[92]⟩ : ByteArray) ++ x10).size ≤ 9223372036854775807 then (chirographref07_value.l1 k x3 (x7 ++ ((⟨#[92]⟩ : ByteArray) ++ x10)) (wrap64 (x8 + 1))) else (none)) else (none)) else (if x8 = 0 then (if x9 = 35 then (if 1 + x10.size ≤ 9223372036854775807 then (if x7.size + ((⟨#[92]⟩ : ByteArray) ++ x10).size ≤ 9223372036854775807 then (chirographref07_value.l1 k x3 (x7 ++ ((⟨#[92]⟩ : ByteArray) ++ x10)) (wrap64 (x8 + 1))) else (none)) else (none)) else (if x9 = 32 then (if 1 + x10.size ≤ 9223372036854775807 then (if x7.size + ((⟨#[92]⟩ : ByteArray) ++ x10).size ≤ 9223372036854775807 then (chirographref07_value.l1 k x3 (x7 ++ ((⟨#[92]⟩ : ByteArray) ++ x10)) (wrap64 (x8 + 1))) else (none)) else (none)) else (if x7.size + x10.size ≤ 9223372036854775807 then (chirographref07_value.l1 k x3 (x7 ++ x10) (wrap64 (x8 + 1))) else (none)))) else (if x9 = 32 then (if x8 = (wrap64 ((x3.size : Int) - 1)) then (if 1 + x10.size ≤ 9223372036854775807 then (if x7.size + ((⟨#[92]⟩ : ByteArray) ++ x10).size ≤ 9223372036854775807 then (chirographref07_value.l1 k x3 (x7 ++ ((⟨#[92]⟩ : ByteArray) ++ x10)) (wrap64 (x8 + 1))) else (none)) else (none)) else (if x7.size + x10.size ≤ 9223372036854775807 then (chirographref07_value.l1 k x3 (x7 ++ x10) (wrap64 (x8 + 1))) else (none))) else (if x7.size + x10.size ≤ 9223372036854775807 then (chirographref07_value.l1 k x3 (x7 ++ x10) (wrap64 (x8 + 1))) else (none))))
def chirographref07_value.l0 : Nat → ByteArray → Int → ByteArray → Int → List Int → Option (ByteArray)
  | 0, _, _, _, _, _ => none
  | k + 1, x5, x6, x1106000, x1106001, x1106002 => if x6 < (x1106002.length : Int) then (if 0 ≤ x6 then ((chirographref07_two.f (rd x1106002 x6)).bind fun t1109 => (if x5.size + t1109.size ≤ 9223372036854775807 then (chirographref07_value.l0 k (x5 ++ t1109) (wrap64 (x6 + 1)) x1106000 x1106001 x1106002) else (none))) else (none)) else (some x5)
end
def chirographref07_value.f (k : Nat) (a0_0 : ByteArray) (a0_1 : Int) (l0_2 : List Int) : Option (ByteArray) := (chirographref06_Text.f k a0_1 l0_2).bind fun bt1106 => (if bt1106.2 = 0 then (chirographref07_value.l1 k bt1106.1 (⟨#[]⟩ : ByteArray) 0) else (chirographref07_value.l0 k (⟨#[35]⟩ : ByteArray) 0 a0_0 a0_1 l0_2))
set_option maxHeartbeats 8000000 in
set_option maxRecDepth 100000 in
theorem chirographref07_value.calls (k : Nat) (a0_0 : ByteArray) (a0_1 : Int) (A0_2 : Option Addr) (c0_2 : Nat) (l0_2 : List Int) (r : ByteArray) (w : World) (hr0_2 : Kd.C (Kd.int .u8) w A0_2 l0_2.length l0_2) (hc0_2 : l0_2.length ≤ c0_2) (h : chirographref07_value.f k a0_0 a0_1 l0_2 = some r) :
    Calls Tryz.prog 91 #[.agg #[.string a0_0, .int .i64 a0_1, .slice A0_2 l0_2.length c0_2]] w fun e w' => e = .returned (.string r) ∧ Below w.heap.size w w' := by
  have hu64 := Tryz.underlying64
  have HR0_2 := Aside0.mk hr0_2
  have HC0_2 := Aside0.mk hc0_2
  clear hr0_2 hc0_2
  have HB := Aside0.mk (Below.refl w.heap.size w)
  have H : ((chirographref06_Text.f k a0_1 l0_2).bind fun bt1106 => (if bt1106.2 = 0 then (chirographref07_value.l1 k bt1106.1 (⟨#[]⟩ : ByteArray) 0) else (chirographref07_value.l0 k (⟨#[35]⟩ : ByteArray) 0 a0_0 a0_1 l0_2))) = some r := h
  clear h
  replace H := Option.bind_eq_some_iff.mp H
  obtain ⟨⟨t1106, t1107⟩, A20, H⟩ := H
  replace H : (if t1107 = 0 then (chirographref07_value.l1 k t1106 (⟨#[]⟩ : ByteArray) 0) else (chirographref07_value.l0 k (⟨#[35]⟩ : ByteArray) 0 a0_0 a0_1 l0_2)) = some r := H
  have A2 := Aside0.mk A20
  clear A20
  by_cases c3 : t1107 = 0
  rotate_left
  · rw [if_neg c3] at H
    have c3b0 : (t1107 == 0) = false := beq_eq_false_iff_ne.mpr c3
    have c3b1 : (t1107 != 0) = true := bne_iff_ne.mpr c3
    have H' := Aside0.mk H
    clear H
    go_enter Tryz.func91, Tryz.ntmps91
    go_wp2_with (first | ((with_reducible refine gate_dst (N := 1) rfl ?_); (try (refine gate_guard (by rfl) ?_; dsimp only)); refine box_event ?hg (N := 1) ?hd (cs := #[.string a0_0, .int .i64 a0_1, .slice A0_2 l0_2.length c0_2]) (t := 64) ?hr ?_; (case hd => rfl); (case hg => rfl); (case hr => first | (go_simp; done) | (go_simp; rfl)); intro gb1105 hg w45 hbox hb; have n0_ := Aside0.mk (below_step (by repeat (first | (with_reducible first | exact HB.out | apply below_alloc | apply pw_below_drewN | apply below_drew1) | exact HB.out)) hb); have n1_ := Aside0.mk (hbox); have n2_ := Aside0.mk ((by rw [hg]; exact (below_size (by repeat (first | (with_reducible first | exact HB.out | apply below_alloc | apply pw_below_drewN | apply below_drew1) | exact HB.out))) : w.heap.size ≤ gb1105)); have n3_ := Aside0.mk ((by rw [hg]; exact (below_size (by repeat (first | (with_reducible first | exact HB.out | apply below_alloc | apply pw_below_drewN | apply below_drew1) | exact HB.out))) : w.heap.size ≤ gb1105)); clear HB; have HB := n0_; have BK1105 := n1_; have GW1105 := n2_; have GE1105 := n3_; clear n0_ n1_ n2_ n3_; clear hb hbox hg; have hcz46_0 : w45.cell? ⟨gb1105, 0, none⟩ = some (.string a0_0) := (blk_cell BK1105.out 0).trans rfl; have hcz46_1 : w45.cell? ⟨gb1105, 1, none⟩ = some (.int .i64 a0_1) := (blk_cell BK1105.out 1).trans rfl; have hcz46_2 : w45.cell? ⟨gb1105, 2, none⟩ = some (.slice A0_2 l0_2.length c0_2) := (blk_cell BK1105.out 2).trans rfl; have hfz46_0 := blk_frozen BK1105.out 0; have hfz46_1 := blk_frozen BK1105.out 1; have hfz46_2 := blk_frozen BK1105.out 2) | ((with_reducible refine gate_callee (f := 156) rfl ?_); refine goesL_ (some 16) rfl rfl Tryz.func156 (by kernel_rfl) rfl #[.int .i64 a0_1, .slice A0_2 l0_2.length c0_2] rfl (by (try simp only [List.map_toArray, List.map_cons, List.map_nil]); first | done | rfl | (simp only [List.length_drop, List.length_take]; rfl)) ?_; (with_reducible refine (chirographref06_Text.calls k a0_1 _ _ l0_2 t1106 t1107 _ ?side1 ?side2 A2.out).mono ?_); (case side1 => repeat (first | exact (Kd.C_below HR0_2.out HB.out) | (with_reducible refine Kd.C_alloc ?_ _) | (with_reducible refine Kd.C_drewN ?_ _) | (with_reducible refine Kd.C_drew ?_))); (case side2 => exact HC0_2.out); rintro e w47 ⟨rfl, hb⟩; refine ⟨_, rfl, ?_⟩; have n0_ := Aside0.mk (blk_below (g := gb1105) (o := .cells #[.string a0_0, .int .i64 a0_1, .slice A0_2 l0_2.length c0_2] 64 (0, 0)) (by (with_reducible repeat (first | refine blk_drewN ?_ _ | refine blk_drew ?_ | refine blk_alloc ?_ _)); exact BK1105.out) hb); have n1_ := Aside0.mk (below_step (by repeat (first | (with_reducible first | exact HB.out | apply below_alloc | apply pw_below_drewN | apply below_drew1 | refine below_set ?_ GE1105.out) | exact HB.out)) hb); clear BK1105; clear HB; have BK1105 := n0_; have HB := n1_; clear n0_ n1_; (try clear hb); (try clear hb2); (try clear hk); (try clear hi)))
    go_loopg [5, 6] k (fun kq v5 v6 w' => ∃ (x5_1 : ByteArray) (x6_1 : Int), v5 = .string x5_1 ∧ v6 = .int .i64 x6_1 ∧ Aside0 (chirographref07_value.l0 kq x5_1 x6_1 a0_0 a0_1 l0_2 = some r) ∧ Aside0 (kq ≤ k) ∧ Aside0 (w'.heap[gb1105]? = some (.cells #[.string a0_0, .int .i64 a0_1, (.slice A0_2 l0_2.length c0_2)] 64 (0, 0))) ∧ Aside0 (Below w.heap.size w w'))
    case atStart => exact ⟨((⟨#[35]⟩ : ByteArray)), (0), (by first | rfl | (simp; done) | (simp [*]; done)), (by first | rfl | (simp; done) | (simp [*]; done)), H', ⟨Nat.le_refl _⟩, ⟨by (with_reducible repeat (first | refine blk_drewN ?_ _ | refine blk_drew ?_ | refine blk_alloc ?_ _)); exact BK1105.out⟩, ⟨by repeat (first | (with_reducible first | exact HB.out | apply below_alloc | apply pw_below_drewN | apply below_drew1 | refine below_set ?_ GE1105.out) | exact HB.out)⟩⟩
    case round =>
      clear H'
      obtain ⟨x5_1, x6_1, rfl, rfl, HA, HK1, BK1105, HB⟩ := hrel
      cases gk with
      | zero => exact absurd HA.out (by simp [chirographref07_value.l0])
      | succ k1 =>
        have H := HA.out
        clear HA
        simp only [chirographref07_value.l0] at H
        by_cases c48 : x6_1 < (l0_2.length : Int)
        rotate_left
        · rw [if_neg c48] at H
          have c48b0 : decide (x6_1 < (l0_2.length : Int)) = false := decide_eq_false c48
          clear c48
          obtain rfl := Option.some.inj H
          have hcz54_0 : wr.cell? ⟨gb1105, 0, none⟩ = some (.string a0_0) := (blk_cell BK1105.out 0).trans rfl
          have hcz54_1 : wr.cell? ⟨gb1105, 1, none⟩ = some (.int .i64 a0_1) := (blk_cell BK1105.out 1).trans rfl
          have hcz54_2 : wr.cell? ⟨gb1105, 2, none⟩ = some (.slice A0_2 l0_2.length c0_2) := (blk_cell BK1105.out 2).trans rfl
          have hfz54_0 := blk_frozen BK1105.out 0
          have hfz54_1 := blk_frozen BK1105.out 1
          have hfz54_2 := blk_frozen BK1105.out 2
          go_wp2
          go_ret
          exact ⟨by first | rfl | (simp [errW_none, errW_some] <;> rfl) | (simp [*, errW_none, errW_some] <;> rfl), by repeat (first | (with_reducible first | exact HB.out | apply below_alloc | apply pw_below_drewN | apply below_drew1 | refine below_set ?_ GE1105.out) | exact HB.out)⟩
        rw [if_pos c48] at H
        have c48b0 : decide (x6_1 < (l0_2.length : Int)) = true := decide_eq_true c48
        clear c48
        by_cases c49 : 0 ≤ x6_1
        rotate_left
        · rw [if_neg c49] at H
          exact absurd H (by simp)
        rw [if_pos c49] at H
        have c49b0 : decide (0 ≤ x6_1) = true := decide_eq_true c49
        clear c49
        replace H := Option.bind_eq_some_iff.mp H
        obtain ⟨t1109, A500, H⟩ := H
        replace H : (if x5_1.size + t1109.size ≤ 9223372036854775807 then (chirographref07_value.l0 k1 (x5_1 ++ t1109) (wrap64 (x6_1 + 1)) a0_0 a0_1 l0_2) else (none)) = some r := H
        have A50 := Aside0.mk A500
        clear A500
        by_cases c51 : x5_1.size + t1109.size ≤ 9223372036854775807
        rotate_left
        · rw [if_neg c51] at H
          exact absurd H (by simp)
        rw [if_pos c51] at H
        have c51b0 := eq_true c51
        have c51b1 : decide (x5_1.size + t1109.size ≤ 9223372036854775807) = true := decide_eq_true c51
        try have c51b2 : (9223372036854775807 < x5_1.size + t1109.size) = False := eq_false (Nat.not_lt.2 c51)
        have H' := Aside0.mk H
        clear H
        have hcz52_0 : wr.cell? ⟨gb1105, 0, none⟩ = some (.string a0_0) := (blk_cell BK1105.out 0).trans rfl
        have hcz52_1 : wr.cell? ⟨gb1105, 1, none⟩ = some (.int .i64 a0_1) := (blk_cell BK1105.out 1).trans rfl
        have hcz52_2 : wr.cell? ⟨gb1105, 2, none⟩ = some (.slice A0_2 l0_2.length c0_2) := (blk_cell BK1105.out 2).trans rfl
        have hfz52_0 := blk_frozen BK1105.out 0
        have hfz52_1 := blk_frozen BK1105.out 1
        have hfz52_2 := blk_frozen BK1105.out 2
        have p1108 : 0 ≤ (x6_1 : Int) := of_decide_eq_true (by first | (with_reducible assumption) | assumption)
        have q1108 : x6_1 < (l0_2.length : Int) := of_decide_eq_true (by first | (with_reducible assumption) | assumption)
        obtain ⟨ad1108, e1108, hx1108_0⟩ := Kd.at_int HR0_2.out x6_1 p1108 q1108
        cases e1108
        replace hx1108_0 := (HB.out.cell (World.block_lt_of_cell? w _ hx1108_0)).trans hx1108_0
        replace p1108 := eq_true p1108
        replace q1108 := eq_true q1108
        go_wp2_with (first | ((with_reducible refine gate_callee (f := 157) rfl ?_); refine goesL_ (some 34) rfl rfl Tryz.func157 (by kernel_rfl) rfl #[.int .u8 (rd l0_2 x6_1)] rfl (by (try simp only [List.map_toArray, List.map_cons, List.map_nil]); first | done | rfl | (simp only [List.length_drop, List.length_take]; rfl)) ?_; (with_reducible refine (chirographref07_two.calls (rd l0_2 x6_1) t1109 _ A50.out).mono ?_); rintro e w53 ⟨rfl, hb⟩; refine ⟨_, rfl, ?_⟩; have n0_ := Aside0.mk (blk_below (g := gb1105) (o := .cells #[.string a0_0, .int .i64 a0_1, .slice (some ad1108) l0_2.length c0_2] 64 (0, 0)) (by (with_reducible repeat (first | refine blk_drewN ?_ _ | refine blk_drew ?_ | refine blk_alloc ?_ _)); exact BK1105.out) hb); have n1_ := Aside0.mk (below_step (by repeat (first | (with_reducible first | exact HB.out | apply below_alloc | apply pw_below_drewN | apply below_drew1 | refine below_set ?_ GE1105.out) | exact HB.out)) hb); clear BK1105; clear HB; have BK1105 := n0_; have HB := n1_; clear n0_ n1_; (try clear hb); (try clear hb2); (try clear hk); (try clear hi)))
        go_roundg k1
        case measure => have := HK1.out; omega
        case rel => exact ⟨(x5_1 ++ t1109), (wrap64 (x6_1 + 1)), (by first | rfl | (simp; done) | (simp [*]; done)), (by first | rfl | (simp; done) | (simp [*]; done)), H', ⟨by have := HK1.out; omega⟩, ⟨by (with_reducible repeat (first | refine blk_drewN ?_ _ | refine blk_drew ?_ | refine blk_alloc ?_ _)); exact BK1105.out⟩, ⟨by repeat (first | (with_reducible first | exact HB.out | apply below_alloc | apply pw_below_drewN | apply below_drew1 | refine below_set ?_ GE1105.out) | exact HB.out)⟩⟩
  rw [if_pos c3] at H
  have c3b0 : (t1107 == 0) = true := beq_iff_eq.mpr c3
  have c3b1 : (t1107 != 0) = false := bne_eq_false_iff_eq.mpr c3
  clear c3
  have H' := Aside0.mk H
  clear H
  go_enter Tryz.func91, Tryz.ntmps91
  go_wp2_with (first | ((with_reducible refine gate_dst (N := 1) rfl ?_); (try (refine gate_guard (by rfl) ?_; dsimp only)); refine box_event ?hg (N := 1) ?hd (cs := #[.string a0_0, .int .i64 a0_1, .slice A0_2 l0_2.length c0_2]) (t := 64) ?hr ?_; (case hd => rfl); (case hg => rfl); (case hr => first | (go_simp; done) | (go_simp; rfl)); intro gb1105 hg w4 hbox hb; have n0_ := Aside0.mk (below_step (by repeat (first | (with_reducible first | exact HB.out | apply below_alloc | apply pw_below_drewN | apply below_drew1) | exact HB.out)) hb); have n1_ := Aside0.mk (hbox); have n2_ := Aside0.mk ((by rw [hg]; exact (below_size (by repeat (first | (with_reducible first | exact HB.out | apply below_alloc | apply pw_below_drewN | apply below_drew1) | exact HB.out))) : w.heap.size ≤ gb1105)); have n3_ := Aside0.mk ((by rw [hg]; exact (below_size (by repeat (first | (with_reducible first | exact HB.out | apply below_alloc | apply pw_below_drewN | apply below_drew1) | exact HB.out))) : w.heap.size ≤ gb1105)); clear HB; have HB := n0_; have BK1105 := n1_; have GW1105 := n2_; have GE1105 := n3_; clear n0_ n1_ n2_ n3_; clear hb hbox hg; have hcz5_0 : w4.cell? ⟨gb1105, 0, none⟩ = some (.string a0_0) := (blk_cell BK1105.out 0).trans rfl; have hcz5_1 : w4.cell? ⟨gb1105, 1, none⟩ = some (.int .i64 a0_1) := (blk_cell BK1105.out 1).trans rfl; have hcz5_2 : w4.cell? ⟨gb1105, 2, none⟩ = some (.slice A0_2 l0_2.length c0_2) := (blk_cell BK1105.out 2).trans rfl; have hfz5_0 := blk_frozen BK1105.out 0; have hfz5_1 := blk_frozen BK1105.out 1; have hfz5_2 := blk_frozen BK1105.out 2) | ((with_reducible refine gate_callee (f := 156) rfl ?_); refine goesL_ (some 16) rfl rfl Tryz.func156 (by kernel_rfl) rfl #[.int .i64 a0_1, .slice A0_2 l0_2.length c0_2] rfl (by (try simp only [List.map_toArray, List.map_cons, List.map_nil]); first | done | rfl | (simp only [List.length_drop, List.length_take]; rfl)) ?_; (with_reducible refine (chirographref06_Text.calls k a0_1 _ _ l0_2 t1106 t1107 _ ?side1 ?side2 A2.out).mono ?_); (case side1 => repeat (first | exact (Kd.C_below HR0_2.out HB.out) | (with_reducible refine Kd.C_alloc ?_ _) | (with_reducible refine Kd.C_drewN ?_ _) | (with_reducible refine Kd.C_drew ?_))); (case side2 => exact HC0_2.out); rintro e w6 ⟨rfl, hb⟩; refine ⟨_, rfl, ?_⟩; have n0_ := Aside0.mk (blk_below (g := gb1105) (o := .cells #[.string a0_0, .int .i64 a0_1, .slice A0_2 l0_2.length c0_2] 64 (0, 0)) (by (with_reducible repeat (first | refine blk_drewN ?_ _ | refine blk_drew ?_ | refine blk_alloc ?_ _)); exact BK1105.out) hb); have n1_ := Aside0.mk (below_step (by repeat (first | (with_reducible first | exact HB.out | apply below_alloc | apply pw_below_drewN | apply below_drew1 | refine below_set ?_ GE1105.out) | exact HB.out)) hb); clear BK1105; clear HB; have BK1105 := n0_; have HB := n1_; clear n0_ n1_; (try clear hb); (try clear hb2); (try clear hk); (try clear hi)))
  go_loopg [7, 8] k (fun kq v7 v8 w' => ∃ (x7_1 : ByteArray) (x8_1 : Int), v7 = .string x7_1 ∧ v8 = .int .i64 x8_1 ∧ Aside0 (chirographref07_value.l1 kq t1106 x7_1 x8_1 = some r) ∧ Aside0 (kq ≤ k) ∧ Aside0 (w'.heap[gb1105]? = some (.cells #[.string a0_0, .int .i64 a0_1, (.slice A0_2 l0_2.length c0_2)] 64 (0, 0))) ∧ Aside0 (Below w.heap.size w w'))
  case atStart => exact ⟨((⟨#[]⟩ : ByteArray)), (0), (by first | rfl | (simp; done) | (simp [*]; done)), (by first | rfl | (simp; done) | (simp [*]; done)), H', ⟨Nat.le_refl _⟩, ⟨by (with_reducible repeat (first | refine blk_drewN ?_ _ | refine blk_drew ?_ | refine blk_alloc ?_ _)); exact BK1105.out⟩, ⟨by repeat (first | (with_reducible first | exact HB.out | apply below_alloc | apply pw_below_drewN | apply below_drew1 | refine below_set ?_ GE1105.out) | exact HB.out)⟩⟩
  case round =>
    clear H'
    obtain ⟨x7_1, x8_1, rfl, rfl, HA, HK1, BK1105, HB⟩ := hrel
    cases gk with
    | zero => exact absurd HA.out (by simp [chirographref07_value.l1])
    | succ k1 =>
      have H := HA.out
      clear HA
      simp only [chirographref07_value.l1] at H
      by_cases c7 : x8_1 < (t1106.size : Int)
      rotate_left
      · rw [if_neg c7] at H
        have c7b0 : decide (x8_1 < (t1106.size : Int)) = false := decide_eq_false c7
        clear c7
        obtain rfl := Option.some.inj H
        go_wp2
        go_ret
        exact ⟨by first | rfl | (simp [errW_none, errW_some] <;> rfl) | (simp [*, errW_none, errW_some] <;> rfl), by repeat (first | (with_reducible first | exact HB.out | apply below_alloc | apply pw_below_drewN | apply below_drew1 | refine below_set ?_ GE1105.out) | exact HB.out)⟩
      rw [if_pos c7] at H
      have c7b0 : decide (x8_1 < (t1106.size : Int)) = true := decide_eq_true c7
      clear c7
      by_cases c8 : 0 ≤ x8_1
      rotate_left
      · rw [if_neg c8] at H
        exact absurd H (by simp)
      rw [if_pos c8] at H
      have c8b0 : decide (0 ≤ x8_1) = true := decide_eq_true c8
      clear c8
      obtain ⟨y1110, hy1110⟩ : ∃ y_ : List Int, y_ = (([bt t1106 x8_1] : List Int)) := ⟨_, rfl⟩
      replace H : (if (bt t1106 x8_1) < 32 then (chirographref07_value.j2 k1 t1106 x7_1 x8_1 (bt t1106 x8_1) (strOfNums y1110) true) else (chirographref07_value.j2 k1 t1106 x7_1 x8_1 (bt t1106 x8_1) (strOfNums y1110) ((bt t1106 x8_1) == 127))) = some r := by first | (rw [hy1110]; with_reducible exact H) | (have H2_ := (Option.bind_some _ _).symm.trans H; rw [hy1110]; with_reducible exact H2_) | (have H2_ := (Option.bind_some _ _).symm.trans H; with_reducible exact H2_) | with_reducible exact H | (rw [hy1110]; exact H) | exact H
      have Ny1110 := Aside0.mk hy1110
      clear hy1110
      have HC10 := Aside0.mk H
      clear H
      have p9 : 0 ≤ (x8_1 : Int) := of_decide_eq_true (by first | (with_reducible assumption) | assumption)
      have q9 : x8_1 < (t1106.size : Int) := of_decide_eq_true (by first | (with_reducible assumption) | assumption)
      have hx9 := bt_at t1106 x8_1
      replace p9 := eq_true p9
      replace q9 := eq_true q9
      go_upto_region 15 with (first | ((with_reducible refine gate_dst (N := 47) rfl ?_); (try (refine gate_guard (by rfl) ?_; dsimp only)); refine Kd.R_lit (Kd.int .u8) _ 5 ?hg (N := 47) ?hd (xs := ([bt t1106 x8_1] : List Int)) (inner := [.int .u8 (bt t1106 x8_1)]) (ok := fun _ => True) (okp := fun _ => True) ?hr ?hp (fun _ hk => hk) trivial (Below.refl _ _) (Nat.le_refl _) (by simp) ?_; (case hd => rfl); (case hg => rfl); (case hr => first | (go_simp; done) | (go_simp; rfl)); (case hp => exact (Reps.one (show Kd.M (Kd.int .u8) _ _ _ (bt t1106 x8_1) [.int .u8 (bt t1106 x8_1)] from rfl) (Reps.none _ _))); intro v1111 w11 ho12 hb hg_ hnew_; clear hg_ hnew_; (first | rw [← Ny1110.out] at ho12 | (simp only [Int.reduceToNat] at ho12; rw [← Ny1110.out] at ho12)); have n0_ := Aside0.mk (Kd.R_lower ho12 (below_size (by repeat (first | (with_reducible first | exact HB.out | apply below_alloc | apply pw_below_drewN | apply below_drew1 | refine below_set ?_ GE1105.out) | exact HB.out)))); have n1_ := Aside0.mk (blk_below (g := gb1105) (o := .cells #[.string a0_0, .int .i64 a0_1, .slice A0_2 l0_2.length c0_2] 64 (0, 0)) (by (with_reducible repeat (first | refine blk_drewN ?_ _ | refine blk_drew ?_ | refine blk_alloc ?_ _)); exact BK1105.out) hb); have n2_ := Aside0.mk (below_step (by repeat (first | (with_reducible first | exact HB.out | apply below_alloc | apply pw_below_drewN | apply below_drew1 | refine below_set ?_ GE1105.out) | exact HB.out)) hb); clear BK1105; clear HB; have HO1112 := n0_; have BK1105 := n1_; have HB := n2_; clear n0_ n1_ n2_; clear hb ho12; have hcv13 := own_string (P := Tryz.prog) Tryz.underlying22 Tryz.underlying5 Tryz.underlying9 (Kd.own_of_R HO1112.out)))
      (try simp only [Act.put, List.setIfInBounds_toArray, List.set_cons_zero, List.set_cons_succ])
      go_cut [49] (fun v49 wc => ∃ (kq : Nat) (x49_9 : Bool), v49 = .bool x49_9 ∧ Aside0 (chirographref07_value.j2 kq t1106 x7_1 x8_1 (bt t1106 x8_1) (strOfNums y1110) x49_9 = some r) ∧ Aside0 (kq ≤ k1) ∧ Aside0 (wc.heap[gb1105]? = some (.cells #[.string a0_0, .int .i64 a0_1, (.slice A0_2 l0_2.length c0_2)] 64 (0, 0))) ∧ Aside0 (Below w.heap.size w wc))
      case first =>
        have H := HC10.out
        clear HC10
        by_cases c14 : (bt t1106 x8_1) < 32
        rotate_left
        · rw [if_neg c14] at H
          have c14b0 : decide ((bt t1106 x8_1) < 32) = false := decide_eq_false c14
          clear c14
          (first | rw [c14b0] | (simp only [i64_w, i32_w]; rw [c14b0]) | skip)
          have H' := Aside0.mk H
          clear H
          go_wp2
          go_meet
          case rel => exact ⟨_, (((bt t1106 x8_1) == 127)), (by first | rfl | (simp; done) | (simp [*]; done)), H', ⟨by have := HK1.out; first | omega | exact Nat.le_refl _⟩, ⟨by (with_reducible repeat (first | refine blk_drewN ?_ _ | refine blk_drew ?_ | refine blk_alloc ?_ _)); exact BK1105.out⟩, ⟨by repeat (first | (with_reducible first | exact HB.out | apply below_alloc | apply pw_below_drewN | apply below_drew1 | refine below_set ?_ GE1105.out) | exact HB.out)⟩⟩
        rw [if_pos c14] at H
        have c14b0 : decide ((bt t1106 x8_1) < 32) = true := decide_eq_true c14
        clear c14
        (first | rw [c14b0] | (simp only [i64_w, i32_w]; rw [c14b0]) | skip)
        have H' := Aside0.mk H
        clear H
        go_wp2
        go_meet
        case rel => exact ⟨_, (true), (by first | rfl | (simp; done) | (simp [*]; done)), H', ⟨by have := HK1.out; first | omega | exact Nat.le_refl _⟩, ⟨by (with_reducible repeat (first | refine blk_drewN ?_ _ | refine blk_drew ?_ | refine blk_alloc ?_ _)); exact BK1105.out⟩, ⟨by repeat (first | (with_reducible first | exact HB.out | apply below_alloc | apply pw_below_drewN | apply below_drew1 | refine below_set ?_ GE1105.out) | exact HB.out)⟩⟩
      clear HC10
      obtain ⟨kq, x49_9, rfl, HA, HJ9, BK1105, HB⟩ := hcut
      cases kq with
      | zero => exact absurd HA.out (by simp [chirographref07_value.j2])
      | succ kj9 =>
        have H := HA.out
        clear HA
        simp only [chirographref07_value.j2] at H
        by_cases c15 : x49_9 = true
        · subst c15
          have H1 : ((chirographref07_two.f (bt t1106 x8_1)).bind fun t1113 => (if 1 + t1113.size ≤ 9223372036854775807 then (if x7_1.size + ((⟨#[92]⟩ : ByteArray) ++ t1113).size ≤ 9223372036854775807 then (chirographref07_value.l1 kj9 t1106 (x7_1 ++ ((⟨#[92]⟩ : ByteArray) ++ t1113)) (wrap64 (x8_1 + 1))) else (none)) else (none))) = some r := by rw [if_pos rfl] at H; exact H
          clear H
          have H := H1
          clear H1
          replace H := Option.bind_eq_some_iff.mp H
          obtain ⟨t1113, A160, H⟩ := H
          replace H : (if 1 + t1113.size ≤ 9223372036854775807 then (if x7_1.size + ((⟨#[92]⟩ : ByteArray) ++ t1113).size ≤ 9223372036854775807 then (chirographref07_value.l1 kj9 t1106 (x7_1 ++ ((⟨#[92]⟩ : ByteArray) ++ t1113)) (wrap64 (x8_1 + 1))) else (none)) else (none)) = some r := H
          have A16 := Aside0.mk A160
          clear A160
          by_cases c17 : 1 + t1113.size ≤ 9223372036854775807
          rotate_left
          · rw [if_neg c17] at H
            exact absurd H (by simp)
          rw [if_pos c17] at H
          have c17b0 := eq_true c17
          have c17b1 : decide (1 + t1113.size ≤ 9223372036854775807) = true := decide_eq_true c17
          try have c17b2 : (9223372036854775807 < 1 + t1113.size) = False := eq_false (Nat.not_lt.2 c17)
          by_cases c18 : x7_1.size + ((⟨#[92]⟩ : ByteArray) ++ t1113).size ≤ 9223372036854775807
          rotate_left
          · rw [if_neg c18] at H
            exact absurd H (by simp)
          rw [if_pos c18] at H
          have c18b0 := eq_true c18
          have c18b1 : decide (x7_1.size + ((⟨#[92]⟩ : ByteArray) ++ t1113).size ≤ 9223372036854775807) = true := decide_eq_true c18
          try have c18b2 : (9223372036854775807 < x7_1.size + ((⟨#[92]⟩ : ByteArray) ++ t1113).size) = False := eq_false (Nat.not_lt.2 c18)
          have H' := Aside0.mk H
          clear H
          go_wp2_with (first | ((with_reducible refine gate_callee (f := 157) rfl ?_); refine goesL_ (some 57) rfl rfl Tryz.func157 (by kernel_rfl) rfl #[.int .u8 (bt t1106 x8_1)] rfl (by (try simp only [List.map_toArray, List.map_cons, List.map_nil]); first | done | rfl | (simp only [List.length_drop, List.length_take]; rfl)) ?_; (with_reducible refine (chirographref07_two.calls (bt t1106 x8_1) t1113 _ A16.out).mono ?_); rintro e w19 ⟨rfl, hb⟩; refine ⟨_, rfl, ?_⟩; have n0_ := Aside0.mk (blk_below (g := gb1105) (o := .cells #[.string a0_0, .int .i64 a0_1, .slice A0_2 l0_2.length c0_2] 64 (0, 0)) (by (with_reducible repeat (first | refine blk_drewN ?_ _ | refine blk_drew ?_ | refine blk_alloc ?_ _)); exact BK1105.out) hb); have n1_ := Aside0.mk (below_step (by repeat (first | (with_reducible first | exact HB.out | apply below_alloc | apply pw_below_drewN | apply below_drew1 | refine below_set ?_ GE1105.out) | exact HB.out)) hb); clear BK1105; clear HB; have BK1105 := n0_; have HB := n1_; clear n0_ n1_; (try clear hb); (try clear hb2); (try clear hk); (try clear hi)))
          go_roundg kj9
          case measure => have := HK1.out; have := HJ9.out; omega
          case rel => exact ⟨(x7_1 ++ ((⟨#[92]⟩ : ByteArray) ++ t1113)), (wrap64 (x8_1 + 1)), (by first | rfl | (simp; done) | (simp [*]; done)), (by first | rfl | (simp; done) | (simp [*]; done)), H', ⟨by have := HK1.out; have := HJ9.out; omega⟩, ⟨by (with_reducible repeat (first | refine blk_drewN ?_ _ | refine blk_drew ?_ | refine blk_alloc ?_ _)); exact BK1105.out⟩, ⟨by repeat (first | (with_reducible first | exact HB.out | apply below_alloc | apply pw_below_drewN | apply below_drew1 | refine below_set ?_ GE1105.out) | exact HB.out)⟩⟩
        replace c15 := Bool.eq_false_iff.mpr c15
        subst c15
        have H1 : (if (bt t1106 x8_1) = 34 then (chirographref07_value.j3 kj9 t1106 x7_1 x8_1 (bt t1106 x8_1) (strOfNums y1110) true) else (if (bt t1106 x8_1) = 43 then (chirographref07_value.j3 kj9 t1106 x7_1 x8_1 (bt t1106 x8_1) (strOfNums y1110) true) else (if (bt t1106 x8_1) = 44 then (chirographref07_value.j3 kj9 t1106 x7_1 x8_1 (bt t1106 x8_1) (strOfNums y1110) true) else (if (bt t1106 x8_1) = 59 then (chirographref07_value.j3 kj9 t1106 x7_1 x8_1 (bt t1106 x8_1) (strOfNums y1110) true) else (if (bt t1106 x8_1) = 60 then (chirographref07_value.j3 kj9 t1106 x7_1 x8_1 (bt t1106 x8_1) (strOfNums y1110) true) else (if (bt t1106 x8_1) = 62 then (chirographref07_value.j3 kj9 t1106 x7_1 x8_1 (bt t1106 x8_1) (strOfNums y1110) true) else (if (bt t1106 x8_1) = 61 then (chirographref07_value.j3 kj9 t1106 x7_1 x8_1 (bt t1106 x8_1) (strOfNums y1110) true) else (chirographref07_value.j3 kj9 t1106 x7_1 x8_1 (bt t1106 x8_1) (strOfNums y1110) ((bt t1106 x8_1) == 92))))))))) = some r := by rw [if_neg (show ¬ (false = true) by decide)] at H; exact H
        clear H
        have H := H1
        clear H1
        have HC20 := Aside0.mk H
        clear H
        go_upto_region 17 with (fail)
        go_cut [59] (fun v59 wc => ∃ (kq : Nat) (x59_19 : Bool), v59 = .bool x59_19 ∧ Aside0 (chirographref07_value.j3 kq t1106 x7_1 x8_1 (bt t1106 x8_1) (strOfNums y1110) x59_19 = some r) ∧ Aside0 (kq ≤ kj9) ∧ Aside0 (wc.heap[gb1105]? = some (.cells #[.string a0_0, .int .i64 a0_1, (.slice A0_2 l0_2.length c0_2)] 64 (0, 0))) ∧ Aside0 (Below w.heap.size w wc))
        case first =>
          have H := HC20.out
          clear HC20
          by_cases c21 : (bt t1106 x8_1) = 34
          · rw [if_pos c21] at H
            have c21b0 : ((bt t1106 x8_1) == 34) = true := beq_iff_eq.mpr c21
            have c21b1 : ((bt t1106 x8_1) != 34) = false := bne_eq_false_iff_eq.mpr c21
            clear c21
            (first | rw [c21b0] | (simp only [i64_w, i32_w]; rw [c21b0]) | skip)
            have H' := Aside0.mk H
            clear H
            go_wp2
            go_meet
            case rel => exact ⟨_, (true), (by first | rfl | (simp; done) | (simp [*]; done)), H', ⟨by have := HK1.out; have := HJ9.out; first | omega | exact Nat.le_refl _⟩, ⟨by (with_reducible repeat (first | refine blk_drewN ?_ _ | refine blk_drew ?_ | refine blk_alloc ?_ _)); exact BK1105.out⟩, ⟨by repeat (first | (with_reducible first | exact HB.out | apply below_alloc | apply pw_below_drewN | apply below_drew1 | refine below_set ?_ GE1105.out) | exact HB.out)⟩⟩
          rw [if_neg c21] at H
          have c21b0 : ((bt t1106 x8_1) == 34) = false := beq_eq_false_iff_ne.mpr c21
          have c21b1 : ((bt t1106 x8_1) != 34) = true := bne_iff_ne.mpr c21
          (first | rw [c21b0] | (simp only [i64_w, i32_w]; rw [c21b0]) | skip)
          by_cases c22 : (bt t1106 x8_1) = 43
          · rw [if_pos c22] at H
            have c22b0 : ((bt t1106 x8_1) == 43) = true := beq_iff_eq.mpr c22
            have c22b1 : ((bt t1106 x8_1) != 43) = false := bne_eq_false_iff_eq.mpr c22
            clear c22
            have H' := Aside0.mk H
            clear H
            go_wp2
            go_meet
            case rel => exact ⟨_, (true), (by first | rfl | (simp; done) | (simp [*]; done)), H', ⟨by have := HK1.out; have := HJ9.out; first | omega | exact Nat.le_refl _⟩, ⟨by (with_reducible repeat (first | refine blk_drewN ?_ _ | refine blk_drew ?_ | refine blk_alloc ?_ _)); exact BK1105.out⟩, ⟨by repeat (first | (with_reducible first | exact HB.out | apply below_alloc | apply pw_below_drewN | apply below_drew1 | refine below_set ?_ GE1105.out) | exact HB.out)⟩⟩
          rw [if_neg c22] at H
          have c22b0 : ((bt t1106 x8_1) == 43) = false := beq_eq_false_iff_ne.mpr c22
          have c22b1 : ((bt t1106 x8_1) != 43) = true := bne_iff_ne.mpr c22
          by_cases c23 : (bt t1106 x8_1) = 44
          · rw [if_pos c23] at H
            have c23b0 : ((bt t1106 x8_1) == 44) = true := beq_iff_eq.mpr c23
            have c23b1 : ((bt t1106 x8_1) != 44) = false := bne_eq_false_iff_eq.mpr c23
            clear c23
            have H' := Aside0.mk H
            clear H
            go_wp2
            go_meet
            case rel => exact ⟨_, (true), (by first | rfl | (simp; done) | (simp [*]; done)), H', ⟨by have := HK1.out; have := HJ9.out; first | omega | exact Nat.le_refl _⟩, ⟨by (with_reducible repeat (first | refine blk_drewN ?_ _ | refine blk_drew ?_ | refine blk_alloc ?_ _)); exact BK1105.out⟩, ⟨by repeat (first | (with_reducible first | exact HB.out | apply below_alloc | apply pw_below_drewN | apply below_drew1 | refine below_set ?_ GE1105.out) | exact HB.out)⟩⟩
          rw [if_neg c23] at H
          have c23b0 : ((bt t1106 x8_1) == 44) = false := beq_eq_false_iff_ne.mpr c23
          have c23b1 : ((bt t1106 x8_1) != 44) = true := bne_iff_ne.mpr c23
          by_cases c24 : (bt t1106 x8_1) = 59
          · rw [if_pos c24] at H
            have c24b0 : ((bt t1106 x8_1) == 59) = true := beq_iff_eq.mpr c24
            have c24b1 : ((bt t1106 x8_1) != 59) = false := bne_eq_false_iff_eq.mpr c24
            clear c24
            have H' := Aside0.mk H
            clear H
            go_wp2
            go_meet
            case rel => exact ⟨_, (true), (by first | rfl | (simp; done) | (simp [*]; done)), H', ⟨by have := HK1.out; have := HJ9.out; first | omega | exact Nat.le_refl _⟩, ⟨by (with_reducible repeat (first | refine blk_drewN ?_ _ | refine blk_drew ?_ | refine blk_alloc ?_ _)); exact BK1105.out⟩, ⟨by repeat (first | (with_reducible first | exact HB.out | apply below_alloc | apply pw_below_drewN | apply below_drew1 | refine below_set ?_ GE1105.out) | exact HB.out)⟩⟩
          rw [if_neg c24] at H
          have c24b0 : ((bt t1106 x8_1) == 59) = false := beq_eq_false_iff_ne.mpr c24
          have c24b1 : ((bt t1106 x8_1) != 59) = true := bne_iff_ne.mpr c24
          by_cases c25 : (bt t1106 x8_1) = 60
          · rw [if_pos c25] at H
            have c25b0 : ((bt t1106 x8_1) == 60) = true := beq_iff_eq.mpr c25
            have c25b1 : ((bt t1106 x8_1) != 60) = false := bne_eq_false_iff_eq.mpr c25
            clear c25
            have H' := Aside0.mk H
            clear H
            go_wp2
            go_meet
            case rel => exact ⟨_, (true), (by first | rfl | (simp; done) | (simp [*]; done)), H', ⟨by have := HK1.out; have := HJ9.out; first | omega | exact Nat.le_refl _⟩, ⟨by (with_reducible repeat (first | refine blk_drewN ?_ _ | refine blk_drew ?_ | refine blk_alloc ?_ _)); exact BK1105.out⟩, ⟨by repeat (first | (with_reducible first | exact HB.out | apply below_alloc | apply pw_below_drewN | apply below_drew1 | refine below_set ?_ GE1105.out) | exact HB.out)⟩⟩
          rw [if_neg c25] at H
          have c25b0 : ((bt t1106 x8_1) == 60) = false := beq_eq_false_iff_ne.mpr c25
          have c25b1 : ((bt t1106 x8_1) != 60) = true := bne_iff_ne.mpr c25
          by_cases c26 : (bt t1106 x8_1) = 62
          · rw [if_pos c26] at H
            have c26b0 : ((bt t1106 x8_1) == 62) = true := beq_iff_eq.mpr c26
            have c26b1 : ((bt t1106 x8_1) != 62) = false := bne_eq_false_iff_eq.mpr c26
            clear c26
            have H' := Aside0.mk H
            clear H
            go_wp2
            go_meet
            case rel => exact ⟨_, (true), (by first | rfl | (simp; done) | (simp [*]; done)), H', ⟨by have := HK1.out; have := HJ9.out; first | omega | exact Nat.le_refl _⟩, ⟨by (with_reducible repeat (first | refine blk_drewN ?_ _ | refine blk_drew ?_ | refine blk_alloc ?_ _)); exact BK1105.out⟩, ⟨by repeat (first | (with_reducible first | exact HB.out | apply below_alloc | apply pw_below_drewN | apply below_drew1 | refine below_set ?_ GE1105.out) | exact HB.out)⟩⟩
          rw [if_neg c26] at H
          have c26b0 : ((bt t1106 x8_1) == 62) = false := beq_eq_false_iff_ne.mpr c26
          have c26b1 : ((bt t1106 x8_1) != 62) = true := bne_iff_ne.mpr c26
          by_cases c27 : (bt t1106 x8_1) = 61
          rotate_left
          · rw [if_neg c27] at H
            have c27b0 : ((bt t1106 x8_1) == 61) = false := beq_eq_false_iff_ne.mpr c27
            have c27b1 : ((bt t1106 x8_1) != 61) = true := bne_iff_ne.mpr c27
            have H' := Aside0.mk H
            clear H
            go_wp2
            go_meet
            case rel => exact ⟨_, (((bt t1106 x8_1) == 92)), (by first | rfl | (simp; done) | (simp [*]; done)), H', ⟨by have := HK1.out; have := HJ9.out; first | omega | exact Nat.le_refl _⟩, ⟨by (with_reducible repeat (first | refine blk_drewN ?_ _ | refine blk_drew ?_ | refine blk_alloc ?_ _)); exact BK1105.out⟩, ⟨by repeat (first | (with_reducible first | exact HB.out | apply below_alloc | apply pw_below_drewN | apply below_drew1 | refine below_set ?_ GE1105.out) | exact HB.out)⟩⟩
          rw [if_pos c27] at H
          have c27b0 : ((bt t1106 x8_1) == 61) = true := beq_iff_eq.mpr c27
          have c27b1 : ((bt t1106 x8_1) != 61) = false := bne_eq_false_iff_eq.mpr c27
          clear c27
          have H' := Aside0.mk H
          clear H
          go_wp2
          go_meet
          case rel => exact ⟨_, (true), (by first | rfl | (simp; done) | (simp [*]; done)), H', ⟨by have := HK1.out; have := HJ9.out; first | omega | exact Nat.le_refl _⟩, ⟨by (with_reducible repeat (first | refine blk_drewN ?_ _ | refine blk_drew ?_ | refine blk_alloc ?_ _)); exact BK1105.out⟩, ⟨by repeat (first | (with_reducible first | exact HB.out | apply below_alloc | apply pw_below_drewN | apply below_drew1 | refine below_set ?_ GE1105.out) | exact HB.out)⟩⟩
        clear HC20
        obtain ⟨kq, x59_19, rfl, HA, HJ19, BK1105, HB⟩ := hcut
        cases kq with
        | zero => exact absurd HA.out (by simp [chirographref07_value.j3])
        | succ kj19 =>
          have H := HA.out
          clear HA
          simp only [chirographref07_value.j3] at H
          by_cases c28 : x59_19 = true
          · subst c28
            have H1 : (if 1 + (strOfNums y1110).size ≤ 9223372036854775807 then (if x7_1.size + ((⟨#[92]⟩ : ByteArray) ++ (strOfNums y1110)).size ≤ 9223372036854775807 then (chirographref07_value.l1 kj19 t1106 (x7_1 ++ ((⟨#[92]⟩ : ByteArray) ++ (strOfNums y1110))) (wrap64 (x8_1 + 1))) else (none)) else (none)) = some r := by rw [if_pos rfl] at H; exact H
            clear H
            have H := H1
            clear H1
            by_cases c29 : 1 + (strOfNums y1110).size ≤ 9223372036854775807
            rotate_left
            · rw [if_neg c29] at H
              exact absurd H (by simp)
            rw [if_pos c29] at H
            have c29b0 := eq_true c29
            have c29b1 : decide (1 + (strOfNums y1110).size ≤ 9223372036854775807) = true := decide_eq_true c29
            try have c29b2 : (9223372036854775807 < 1 + (strOfNums y1110).size) = False := eq_false (Nat.not_lt.2 c29)
            by_cases c30 : x7_1.size + ((⟨#[92]⟩ : ByteArray) ++ (strOfNums y1110)).size ≤ 9223372036854775807
            rotate_left
            · rw [if_neg c30] at H
              exact absurd H (by simp)
            rw [if_pos c30] at H
            have c30b0 := eq_true c30
            have c30b1 : decide (x7_1.size + ((⟨#[92]⟩ : ByteArray) ++ (strOfNums y1110)).size ≤ 9223372036854775807) = true := decide_eq_true c30
            try have c30b2 : (9223372036854775807 < x7_1.size + ((⟨#[92]⟩ : ByteArray) ++ (strOfNums y1110)).size) = False := eq_false (Nat.not_lt.2 c30)
            have H' := Aside0.mk H
            clear H
            go_wp2
            go_roundg kj19
            case measure => have := HK1.out; have := HJ9.out; have := HJ19.out; omega
            case rel => exact ⟨(x7_1 ++ ((⟨#[92]⟩ : ByteArray) ++ (strOfNums y1110))), (wrap64 (x8_1 + 1)), (by first | rfl | (simp; done) | (simp [*]; done)), (by first | rfl | (simp; done) | (simp [*]; done)), H', ⟨by have := HK1.out; have := HJ9.out; have := HJ19.out; omega⟩, ⟨by (with_reducible repeat (first | refine blk_drewN ?_ _ | refine blk_drew ?_ | refine blk_alloc ?_ _)); exact BK1105.out⟩, ⟨by repeat (first | (with_reducible first | exact HB.out | apply below_alloc | apply pw_below_drewN | apply below_drew1 | refine below_set ?_ GE1105.out) | exact HB.out)⟩⟩
          replace c28 := Bool.eq_false_iff.mpr c28
          subst c28
          have H1 : (if x8_1 = 0 then (if (bt t1106 x8_1) = 35 then (if 1 + (strOfNums y1110).size ≤ 9223372036854775807 then (if x7_1.size + ((⟨#[92]⟩ : ByteArray) ++ (strOfNums y1110)).size ≤ 9223372036854775807 then (chirographref07_value.l1 kj19 t1106 (x7_1 ++ ((⟨#[92]⟩ : ByteArray) ++ (strOfNums y1110))) (wrap64 (x8_1 + 1))) else (none)) else (none)) else (if (bt t1106 x8_1) = 32 then (if 1 + (strOfNums y1110).size ≤ 9223372036854775807 then (if x7_1.size + ((⟨#[92]⟩ : ByteArray) ++ (strOfNums y1110)).size ≤ 9223372036854775807 then (chirographref07_value.l1 kj19 t1106 (x7_1 ++ ((⟨#[92]⟩ : ByteArray) ++ (strOfNums y1110))) (wrap64 (x8_1 + 1))) else (none)) else (none)) else (if x7_1.size + (strOfNums y1110).size ≤ 9223372036854775807 then (chirographref07_value.l1 kj19 t1106 (x7_1 ++ (strOfNums y1110)) (wrap64 (x8_1 + 1))) else (none)))) else (if (bt t1106 x8_1) = 32 then (if x8_1 = (wrap64 ((t1106.size : Int) - 1)) then (if 1 + (strOfNums y1110).size ≤ 9223372036854775807 then (if x7_1.size + ((⟨#[92]⟩ : ByteArray) ++ (strOfNums y1110)).size ≤ 9223372036854775807 then (chirographref07_value.l1 kj19 t1106 (x7_1 ++ ((⟨#[92]⟩ : ByteArray) ++ (strOfNums y1110))) (wrap64 (x8_1 + 1))) else (none)) else (none)) else (if x7_1.size + (strOfNums y1110).size ≤ 9223372036854775807 then (chirographref07_value.l1 kj19 t1106 (x7_1 ++ (strOfNums y1110)) (wrap64 (x8_1 + 1))) else (none))) else (if x7_1.size + (strOfNums y1110).size ≤ 9223372036854775807 then (chirographref07_value.l1 kj19 t1106 (x7_1 ++ (strOfNums y1110)) (wrap64 (x8_1 + 1))) else (none)))) = some r := by rw [if_neg (show ¬ (false = true) by decide)] at H; exact H
          clear H
          have H := H1
          clear H1
          by_cases c31 : x8_1 = 0
          rotate_left
          · rw [if_neg c31] at H
            have c31b0 : (x8_1 == 0) = false := beq_eq_false_iff_ne.mpr c31
            have c31b1 : (x8_1 != 0) = true := bne_iff_ne.mpr c31
            by_cases c39 : (bt t1106 x8_1) = 32
            rotate_left
            · rw [if_neg c39] at H
              have c39b0 : ((bt t1106 x8_1) == 32) = false := beq_eq_false_iff_ne.mpr c39
              have c39b1 : ((bt t1106 x8_1) != 32) = true := bne_iff_ne.mpr c39
              by_cases c44 : x7_1.size + (strOfNums y1110).size ≤ 9223372036854775807
              rotate_left
              · rw [if_neg c44] at H
                exact absurd H (by simp)
              rw [if_pos c44] at H
              have c44b0 := eq_true c44
              have c44b1 : decide (x7_1.size + (strOfNums y1110).size ≤ 9223372036854775807) = true := decide_eq_true c44
              try have c44b2 : (9223372036854775807 < x7_1.size + (strOfNums y1110).size) = False := eq_false (Nat.not_lt.2 c44)
              have H' := Aside0.mk H
              clear H
              go_wp2
              go_roundg kj19
              case measure => have := HK1.out; have := HJ9.out; have := HJ19.out; omega
              case rel => exact ⟨(x7_1 ++ (strOfNums y1110)), (wrap64 (x8_1 + 1)), (by first | rfl | (simp; done) | (simp [*]; done)), (by first | rfl | (simp; done) | (simp [*]; done)), H', ⟨by have := HK1.out; have := HJ9.out; have := HJ19.out; omega⟩, ⟨by (with_reducible repeat (first | refine blk_drewN ?_ _ | refine blk_drew ?_ | refine blk_alloc ?_ _)); exact BK1105.out⟩, ⟨by repeat (first | (with_reducible first | exact HB.out | apply below_alloc | apply pw_below_drewN | apply below_drew1 | refine below_set ?_ GE1105.out) | exact HB.out)⟩⟩
            rw [if_pos c39] at H
            have c39b0 : ((bt t1106 x8_1) == 32) = true := beq_iff_eq.mpr c39
            have c39b1 : ((bt t1106 x8_1) != 32) = false := bne_eq_false_iff_eq.mpr c39
            clear c39
            by_cases c40 : x8_1 = (wrap64 ((t1106.size : Int) - 1))
            rotate_left
            · rw [if_neg c40] at H
              have c40b0 : (x8_1 == (wrap64 ((t1106.size : Int) - 1))) = false := beq_eq_false_iff_ne.mpr c40
              have c40b1 : (x8_1 != (wrap64 ((t1106.size : Int) - 1))) = true := bne_iff_ne.mpr c40
              by_cases c43 : x7_1.size + (strOfNums y1110).size ≤ 9223372036854775807
              rotate_left
              · rw [if_neg c43] at H
                exact absurd H (by simp)
              rw [if_pos c43] at H
              have c43b0 := eq_true c43
              have c43b1 : decide (x7_1.size + (strOfNums y1110).size ≤ 9223372036854775807) = true := decide_eq_true c43
              try have c43b2 : (9223372036854775807 < x7_1.size + (strOfNums y1110).size) = False := eq_false (Nat.not_lt.2 c43)
              have H' := Aside0.mk H
              clear H
              go_wp2
              go_roundg kj19
              case measure => have := HK1.out; have := HJ9.out; have := HJ19.out; omega
              case rel => exact ⟨(x7_1 ++ (strOfNums y1110)), (wrap64 (x8_1 + 1)), (by first | rfl | (simp; done) | (simp [*]; done)), (by first | rfl | (simp; done) | (simp [*]; done)), H', ⟨by have := HK1.out; have := HJ9.out; have := HJ19.out; omega⟩, ⟨by (with_reducible repeat (first | refine blk_drewN ?_ _ | refine blk_drew ?_ | refine blk_alloc ?_ _)); exact BK1105.out⟩, ⟨by repeat (first | (with_reducible first | exact HB.out | apply below_alloc | apply pw_below_drewN | apply below_drew1 | refine below_set ?_ GE1105.out) | exact HB.out)⟩⟩
            rw [if_pos c40] at H
            have c40b0 : (x8_1 == (wrap64 ((t1106.size : Int) - 1))) = true := beq_iff_eq.mpr c40
            have c40b1 : (x8_1 != (wrap64 ((t1106.size : Int) - 1))) = false := bne_eq_false_iff_eq.mpr c40
            clear c40
            by_cases c41 : 1 + (strOfNums y1110).size ≤ 9223372036854775807
            rotate_left
            · rw [if_neg c41] at H
              exact absurd H (by simp)
            rw [if_pos c41] at H
            have c41b0 := eq_true c41
            have c41b1 : decide (1 + (strOfNums y1110).size ≤ 9223372036854775807) = true := decide_eq_true c41
            try have c41b2 : (9223372036854775807 < 1 + (strOfNums y1110).size) = False := eq_false (Nat.not_lt.2 c41)
            by_cases c42 : x7_1.size + ((⟨#[92]⟩ : ByteArray) ++ (strOfNums y1110)).size ≤ 9223372036854775807
            rotate_left
            · rw [if_neg c42] at H
              exact absurd H (by simp)
            rw [if_pos c42] at H
            have c42b0 := eq_true c42
            have c42b1 : decide (x7_1.size + ((⟨#[92]⟩ : ByteArray) ++ (strOfNums y1110)).size ≤ 9223372036854775807) = true := decide_eq_true c42
            try have c42b2 : (9223372036854775807 < x7_1.size + ((⟨#[92]⟩ : ByteArray) ++ (strOfNums y1110)).size) = False := eq_false (Nat.not_lt.2 c42)
            have H' := Aside0.mk H
            clear H
            go_wp2
            go_roundg kj19
            case measure => have := HK1.out; have := HJ9.out; have := HJ19.out; omega
            case rel => exact ⟨(x7_1 ++ ((⟨#[92]⟩ : ByteArray) ++ (strOfNums y1110))), (wrap64 (x8_1 + 1)), (by first | rfl | (simp; done) | (simp [*]; done)), (by first | rfl | (simp; done) | (simp [*]; done)), H', ⟨by have := HK1.out; have := HJ9.out; have := HJ19.out; omega⟩, ⟨by (with_reducible repeat (first | refine blk_drewN ?_ _ | refine blk_drew ?_ | refine blk_alloc ?_ _)); exact BK1105.out⟩, ⟨by repeat (first | (with_reducible first | exact HB.out | apply below_alloc | apply pw_below_drewN | apply below_drew1 | refine below_set ?_ GE1105.out) | exact HB.out)⟩⟩
          rw [if_pos c31] at H
          have c31b0 : (x8_1 == 0) = true := beq_iff_eq.mpr c31
          have c31b1 : (x8_1 != 0) = false := bne_eq_false_iff_eq.mpr c31
          clear c31
          by_cases c32 : (bt t1106 x8_1) = 35
          · rw [if_pos c32] at H
            have c32b0 : ((bt t1106 x8_1) == 35) = true := beq_iff_eq.mpr c32
            have c32b1 : ((bt t1106 x8_1) != 35) = false := bne_eq_false_iff_eq.mpr c32
            clear c32
            by_cases c33 : 1 + (strOfNums y1110).size ≤ 9223372036854775807
            rotate_left
            · rw [if_neg c33] at H
              exact absurd H (by simp)
            rw [if_pos c33] at H
            have c33b0 := eq_true c33
            have c33b1 : decide (1 + (strOfNums y1110).size ≤ 9223372036854775807) = true := decide_eq_true c33
            try have c33b2 : (9223372036854775807 < 1 + (strOfNums y1110).size) = False := eq_false (Nat.not_lt.2 c33)
            by_cases c34 : x7_1.size + ((⟨#[92]⟩ : ByteArray) ++ (strOfNums y1110)).size ≤ 9223372036854775807
            rotate_left
            · rw [if_neg c34] at H
              exact absurd H (by simp)
            rw [if_pos c34] at H
            have c34b0 := eq_true c34
            have c34b1 : decide (x7_1.size + ((⟨#[92]⟩ : ByteArray) ++ (strOfNums y1110)).size ≤ 9223372036854775807) = true := decide_eq_true c34
            try have c34b2 : (9223372036854775807 < x7_1.size + ((⟨#[92]⟩ : ByteArray) ++ (strOfNums y1110)).size) = False := eq_false (Nat.not_lt.2 c34)
            have H' := Aside0.mk H
            clear H
            go_wp2
            go_roundg kj19
            case measure => have := HK1.out; have := HJ9.out; have := HJ19.out; omega
            case rel => exact ⟨(x7_1 ++ ((⟨#[92]⟩ : ByteArray) ++ (strOfNums y1110))), (wrap64 (x8_1 + 1)), (by first | rfl | (simp; done) | (simp [*]; done)), (by first | rfl | (simp; done) | (simp [*]; done)), H', ⟨by have := HK1.out; have := HJ9.out; have := HJ19.out; omega⟩, ⟨by (with_reducible repeat (first | refine blk_drewN ?_ _ | refine blk_drew ?_ | refine blk_alloc ?_ _)); exact BK1105.out⟩, ⟨by repeat (first | (with_reducible first | exact HB.out | apply below_alloc | apply pw_below_drewN | apply below_drew1 | refine below_set ?_ GE1105.out) | exact HB.out)⟩⟩
          rw [if_neg c32] at H
          have c32b0 : ((bt t1106 x8_1) == 35) = false := beq_eq_false_iff_ne.mpr c32
          have c32b1 : ((bt t1106 x8_1) != 35) = true := bne_iff_ne.mpr c32
          by_cases c35 : (bt t1106 x8_1) = 32
          rotate_left
          · rw [if_neg c35] at H
            have c35b0 : ((bt t1106 x8_1) == 32) = false := beq_eq_false_iff_ne.mpr c35
            have c35b1 : ((bt t1106 x8_1) != 32) = true := bne_iff_ne.mpr c35
            by_cases c38 : x7_1.size + (strOfNums y1110).size ≤ 9223372036854775807
            rotate_left
            · rw [if_neg c38] at H
              exact absurd H (by simp)
            rw [if_pos c38] at H
            have c38b0 := eq_true c38
            have c38b1 : decide (x7_1.size + (strOfNums y1110).size ≤ 9223372036854775807) = true := decide_eq_true c38
            try have c38b2 : (9223372036854775807 < x7_1.size + (strOfNums y1110).size) = False := eq_false (Nat.not_lt.2 c38)
            have H' := Aside0.mk H
            clear H
            go_wp2
            go_roundg kj19
            case measure => have := HK1.out; have := HJ9.out; have := HJ19.out; omega
            case rel => exact ⟨(x7_1 ++ (strOfNums y1110)), (wrap64 (x8_1 + 1)), (by first | rfl | (simp; done) | (simp [*]; done)), (by first | rfl | (simp; done) | (simp [*]; done)), H', ⟨by have := HK1.out; have := HJ9.out; have := HJ19.out; omega⟩, ⟨by (with_reducible repeat (first | refine blk_drewN ?_ _ | refine blk_drew ?_ | refine blk_alloc ?_ _)); exact BK1105.out⟩, ⟨by repeat (first | (with_reducible first | exact HB.out | apply below_alloc | apply pw_below_drewN | apply below_drew1 | refine below_set ?_ GE1105.out) | exact HB.out)⟩⟩
          rw [if_pos c35] at H
          have c35b0 : ((bt t1106 x8_1) == 32) = true := beq_iff_eq.mpr c35
          have c35b1 : ((bt t1106 x8_1) != 32) = false := bne_eq_false_iff_eq.mpr c35
          clear c35
          by_cases c36 : 1 + (strOfNums y1110).size ≤ 9223372036854775807
          rotate_left
          · rw [if_neg c36] at H
            exact absurd H (by simp)
          rw [if_pos c36] at H
          have c36b0 := eq_true c36
          have c36b1 : decide (1 + (strOfNums y1110).size ≤ 9223372036854775807) = true := decide_eq_true c36
          try have c36b2 : (9223372036854775807 < 1 + (strOfNums y1110).size) = False := eq_false (Nat.not_lt.2 c36)
          by_cases c37 : x7_1.size + ((⟨#[92]⟩ : ByteArray) ++ (strOfNums y1110)).size ≤ 9223372036854775807
          rotate_left
          · rw [if_neg c37] at H
            exact absurd H (by simp)
          rw [if_pos c37] at H
          have c37b0 := eq_true c37
          have c37b1 : decide (x7_1.size + ((⟨#[92]⟩ : ByteArray) ++ (strOfNums y1110)).size ≤ 9223372036854775807) = true := decide_eq_true c37
          try have c37b2 : (9223372036854775807 < x7_1.size + ((⟨#[92]⟩ : ByteArray) ++ (strOfNums y1110)).size) = False := eq_false (Nat.not_lt.2 c37)
          have H' := Aside0.mk H
          clear H
          go_wp2
          go_roundg kj19
          case measure => have := HK1.out; have := HJ9.out; have := HJ19.out; omega
          case rel => exact ⟨(x7_1 ++ ((⟨#[92]⟩ : ByteArray) ++ (strOfNums y1110))), (wrap64 (x8_1 + 1)), (by first | rfl | (simp; done) | (simp [*]; done)), (by first | rfl | (simp; done) | (simp [*]; done)), H', ⟨by have := HK1.out; have := HJ9.out; have := HJ19.out; omega⟩, ⟨by (with_reducible repeat (first | refine blk_drewN ?_ _ | refine blk_drew ?_ | refine blk_alloc ?_ _)); exact BK1105.out⟩, ⟨by repeat (first | (with_reducible first | exact HB.out | apply below_alloc | apply pw_below_drewN | apply below_drew1 | refine below_set ?_ GE1105.out) | exact HB.out)⟩⟩
def chirographref06_digits.f : Nat → Int → Option (ByteArray)
  | 0, _ => none
  | k + 1, a0 => if a0 < 0 then (if a0 ≤ (-10) then ((chirographref06_digits.f k (wrap64 (Int.tdiv a0 10))).bind fun t1550 => ((chirographref06_digits.f k (wrap64 (-(Int.tmod a0 10)))).bind fun t1551 => (if t1550.size + t1551.size ≤ 9223372036854775807 then (some (t1550 ++ t1551)) else (none)))) else ((chirographref06_digits.f k (wrap64 (-a0))).bind fun t1552 => (if 1 + t1552.size ≤ 9223372036854775807 then (some ((⟨#[45]⟩ : ByteArray) ++ t1552)) else (none)))) else (if a0 ≥ 10 then ((chirographref06_digits.f k (wrap64 (Int.tdiv a0 10))).bind fun t1553 => ((chirographref06_digits.f k (Int.tmod a0 10)).bind fun t1554 => (if t1553.size + t1554.size ≤ 9223372036854775807 then (some (t1553 ++ t1554)) else (none)))) else (some (strOfNums (([(wrap64 (48 + a0)) % 256] : List Int)))))
def chirographref04_Decimal.l0 : Nat → Int → ByteArray → Option (ByteArray)
  | 0, _, _ => none
  | k + 1, x0, x3 => if x0 > 9 then ((some (([(wrap64 (48 + (Int.tmod x0 10))) % 256] : List Int) : List Int)).bind fun y889 => (if (strOfNums y889).size + x3.size ≤ 9223372036854775807 then (chirographref04_Decimal.l0 k (wrap64 (Int.tdiv x0 10)) ((strOfNums y889) ++ x3)) else (none))) else ((some (([(wrap64 (48 + x0)) % 256] : List Int) : List Int)).bind fun y892 => (if (strOfNums y892).size + x3.size ≤ 9223372036854775807 then (some ((strOfNums y892) ++ x3)) else (none)))
def chirographref04_Decimal.f (k : Nat) (a0 : Int) : Option (ByteArray) := chirographref04_Decimal.l0 k a0 (⟨#[]⟩ : ByteArray)
end Go.Proofs.YtkioddjjfifadaaGreatDoor.P
namespace Go.Proofs.YtkioddjjfifadaaGreatDoor.P
open Go.RowKit Go.Proofs.YtkioddjjfifadaaGreatDoorW.PrintWords
theorem ba_mk_append (a b : List UInt8) : (⟨a.toArray⟩ : ByteArray) ++ (⟨b.toArray⟩ : ByteArray) = ⟨(a ++ b).toArray⟩ := by
  apply ByteArray.ext
  simp [ByteArray.data_append]
end Go.Proofs.YtkioddjjfifadaaGreatDoor.P
namespace Go.Proofs.YtkioddjjfifadaaGreatDoor.P
open Go.RowKit Go.Proofs.YtkioddjjfifadaaGreatDoorW.PrintWords Go.Proofs.YtkioddjjfifadaaGreatDoorW.PrintLast Go.Proofs.YtkioddjjfifadaaGreatDoorW.PrintMore
attribute [local go_sem] max2_int min2_int max_two min_two max_three min_three max_four min_four   -- for this text's walks alone
set_option linter.unusedVariables false
set_option linter.unusedSimpArgs false
mutual
def chirographref06_Fold.l0 : Nat → ByteArray → List Int → Int → Option (ByteArray)
  | 0, _, _, _ => none
  | k + 1, x0, x3, x4 => if x4 < (x0.size : Int) then (if 0 ≤ x4 then (if (bt x0 x4) ≥ 65 then (chirographref06_Fold.j1 k x0 x3 x4 (bt x0 x4) (decide ((bt x0 x4) ≤ 90))) else (chirographref06_Fold.j1 k x0 x3 x4 (bt x0 x4) false)) else (none)) else (if (x3.length : Int) > 0 then (if 0 ≤ (wrap64 ((x3.length : Int) - 1)) then (if (wrap64 ((x3.length : Int) - 1)) < (x3.length : Int) then (if (rd x3 (wrap64 ((x3.length : Int) - 1))) = 32 then (if (wrap64 ((x3.length : Int) - 1)) ≤ (x3.length : Int) then (some (strOfNums (x3.take ((wrap64 ((x3.length : Int) - 1)) : Int).toNat))) else (none)) else (some (strOfNums x3))) else (none)) else (none)) else (some (strOfNums x3)))
def chirographref06_Fold.j1 : Nat → ByteArray → List Int → Int → Int → Bool → Option (ByteArray)
  | 0, _, _, _, _, _ => none
  | k + 1, x0, x3, x4, x5, x20 => if x20 = true then (if ((x5 + 32) % 256) = 32 then (if (x3.length : Int) = 0 then (chirographref06_Fold.l0 k x0 x3 (wrap64 (x4 + 1))) else (if 0 ≤ (wrap64 ((x3.length : Int) - 1)) then (if (wrap64 ((x3.length : Int) - 1)) < (x3.length : Int) then (if (rd x3 (wrap64 ((x3.length : Int) - 1))) = 32 then (chirographref06_Fold.l0 k x0 x3 (wrap64 (x4 + 1))) else (if x3.length < 140737488355328 then (chirographref06_Fold.l0 k x0 (x3 ++ [(x5 + 32) % 256]) (wrap64 (x4 + 1))) else (none))) else (none)) else (none))) else (if x3.length < 140737488355328 then (chirographref06_Fold.l0 k x0 (x3 ++ [(x5 + 32) % 256]) (wrap64 (x4 + 1))) else (none))) else (if x5 = 32 then (if (x3.length : Int) = 0 then (chirographref06_Fold.l0 k x0 x3 (wrap64 (x4 + 1))) else (if 0 ≤ (wrap64 ((x3.length : Int) - 1)) then (if (wrap64 ((x3.length : Int) - 1)) < (x3.length : Int) then (if (rd x3 (wrap64 ((x3.length : Int) - 1))) = 32 then (chirographref06_Fold.l0 k x0 x3 (wrap64 (x4 + 1))) else (if x3.length < 140737488355328 then (chirographref06_Fold.l0 k x0 (x3 ++ [x5]) (wrap64 (x4 + 1))) else (none))) else (none)) else (none))) else (if x3.length < 140737488355328 then (chirographref06_Fold.l0 k x0 (x3 ++ [x5]) (wrap64 (x4 + 1))) else (none)))
end
def chirographref06_Fold.f (k : Nat) (a0 : ByteArray) : Option (ByteArray) := chirographref06_Fold.l0 k a0 ([] : List Int) 0
end Go.Proofs.YtkioddjjfifadaaGreatDoor.P
namespace Go.Proofs.YtkioddjjfifadaaGreatDoor.P
open Go.RowKit Go.Proofs.YtkioddjjfifadaaGreatDoorW.PrintWords Go.Proofs.YtkioddjjfifadaaGreatDoorW.PrintLast Go.Proofs.YtkioddjjfifadaaGreatDoorW.PrintMore
theorem decode_width (s : ByteArray) (pos : Nat) (h : pos < s.size) : 1 ≤ (Utf8.decode s pos).2 ∧ pos + (Utf8.decode s pos).2 ≤ s.size ∧ (Utf8.decode s pos).2 ≤ 4 := by
  unfold Utf8.decode
  simp only []
  split
  · simp; omega
  split
  · rename_i h1
    simp only [Bool.and_eq_true, decide_eq_true_eq, beq_iff_eq] at h1
    split <;> simp <;> omega
  split
  · rename_i h1
    simp only [Bool.and_eq_true, decide_eq_true_eq, beq_iff_eq] at h1
    split <;> simp <;> omega
  split
  rotate_left
  · simp; omega
  rename_i h1
  simp only [Bool.and_eq_true, decide_eq_true_eq, beq_iff_eq] at h1
  split <;> simp <;> omega
/-- A letter made small. -/
def low (c : Int) : Int := if 65 ≤ c ∧ c ≤ 90 then c + 32 else c
def foldOut (bl : Bool) (out : List Int) : List Int := if bl = true ∧ 0 < out.length then out ++ [32] else out
def foldGo (s : ByteArray) : Nat → Nat → Bool → List Int → List Int
  | 0, _, _, out => out
  | f + 1, pos, bl, out =>
    if pos < s.size then
      (if ((Utf8.decode s pos).1 : Int) = 32 then foldGo s f (pos + (Utf8.decode s pos).2) true out
      else if low ((Utf8.decode s pos).1 : Int) = 65533 then foldGo s f (pos + (Utf8.decode s pos).2) false (foldOut bl out ++ bytesOf (s.extract pos (pos + (Utf8.decode s pos).2)))
      else foldGo s f (pos + (Utf8.decode s pos).2) false (foldOut bl out ++ Lib.encodeRuneZ (low ((Utf8.decode s pos).1 : Int))))
    else out
def text_Fold.f (s : ByteArray) : Option ByteArray := if s.size ≤ 1099511627776 then some (strOfNums (foldGo s s.size 0 false [])) else none
theorem R_iter {B kb p : Nat} {s : ByteArray} {w : World} {v : Value} {xs : List Int} (h : (Kd.int .u8).R 5 w B (fun _ => True) v xs) (hb : w.heap[kb]? = some (.stringIter s p)) (p' : Nat) : (Kd.int .u8).R 5 (w.iterAt kb s p') B (fun _ => True) v xs :=
  Kd.R_mono (Kd.R_move (Kd.R_bound h) (fun k hk => by
    refine Lib.iterAt_other w kb k s p' ?_
    rintro rfl
    obtain ⟨_, _, _, _, _, cells, hc⟩ := hk
    rw [hb] at hc
    cases hc)) (fun _ hk => hk.1)
theorem iter_ne {B kb p : Nat} {s : ByteArray} {w : World} {v : Value} {xs : List Int} (h : (Kd.int .u8).R 5 w B (fun _ => True) v xs) (hb : w.heap[kb]? = some (.stringIter s p)) : some kb ≠ v.ownBlock := fun e => by
  obtain ⟨inner, ho⟩ := Kd.R_own h
  obtain ⟨cells, hc⟩ := own_typed ho kb e.symm
  rw [hb] at hc
  cases hc
theorem keep_blk {w w1 : World} {g : Nat} {o : Obj} (hb : Below w.heap.size w w1) (h : w.heap[g]? = some o) : w1.heap[g]? = some o := (hb.block g (blk_lt h)).trans h
theorem ext_size (s : ByteArray) (a b : Nat) (h : b ≤ s.size) : (s.extract a b).size = b - a := by
  rw [ByteArray.size_extract]
  omega
set_option maxRecDepth 100000 in
set_option maxHeartbeats 8000000 in
theorem text_Fold.calls (a0 : ByteArray) (r : ByteArray) (w : World) (h : text_Fold.f a0 = some r) (hH : Tb w) :
    Calls Tryz.prog 211 #[.string a0] w fun e w' => e = .returned (.string r) ∧ Below w.heap.size w w' := by
  unfold text_Fold.f at h
  split at h
  case isFalse => cases h
  case isTrue hlen =>
  obtain rfl := Option.some.inj h
  have HT := Aside0.mk hH
  have HLEN := Aside0.mk hlen
  have HB := Aside0.mk (Below.refl w.heap.size w)
  clear h hH hlen
  go_enter Tryz.func211, Tryz.ntmps211
  go_wp2_with ((with_reducible refine gate_dst (N := 12) rfl ?_); refine make_bytes w rfl rfl rfl a0.size rfl Tryz.underlying22 info5 (by have := HLEN.out; omega) HB.out ?_; intro v w1 hv hb; have HO := Aside0.mk hv; have HB1 := Aside0.mk hb; clear hv hb HB)
  generalize hkb : w1.heap.size = kb
  have HKB : Aside0 (w.heap.size ≤ kb) := ⟨by rw [← hkb]; exact HB1.out.size⟩
  have HIT : Aside0 ((w1.alloc (.stringIter a0 0)).heap[kb]? = some (.stringIter a0 0)) := ⟨by rw [← hkb]; exact heap_alloc_new w1 _⟩
  have HO0 := Aside0.mk (Kd.R_alloc HO.out (.stringIter a0 0))
  have HB0 := Aside0.mk (below_alloc HB1.out (.stringIter a0 0))
  clear HO HB1 hkb
  go_loopg [3, 4] (a0.size + 1) (fun kq v3 v4 w' => ∃ (pos : Nat) (bl : Bool) (acc : List Int) (f : Nat), v4 = .bool bl ∧ Aside0 (foldGo a0 f pos bl acc = foldGo a0 a0.size 0 false []) ∧ Aside0 (pos ≤ a0.size ∧ a0.size ≤ f + pos ∧ a0.size < kq + pos) ∧ Aside0 (acc.length ≤ 5 * pos) ∧
    Aside0 ((Kd.int .u8).R 5 w' w.heap.size (fun _ => True) v3 acc) ∧ Aside0 (w'.heap[kb]? = some (.stringIter a0 pos)) ∧ Aside0 (Below w.heap.size w w'))
  case atStart => exact ⟨0, false, [], a0.size, rfl, ⟨rfl⟩, ⟨⟨Nat.zero_le _, by omega, by omega⟩⟩, ⟨Nat.zero_le _⟩, HO0, HIT, HB0⟩
  case round =>
    clear HO0 HB0 HIT
    obtain ⟨pos, bl, acc, f, rfl, HF, HI, HA, HO, HIT, HB⟩ := hrel
    cases gk with
    | zero => exact absurd HI.out (by omega)
    | succ g1 =>
      by_cases hp : pos < a0.size
      rotate_left
      · have hnx : ∀ ty, (Instr.next (.pointer (some ⟨kb, 0, none⟩)) true ty).run Tryz.prog wr = _ := fun ty => Lib.run_next_end_at wr kb a0 pos ty HIT.out hp
        have hcv := own_string (P := Tryz.prog) Tryz.underlying22 Tryz.underlying5 Tryz.underlying9 (Kd.own_of_R HO.out)
        have hfe : foldGo a0 a0.size 0 false [] = acc := by
          rw [← HF.out]
          cases f with
          | zero => rfl
          | succ f => rw [foldGo, if_neg hp]
        go_wp2_with fail
        go_ret
        exact ⟨by rw [hfe]; rfl, HB.out⟩
      have hnx0 : ∀ ty, (Instr.next (.pointer (some ⟨kb, 0, none⟩)) true ty).run Tryz.prog wr = _ := fun ty => Lib.run_next_any_at wr kb a0 pos ty HIT.out hp
      obtain ⟨n1, n2, n4⟩ := decode_width a0 pos hp
      have hle := decode_le a0 pos
      obtain ⟨f1, rfl⟩ : ∃ f1, f = f1 + 1 := ⟨f - 1, by have := HI.out; omega⟩
      have hf := HF.out
      rw [foldGo, if_pos hp] at hf
      have hdg : Lib.decodeGo (a0.extract pos a0.size) = Utf8.decode a0 pos := by
        unfold Lib.decodeGo
        rw [if_neg (by rw [Lib.tail_size]; omega), Lib.tail_decode]
        first | done | rfl
      have HO1 := Aside0.mk (R_iter HO.out HIT.out (pos + (Utf8.decode a0 pos).2))
      have HIT1 := Aside0.mk (Lib.iterAt_heap wr kb a0 pos (pos + (Utf8.decode a0 pos).2) HIT.out)
      have HB1 := Aside0.mk (Lib.below_iterAt HB.out HKB.out a0 (pos + (Utf8.decode a0 pos).2))
      have hnx := hnx0
      clear HF HO HIT HB hnx0
      generalize wr.iterAt kb a0 (pos + (Utf8.decode a0 pos).2) = W2 at *
      generalize hc : (Utf8.decode a0 pos).1 = C at *
      generalize hn : (Utf8.decode a0 pos).2 = n at *
      have DG1 : Aside0 ((Lib.decodeGo (a0.extract pos a0.size)).1 = C) := ⟨by rw [hdg]; exact hc⟩
      have DG2 : Aside0 ((Lib.decodeGo (a0.extract pos a0.size)).2 = n) := ⟨by rw [hdg]; exact hn⟩
      have HFF := Aside0.mk hf
      have hw : wrap64 ((pos : Int) + (n : Int)) = (pos : Int) + (n : Int) := by unfold wrap64; have := HLEN.out; omega
      clear hdg hc hn hf
      by_cases h32 : (C : Int) = 32
      · have e1 : ((C : Int) == 32) = true := beq_iff_eq.2 h32
        go_wp2_with fail
        go_roundg g1
        case measure => exact Nat.lt_succ_self _
        case rel => exact ⟨pos + n, true, acc, f1, rfl, ⟨by have := HFF.out; rw [if_pos h32] at this; exact this⟩, ⟨by have := HI.out; omega⟩, ⟨by have := HA.out; omega⟩, HO1, HIT1, HB1⟩
      have e1 : ((C : Int) == 32) = false := by simpa using h32
      have HF2 : Aside0 ((if low (C : Int) = 65533 then foldGo a0 f1 (pos + n) false (foldOut bl acc ++ bytesOf (a0.extract pos (pos + n))) else foldGo a0 f1 (pos + n) false (foldOut bl acc ++ Lib.encodeRuneZ (low (C : Int)))) = foldGo a0 a0.size 0 false []) := ⟨by have := HFF.out; rw [if_neg h32] at this; exact this⟩
      clear HFF
      cases bl with
      | true =>
        obtain ⟨Ao, co, hu⟩ := Kd.R_slice HO1.out
        subst hu
        by_cases hlen : 0 < acc.length
        rotate_left
        · have e2 : decide ((0 : Int) < (acc.length : Int)) = false := decide_eq_false (by omega)
          by_cases u1 : (65 : Int) ≤ (C : Int)
          rotate_left
          · have e3 : decide ((65 : Int) ≤ (C : Int)) = false := decide_eq_false u1
            have e5 : ((C : Int) == 65533) = false := by simp; omega
            have hlo : low (C : Int) = (C : Int) := if_neg (by omega)
            have hfo : foldOut true acc = acc := by simp [foldOut, hlen]
            go_wp2_with fail
            refine (append_rune w (.slice Ao acc.length co) (acc) ((C : Int)) (by omega) (by omega) _ HO1.out (by have := HA.out; have := HLEN.out; omega) HB1.out).mono ?_
            rintro e W5 ⟨v5, rfl, hR5, hb5, hk5⟩
            have HO5 := Aside0.mk hR5
            have HB5 := Aside0.mk hb5
            have HIT5 := Aside0.mk (hk5 kb _ HIT1.out (iter_ne HO1.out HIT1.out))
            clear hR5 hb5 hk5
            go_wp2_with fail
            go_roundg g1
            case measure => exact Nat.lt_succ_self _
            case rel => exact ⟨pos + n, false, (acc) ++ Lib.encodeRuneZ ((C : Int)), f1, rfl, ⟨by have := HF2.out; rw [if_neg (by rw [hlo]; omega), hfo, hlo] at this; exact this⟩, ⟨by have := HI.out; omega⟩, ⟨by rw [List.length_append]; have := encodeRuneZ_len ((C : Int)); have := HA.out; omega⟩, HO5, HIT5, HB5⟩
          have e3 : decide ((65 : Int) ≤ (C : Int)) = true := decide_eq_true u1
          by_cases u2 : (C : Int) ≤ 90
          · have e4 : decide ((C : Int) ≤ 90) = true := decide_eq_true u2
            have e5 : ((C : Int) + 32 == 65533) = false := by simp; omega
            have hlo : low (C : Int) = (C : Int) + 32 := if_pos ⟨u1, u2⟩
            have hfo : foldOut true acc = acc := by simp [foldOut, hlen]
            go_wp2_with fail
            refine (append_rune w (.slice Ao acc.length co) (acc) ((C : Int) + 32) (by omega) (by omega) _ HO1.out (by have := HA.out; have := HLEN.out; omega) HB1.out).mono ?_
            rintro e W5 ⟨v5, rfl, hR5, hb5, hk5⟩
            have HO5 := Aside0.mk hR5
            have HB5 := Aside0.mk hb5
            have HIT5 := Aside0.mk (hk5 kb _ HIT1.out (iter_ne HO1.out HIT1.out))
            clear hR5 hb5 hk5
            go_wp2_with fail
            go_roundg g1
            case measure => exact Nat.lt_succ_self _
            case rel => exact ⟨pos + n, false, (acc) ++ Lib.encodeRuneZ ((C : Int) + 32), f1, rfl, ⟨by have := HF2.out; rw [if_neg (by rw [hlo]; omega), hfo, hlo] at this; exact this⟩, ⟨by have := HI.out; omega⟩, ⟨by rw [List.length_append]; have := encodeRuneZ_len ((C : Int) + 32); have := HA.out; omega⟩, HO5, HIT5, HB5⟩
          have e4 : decide ((C : Int) ≤ 90) = false := decide_eq_false u2
          have hl0 : low (C : Int) = (C : Int) := if_neg (by omega)
          by_cases u3_ : (C : Int) = 65533
          rotate_left
          · have e5 : ((C : Int) == 65533) = false := by simpa using u3_
            have hlo : low (C : Int) = (C : Int) := hl0
            have hfo : foldOut true acc = acc := by simp [foldOut, hlen]
            go_wp2_with fail
            refine (append_rune w (.slice Ao acc.length co) (acc) ((C : Int)) (by omega) (by omega) _ HO1.out (by have := HA.out; have := HLEN.out; omega) HB1.out).mono ?_
            rintro e W5 ⟨v5, rfl, hR5, hb5, hk5⟩
            have HO5 := Aside0.mk hR5
            have HB5 := Aside0.mk hb5
            have HIT5 := Aside0.mk (hk5 kb _ HIT1.out (iter_ne HO1.out HIT1.out))
            clear hR5 hb5 hk5
            go_wp2_with fail
            go_roundg g1
            case measure => exact Nat.lt_succ_self _
            case rel => exact ⟨pos + n, false, (acc) ++ Lib.encodeRuneZ ((C : Int)), f1, rfl, ⟨by have := HF2.out; rw [if_neg (by rw [hlo]; omega), hfo, hlo] at this; exact this⟩, ⟨by have := HI.out; omega⟩, ⟨by rw [List.length_append]; have := encodeRuneZ_len ((C : Int)); have := HA.out; omega⟩, HO5, HIT5, HB5⟩
          have e5 : ((C : Int) == 65533) = true := beq_iff_eq.2 u3_
          have hlo : low (C : Int) = 65533 := hl0.trans u3_
          have hfo : foldOut true acc = acc := by simp [foldOut, hlen]
          go_wp2_with fail
          refine (Tryz.utf8_DecodeRuneInString (a0.extract pos a0.size) _ (HT.out.below HB1.out).utf).mono ?_
          rintro e W5 ⟨rfl, hb5⟩
          rw [DG1.out, DG2.out]
          have HO5 := Aside0.mk (Kd.R_below HO1.out hb5)
          have HIT5 := Aside0.mk (keep_blk hb5 HIT1.out)
          have HB5 := Aside0.mk (below_step HB1.out hb5)
          clear hb5
          have hsl : (Instr.slice 9 (.string a0) (some (.int .i64 (pos : Int))) (some (.int .i64 ((pos : Int) + (n : Int)))) none).run Tryz.prog W5 = .ok (.string (a0.extract pos (pos + n))) W5 := by
            have := run_slice_string (P := Tryz.prog) W5 9 a0 .i64 .i64 (pos : Int) ((pos : Int) + (n : Int)) Tryz.underlying9 (by omega) (by omega) (by omega)
            rwa [Int.toNat_natCast, show ((pos : Int) + (n : Int)).toNat = pos + n by omega] at this
          go_wp2_with ((with_reducible refine gate_builtin (b := .append) (xs := #[.tmp 48, .tmp 54]) rfl ?_); at_builtin; refine print_append_str (w0 := w) w.heap.size rfl (.tmp 48) (.tmp 54) 22 9 5 rfl Tryz.underlying22 Tryz.underlying9 info5 (.slice Ao acc.length co) (acc) (a0.extract pos (pos + n)) rfl ?sx ?sO ?sB ?sS ?sL ?_; (case sx => rfl); (case sO => exact Kd.own_of_R HO5.out); (case sB => exact HB5.out); (case sS => exact below_size HB5.out); (case sL => have hz := ext_size a0 pos (pos + n) n2; have := HA.out; have := HLEN.out; omega); intro v6 W6 ho hb hgr; have HO6 : Aside0 ((Kd.int .u8).R 5 W6 w.heap.size (fun _ => True) v6 ((acc) ++ bytesOf (a0.extract pos (pos + n)))) := ⟨Kd.R_of_own ho (fun _ _ => trivial)⟩; have HB6 := Aside0.mk hb; have HIT6 := Aside0.mk (blk_grown HIT5.out hgr (iter_ne HO5.out HIT5.out)); clear ho hb hgr)
          go_roundg g1
          case measure => exact Nat.lt_succ_self _
          case rel => exact ⟨pos + n, false, (acc) ++ bytesOf (a0.extract pos (pos + n)), f1, rfl, ⟨by have := HF2.out; rw [if_pos hlo, hfo] at this; exact this⟩, ⟨by have := HI.out; omega⟩, ⟨by rw [List.length_append, bytesOf_length, ext_size a0 pos (pos + n) n2]; have := HA.out; omega⟩, HO6, HIT6, HB6⟩
        have e2 : decide ((0 : Int) < (acc.length : Int)) = true := decide_eq_true (by omega)
        by_cases u1 : (65 : Int) ≤ (C : Int)
        rotate_left
        · have e3 : decide ((65 : Int) ≤ (C : Int)) = false := decide_eq_false u1
          have e5 : ((C : Int) == 65533) = false := by simp; omega
          have hlo : low (C : Int) = (C : Int) := if_neg (by omega)
          have hfo : foldOut true acc = acc ++ [32] := by simp [foldOut, hlen]
          go_wp2_with (first | ((with_reducible refine gate_builtin (b := .append) (xs := #[.tmp 28, .tmp 29]) rfl ?_); at_builtin; refine Kd.R_append (Kd.int .u8) (w0 := w) w.heap.size rfl (.tmp 28) (.tmp 29) 22 5 (.int .u8 0) 1 rfl Tryz.underlying22 info5 rfl (by decide) (by omega) (.slice Ao acc.length co) acc 32 [.int .u8 32] (fun _ => True) (fun _ => False) rfl rfl ?aP (fun _ hk => hk.elim) ?aF ?aO ?aB ?aS ?aL ?_; (case aP => exact rfl); (case aF => exact (fun _ _ => trivial)); (case aO => exact HO1.out); (case aB => exact HB1.out); (case aS => exact (below_size HB1.out)); (case aL => have := HA.out; have := HLEN.out; omega); intro v2 W3 ho hb hgr hat; have HO2 := Aside0.mk ho; have HB2 := Aside0.mk hb; have HIT2 := Aside0.mk (blk_grown HIT1.out hgr (iter_ne HO1.out HIT1.out)); clear ho hb hgr hat))
          refine (append_rune w v2 (acc ++ [32]) ((C : Int)) (by omega) (by omega) _ HO2.out (by rw [List.length_append, List.length_singleton]; have := HA.out; have := HLEN.out; omega) HB2.out).mono ?_
          rintro e W5 ⟨v5, rfl, hR5, hb5, hk5⟩
          have HO5 := Aside0.mk hR5
          have HB5 := Aside0.mk hb5
          have HIT5 := Aside0.mk (hk5 kb _ HIT2.out (iter_ne HO2.out HIT2.out))
          clear hR5 hb5 hk5
          go_wp2_with fail
          go_roundg g1
          case measure => exact Nat.lt_succ_self _
          case rel => exact ⟨pos + n, false, (acc ++ [32]) ++ Lib.encodeRuneZ ((C : Int)), f1, rfl, ⟨by have := HF2.out; rw [if_neg (by rw [hlo]; omega), hfo, hlo] at this; exact this⟩, ⟨by have := HI.out; omega⟩, ⟨by rw [List.length_append]; rw [List.length_append, List.length_singleton]; have := encodeRuneZ_len ((C : Int)); have := HA.out; omega⟩, HO5, HIT5, HB5⟩
        have e3 : decide ((65 : Int) ≤ (C : Int)) = true := decide_eq_true u1
        by_cases u2 : (C : Int) ≤ 90
        · have e4 : decide ((C : Int) ≤ 90) = true := decide_eq_true u2
          have e5 : ((C : Int) + 32 == 65533) = false := by simp; omega
          have hlo : low (C : Int) = (C : Int) + 32 := if_pos ⟨u1, u2⟩
          have hfo : foldOut true acc = acc ++ [32] := by simp [foldOut, hlen]
          go_wp2_with (first | ((with_reducible refine gate_builtin (b := .append) (xs := #[.tmp 28, .tmp 29]) rfl ?_); at_builtin; refine Kd.R_append (Kd.int .u8) (w0 := w) w.heap.size rfl (.tmp 28) (.tmp 29) 22 5 (.int .u8 0) 1 rfl Tryz.underlying22 info5 rfl (by decide) (by omega) (.slice Ao acc.length co) acc 32 [.int .u8 32] (fun _ => True) (fun _ => False) rfl rfl ?aP (fun _ hk => hk.elim) ?aF ?aO ?aB ?aS ?aL ?_; (case aP => exact rfl); (case aF => exact (fun _ _ => trivial)); (case aO => exact HO1.out); (case aB => exact HB1.out); (case aS => exact (below_size HB1.out)); (case aL => have := HA.out; have := HLEN.out; omega); intro v2 W3 ho hb hgr hat; have HO2 := Aside0.mk ho; have HB2 := Aside0.mk hb; have HIT2 := Aside0.mk (blk_grown HIT1.out hgr (iter_ne HO1.out HIT1.out)); clear ho hb hgr hat))
          refine (append_rune w v2 (acc ++ [32]) ((C : Int) + 32) (by omega) (by omega) _ HO2.out (by rw [List.length_append, List.length_singleton]; have := HA.out; have := HLEN.out; omega) HB2.out).mono ?_
          rintro e W5 ⟨v5, rfl, hR5, hb5, hk5⟩
          have HO5 := Aside0.mk hR5
          have HB5 := Aside0.mk hb5
          have HIT5 := Aside0.mk (hk5 kb _ HIT2.out (iter_ne HO2.out HIT2.out))
          clear hR5 hb5 hk5
          go_wp2_with fail
          go_roundg g1
          case measure => exact Nat.lt_succ_self _
          case rel => exact ⟨pos + n, false, (acc ++ [32]) ++ Lib.encodeRuneZ ((C : Int) + 32), f1, rfl, ⟨by have := HF2.out; rw [if_neg (by rw [hlo]; omega), hfo, hlo] at this; exact this⟩, ⟨by have := HI.out; omega⟩, ⟨by rw [List.length_append]; rw [List.length_append, List.length_singleton]; have := encodeRuneZ_len ((C : Int) + 32); have := HA.out; omega⟩, HO5, HIT5, HB5⟩
        have e4 : decide ((C : Int) ≤ 90) = false := decide_eq_false u2
        have hl0 : low (C : Int) = (C : Int) := if_neg (by omega)
        by_cases u3_ : (C : Int) = 65533
        rotate_left
        · have e5 : ((C : Int) == 65533) = false := by simpa using u3_
          have hlo : low (C : Int) = (C : Int) := hl0
          have hfo : foldOut true acc = acc ++ [32] := by simp [foldOut, hlen]
          go_wp2_with (first | ((with_reducible refine gate_builtin (b := .append) (xs := #[.tmp 28, .tmp 29]) rfl ?_); at_builtin; refine Kd.R_append (Kd.int .u8) (w0 := w) w.heap.size rfl (.tmp 28) (.tmp 29) 22 5 (.int .u8 0) 1 rfl Tryz.underlying22 info5 rfl (by decide) (by omega) (.slice Ao acc.length co) acc 32 [.int .u8 32] (fun _ => True) (fun _ => False) rfl rfl ?aP (fun _ hk => hk.elim) ?aF ?aO ?aB ?aS ?aL ?_; (case aP => exact rfl); (case aF => exact (fun _ _ => trivial)); (case aO => exact HO1.out); (case aB => exact HB1.out); (case aS => exact (below_size HB1.out)); (case aL => have := HA.out; have := HLEN.out; omega); intro v2 W3 ho hb hgr hat; have HO2 := Aside0.mk ho; have HB2 := Aside0.mk hb; have HIT2 := Aside0.mk (blk_grown HIT1.out hgr (iter_ne HO1.out HIT1.out)); clear ho hb hgr hat))
          refine (append_rune w v2 (acc ++ [32]) ((C : Int)) (by omega) (by omega) _ HO2.out (by rw [List.length_append, List.length_singleton]; have := HA.out; have := HLEN.out; omega) HB2.out).mono ?_
          rintro e W5 ⟨v5, rfl, hR5, hb5, hk5⟩
          have HO5 := Aside0.mk hR5
          have HB5 := Aside0.mk hb5
          have HIT5 := Aside0.mk (hk5 kb _ HIT2.out (iter_ne HO2.out HIT2.out))
          clear hR5 hb5 hk5
          go_wp2_with fail
          go_roundg g1
          case measure => exact Nat.lt_succ_self _
          case rel => exact ⟨pos + n, false, (acc ++ [32]) ++ Lib.encodeRuneZ ((C : Int)), f1, rfl, ⟨by have := HF2.out; rw [if_neg (by rw [hlo]; omega), hfo, hlo] at this; exact this⟩, ⟨by have := HI.out; omega⟩, ⟨by rw [List.length_append]; rw [List.length_append, List.length_singleton]; have := encodeRuneZ_len ((C : Int)); have := HA.out; omega⟩, HO5, HIT5, HB5⟩
        have e5 : ((C : Int) == 65533) = true := beq_iff_eq.2 u3_
        have hlo : low (C : Int) = 65533 := hl0.trans u3_
        have hfo : foldOut true acc = acc ++ [32] := by simp [foldOut, hlen]
        go_wp2_with (first | ((with_reducible refine gate_builtin (b := .append) (xs := #[.tmp 28, .tmp 29]) rfl ?_); at_builtin; refine Kd.R_append (Kd.int .u8) (w0 := w) w.heap.size rfl (.tmp 28) (.tmp 29) 22 5 (.int .u8 0) 1 rfl Tryz.underlying22 info5 rfl (by decide) (by omega) (.slice Ao acc.length co) acc 32 [.int .u8 32] (fun _ => True) (fun _ => False) rfl rfl ?aP (fun _ hk => hk.elim) ?aF ?aO ?aB ?aS ?aL ?_; (case aP => exact rfl); (case aF => exact (fun _ _ => trivial)); (case aO => exact HO1.out); (case aB => exact HB1.out); (case aS => exact (below_size HB1.out)); (case aL => have := HA.out; have := HLEN.out; omega); intro v2 W3 ho hb hgr hat; have HO2 := Aside0.mk ho; have HB2 := Aside0.mk hb; have HIT2 := Aside0.mk (blk_grown HIT1.out hgr (iter_ne HO1.out HIT1.out)); clear ho hb hgr hat))
        refine (Tryz.utf8_DecodeRuneInString (a0.extract pos a0.size) _ (HT.out.below HB2.out).utf).mono ?_
        rintro e W5 ⟨rfl, hb5⟩
        rw [DG1.out, DG2.out]
        have HO5 := Aside0.mk (Kd.R_below HO2.out hb5)
        have HIT5 := Aside0.mk (keep_blk hb5 HIT2.out)
        have HB5 := Aside0.mk (below_step HB2.out hb5)
        clear hb5
        have hsl : (Instr.slice 9 (.string a0) (some (.int .i64 (pos : Int))) (some (.int .i64 ((pos : Int) + (n : Int)))) none).run Tryz.prog W5 = .ok (.string (a0.extract pos (pos + n))) W5 := by
          have := run_slice_string (P := Tryz.prog) W5 9 a0 .i64 .i64 (pos : Int) ((pos : Int) + (n : Int)) Tryz.underlying9 (by omega) (by omega) (by omega)
          rwa [Int.toNat_natCast, show ((pos : Int) + (n : Int)).toNat = pos + n by omega] at this
        go_wp2_with ((with_reducible refine gate_builtin (b := .append) (xs := #[.tmp 48, .tmp 54]) rfl ?_); at_builtin; refine print_append_str (w0 := w) w.heap.size rfl (.tmp 48) (.tmp 54) 22 9 5 rfl Tryz.underlying22 Tryz.underlying9 info5 v2 (acc ++ [32]) (a0.extract pos (pos + n)) rfl ?sx ?sO ?sB ?sS ?sL ?_; (case sx => rfl); (case sO => exact Kd.own_of_R HO5.out); (case sB => exact HB5.out); (case sS => exact below_size HB5.out); (case sL => have hz := ext_size a0 pos (pos + n) n2; rw [List.length_append, List.length_singleton]; have := HA.out; have := HLEN.out; omega); intro v6 W6 ho hb hgr; have HO6 : Aside0 ((Kd.int .u8).R 5 W6 w.heap.size (fun _ => True) v6 ((acc ++ [32]) ++ bytesOf (a0.extract pos (pos + n)))) := ⟨Kd.R_of_own ho (fun _ _ => trivial)⟩; have HB6 := Aside0.mk hb; have HIT6 := Aside0.mk (blk_grown HIT5.out hgr (iter_ne HO5.out HIT5.out)); clear ho hb hgr)
        go_roundg g1
        case measure => exact Nat.lt_succ_self _
        case rel => exact ⟨pos + n, false, (acc ++ [32]) ++ bytesOf (a0.extract pos (pos + n)), f1, rfl, ⟨by have := HF2.out; rw [if_pos hlo, hfo] at this; exact this⟩, ⟨by have := HI.out; omega⟩, ⟨by rw [List.length_append, bytesOf_length, ext_size a0 pos (pos + n) n2]; rw [List.length_append, List.length_singleton]; have := HA.out; omega⟩, HO6, HIT6, HB6⟩
      | false =>
        by_cases u1 : (65 : Int) ≤ (C : Int)
        rotate_left
        · have e3 : decide ((65 : Int) ≤ (C : Int)) = false := decide_eq_false u1
          have e5 : ((C : Int) == 65533) = false := by simp; omega
          have hlo : low (C : Int) = (C : Int) := if_neg (by omega)
          have hfo : foldOut false acc = acc := by simp [foldOut]
          go_wp2_with fail
          refine (append_rune w u3 (acc) ((C : Int)) (by omega) (by omega) _ HO1.out (by have := HA.out; have := HLEN.out; omega) HB1.out).mono ?_
          rintro e W5 ⟨v5, rfl, hR5, hb5, hk5⟩
          have HO5 := Aside0.mk hR5
          have HB5 := Aside0.mk hb5
          have HIT5 := Aside0.mk (hk5 kb _ HIT1.out (iter_ne HO1.out HIT1.out))
          clear hR5 hb5 hk5
          go_wp2_with fail
          go_roundg g1
          case measure => exact Nat.lt_succ_self _
          case rel => exact ⟨pos + n, false, (acc) ++ Lib.encodeRuneZ ((C : Int)), f1, rfl, ⟨by have := HF2.out; rw [if_neg (by rw [hlo]; omega), hfo, hlo] at this; exact this⟩, ⟨by have := HI.out; omega⟩, ⟨by rw [List.length_append]; have := encodeRuneZ_len ((C : Int)); have := HA.out; omega⟩, HO5, HIT5, HB5⟩
        have e3 : decide ((65 : Int) ≤ (C : Int)) = true := decide_eq_true u1
        by_cases u2 : (C : Int) ≤ 90
        · have e4 : decide ((C : Int) ≤ 90) = true := decide_eq_true u2
          have e5 : ((C : Int) + 32 == 65533) = false := by simp; omega
          have hlo : low (C : Int) = (C : Int) + 32 := if_pos ⟨u1, u2⟩
          have hfo : foldOut false acc = acc := by simp [foldOut]
          go_wp2_with fail
          refine (append_rune w u3 (acc) ((C : Int) + 32) (by omega) (by omega) _ HO1.out (by have := HA.out; have := HLEN.out; omega) HB1.out).mono ?_
          rintro e W5 ⟨v5, rfl, hR5, hb5, hk5⟩
          have HO5 := Aside0.mk hR5
          have HB5 := Aside0.mk hb5
          have HIT5 := Aside0.mk (hk5 kb _ HIT1.out (iter_ne HO1.out HIT1.out))
          clear hR5 hb5 hk5
          go_wp2_with fail
          go_roundg g1
          case measure => exact Nat.lt_succ_self _
          case rel => exact ⟨pos + n, false, (acc) ++ Lib.encodeRuneZ ((C : Int) + 32), f1, rfl, ⟨by have := HF2.out; rw [if_neg (by rw [hlo]; omega), hfo, hlo] at this; exact this⟩, ⟨by have := HI.out; omega⟩, ⟨by rw [List.length_append]; have := encodeRuneZ_len ((C : Int) + 32); have := HA.out; omega⟩, HO5, HIT5, HB5⟩
        have e4 : decide ((C : Int) ≤ 90) = false := decide_eq_false u2
        have hl0 : low (C : Int) = (C : Int) := if_neg (by omega)
        by_cases u3_ : (C : Int) = 65533
        rotate_left
        · have e5 : ((C : Int) == 65533) = false := by simpa using u3_
          have hlo : low (C : Int) = (C : Int) := hl0
          have hfo : foldOut false acc = acc := by simp [foldOut]
          go_wp2_with fail
          refine (append_rune w u3 (acc) ((C : Int)) (by omega) (by omega) _ HO1.out (by have := HA.out; have := HLEN.out; omega) HB1.out).mono ?_
          rintro e W5 ⟨v5, rfl, hR5, hb5, hk5⟩
          have HO5 := Aside0.mk hR5
          have HB5 := Aside0.mk hb5
          have HIT5 := Aside0.mk (hk5 kb _ HIT1.out (iter_ne HO1.out HIT1.out))
          clear hR5 hb5 hk5
          go_wp2_with fail
          go_roundg g1
          case measure => exact Nat.lt_succ_self _
          case rel => exact ⟨pos + n, false, (acc) ++ Lib.encodeRuneZ ((C : Int)), f1, rfl, ⟨by have := HF2.out; rw [if_neg (by rw [hlo]; omega), hfo, hlo] at this; exact this⟩, ⟨by have := HI.out; omega⟩, ⟨by rw [List.length_append]; have := encodeRuneZ_len ((C : Int)); have := HA.out; omega⟩, HO5, HIT5, HB5⟩
        have e5 : ((C : Int) == 65533) = true := beq_iff_eq.2 u3_
        have hlo : low (C : Int) = 65533 := hl0.trans u3_
        have hfo : foldOut false acc = acc := by simp [foldOut]
        go_wp2_with fail
        refine (Tryz.utf8_DecodeRuneInString (a0.extract pos a0.size) _ (HT.out.below HB1.out).utf).mono ?_
        rintro e W5 ⟨rfl, hb5⟩
        rw [DG1.out, DG2.out]
        have HO5 := Aside0.mk (Kd.R_below HO1.out hb5)
        have HIT5 := Aside0.mk (keep_blk hb5 HIT1.out)
        have HB5 := Aside0.mk (below_step HB1.out hb5)
        clear hb5
        have hsl : (Instr.slice 9 (.string a0) (some (.int .i64 (pos : Int))) (some (.int .i64 ((pos : Int) + (n : Int)))) none).run Tryz.prog W5 = .ok (.string (a0.extract pos (pos + n))) W5 := by
          have := run_slice_string (P := Tryz.prog) W5 9 a0 .i64 .i64 (pos : Int) ((pos : Int) + (n : Int)) Tryz.underlying9 (by omega) (by omega) (by omega)
          rwa [Int.toNat_natCast, show ((pos : Int) + (n : Int)).toNat = pos + n by omega] at this
        go_wp2_with ((with_reducible refine gate_builtin (b := .append) (xs := #[.tmp 48, .tmp 54]) rfl ?_); at_builtin; refine print_append_str (w0 := w) w.heap.size rfl (.tmp 48) (.tmp 54) 22 9 5 rfl Tryz.underlying22 Tryz.underlying9 info5 u3 (acc) (a0.extract pos (pos + n)) rfl ?sx ?sO ?sB ?sS ?sL ?_; (case sx => rfl); (case sO => exact Kd.own_of_R HO5.out); (case sB => exact HB5.out); (case sS => exact below_size HB5.out); (case sL => have hz := ext_size a0 pos (pos + n) n2; have := HA.out; have := HLEN.out; omega); intro v6 W6 ho hb hgr; have HO6 : Aside0 ((Kd.int .u8).R 5 W6 w.heap.size (fun _ => True) v6 ((acc) ++ bytesOf (a0.extract pos (pos + n)))) := ⟨Kd.R_of_own ho (fun _ _ => trivial)⟩; have HB6 := Aside0.mk hb; have HIT6 := Aside0.mk (blk_grown HIT5.out hgr (iter_ne HO5.out HIT5.out)); clear ho hb hgr)
        go_roundg g1
        case measure => exact Nat.lt_succ_self _
        case rel => exact ⟨pos + n, false, (acc) ++ bytesOf (a0.extract pos (pos + n)), f1, rfl, ⟨by have := HF2.out; rw [if_pos hlo, hfo] at this; exact this⟩, ⟨by have := HI.out; omega⟩, ⟨by rw [List.length_append, bytesOf_length, ext_size a0 pos (pos + n) n2]; have := HA.out; omega⟩, HO6, HIT6, HB6⟩
end Go.Proofs.YtkioddjjfifadaaGreatDoor.P
namespace Go.Proofs.YtkioddjjfifadaaGreatDoor.P
open Go.RowKit Go.Proofs.YtkioddjjfifadaaGreatDoorW.PrintWords
/-- The bytes of s from i on, m of them. -/
def run (s : ByteArray) (i m : Nat) : List Int := (List.range m).map fun j => bt s ((i + j : Nat) : Int)
theorem bt_rng (s : ByteArray) (i : Int) : 0 ≤ bt s i ∧ bt s i ≤ 255 := bt_range s i
theorem w64'' {n : Int} (h0 : -9223372036854775808 ≤ n) (h1 : n ≤ 9223372036854775807) : wrap64 n = n := by unfold wrap64; omega
end Go.Proofs.YtkioddjjfifadaaGreatDoor.P
