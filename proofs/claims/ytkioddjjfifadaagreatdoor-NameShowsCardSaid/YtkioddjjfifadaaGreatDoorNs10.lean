/- What the proof of NameShows needs of: Pxf163, Hs5, Hs7, Hs8, Hr0, Hb0, Lt4, Shm, Hb1, Pxf266, Hp0, Pxf219, Pxf168, Pxf152, Hp1. -/
import Derived.Deep.LoopGhost
import Derived.Deep.DeepBigQuietO
import Derived.Laws.BytesArg
import Derived.Lib.BytesEntry
import Derived.Lib.Bytealg
import Derived.Sort.Walk0
import Derived.Shelf.SlGeneric
import Derived.Shelf.SlLaysF
import Derived.Ground.SlsfProg
import Derived.Test.YtkioddjjfifadaaGreatDoorProg
import Derived.Shelf.SlSortCmp.NoneTotal
import Derived.Test.YtkioddjjfifadaaGreatDoorNs2
import Derived.Test.YtkioddjjfifadaaGreatDoorNs5
import Derived.Test.YtkioddjjfifadaaGreatDoorNs6
import Derived.Test.YtkioddjjfifadaaGreatDoorNs7
import Derived.Test.YtkioddjjfifadaaGreatDoorNs9
set_option linter.unusedVariables false
set_option linter.unusedSimpArgs false
namespace Go.Proofs.YtkioddjjfifadaaGreatDoor.P
open Go.RowKit Go.Proofs.YtkioddjjfifadaaGreatDoorW.PrintWords Go.Proofs.YtkioddjjfifadaaGreatDoorW.PrintLast Go.Proofs.YtkioddjjfifadaaGreatDoorW.PrintMore
attribute [local go_sem] max2_int min2_int max_two min_two max_three min_three max_four min_four   -- for this text's walks alone
set_option linter.unusedVariables false
set_option linter.unusedSimpArgs false
mutual
def der_Oid.j0 : Nat → List Int → Bool → Option (ByteArray × Int)
  | 0, _, _ => none
  | k + 1, x0, x22 => if x22 = true then (some ((⟨#[]⟩ : ByteArray), 6)) else (der_Oid.l0 k x0 x0 (x0.length : Int) 0)
def der_Oid.l0 : Nat → List Int → List Int → Int → Int → Option (ByteArray × Int)
  | 0, _, _, _, _ => none
  | k + 1, x0, x23, x24, x25 => if x25 < x24 then (if 0 ≤ x25 then (if x25 < (x23.length : Int) then (if (rd x23 x25) = 128 then (if x25 = 0 then (some ((⟨#[]⟩ : ByteArray), 6)) else (if 0 ≤ (wrap64 (x25 - 1)) then (if (wrap64 (x25 - 1)) < (x0.length : Int) then (if (rd x0 (wrap64 (x25 - 1))) < 128 then (some ((⟨#[]⟩ : ByteArray), 6)) else (der_Oid.l0 k x0 x23 x24 (wrap64 (x25 + 1)))) else (none)) else (none))) else (der_Oid.l0 k x0 x23 x24 (wrap64 (x25 + 1)))) else (none)) else (none)) else (der_Oid.l1 k (⟨#[]⟩ : ByteArray) 0 x0 (x0.length : Int) 0)
def der_Oid.l1 : Nat → ByteArray → Int → List Int → Int → Int → Option (ByteArray × Int)
  | 0, _, _, _, _, _ => none
  | k + 1, x6, x7, x45, x46, x47 => if x47 < x46 then (if 0 ≤ x47 then (if x47 < (x45.length : Int) then (if (rd x45 x47) ≥ 128 then (der_Oid.l1 k x6 (mn (Go.bits .or .u64 (IntKind.u64.wrap (x7 * 128)) (IntKind.u64.wrap (Go.bits .and .u8 (rd x45 x47) 127))) 1099511627776) x45 x46 (wrap64 (x47 + 1))) else (if x6.toList = ([] : List UInt8) then ((strconv_Itoa.f (wrap64 (mn (IntKind.u64.wrap (Int.tdiv (mn (Go.bits .or .u64 (IntKind.u64.wrap (x7 * 128)) (IntKind.u64.wrap (Go.bits .and .u8 (rd x45 x47) 127))) 1099511627776) 40)) 2))).bind fun t179 => (if (IntKind.u64.wrap ((mn (Go.bits .or .u64 (IntKind.u64.wrap (x7 * 128)) (IntKind.u64.wrap (Go.bits .and .u8 (rd x45 x47) 127))) 1099511627776) - (IntKind.u64.wrap (40 * (mn (IntKind.u64.wrap (Int.tdiv (mn (Go.bits .or .u64 (IntKind.u64.wrap (x7 * 128)) (IntKind.u64.wrap (Go.bits .and .u8 (rd x45 x47) 127))) 1099511627776) 40)) 2))))) > 2147483647 then (some ((⟨#[]⟩ : ByteArray), 3)) else ((strconv_Itoa.f (wrap64 (IntKind.u64.wrap ((mn (Go.bits .or .u64 (IntKind.u64.wrap (x7 * 128)) (IntKind.u64.wrap (Go.bits .and .u8 (rd x45 x47) 127))) 1099511627776) - (IntKind.u64.wrap (40 * (mn (IntKind.u64.wrap (Int.tdiv (mn (Go.bits .or .u64 (IntKind.u64.wrap (x7 * 128)) (IntKind.u64.wrap (Go.bits .and .u8 (rd x45 x47) 127))) 1099511627776) 40)) 2))))))).bind fun t180 => (if 1 + t180.size ≤ 9223372036854775807 then (if t179.size + ((⟨#[46]⟩ : ByteArray) ++ t180).size ≤ 9223372036854775807 then (der_Oid.l1 k (t179 ++ ((⟨#[46]⟩ : ByteArray) ++ t180)) 0 x45 x46 (wrap64 (x47 + 1))) else (none)) else (none))))) else (if (mn (Go.bits .or .u64 (IntKind.u64.wrap (x7 * 128)) (IntKind.u64.wrap (Go.bits .and .u8 (rd x45 x47) 127))) 1099511627776) > 2147483647 then (some ((⟨#[]⟩ : ByteArray), 3)) else ((strconv_Itoa.f (wrap64 (mn (Go.bits .or .u64 (IntKind.u64.wrap (x7 * 128)) (IntKind.u64.wrap (Go.bits .and .u8 (rd x45 x47) 127))) 1099511627776))).bind fun t181 => (if 1 + t181.size ≤ 9223372036854775807 then (if x6.size + ((⟨#[46]⟩ : ByteArray) ++ t181).size ≤ 9223372036854775807 then (der_Oid.l1 k (x6 ++ ((⟨#[46]⟩ : ByteArray) ++ t181)) 0 x45 x46 (wrap64 (x47 + 1))) else (none)) else (none)))))) else (none)) else (none)) else (some (x6, 0))
end
def der_Oid.f (k : Nat) (l0 : List Int) : Option (ByteArray × Int) := if (l0.length : Int) = 0 then (der_Oid.j0 k l0 true) else (if 0 ≤ (wrap64 ((l0.length : Int) - 1)) then (if (wrap64 ((l0.length : Int) - 1)) < (l0.length : Int) then (der_Oid.j0 k l0 (decide ((rd l0 (wrap64 ((l0.length : Int) - 1))) ≥ 128))) else (none)) else (none))
set_option maxHeartbeats 8000000 in
set_option maxRecDepth 100000 in
theorem der_Oid.calls (k : Nat) (A0 : Option Addr) (c0 : Nat) (l0 : List Int) (r1 : ByteArray) (r2 : Int) (w : World) (hr0 : Kd.C (Kd.int .u8) w A0 l0.length l0) (hc0 : l0.length ≤ c0) (h : der_Oid.f k l0 = some (r1, r2)) (hH : Tb w) :
    Calls Tryz.prog 163 #[.slice A0 l0.length c0] w fun e w' => e = .returned (.tuple #[.string r1, .int .i64 r2]) ∧ Below w.heap.size w w' := by
  have HR0 := Aside0.mk hr0
  have HC0 := Aside0.mk hc0
  clear hr0 hc0
  have HB := Aside0.mk (Below.refl w.heap.size w)
  have HHd := Aside0.mk hH
  clear hH
  have H : (if (l0.length : Int) = 0 then (der_Oid.j0 k l0 true) else (if 0 ≤ (wrap64 ((l0.length : Int) - 1)) then (if (wrap64 ((l0.length : Int) - 1)) < (l0.length : Int) then (der_Oid.j0 k l0 (decide ((rd l0 (wrap64 ((l0.length : Int) - 1))) ≥ 128))) else (none)) else (none))) = some (r1, r2) := h
  clear h
  have HC2 := Aside0.mk H
  clear H
  go_enter Tryz.func163, Tryz.ntmps163
  go_upto_region 1 with (fail)
  go_cut [22] (fun v22 wc => ∃ (kq : Nat) (x22_1 : Bool), v22 = .bool x22_1 ∧ Aside0 (der_Oid.j0 kq l0 x22_1 = some (r1, r2)) ∧ Aside0 (kq ≤ k) ∧ Aside0 (Below w.heap.size w wc))
  case first =>
    have H := HC2.out
    clear HC2
    by_cases c3 : (l0.length : Int) = 0
    · rw [if_pos c3] at H
      have c3b0 : ((l0.length : Int) == 0) = true := beq_iff_eq.mpr c3
      have c3b1 : ((l0.length : Int) != 0) = false := bne_eq_false_iff_eq.mpr c3
      clear c3
      (first | rw [c3b0] | (simp only [i64_w, i32_w]; rw [c3b0]) | skip)
      have H' := Aside0.mk H
      clear H
      go_wp2
      go_meet
      case rel => exact ⟨_, (true), (by first | rfl | (simp; done) | (simp [*]; done)), H', ⟨by first | omega | exact Nat.le_refl _⟩, ⟨by repeat (first | (with_reducible first | exact HB.out | apply below_alloc | apply pw_below_drewN | apply below_drew1) | exact HB.out)⟩⟩
    rw [if_neg c3] at H
    have c3b0 : ((l0.length : Int) == 0) = false := beq_eq_false_iff_ne.mpr c3
    have c3b1 : ((l0.length : Int) != 0) = true := bne_iff_ne.mpr c3
    have c3b2 : ¬ (l0 = []) := fun h_ => c3 (by rw [h_]; rfl)
    (first | rw [c3b0] | (simp only [i64_w, i32_w]; rw [c3b0]) | skip)
    by_cases c4 : 0 ≤ (wrap64 ((l0.length : Int) - 1))
    rotate_left
    · rw [if_neg c4] at H
      exact absurd H (by simp)
    rw [if_pos c4] at H
    have c4b0 : decide (0 ≤ (wrap64 ((l0.length : Int) - 1))) = true := decide_eq_true c4
    clear c4
    by_cases c5 : (wrap64 ((l0.length : Int) - 1)) < (l0.length : Int)
    rotate_left
    · rw [if_neg c5] at H
      exact absurd H (by simp)
    rw [if_pos c5] at H
    have c5b0 : decide ((wrap64 ((l0.length : Int) - 1)) < (l0.length : Int)) = true := decide_eq_true c5
    clear c5
    have H' := Aside0.mk H
    clear H
    have p175 : 0 ≤ ((wrap64 ((l0.length : Int) - 1)) : Int) := of_decide_eq_true (by first | (with_reducible assumption) | assumption)
    have q175 : (wrap64 ((l0.length : Int) - 1)) < (l0.length : Int) := of_decide_eq_true (by first | (with_reducible assumption) | assumption)
    obtain ⟨ad175, e175, hx175_0⟩ := Kd.at_int HR0.out (wrap64 ((l0.length : Int) - 1)) p175 q175
    cases e175
    replace hx175_0 := (HB.out.cell (World.block_lt_of_cell? w _ hx175_0)).trans hx175_0
    replace p175 := eq_true p175
    replace q175 := eq_true q175
    go_wp2
    go_meet
    case rel => exact ⟨_, (decide ((rd l0 (wrap64 ((l0.length : Int) - 1))) ≥ 128)), (by first | rfl | (simp; done) | (simp [*]; done)), H', ⟨by first | omega | exact Nat.le_refl _⟩, ⟨by repeat (first | (with_reducible first | exact HB.out | apply below_alloc | apply pw_below_drewN | apply below_drew1) | exact HB.out)⟩⟩
  clear HC2
  obtain ⟨kq, x22_1, rfl, HA, HJ1, HB⟩ := hcut
  cases kq with
  | zero => exact absurd HA.out (by simp [der_Oid.j0])
  | succ kj1 =>
    have H := HA.out
    clear HA
    simp only [der_Oid.j0] at H
    by_cases c6 : x22_1 = true
    · subst c6
      have H1 : (some ((⟨#[]⟩ : ByteArray), 6)) = some (r1, r2) := by rw [if_pos rfl] at H; exact H
      clear H
      have H := H1
      clear H1
      simp only [Option.some.injEq, Prod.mk.injEq] at H
      obtain ⟨rfl, rfl⟩ := H
      go_wp2
      go_ret2
      exact ⟨by first | rfl | (simp [errW_none, errW_some] <;> rfl) | (simp [*, errW_none, errW_some] <;> rfl), by repeat (first | (with_reducible first | exact HB.out | apply below_alloc | apply pw_below_drewN | apply below_drew1) | exact HB.out)⟩
    replace c6 := Bool.eq_false_iff.mpr c6
    subst c6
    have H1 : (der_Oid.l0 kj1 l0 l0 (l0.length : Int) 0) = some (r1, r2) := by rw [if_neg (show ¬ (false = true) by decide)] at H; exact H
    clear H
    have H := H1
    clear H1
    have H' := Aside0.mk H
    clear H
    go_wp2
    go_loopg [25] kj1 (fun kq v25 w' => ∃ (x25_2 : Int), v25 = .int .i64 x25_2 ∧ Aside0 (der_Oid.l0 kq l0 l0 (l0.length : Int) x25_2 = some (r1, r2)) ∧ Aside0 (kq ≤ kj1) ∧ Aside0 (Below w.heap.size w w'))
    case atStart => exact ⟨(0), (by first | rfl | (simp; done) | (simp [*]; done)), H', ⟨Nat.le_refl _⟩, ⟨by repeat (first | (with_reducible first | exact HB.out | apply below_alloc | apply pw_below_drewN | apply below_drew1) | exact HB.out)⟩⟩
    case round =>
      clear H'
      obtain ⟨x25_2, rfl, HA, HK2, HB⟩ := hrel
      cases gk with
      | zero => exact absurd HA.out (by simp [der_Oid.l0])
      | succ k2 =>
        have H := HA.out
        clear HA
        simp only [der_Oid.l0] at H
        by_cases c7 : x25_2 < (l0.length : Int)
        · rw [if_pos c7] at H
          have c7b0 : decide (x25_2 < (l0.length : Int)) = true := decide_eq_true c7
          clear c7
          by_cases c8 : 0 ≤ x25_2
          rotate_left
          · rw [if_neg c8] at H
            exact absurd H (by simp)
          rw [if_pos c8] at H
          have c8b0 : decide (0 ≤ x25_2) = true := decide_eq_true c8
          clear c8
          by_cases c9 : x25_2 < (l0.length : Int)
          rotate_left
          · rw [if_neg c9] at H
            exact absurd H (by simp)
          rw [if_pos c9] at H
          have c9b0 : decide (x25_2 < (l0.length : Int)) = true := decide_eq_true c9
          clear c9
          by_cases c10 : (rd l0 x25_2) = 128
          rotate_left
          · rw [if_neg c10] at H
            have c10b0 : ((rd l0 x25_2) == 128) = false := beq_eq_false_iff_ne.mpr c10
            have c10b1 : ((rd l0 x25_2) != 128) = true := bne_iff_ne.mpr c10
            have H' := Aside0.mk H
            clear H
            have p176 : 0 ≤ (x25_2 : Int) := of_decide_eq_true (by first | (with_reducible assumption) | assumption)
            have q176 : x25_2 < (l0.length : Int) := of_decide_eq_true (by first | (with_reducible assumption) | assumption)
            obtain ⟨ad176, e176, hx176_0⟩ := Kd.at_int HR0.out x25_2 p176 q176
            cases e176
            replace hx176_0 := (HB.out.cell (World.block_lt_of_cell? w _ hx176_0)).trans hx176_0
            replace p176 := eq_true p176
            replace q176 := eq_true q176
            go_wp2
            go_roundg k2
            case measure => have := HJ1.out; have := HK2.out; omega
            case rel => exact ⟨(wrap64 (x25_2 + 1)), (by first | rfl | (simp; done) | (simp [*]; done)), H', ⟨by have := HJ1.out; have := HK2.out; omega⟩, ⟨by repeat (first | (with_reducible first | exact HB.out | apply below_alloc | apply pw_below_drewN | apply below_drew1) | exact HB.out)⟩⟩
          rw [if_pos c10] at H
          have c10b0 : ((rd l0 x25_2) == 128) = true := beq_iff_eq.mpr c10
          have c10b1 : ((rd l0 x25_2) != 128) = false := bne_eq_false_iff_eq.mpr c10
          clear c10
          by_cases c11 : x25_2 = 0
          · rw [if_pos c11] at H
            have c11b0 : (x25_2 == 0) = true := beq_iff_eq.mpr c11
            have c11b1 : (x25_2 != 0) = false := bne_eq_false_iff_eq.mpr c11
            clear c11
            simp only [Option.some.injEq, Prod.mk.injEq] at H
            obtain ⟨rfl, rfl⟩ := H
            have p176 : 0 ≤ (x25_2 : Int) := of_decide_eq_true (by first | (with_reducible assumption) | assumption)
            have q176 : x25_2 < (l0.length : Int) := of_decide_eq_true (by first | (with_reducible assumption) | assumption)
            obtain ⟨ad176, e176, hx176_0⟩ := Kd.at_int HR0.out x25_2 p176 q176
            cases e176
            replace hx176_0 := (HB.out.cell (World.block_lt_of_cell? w _ hx176_0)).trans hx176_0
            replace p176 := eq_true p176
            replace q176 := eq_true q176
            go_wp2
            go_ret2
            exact ⟨by first | rfl | (simp [errW_none, errW_some] <;> rfl) | (simp [*, errW_none, errW_some] <;> rfl), by repeat (first | (with_reducible first | exact HB.out | apply below_alloc | apply pw_below_drewN | apply below_drew1) | exact HB.out)⟩
          rw [if_neg c11] at H
          have c11b0 : (x25_2 == 0) = false := beq_eq_false_iff_ne.mpr c11
          have c11b1 : (x25_2 != 0) = true := bne_iff_ne.mpr c11
          by_cases c12 : 0 ≤ (wrap64 (x25_2 - 1))
          rotate_left
          · rw [if_neg c12] at H
            exact absurd H (by simp)
          rw [if_pos c12] at H
          have c12b0 : decide (0 ≤ (wrap64 (x25_2 - 1))) = true := decide_eq_true c12
          clear c12
          by_cases c13 : (wrap64 (x25_2 - 1)) < (l0.length : Int)
          rotate_left
          · rw [if_neg c13] at H
            exact absurd H (by simp)
          rw [if_pos c13] at H
          have c13b0 : decide ((wrap64 (x25_2 - 1)) < (l0.length : Int)) = true := decide_eq_true c13
          clear c13
          by_cases c14 : (rd l0 (wrap64 (x25_2 - 1))) < 128
          · rw [if_pos c14] at H
            have c14b0 : decide ((rd l0 (wrap64 (x25_2 - 1))) < 128) = true := decide_eq_true c14
            clear c14
            simp only [Option.some.injEq, Prod.mk.injEq] at H
            obtain ⟨rfl, rfl⟩ := H
            have p176 : 0 ≤ (x25_2 : Int) := of_decide_eq_true (by first | (with_reducible assumption) | assumption)
            have q176 : x25_2 < (l0.length : Int) := of_decide_eq_true (by first | (with_reducible assumption) | assumption)
            obtain ⟨ad176, e176, hx176_0⟩ := Kd.at_int HR0.out x25_2 p176 q176
            cases e176
            replace hx176_0 := (HB.out.cell (World.block_lt_of_cell? w _ hx176_0)).trans hx176_0
            replace p176 := eq_true p176
            replace q176 := eq_true q176
            have p177 : 0 ≤ ((wrap64 (x25_2 - 1)) : Int) := of_decide_eq_true (by first | (with_reducible assumption) | assumption)
            have q177 : (wrap64 (x25_2 - 1)) < (l0.length : Int) := of_decide_eq_true (by first | (with_reducible assumption) | assumption)
            obtain ⟨ad177, e177, hx177_0⟩ := Kd.at_int HR0.out (wrap64 (x25_2 - 1)) p177 q177
            obtain rfl : ad176 = ad177 := (by injection e177)
            replace hx177_0 := (HB.out.cell (World.block_lt_of_cell? w _ hx177_0)).trans hx177_0
            replace p177 := eq_true p177
            replace q177 := eq_true q177
            go_wp2
            go_ret2
            exact ⟨by first | rfl | (simp [errW_none, errW_some] <;> rfl) | (simp [*, errW_none, errW_some] <;> rfl), by repeat (first | (with_reducible first | exact HB.out | apply below_alloc | apply pw_below_drewN | apply below_drew1) | exact HB.out)⟩
          rw [if_neg c14] at H
          have c14b0 : decide ((rd l0 (wrap64 (x25_2 - 1))) < 128) = false := decide_eq_false c14
          clear c14
          have H' := Aside0.mk H
          clear H
          have p176 : 0 ≤ (x25_2 : Int) := of_decide_eq_true (by first | (with_reducible assumption) | assumption)
          have q176 : x25_2 < (l0.length : Int) := of_decide_eq_true (by first | (with_reducible assumption) | assumption)
          obtain ⟨ad176, e176, hx176_0⟩ := Kd.at_int HR0.out x25_2 p176 q176
          cases e176
          replace hx176_0 := (HB.out.cell (World.block_lt_of_cell? w _ hx176_0)).trans hx176_0
          replace p176 := eq_true p176
          replace q176 := eq_true q176
          have p177 : 0 ≤ ((wrap64 (x25_2 - 1)) : Int) := of_decide_eq_true (by first | (with_reducible assumption) | assumption)
          have q177 : (wrap64 (x25_2 - 1)) < (l0.length : Int) := of_decide_eq_true (by first | (with_reducible assumption) | assumption)
          obtain ⟨ad177, e177, hx177_0⟩ := Kd.at_int HR0.out (wrap64 (x25_2 - 1)) p177 q177
          obtain rfl : ad176 = ad177 := (by injection e177)
          replace hx177_0 := (HB.out.cell (World.block_lt_of_cell? w _ hx177_0)).trans hx177_0
          replace p177 := eq_true p177
          replace q177 := eq_true q177
          go_wp2
          go_roundg k2
          case measure => have := HJ1.out; have := HK2.out; omega
          case rel => exact ⟨(wrap64 (x25_2 + 1)), (by first | rfl | (simp; done) | (simp [*]; done)), H', ⟨by have := HJ1.out; have := HK2.out; omega⟩, ⟨by repeat (first | (with_reducible first | exact HB.out | apply below_alloc | apply pw_below_drewN | apply below_drew1) | exact HB.out)⟩⟩
        rw [if_neg c7] at H
        have c7b0 : decide (x25_2 < (l0.length : Int)) = false := decide_eq_false c7
        clear c7
        have H' := Aside0.mk H
        clear H
        go_wp2
        go_loopg [6, 7, 47] k2 (fun kq v6 v7 v47 w' => ∃ (x6_3 : ByteArray) (x7_3 : Int) (x47_3 : Int), v6 = .string x6_3 ∧ v7 = .int .u64 x7_3 ∧ v47 = .int .i64 x47_3 ∧ Aside0 (der_Oid.l1 kq x6_3 x7_3 l0 (l0.length : Int) x47_3 = some (r1, r2)) ∧ Aside0 (kq ≤ k2) ∧ Aside0 (Below w.heap.size w w'))
        case atStart => exact ⟨((⟨#[]⟩ : ByteArray)), (0), (0), (by first | rfl | (simp; done) | (simp [*]; done)), (by first | rfl | (simp; done) | (simp [*]; done)), (by first | rfl | (simp; done) | (simp [*]; done)), H', ⟨Nat.le_refl _⟩, ⟨by repeat (first | (with_reducible first | exact HB.out | apply below_alloc | apply pw_below_drewN | apply below_drew1) | exact HB.out)⟩⟩
        case round =>
          clear H'
          obtain ⟨x6_3, x7_3, x47_3, rfl, rfl, rfl, HA, HK3, HB⟩ := hrel
          cases gk with
          | zero => exact absurd HA.out (by simp [der_Oid.l1])
          | succ k3 =>
            have H := HA.out
            clear HA
            simp only [der_Oid.l1] at H
            by_cases c15 : x47_3 < (l0.length : Int)
            rotate_left
            · rw [if_neg c15] at H
              have c15b0 : decide (x47_3 < (l0.length : Int)) = false := decide_eq_false c15
              clear c15
              simp only [Option.some.injEq, Prod.mk.injEq] at H
              obtain ⟨rfl, rfl⟩ := H
              go_wp2
              go_ret2
              exact ⟨by first | rfl | (simp [errW_none, errW_some] <;> rfl) | (simp [*, errW_none, errW_some] <;> rfl), by repeat (first | (with_reducible first | exact HB.out | apply below_alloc | apply pw_below_drewN | apply below_drew1) | exact HB.out)⟩
            rw [if_pos c15] at H
            have c15b0 : decide (x47_3 < (l0.length : Int)) = true := decide_eq_true c15
            clear c15
            by_cases c16 : 0 ≤ x47_3
            rotate_left
            · rw [if_neg c16] at H
              exact absurd H (by simp)
            rw [if_pos c16] at H
            have c16b0 : decide (0 ≤ x47_3) = true := decide_eq_true c16
            clear c16
            by_cases c17 : x47_3 < (l0.length : Int)
            rotate_left
            · rw [if_neg c17] at H
              exact absurd H (by simp)
            rw [if_pos c17] at H
            have c17b0 : decide (x47_3 < (l0.length : Int)) = true := decide_eq_true c17
            clear c17
            obtain ⟨ji18, hji18⟩ : ∃ j_ : Int, (mn (Go.bits .or .u64 (IntKind.u64.wrap (x7_3 * 128)) (IntKind.u64.wrap (Go.bits .and .u8 (rd l0 x47_3) 127))) 1099511627776) = j_ := ⟨_, rfl⟩
            replace H : (if (rd l0 x47_3) ≥ 128 then (der_Oid.l1 k3 x6_3 ji18 l0 (l0.length : Int) (wrap64 (x47_3 + 1))) else (if x6_3.toList = ([] : List UInt8) then ((strconv_Itoa.f (wrap64 (mn (IntKind.u64.wrap (Int.tdiv (ji18) 40)) 2))).bind fun t179 => (if (IntKind.u64.wrap ((ji18) - (IntKind.u64.wrap (40 * (mn (IntKind.u64.wrap (Int.tdiv (ji18) 40)) 2))))) > 2147483647 then (some ((⟨#[]⟩ : ByteArray), 3)) else ((strconv_Itoa.f (wrap64 (IntKind.u64.wrap ((ji18) - (IntKind.u64.wrap (40 * (mn (IntKind.u64.wrap (Int.tdiv (ji18) 40)) 2))))))).bind fun t180 => (if 1 + t180.size ≤ 9223372036854775807 then (if t179.size + ((⟨#[46]⟩ : ByteArray) ++ t180).size ≤ 9223372036854775807 then (der_Oid.l1 k3 (t179 ++ ((⟨#[46]⟩ : ByteArray) ++ t180)) 0 l0 (l0.length : Int) (wrap64 (x47_3 + 1))) else (none)) else (none))))) else (if (ji18) > 2147483647 then (some ((⟨#[]⟩ : ByteArray), 3)) else ((strconv_Itoa.f (wrap64 (ji18))).bind fun t181 => (if 1 + t181.size ≤ 9223372036854775807 then (if x6_3.size + ((⟨#[46]⟩ : ByteArray) ++ t181).size ≤ 9223372036854775807 then (der_Oid.l1 k3 (x6_3 ++ ((⟨#[46]⟩ : ByteArray) ++ t181)) 0 l0 (l0.length : Int) (wrap64 (x47_3 + 1))) else (none)) else (none)))))) = some (r1, r2) := by first | (rw [hji18] at H; exact H) | (simp only [hji18] at H ⊢; exact H)
            have hji18_ : (if 1099511627776 < (Go.bits .or .u64 (IntKind.u64.wrap (x7_3 * 128)) (IntKind.u64.wrap (Go.bits .and .u8 (rd l0 x47_3) 127))) then 1099511627776 else (Go.bits .or .u64 (IntKind.u64.wrap (x7_3 * 128)) (IntKind.u64.wrap (Go.bits .and .u8 (rd l0 x47_3) 127)))) = ji18 := hji18
            by_cases c19 : (rd l0 x47_3) ≥ 128
            · rw [if_pos c19] at H
              have c19b0 : decide (128 ≤ (rd l0 x47_3)) = true := decide_eq_true c19
              clear c19
              have H' := Aside0.mk H
              clear H
              have p178 : 0 ≤ (x47_3 : Int) := of_decide_eq_true (by first | (with_reducible assumption) | assumption)
              have q178 : x47_3 < (l0.length : Int) := of_decide_eq_true (by first | (with_reducible assumption) | assumption)
              obtain ⟨ad178, e178, hx178_0⟩ := Kd.at_int HR0.out x47_3 p178 q178
              cases e178
              replace hx178_0 := (HB.out.cell (World.block_lt_of_cell? w _ hx178_0)).trans hx178_0
              replace p178 := eq_true p178
              replace q178 := eq_true q178
              go_wp2
              go_roundg k3
              case measure => have := HJ1.out; have := HK2.out; have := HK3.out; omega
              case rel => exact ⟨(x6_3), (ji18), (wrap64 (x47_3 + 1)), (by first | rfl | (simp; done) | (simp [*]; done)), (by first | rfl | (simp; done) | (simp only [← hji18] <;> (first | rfl | simp)) | (simp [*]; done)), (by first | rfl | (simp; done) | (simp [*]; done)), H', ⟨by have := HJ1.out; have := HK2.out; have := HK3.out; omega⟩, ⟨by repeat (first | (with_reducible first | exact HB.out | apply below_alloc | apply pw_below_drewN | apply below_drew1) | exact HB.out)⟩⟩
            rw [if_neg c19] at H
            have c19b0 : decide (128 ≤ (rd l0 x47_3)) = false := decide_eq_false c19
            clear c19
            by_cases c20 : x6_3.toList = ([] : List UInt8)
            rotate_left
            · rw [if_neg c20] at H
              have c20b0 : (x6_3.toList == ([] : List UInt8)) = false := beq_eq_false_iff_ne.mpr c20
              have c20b1 : (x6_3.toList != ([] : List UInt8)) = true := bne_iff_ne.mpr c20
              by_cases c30 : (ji18) > 2147483647
              · rw [if_pos c30] at H
                have c30b0 : decide (2147483647 < (ji18)) = true := decide_eq_true c30
                clear c30
                simp only [Option.some.injEq, Prod.mk.injEq] at H
                obtain ⟨rfl, rfl⟩ := H
                have p178 : 0 ≤ (x47_3 : Int) := of_decide_eq_true (by first | (with_reducible assumption) | assumption)
                have q178 : x47_3 < (l0.length : Int) := of_decide_eq_true (by first | (with_reducible assumption) | assumption)
                obtain ⟨ad178, e178, hx178_0⟩ := Kd.at_int HR0.out x47_3 p178 q178
                cases e178
                replace hx178_0 := (HB.out.cell (World.block_lt_of_cell? w _ hx178_0)).trans hx178_0
                replace p178 := eq_true p178
                replace q178 := eq_true q178
                go_wp2
                go_ret2
                exact ⟨by first | rfl | (simp [errW_none, errW_some] <;> rfl) | (simp only [← hji18]; first | rfl | (simp [errW_none, errW_some] <;> rfl)) | (simp [*, errW_none, errW_some] <;> rfl), by repeat (first | (with_reducible first | exact HB.out | apply below_alloc | apply pw_below_drewN | apply below_drew1) | exact HB.out)⟩
              rw [if_neg c30] at H
              have c30b0 : decide (2147483647 < (ji18)) = false := decide_eq_false c30
              clear c30
              replace H := Option.bind_eq_some_iff.mp H
              obtain ⟨t181, A310, H⟩ := H
              replace H : (if 1 + t181.size ≤ 9223372036854775807 then (if x6_3.size + ((⟨#[46]⟩ : ByteArray) ++ t181).size ≤ 9223372036854775807 then (der_Oid.l1 k3 (x6_3 ++ ((⟨#[46]⟩ : ByteArray) ++ t181)) 0 l0 (l0.length : Int) (wrap64 (x47_3 + 1))) else (none)) else (none)) = some (r1, r2) := H
              have A31 := Aside0.mk A310
              clear A310
              by_cases c32 : 1 + t181.size ≤ 9223372036854775807
              rotate_left
              · rw [if_neg c32] at H
                exact absurd H (by simp)
              rw [if_pos c32] at H
              have c32b0 := eq_true c32
              have c32b1 : decide (1 + t181.size ≤ 9223372036854775807) = true := decide_eq_true c32
              try have c32b2 : (9223372036854775807 < 1 + t181.size) = False := eq_false (Nat.not_lt.2 c32)
              by_cases c33 : x6_3.size + ((⟨#[46]⟩ : ByteArray) ++ t181).size ≤ 9223372036854775807
              rotate_left
              · rw [if_neg c33] at H
                exact absurd H (by simp)
              rw [if_pos c33] at H
              have c33b0 := eq_true c33
              have c33b1 : decide (x6_3.size + ((⟨#[46]⟩ : ByteArray) ++ t181).size ≤ 9223372036854775807) = true := decide_eq_true c33
              try have c33b2 : (9223372036854775807 < x6_3.size + ((⟨#[46]⟩ : ByteArray) ++ t181).size) = False := eq_false (Nat.not_lt.2 c33)
              have H' := Aside0.mk H
              clear H
              have p178 : 0 ≤ (x47_3 : Int) := of_decide_eq_true (by first | (with_reducible assumption) | assumption)
              have q178 : x47_3 < (l0.length : Int) := of_decide_eq_true (by first | (with_reducible assumption) | assumption)
              obtain ⟨ad178, e178, hx178_0⟩ := Kd.at_int HR0.out x47_3 p178 q178
              cases e178
              replace hx178_0 := (HB.out.cell (World.block_lt_of_cell? w _ hx178_0)).trans hx178_0
              replace p178 := eq_true p178
              replace q178 := eq_true q178
              go_wp2_with (first | ((with_reducible refine gate_callee (f := 160) rfl ?_); refine goesL_ (some 77) rfl rfl Tryz.func160 (by kernel_rfl) rfl #[.int .i64 (wrap64 (ji18))] rfl (by (try simp only [List.map_toArray, List.map_cons, List.map_nil]); first | done | (simp only [hji18]; rfl) | rfl | (simp only [List.length_drop, List.length_take]; rfl)) ?_; (with_reducible refine (strconv_Itoa.calls (wrap64 (ji18)) t181 _ A31.out (Tb.below HHd.out (by repeat (first | (with_reducible first | exact HB.out | apply below_alloc | apply pw_below_drewN | apply below_drew1) | exact HB.out)))).mono ?_); rintro e w34 ⟨rfl, hb⟩; refine ⟨_, rfl, ?_⟩; have n0_ := Aside0.mk (below_step (by repeat (first | (with_reducible first | exact HB.out | apply below_alloc | apply pw_below_drewN | apply below_drew1) | exact HB.out)) hb); clear HB; have HB := n0_; clear n0_; (try clear hb); (try clear hb2); (try clear hk); (try clear hi)))
              go_roundg k3
              case measure => have := HJ1.out; have := HK2.out; have := HK3.out; omega
              case rel => exact ⟨(x6_3 ++ ((⟨#[46]⟩ : ByteArray) ++ t181)), (0), (wrap64 (x47_3 + 1)), (by first | rfl | (simp; done) | (simp [*]; done)), (by first | rfl | (simp; done) | (simp [*]; done)), (by first | rfl | (simp; done) | (simp [*]; done)), H', ⟨by have := HJ1.out; have := HK2.out; have := HK3.out; omega⟩, ⟨by repeat (first | (with_reducible first | exact HB.out | apply below_alloc | apply pw_below_drewN | apply below_drew1) | exact HB.out)⟩⟩
            rw [if_pos c20] at H
            have c20b0 : (x6_3.toList == ([] : List UInt8)) = true := beq_iff_eq.mpr c20
            have c20b1 : (x6_3.toList != ([] : List UInt8)) = false := bne_eq_false_iff_eq.mpr c20
            clear c20
            obtain ⟨ji21, hji21⟩ : ∃ j_ : Int, (mn (IntKind.u64.wrap (Int.tdiv (ji18) 40)) 2) = j_ := ⟨_, rfl⟩
            replace H : ((strconv_Itoa.f (wrap64 (ji21))).bind fun t179 => (if (IntKind.u64.wrap ((ji18) - (IntKind.u64.wrap (40 * (ji21))))) > 2147483647 then (some ((⟨#[]⟩ : ByteArray), 3)) else ((strconv_Itoa.f (wrap64 (IntKind.u64.wrap ((ji18) - (IntKind.u64.wrap (40 * (ji21))))))).bind fun t180 => (if 1 + t180.size ≤ 9223372036854775807 then (if t179.size + ((⟨#[46]⟩ : ByteArray) ++ t180).size ≤ 9223372036854775807 then (der_Oid.l1 k3 (t179 ++ ((⟨#[46]⟩ : ByteArray) ++ t180)) 0 l0 (l0.length : Int) (wrap64 (x47_3 + 1))) else (none)) else (none))))) = some (r1, r2) := by first | (rw [hji21] at H; exact H) | (simp only [hji21] at H ⊢; exact H)
            have hji21_ : (if 2 < (IntKind.u64.wrap (Int.tdiv (ji18) 40)) then 2 else (IntKind.u64.wrap (Int.tdiv (ji18) 40))) = ji21 := hji21
            replace H := Option.bind_eq_some_iff.mp H
            obtain ⟨t179, A220, H⟩ := H
            replace H : (if (IntKind.u64.wrap ((ji18) - (IntKind.u64.wrap (40 * (ji21))))) > 2147483647 then (some ((⟨#[]⟩ : ByteArray), 3)) else ((strconv_Itoa.f (wrap64 (IntKind.u64.wrap ((ji18) - (IntKind.u64.wrap (40 * (ji21))))))).bind fun t180 => (if 1 + t180.size ≤ 9223372036854775807 then (if t179.size + ((⟨#[46]⟩ : ByteArray) ++ t180).size ≤ 9223372036854775807 then (der_Oid.l1 k3 (t179 ++ ((⟨#[46]⟩ : ByteArray) ++ t180)) 0 l0 (l0.length : Int) (wrap64 (x47_3 + 1))) else (none)) else (none)))) = some (r1, r2) := H
            have A22 := Aside0.mk A220
            clear A220
            by_cases c23 : (IntKind.u64.wrap ((ji18) - (IntKind.u64.wrap (40 * (ji21))))) > 2147483647
            · rw [if_pos c23] at H
              have c23b0 : decide (2147483647 < (IntKind.u64.wrap ((ji18) - (IntKind.u64.wrap (40 * (ji21)))))) = true := decide_eq_true c23
              clear c23
              simp only [Option.some.injEq, Prod.mk.injEq] at H
              obtain ⟨rfl, rfl⟩ := H
              have p178 : 0 ≤ (x47_3 : Int) := of_decide_eq_true (by first | (with_reducible assumption) | assumption)
              have q178 : x47_3 < (l0.length : Int) := of_decide_eq_true (by first | (with_reducible assumption) | assumption)
              obtain ⟨ad178, e178, hx178_0⟩ := Kd.at_int HR0.out x47_3 p178 q178
              cases e178
              replace hx178_0 := (HB.out.cell (World.block_lt_of_cell? w _ hx178_0)).trans hx178_0
              replace p178 := eq_true p178
              replace q178 := eq_true q178
              go_wp2_with (first | ((with_reducible refine gate_callee (f := 160) rfl ?_); refine goesL_ (some 67) rfl rfl Tryz.func160 (by kernel_rfl) rfl #[.int .i64 (wrap64 (ji21))] rfl (by (try simp only [List.map_toArray, List.map_cons, List.map_nil]); first | done | (simp only [hji21]; rfl) | rfl | (simp only [List.length_drop, List.length_take]; rfl)) ?_; (with_reducible refine (strconv_Itoa.calls (wrap64 (ji21)) t179 _ A22.out (Tb.below HHd.out (by repeat (first | (with_reducible first | exact HB.out | apply below_alloc | apply pw_below_drewN | apply below_drew1) | exact HB.out)))).mono ?_); rintro e w24 ⟨rfl, hb⟩; refine ⟨_, rfl, ?_⟩; have n0_ := Aside0.mk (below_step (by repeat (first | (with_reducible first | exact HB.out | apply below_alloc | apply pw_below_drewN | apply below_drew1) | exact HB.out)) hb); clear HB; have HB := n0_; clear n0_; (try clear hb); (try clear hb2); (try clear hk); (try clear hi)))
              go_ret2
              exact ⟨by first | rfl | (simp [errW_none, errW_some] <;> rfl) | (simp only [← hji18, ← hji21]; first | rfl | (simp [errW_none, errW_some] <;> rfl)) | (simp [*, errW_none, errW_some] <;> rfl), by repeat (first | (with_reducible first | exact HB.out | apply below_alloc | apply pw_below_drewN | apply below_drew1) | exact HB.out)⟩
            rw [if_neg c23] at H
            have c23b0 : decide (2147483647 < (IntKind.u64.wrap ((ji18) - (IntKind.u64.wrap (40 * (ji21)))))) = false := decide_eq_false c23
            clear c23
            replace H := Option.bind_eq_some_iff.mp H
            obtain ⟨t180, A250, H⟩ := H
            replace H : (if 1 + t180.size ≤ 9223372036854775807 then (if t179.size + ((⟨#[46]⟩ : ByteArray) ++ t180).size ≤ 9223372036854775807 then (der_Oid.l1 k3 (t179 ++ ((⟨#[46]⟩ : ByteArray) ++ t180)) 0 l0 (l0.length : Int) (wrap64 (x47_3 + 1))) else (none)) else (none)) = some (r1, r2) := H
            have A25 := Aside0.mk A250
            clear A250
            by_cases c26 : 1 + t180.size ≤ 9223372036854775807
            rotate_left
            · rw [if_neg c26] at H
              exact absurd H (by simp)
            rw [if_pos c26] at H
            have c26b0 := eq_true c26
            have c26b1 : decide (1 + t180.size ≤ 9223372036854775807) = true := decide_eq_true c26
            try have c26b2 : (9223372036854775807 < 1 + t180.size) = False := eq_false (Nat.not_lt.2 c26)
            by_cases c27 : t179.size + ((⟨#[46]⟩ : ByteArray) ++ t180).size ≤ 9223372036854775807
            rotate_left
            · rw [if_neg c27] at H
              exact absurd H (by simp)
            rw [if_pos c27] at H
            have c27b0 := eq_true c27
            have c27b1 : decide (t179.size + ((⟨#[46]⟩ : ByteArray) ++ t180).size ≤ 9223372036854775807) = true := decide_eq_true c27
            try have c27b2 : (9223372036854775807 < t179.size + ((⟨#[46]⟩ : ByteArray) ++ t180).size) = False := eq_false (Nat.not_lt.2 c27)
            have H' := Aside0.mk H
            clear H
            have p178 : 0 ≤ (x47_3 : Int) := of_decide_eq_true (by first | (with_reducible assumption) | assumption)
            have q178 : x47_3 < (l0.length : Int) := of_decide_eq_true (by first | (with_reducible assumption) | assumption)
            obtain ⟨ad178, e178, hx178_0⟩ := Kd.at_int HR0.out x47_3 p178 q178
            cases e178
            replace hx178_0 := (HB.out.cell (World.block_lt_of_cell? w _ hx178_0)).trans hx178_0
            replace p178 := eq_true p178
            replace q178 := eq_true q178
            go_wp2_with (first | ((with_reducible refine gate_callee (f := 160) rfl ?_); refine goesL_ (some 67) rfl rfl Tryz.func160 (by kernel_rfl) rfl #[.int .i64 (wrap64 (ji21))] rfl (by (try simp only [List.map_toArray, List.map_cons, List.map_nil]); first | done | (simp only [hji21]; rfl) | rfl | (simp only [List.length_drop, List.length_take]; rfl)) ?_; (with_reducible refine (strconv_Itoa.calls (wrap64 (ji21)) t179 _ A22.out (Tb.below HHd.out (by repeat (first | (with_reducible first | exact HB.out | apply below_alloc | apply pw_below_drewN | apply below_drew1) | exact HB.out)))).mono ?_); rintro e w28 ⟨rfl, hb⟩; refine ⟨_, rfl, ?_⟩; have n0_ := Aside0.mk (below_step (by repeat (first | (with_reducible first | exact HB.out | apply below_alloc | apply pw_below_drewN | apply below_drew1) | exact HB.out)) hb); clear HB; have HB := n0_; clear n0_; (try clear hb); (try clear hb2); (try clear hk); (try clear hi)) | ((with_reducible refine gate_callee (f := 160) rfl ?_); refine goesL_ (some 77) rfl rfl Tryz.func160 (by kernel_rfl) rfl #[.int .i64 (wrap64 (IntKind.u64.wrap ((ji18) - (IntKind.u64.wrap (40 * (ji21))))))] rfl (by (try simp only [List.map_toArray, List.map_cons, List.map_nil]); first | done | (simp only [hji18, hji21]; rfl) | rfl | (simp only [List.length_drop, List.length_take]; rfl)) ?_; (with_reducible refine (strconv_Itoa.calls (wrap64 (IntKind.u64.wrap ((ji18) - (IntKind.u64.wrap (40 * (ji21)))))) t180 _ A25.out (Tb.below HHd.out (by repeat (first | (with_reducible first | exact HB.out | apply below_alloc | apply pw_below_drewN | apply below_drew1) | exact HB.out)))).mono ?_); rintro e w29 ⟨rfl, hb⟩; refine ⟨_, rfl, ?_⟩; have n0_ := Aside0.mk (below_step (by repeat (first | (with_reducible first | exact HB.out | apply below_alloc | apply pw_below_drewN | apply below_drew1) | exact HB.out)) hb); clear HB; have HB := n0_; clear n0_; (try clear hb); (try clear hb2); (try clear hk); (try clear hi)))
            go_roundg k3
            case measure => have := HJ1.out; have := HK2.out; have := HK3.out; omega
            case rel => exact ⟨(t179 ++ ((⟨#[46]⟩ : ByteArray) ++ t180)), (0), (wrap64 (x47_3 + 1)), (by first | rfl | (simp; done) | (simp [*]; done)), (by first | rfl | (simp; done) | (simp [*]; done)), (by first | rfl | (simp; done) | (simp [*]; done)), H', ⟨by have := HJ1.out; have := HK2.out; have := HK3.out; omega⟩, ⟨by repeat (first | (with_reducible first | exact HB.out | apply below_alloc | apply pw_below_drewN | apply below_drew1) | exact HB.out)⟩⟩
end Go.Proofs.YtkioddjjfifadaaGreatDoor.P
namespace Go.Proofs.YtkioddjjfifadaaGreatDoor.P
open Go.RowKit Go.Proofs.YtkioddjjfifadaaGreatDoorW.PrintWords Go.Proofs.YtkioddjjfifadaaGreatDoorW.PrintLast Go.Proofs.YtkioddjjfifadaaGreatDoorW.PrintMore
theorem C_put {w : World} {A : Option Addr} {n : Nat} {l : List Int} {g i : Nat} {v : Value} (h : Kd.C (Kd.int .u8) w A n l) (hne : ∀ a, A = some a → a.block ≠ g) : Kd.C (Kd.int .u8) (w.setCell ⟨g, i, none⟩ v) A n l := by
  obtain ⟨h1, h2, h3⟩ := h
  refine ⟨h1, h2, fun hp => ?_⟩
  obtain ⟨ad, rfl, hc⟩ := h3 hp
  refine ⟨ad, rfl, fun j y hj => ?_⟩
  obtain ⟨c, hl, hK, hu⟩ := hc j y hj
  exact ⟨c, hl, hK, fun k u hk => (cell_far (p := ⟨g, i, none⟩) (by rw [add_block]; exact hne ad rfl) _).trans (hu k u hk)⟩
def p07 : S64 := ⟨⟨#[50, 46, 53, 46, 52, 46, 54]⟩, 19, [68, 69]⟩
def e77 : S77 := ⟨0, 16, true, [6, 3, 85, 4, 6, 19, 2, 68, 69], [48, 9, 6, 3, 85, 4, 6, 19, 2, 68, 69]⟩
def q77 : S77 := ⟨0, 6, false, [85, 4, 6], [6, 3, 85, 4, 6]⟩
def r77 : S77 := ⟨0, 19, false, [68, 69], [19, 2, 68, 69]⟩
set_option maxHeartbeats 4000000 in
set_option maxRecDepth 100000 in
theorem part_at (w : World) (A B : Option Addr) (c d : Nat) (hA : Kd.C (Kd.int .u8) w A 9 e77.f3) (hc : 9 ≤ c) (hB : Kd.C (Kd.int .u8) w B 11 e77.f4) (hd : 11 ≤ d) (hT : Tb w) :
    Calls Tryz.prog 189 #[.agg #[.int .i64 0, .int .i64 16, .bool true, .slice A 9 c, .slice B 11 d]] w fun e w' => ∃ X x, e = .returned (.tuple #[.agg #[.string p07.f0, .int .i64 19, .slice X 2 x], .nilIface]) ∧ 2 ≤ x ∧ Kd.C (Kd.int .u8) w' X 2 [68, 69] ∧ Below w.heap.size w w' := by
  have hu77 := Tryz.underlying77
  have hu64 := Tryz.underlying64
  have hin : name_inside.f 100 0 16 true e77.f3 e77.f4 16 = some ([q77, r77], 0) := by kernel_rfl
  have hoi : der_Oid.f 100 [85, 4, 6] = some (p07.f0, 0) := by kernel_rfl
  have HA := Aside0.mk hA
  have HC := Aside0.mk hB
  have HT := Aside0.mk hT
  have HI := Aside0.mk hin
  have HO := Aside0.mk hoi
  clear hA hB hT hin hoi
  go_enter Tryz.func189, Tryz.ntmps189
  go_wp2_with (first | ((with_reducible refine gate_dst (N := 1) rfl ?_); refine box_event ?hg (N := 1) ?hd (cs := #[.int .i64 0, .int .i64 16, .bool true, .slice A 9 c, .slice B 11 d]) (t := 77) ?hr ?_; (case hd => rfl); (case hg => rfl); (case hr => first | (go_simp; done) | (go_simp; rfl)); intro g1 hg w1 hbox hb; have HB1 := Aside0.mk hb; have BK1 := Aside0.mk hbox; clear hb hbox hg) | ((with_reducible refine gate_dst (N := 2) rfl ?_); refine box_event ?hg (N := 2) ?hd (cs := #[.string (⟨#[]⟩ : ByteArray), .int .i64 0, .slice none 0 0]) (t := 64) ?hr ?_; (case hd => rfl); (case hg => rfl); (case hr => first | (go_simp; done) | (go_simp; rfl)); intro g2 hg w2 hbox hb; have BK2 := Aside0.mk hbox; have BK := Aside0.mk (blk_below BK1.out hb); have HB := Aside0.mk (below_step HB1.out hb); have hc0 : w2.cell? ⟨g1, 0, none⟩ = some (.int .i64 0) := (blk_cell BK.out 0).trans rfl; have hc1 : w2.cell? ⟨g1, 1, none⟩ = some (.int .i64 16) := (blk_cell BK.out 1).trans rfl; have hc2 : w2.cell? ⟨g1, 2, none⟩ = some (.bool true) := (blk_cell BK.out 2).trans rfl; have hc3 : w2.cell? ⟨g1, 3, none⟩ = some (.slice A 9 c) := (blk_cell BK.out 3).trans rfl; have hc4 : w2.cell? ⟨g1, 4, none⟩ = some (.slice B 11 d) := (blk_cell BK.out 4).trans rfl; have GE := Aside0.mk (show w.heap.size ≤ g2 by rw [hg]; exact below_size HB1.out); clear hb hbox hg HB1 BK1))
  refine (name_inside.calls 100 0 16 true A c e77.f3 B d e77.f4 16 [q77, r77] 0 _ (Kd.C_below HA.out HB.out) hc (Kd.C_below HC.out HB.out) hd HI.out).mono ?_
  rintro e w3 ⟨v, ev_, rfl, hev_, ho, hb⟩
  obtain rfl := EV.nil_of hev_ rfl
  obtain ⟨X, x, rfl⟩ := Kd.S_slice ho
  have HS := Aside0.mk (Kd.S_reads' ho)
  have HB3 := Aside0.mk (below_step HB.out hb)
  have BK3 := Aside0.mk (blk_below BK2.out hb)
  clear HB hev_ ho hb hc0 hc1 hc2 hc3 hc4 BK BK2 HI HA HC
  obtain ⟨ad, C, cc, D, cd, rfl, hx0, hx1, hx2, hx3, hx4, l3, g3, l4, g4⟩ := at_T77 HS.out.2.2 0 (Int.le_refl _) (by decide)
  obtain ⟨ad', C', cc', D', cd', e, hy0, hy1, hy2, hy3, hy4, l3', g3', l4', g4'⟩ := at_T77 HS.out.2.2 1 (by decide) (by decide)
  obtain rfl : ad = ad' := Option.some.inj e
  rw [show (0 : Int).toNat * 5 = 0 from rfl, Addr.add_zero'] at hx0 hx1 hx2 hx3 hx4
  have hsp := World.cell?_spot hx0
  have ea : ad.add ((1 : Int).toNat * 5) = ⟨ad.block, ad.off + 5, none⟩ := by
    cases ad with
    | mk b o s =>
      simp only at hsp
      subst hsp
      rfl
  rw [ea] at hy0 hy1 hy2 hy3 hy4
  replace hx0 : w3.cell? ad = some (.int .i64 0) := hx0
  replace hx1 : w3.cell? ⟨ad.block, ad.off + 1, none⟩ = some (.int .i64 6) := hx1
  replace hx2 : w3.cell? ⟨ad.block, ad.off + 2, none⟩ = some (.bool false) := hx2
  replace hx3 : w3.cell? ⟨ad.block, ad.off + 3, none⟩ = some (.slice C 3 cc) := hx3
  replace hy0 : w3.cell? ⟨ad.block, ad.off + 5, none⟩ = some (.int .i64 0) := hy0
  replace hy1 : w3.cell? ⟨ad.block, ad.off + 5 + 1, none⟩ = some (.int .i64 19) := hy1
  replace hy2 : w3.cell? ⟨ad.block, ad.off + 5 + 2, none⟩ = some (.bool false) := hy2
  replace hy3 : w3.cell? ⟨ad.block, ad.off + 5 + 3, none⟩ = some (.slice C' 2 cc') := hy3
  have G3 := Aside0.mk g3
  have L3 := Aside0.mk l3
  have G3' := Aside0.mk g3'
  have L3' := Aside0.mk l3'
  clear g3 g4 l3 l4 g3' g4' l3' l4' hx4 hy4
  go_wp2_with fail
  go_quiet (fail)
  go_wp2_with fail
  refine (der_Oid.calls 100 C cc [85, 4, 6] p07.f0 0 _ (Kd.C_drewN G3.out _) L3.out HO.out (Tb.below HT.out (pw_below_drewN HB3.out _))).mono ?_
  rintro e w4 ⟨rfl, hb⟩
  have lt := World.block_lt_of_cell? w3 _ hx0
  have hz : ∀ o, w4.cell? ⟨ad.block, o, none⟩ = w3.cell? ⟨ad.block, o, none⟩ := fun o => hb.cell (p := ⟨ad.block, o, none⟩) lt
  replace hy1 := (hz _).trans hy1
  replace hy3 := (hz _).trans hy3
  have GC := Aside0.mk (Kd.C_below (Kd.C_drewN G3'.out _) hb)
  have BK4 := Aside0.mk (blk_below (blk_drewN BK3.out _) hb)
  have HB4 := Aside0.mk (below_step (pw_below_drewN HB3.out _) hb)
  clear hb hz lt HB3 BK3 G3 G3' hx0 hx1 hx2 hx3 hy0 hy2 HS HO HT
  have hc0 : w4.cell? ⟨g2, 0, none⟩ = some (.string (⟨#[]⟩ : ByteArray)) := (blk_cell BK4.out 0).trans rfl
  have hc1 : w4.cell? ⟨g2, 1, none⟩ = some (.int .i64 0) := (blk_cell BK4.out 1).trans rfl
  have hc2 : w4.cell? ⟨g2, 2, none⟩ = some (.slice none 0 0) := (blk_cell BK4.out 2).trans rfl
  have hf0 := blk_frozen BK4.out 0
  have hf1 := blk_frozen BK4.out 1
  have hf2 := blk_frozen BK4.out 2
  go_wp2_with fail
  go_big_region
  go_wp2_with fail
  have hne : ∀ a, C' = some a → a.block ≠ g2 := fun a ha e => by
    obtain ⟨a', he, hcell⟩ := GC.out.2.2 (by decide)
    obtain rfl : a = a' := Option.some.inj (ha.symm.trans he)
    obtain ⟨cs, _, hK, hu⟩ := hcell 0 68 rfl
    have hcs : cs = [.int .u8 68] := hK
    subst hcs
    have h1 := hu 0 _ rfl
    rw [Nat.zero_mul, Nat.zero_add, Addr.add_zero'] at h1
    have hs := World.cell?_spot h1
    cases a with
    | mk b o s =>
      simp only at hs e
      subst hs e
      rw [cell_of_row w4 b o _ _ _ BK4.out] at h1
      match o, h1 with
      | 0, h1 => exact absurd (Option.some.inj h1) (by simp)
      | 1, h1 => exact absurd (Option.some.inj h1) (by simp)
      | 2, h1 => exact absurd (Option.some.inj h1) (by simp)
      | o + 3, h1 => simp at h1
  refine bodyPost_ret (results_ct rfl _ _ g2 64 #[.string p07.f0, .int .i64 19, .slice C' 2 cc'] (0, 0) _ rfl (blk_drew (blk_put (cs := #[.string p07.f0, .int .i64 19, .slice none 0 0]) (blk_put (cs := #[.string p07.f0, .int .i64 0, .slice none 0 0]) (blk_put (cs := #[.string (⟨#[]⟩ : ByteArray), .int .i64 0, .slice none 0 0]) BK4.out 0 _ rfl) 1 _ rfl) 2 _ rfl)) Tryz.underlying64 rfl (by kernel_rfl)) rfl ?_
  exact ⟨_, _, rfl, L3'.out, Kd.C_drew (C_put (C_put (C_put GC.out hne) hne) hne), below_drew1 (below_set (below_set (below_set HB4.out GE.out) GE.out) GE.out)⟩
theorem C_row1 {α : Type} (d : Kd α) {w : World} {g : Nat} {x : α} {cs more : List Value} {t : TypeId} {fr : Nat × Nat} (hK : d.K w x cs) (hg : w.heap[g]? = some (.cells (cs ++ more).toArray t fr)) : d.C w (some ⟨g, 0, none⟩) 1 [x] := by
  refine ⟨rfl, by decide, fun _ => ⟨_, rfl, fun j y hj => ?_⟩⟩
  cases j with
  | zero =>
    obtain rfl : x = y := by simpa using hj
    refine ⟨cs, d.K_len hK, hK, fun i u hu => ?_⟩
    rw [Nat.zero_mul, Nat.zero_add, add_plain, cell_of_row w g i _ t fr hg]
    have hi := (List.getElem?_eq_some_iff.1 hu).1
    rw [List.getElem?_toArray, List.getElem?_append_left hi, hu]
  | succ j => simp at hj
theorem arr_app (a b : Array Value) : a ++ b = (a.toList ++ b.toList).toArray := by simp
theorem at_alloc (A : World) (o : Obj) (n : Nat) (hs : A.heap.size = n) : (A.alloc o).drew.heap[n]? = some o := by
  subst hs
  show (A.heap.push o)[A.heap.size]? = _
  simp
set_option maxHeartbeats 4000000 in
set_option maxRecDepth 100000 in
theorem set_at (w : World) (A B : Option Addr) (c d : Nat) (hA : Kd.C (Kd.int .u8) w A 11 e77.f4) (hc : 11 ≤ c) (hB : Kd.C (Kd.int .u8) w B 13 (49 :: 11 :: e77.f4)) (hd : 13 ≤ d) (hT : Tb w) :
    Calls Tryz.prog 142 #[.agg #[.int .i64 0, .int .i64 17, .bool true, .slice A 11 c, .slice B 13 d]] w fun e w' => ∃ X x, e = .returned (.tuple #[.slice X 1 x, .nilIface]) ∧ 1 ≤ x ∧ Kd.C k64 w' X 1 [p07] ∧ Below w.heap.size w w' := by
  have hu77 := Tryz.underlying77
  have hu64 := Tryz.underlying64
  have hin : name_inside.f 100 0 17 true e77.f4 (49 :: 11 :: e77.f4) 17 = some ([e77], 0) := by kernel_rfl
  have HA := Aside0.mk hA
  have HC := Aside0.mk hB
  have HT := Aside0.mk hT
  have HI := Aside0.mk hin
  clear hA hB hT hin
  go_enter Tryz.func142, Tryz.ntmps142
  go_wp2_with ((with_reducible refine gate_dst (N := 1) rfl ?_); refine box_event ?hg (N := 1) ?hd (cs := #[.int .i64 0, .int .i64 17, .bool true, .slice A 11 c, .slice B 13 d]) (t := 77) ?hr ?_; (case hd => rfl); (case hg => rfl); (case hr => first | (go_simp; done) | (go_simp; rfl)); intro g1 hg w1 hbox hb; have HB := Aside0.mk hb; have hc0 : w1.cell? ⟨g1, 0, none⟩ = some (.int .i64 0) := (blk_cell hbox 0).trans rfl; have hc1 : w1.cell? ⟨g1, 1, none⟩ = some (.int .i64 17) := (blk_cell hbox 1).trans rfl; have hc2 : w1.cell? ⟨g1, 2, none⟩ = some (.bool true) := (blk_cell hbox 2).trans rfl; have hc3 : w1.cell? ⟨g1, 3, none⟩ = some (.slice A 11 c) := (blk_cell hbox 3).trans rfl; have hc4 : w1.cell? ⟨g1, 4, none⟩ = some (.slice B 13 d) := (blk_cell hbox 4).trans rfl; clear hb hbox hg)
  refine (name_inside.calls 100 0 17 true A c e77.f4 B d (49 :: 11 :: e77.f4) 17 [e77] 0 _ (Kd.C_below HA.out HB.out) hc (Kd.C_below HC.out HB.out) hd HI.out).mono ?_
  rintro e w2 ⟨v, ev_, rfl, hev_, ho, hb⟩
  obtain rfl := EV.nil_of hev_ rfl
  obtain ⟨X, x, rfl⟩ := Kd.S_slice ho
  have HO := Aside0.mk (Kd.S_reads' ho)
  have HB2 := Aside0.mk (below_step HB.out hb)
  clear HB hev_ ho hb hc0 hc1 hc2 hc3 hc4 HA HC HI
  obtain ⟨ad, C, cc, D, cd, rfl, hx0, hx1, hx2, hx3, hx4, l3, g3, l4, g4⟩ := at_T77 HO.out.2.2 0 (Int.le_refl _) (by decide)
  rw [show (0 : Int).toNat * 5 = 0 from rfl, Addr.add_zero'] at hx0 hx1 hx2 hx3 hx4
  have G3 := Aside0.mk g3
  have G4 := Aside0.mk g4
  replace hx0 : w2.cell? ad = some (.int .i64 0) := hx0
  replace hx1 : w2.cell? ⟨ad.block, ad.off + 1, none⟩ = some (.int .i64 16) := hx1
  replace hx2 : w2.cell? ⟨ad.block, ad.off + 2, none⟩ = some (.bool true) := hx2
  replace hx3 : w2.cell? ⟨ad.block, ad.off + 3, none⟩ = some (.slice C 9 cc) := hx3
  replace hx4 : w2.cell? ⟨ad.block, ad.off + 4, none⟩ = some (.slice D 11 cd) := hx4
  have L3 := Aside0.mk l3
  have L4 := Aside0.mk l4
  clear g3 g4 l3 l4
  go_wp2_with fail
  refine wp_loop_rounds 2 ?_
  rw [rounds_succ]
  go_wp2_with fail
  have HB := Aside0.mk (below_alloc HB2.out (.cells #[.int .i64 0, .int .i64 16, .bool true, .slice C 9 cc, .slice D 11 cd] 77))
  refine (part_at _ C D cc cd (Kd.C_alloc G3.out _) L3.out (Kd.C_alloc G4.out _) L4.out (Tb.below HT.out HB.out)).mono ?_
  rintro e w3 ⟨E, ec, rfl, he, ho, hb⟩
  have hk := k64_mk w3 p07 he ho
  have HK := Aside0.mk hk
  have HB3 := Aside0.mk (below_step HB.out hb)
  clear HB HB2 ho hb hk hx0 hx1 hx2 hx3 hx4 HO G3 G4 HT
  have HB := HB3
  clear HB3
  go_wp2_with fail
  rw [rounds_succ]
  go_wp2_with fail
  have hb2 : Below w3.heap.size w3 _ := below_drew1 (below_alloc (below_alloc (below_alloc (Below.refl w3.heap.size w3) (.cells #[.string p07.f0, .int .i64 19, .slice E 2 ec] 64)) (.cells #[.string p07.f0, .int .i64 19, .slice E 2 ec] 64)) (.cells (#[.string p07.f0, .int .i64 19, .slice E 2 ec] ++ Builtin.zeroCells #[.string ⟨#[]⟩, .int .i64 0, .slice none 0 0] ((Question.appendCap 1 0 64).cut (w3.tape w3.drawn (Question.appendCap 1 0 64)) - 1)) 64))
  go_ret2
  exact ⟨_, _, rfl, Nat.le_add_right 1 _, C_row1 k64 (cs := [.string p07.f0, .int .i64 19, .slice E 2 ec]) (more := (Builtin.zeroCells #[.string ⟨#[]⟩, .int .i64 0, .slice none 0 0] ((Question.appendCap 1 0 64).cut (w3.tape w3.drawn (Question.appendCap 1 0 64)) - 1)).toList) (k64.K_below hb2 HK.out) ((at_alloc _ _ _ (by show ((w3.heap.push _).push _).size = _; simp)).trans (congrArg (fun z => some (Obj.cells z 64 (0, 0))) (arr_app #[.string p07.f0, .int .i64 19, .slice E 2 ec] _))), below_step HB.out hb2⟩
/-- The example's bytes. -/
def b07 : List Int := 48 :: 13 :: 49 :: 11 :: e77.f4
def s77 : S77 := ⟨0, 17, true, e77.f4, 49 :: 11 :: e77.f4⟩
def n07 : List (List S64) := [[p07]]
set_option maxHeartbeats 4000000 in
set_option maxRecDepth 100000 in
theorem read_at (w : World) (A : Option Addr) (c : Nat) (hA : Kd.C (Kd.int .u8) w A 15 b07) (hc : 15 ≤ c) (hT : Tb w) :
    Calls Tryz.prog 79 #[.slice A 15 c] w fun e w' => ∃ X x, e = .returned (.tuple #[.slice X 1 x, .nilIface]) ∧ 1 ≤ x ∧ Kd.C (Kd.slice 64 k64) w' X 1 n07 ∧ Below w.heap.size w w' := by
  have hu77 := Tryz.underlying77
  have hu64 := Tryz.underlying64
  have hone : der_One.f 100 b07 = some (0, 16, true, 49 :: 11 :: e77.f4, b07, 0) := by kernel_rfl
  have hin : name_inside.f 100 0 16 true (49 :: 11 :: e77.f4) b07 16 = some ([s77], 0) := by kernel_rfl
  have HA := Aside0.mk hA
  have HT := Aside0.mk hT
  have HI := Aside0.mk hin
  have HP := Aside0.mk hone
  clear hA hT hin hone
  go_enter Tryz.func79, Tryz.ntmps79
  go_wp2_with fail
  refine (der_One.calls 100 A c b07 0 16 true (49 :: 11 :: e77.f4) b07 0 _ HA.out hc HP.out).mono ?_
  rintro e w1 ⟨v3, v4, rfl, h3, h4, hb⟩
  obtain ⟨C, cc, rfl⟩ := Kd.V_slice h3
  obtain ⟨D, cd, rfl⟩ := Kd.V_slice h4
  have H3 := Aside0.mk (Kd.V_reads' h3)
  have H4 := Aside0.mk (Kd.V_reads' h4)
  have HB1 := Aside0.mk hb
  clear h3 h4 hb HA HP
  go_wp2_with fail
  have HB := Aside0.mk (below_alloc HB1.out (.cells #[.int .i64 0, .int .i64 16, .bool true, .slice C 13 cc, .slice D 15 cd] 77))
  refine (name_inside.calls 100 0 16 true C cc (49 :: 11 :: e77.f4) D cd b07 16 [s77] 0 _ (Kd.C_alloc H3.out.2.2 _) H3.out.2.1 (Kd.C_alloc H4.out.2.2 _) H4.out.2.1 HI.out).mono ?_
  rintro e w2 ⟨v, ev_, rfl, hev_, ho, hb⟩
  obtain rfl := EV.nil_of hev_ rfl
  obtain ⟨X, x, rfl⟩ := Kd.S_slice ho
  have HO := Aside0.mk (Kd.S_reads' ho)
  have HB2 := Aside0.mk (below_step HB.out hb)
  clear HB HB1 hev_ ho hb HI H3 H4
  obtain ⟨ad, C, cc, D, cd, rfl, hx0, hx1, hx2, hx3, hx4, l3, g3, l4, g4⟩ := at_T77 HO.out.2.2 0 (Int.le_refl _) (by decide)
  rw [show (0 : Int).toNat * 5 = 0 from rfl, Addr.add_zero'] at hx0 hx1 hx2 hx3 hx4
  have G3 := Aside0.mk g3
  have G4 := Aside0.mk g4
  replace hx0 : w2.cell? ad = some (.int .i64 0) := hx0
  replace hx1 : w2.cell? ⟨ad.block, ad.off + 1, none⟩ = some (.int .i64 17) := hx1
  replace hx2 : w2.cell? ⟨ad.block, ad.off + 2, none⟩ = some (.bool true) := hx2
  replace hx3 : w2.cell? ⟨ad.block, ad.off + 3, none⟩ = some (.slice C 11 cc) := hx3
  replace hx4 : w2.cell? ⟨ad.block, ad.off + 4, none⟩ = some (.slice D 13 cd) := hx4
  have L3 := Aside0.mk l3
  have L4 := Aside0.mk l4
  clear g3 g4 l3 l4
  go_wp2_with fail
  refine wp_loop_rounds 2 ?_
  rw [rounds_succ]
  go_wp2_with fail
  have HB := Aside0.mk (below_alloc HB2.out (.cells #[.int .i64 0, .int .i64 17, .bool true, .slice C 11 cc, .slice D 13 cd] 77))
  refine (set_at _ C D cc cd (Kd.C_alloc G3.out _) L3.out (Kd.C_alloc G4.out _) L4.out (Tb.below HT.out HB.out)).mono ?_
  rintro e w3 ⟨Y, y, rfl, hy, hC, hb⟩
  have hk := (⟨Y, y, rfl, hy, hC⟩ : (Kd.slice 64 k64).K w3 [p07] [.slice Y 1 y])
  have HK := Aside0.mk hk
  have HB3 := Aside0.mk (below_step HB.out hb)
  clear HB HB2 hb hk hy hC hx0 hx1 hx2 hx3 hx4 HO G3 G4 HT
  have HB := HB3
  clear HB3
  go_wp2_with fail
  rw [rounds_succ]
  go_wp2_with fail
  have hb2 : Below w3.heap.size w3 _ := below_drew1 (below_alloc (below_alloc (Below.refl w3.heap.size w3) (.cells #[.slice Y 1 y] 62)) (.cells (#[.slice Y 1 y] ++ Builtin.zeroCells #[.slice none 0 0] ((Question.appendCap 1 0 62).cut (w3.tape w3.drawn (Question.appendCap 1 0 62)) - 1)) 62))
  go_ret2
  exact ⟨_, _, rfl, Nat.le_add_right 1 _, C_row1 (Kd.slice 64 k64) (cs := [.slice Y 1 y]) (more := (Builtin.zeroCells #[.slice none 0 0] ((Question.appendCap 1 0 62).cut (w3.tape w3.drawn (Question.appendCap 1 0 62)) - 1)).toList) ((Kd.slice 64 k64).K_below hb2 HK.out) ((at_alloc _ _ _ (by show (w3.heap.push _).size = _; simp)).trans (congrArg (fun z => some (Obj.cells z 62 (0, 0))) (arr_app #[.slice Y 1 y] _))), below_step HB.out hb2⟩
set_option maxRecDepth 100000 in
set_option maxHeartbeats 4000000 in
theorem parse_at (w : World) (A : Option Addr) (c : Nat) (hA : Kd.C (Kd.int .u8) w A 15 b07) (hc : 15 ≤ c) (hT : Tb w) (hD : Hd w) :
    Calls Tryz.prog 35 #[.slice A 15 c] w fun e w' => ∃ X x, e = .returned (.tuple #[.slice X 1 x, .int .i64 0]) ∧ 1 ≤ x ∧ Kd.C (Kd.slice 64 k64) w' X 1 n07 ∧ Below w.heap.size w w' := by
  have HD := Aside0.mk hD
  clear hD
  go_enter Tryz.func35, Tryz.ntmps35
  go_wp2_with fail
  refine (read_at _ A c hA hc hT).mono ?_
  rintro e w1 ⟨X, x, rfl, hx, hC, hb⟩
  have HC := Aside0.mk hC
  have HB := Aside0.mk hb
  have HD1 := Aside0.mk (HD.out.below hb)
  clear hC hb HD
  go_wp2_with fail
  refine (name_number_ev EV.nil _ HD1.out).mono ?_
  rintro e w2 ⟨rfl, hb⟩
  have HC2 := Aside0.mk (Kd.C_below HC.out hb)
  have HB2 := Aside0.mk (below_step HB.out hb)
  clear hb HC HB
  go_wp2_with fail
  go_ret2
  exact ⟨_, _, rfl, hx, HC2.out, HB2.out⟩
/-- One byte string less than another, as Go's strings are held. -/
def ltL (a b : List Int) : Bool := Op.bytesLess (strOfNums a).toList (strOfNums b).toList
def bub : Nat → List (List Int) → List (List Int)
  | 0, l => l
  | k + 1, l => if ltL (l.getD (k + 1) []) (l.getD k []) = true then bub k ((l.set (k + 1) (l.getD k [])).set k (l.getD (k + 1) [])) else l
def insL (out : List (List Int)) (x : List Int) : List (List Int) := bub out.length (out ++ [x])
def sortedL (l : List (List Int)) : List (List Int) := l.foldl insL []
def chirographref07_sorted.f (l : List (List Int)) : Option (List (List Int)) := if l.length ≤ 1000000 then some (sortedL l) else none
theorem run_bytesSl {P : Program} {w : World} {A : Option Addr} {n c : Nat} {xs : List Int} (h : (Kd.int .u8).C w A n xs) : (Extern.Bytes.bytesOf (.slice A n c)).run P w = .ok ⟨(Lib.bytesOf xs).toArray⟩ w := by
  have hn : xs.length = n := h.1
  cases A with
  | none =>
    have : xs = [] := by
      rcases Nat.eq_zero_or_pos n with h0 | h0
      · exact List.eq_nil_of_length_eq_zero (hn.trans h0)
      obtain ⟨ad, e, _⟩ := h.2.2 h0
      cases e
    subst this
    rfl
  | some a =>
    have hr := Kd.reads_of_C (d := (0 : Int)) h
    have hl := Lib.run_loadBytesX (P := P) w xs a .empty (fun j x hj => by
      have hjl : j < xs.length := (List.getElem?_eq_some_iff.1 hj).1
      obtain ⟨ad, e, hc⟩ := hr.2.2 (by omega)
      cases e
      have h2 := hc j (by omega)
      rw [List.getD_eq_getElem?_getD, hj] at h2
      exact h2)
    rw [hn] at hl
    have he : (⟨ByteArray.empty.data ++ (Lib.bytesOf xs).toArray⟩ : ByteArray) = ⟨(Lib.bytesOf xs).toArray⟩ := by
      apply ByteArray.ext
      show (#[] : Array UInt8) ++ (Lib.bytesOf xs).toArray = (Lib.bytesOf xs).toArray
      simp
    rw [he] at hl
    exact hl
theorem run_compareSl {P : Program} {w : World} {A B : Option Addr} {n c m d : Nat} {xs ys : List Int} (h : (Kd.int .u8).C w A n xs) (h2 : (Kd.int .u8).C w B m ys) :
    (Extern.BytealgCompare.compare #[.slice A n c, .slice B m d]).run P w = .ok (.int .i64 (Lib.compareBytes (Lib.bytesOf xs) (Lib.bytesOf ys))) w := by
  change Sem.run P (do pure (goInt (Extern.BytealgCompare.cmp (← Extern.Bytes.bytesOf (.slice A n c)) (← Extern.Bytes.bytesOf (.slice B m d))))) w = _
  simp only [Sem.run_bind, run_bytesSl h, run_bytesSl h2, Sem.run_pure, Result.andThen]
  rw [Lib.cmp_eq]
  rfl
theorem bytes_Compare_calls (A B : Option Addr) (n c m d : Nat) (xs ys : List Int) (w : World) (h : (Kd.int .u8).C w A n xs) (h2 : (Kd.int .u8).C w B m ys) :
    Calls Tryz.prog 151 #[.slice A n c, .slice B m d] w fun e w' => e = .returned (.int .i64 (Lib.compareBytes (Lib.bytesOf xs) (Lib.bytesOf ys))) ∧ w' = w := by
  have h8 := @run_callFunc_extern Tryz.prog 202 _ Extern.BytealgCompare.compare Tryz.func202 (by kernel_rfl) (by kernel_rfl) (by kernel_rfl) (by kernel_rfl)
  have hr := run_compareSl (P := Tryz.prog) (c := c) (d := d) h h2
  clear h h2
  generalize Lib.compareBytes (Lib.bytesOf xs) (Lib.bytesOf ys) = R at *
  go_enter Tryz.func151, Tryz.ntmps151
  go_wp2
  go_ret
  exact ⟨rfl, rfl⟩
theorem long_calls (A : Option Addr) (n c : Nat) (w : World) : Calls Tryz.prog 148 #[.slice A n c] w fun e w' => e = .returned (.bool (decide (64 < (n : Int)))) ∧ w' = w := by
  go_enter Tryz.func148, Tryz.ntmps148
  go_wp2
  go_ret
  exact ⟨rfl, rfl⟩
def longL (l : List (List S64)) : Bool := l.any fun s => decide (64 < (s.length : Int))
def IdxPost (l : List (List S64)) (w : World) (e : Ending) (w' : World) : Prop := ∃ i : Int, e = .returned (.int .i64 i) ∧ decide (0 ≤ i) = longL l ∧ w' = w
theorem longL_take (l : List (List S64)) (j : Nat) (hj : j < l.length) : longL (l.take (j + 1)) = (longL (l.take j) || decide (64 < ((rd_L5 l (j : Int)).length : Int))) := by
  unfold longL
  rw [List.take_succ_eq_append_getElem hj, List.any_append]
  congr 1
  simp only [List.any_cons, List.any_nil, Bool.or_false]
  have : rd_L5 l (j : Int) = l[j] := by
    show l.getD (j : Int).toNat [] = l[j]
    rw [Int.toNat_natCast, List.getD_eq_getElem?_getD, List.getElem?_eq_getElem hj]; rfl
  rw [this]
set_option maxRecDepth 100000 in
set_option maxHeartbeats 4000000 in
theorem index_long (A0 : Option Addr) (c0 : Nat) (l0 : List (List S64)) (w : World) (hr0 : Kd.C (Kd.slice 64 k64) w A0 l0.length l0) (hl : l0.length < 4611686018427387904) :
    Calls Tryz.prog 198 #[.slice A0 l0.length c0, .func (.func 148) #[] #[]] w (IdxPost l0 w) := by
  have HR0 := Aside0.mk hr0
  have HL := Aside0.mk hl
  clear hr0 hl
  go_enter Tryz.func198, Tryz.ntmps198
  go_wp2
  go_loopg [8] (l0.length + 1) (fun kq v8 w' => ∃ (j : Nat), v8 = .int .i64 (j : Int) ∧ Aside0 (j ≤ l0.length ∧ l0.length < kq + j) ∧ Aside0 (longL (l0.take j) = false) ∧ w' = w)
  case atStart => exact ⟨0, rfl, ⟨⟨Nat.zero_le _, by omega⟩⟩, ⟨rfl⟩, rfl⟩
  case round =>
    obtain ⟨j, rfl, HJ, HF, rfl⟩ := hrel
    cases gk with
    | zero => exact absurd HJ.out (by omega)
    | succ g1 =>
      by_cases hj : j < l0.length
      rotate_left
      · have c1 : decide ((j : Int) < (l0.length : Int)) = false := decide_eq_false (by omega)
        go_wp2
        go_ret
        refine ⟨_, rfl, ?_, rfl⟩
        have := HF.out
        rw [List.take_of_length_le (by omega)] at this
        rw [this]
        rfl
      have c1 : decide ((j : Int) < (l0.length : Int)) = true := decide_eq_true (by omega)
      have p1 : ((0 : Int) ≤ (j : Int)) = True := eq_true (by omega)
      have q1 : ((j : Int) < (l0.length : Int)) = True := eq_true (by omega)
      obtain ⟨ad, A1, c1', rfl, hx, hl1, hC1⟩ := at_L5 HR0.out (j : Int) (by omega) (by omega)
      rw [Int.toNat_natCast] at hx
      have HS := Aside0.mk (longL_take l0 j hj)
      have hw3 : wrap64 ((j : Int) + 1) = ((j + 1 : Nat) : Int) := by unfold wrap64; have := HL.out; omega
      clear hl1 hC1
      obtain ⟨n1, hn1⟩ : ∃ n1, (rd_L5 l0 (j : Int)).length = n1 := ⟨_, rfl⟩
      rw [hn1] at hx
      have HN := Aside0.mk hn1
      clear hn1
      by_cases hb : 64 < (n1 : Int)
      rotate_left
      · have hd : decide (64 < (n1 : Int)) = false := decide_eq_false hb
        have HB : Aside0 (longL (l0.take (j + 1)) = false) := ⟨by rw [HS.out, HF.out, HN.out, hd]; rfl⟩
        have ARM : ∀ W : World, Calls Tryz.prog 148 #[.slice A1 n1 c1'] W fun e w' => e = .returned (.bool false) ∧ w' = W := fun W => hd ▸ long_calls A1 n1 c1' W
        clear hd hb
        go_wp2_with ((with_reducible refine (ARM _).mono ?_); rintro e w4 ⟨rfl, rfl⟩)
        go_roundg g1
        case measure => exact Nat.lt_succ_self _
        case rel => exact ⟨j + 1, congrArg (Value.int .i64) hw3, ⟨by have := HJ.out; omega⟩, HB, rfl⟩
      have hd : decide (64 < (n1 : Int)) = true := decide_eq_true hb
      have HB : Aside0 (longL (l0.take (j + 1)) = true) := ⟨by rw [HS.out, HF.out, HN.out, hd]; rfl⟩
      have ARM : ∀ W : World, Calls Tryz.prog 148 #[.slice A1 n1 c1'] W fun e w' => e = .returned (.bool true) ∧ w' = W := fun W => hd ▸ long_calls A1 n1 c1' W
      clear hd hb
      go_wp2_with ((with_reducible refine (ARM _).mono ?_); rintro e w4 ⟨rfl, rfl⟩)
      go_ret
      refine ⟨_, rfl, ?_, rfl⟩
      have h1 : longL l0 = true := by
        have := HB.out
        unfold longL at this ⊢
        rw [List.any_eq_true] at this ⊢
        obtain ⟨x, hx, hp⟩ := this
        exact ⟨x, List.mem_of_mem_take hx, hp⟩
      rw [h1]
      exact decide_eq_true (by omega)
def slices_ContainsFunc.f (l : List (List S64)) : Option Bool := if l.length < 4611686018427387904 then some (longL l) else none
theorem contains_long (A0 : Option Addr) (c0 : Nat) (l0 : List (List S64)) (r : Bool) (w : World) (hr0 : Kd.C (Kd.slice 64 k64) w A0 l0.length l0) (h : slices_ContainsFunc.f l0 = some r) :
    Calls Tryz.prog 147 #[.slice A0 l0.length c0, .func (.func 148) #[] #[]] w fun e w' => e = .returned (.bool r) ∧ w' = w := by
  unfold slices_ContainsFunc.f at h
  split at h
  case isFalse => cases h
  case isTrue hl =>
  have HR := Aside0.mk (Option.some.inj h)
  have HC := Aside0.mk hr0
  have HL := Aside0.mk hl
  clear h hl hr0
  go_enter Tryz.func147, Tryz.ntmps147
  go_wp2_with fail
  refine (index_long A0 c0 l0 _ HC.out HL.out).mono ?_
  rintro e w4 ⟨i, rfl, hi, rfl⟩
  rw [HR.out] at hi
  go_wp2_with fail
  go_ret
  exact ⟨by first | rfl | (rw [hi]), rfl⟩
end Go.Proofs.YtkioddjjfifadaaGreatDoor.P
namespace Go.Proofs.YtkioddjjfifadaaGreatDoor.P
open Go.RowKit Go.Proofs.YtkioddjjfifadaaGreatDoorW.PrintWords
def un (y : List Int) : List UInt8 := (strOfNums y).data.toList
theorem ltL_un (a b : List Int) : ltL a b = decide (un a < un b) := by
  unfold ltL un
  rw [bytesLess_eq, Lib.toList_data, Lib.toList_data]
/-- Insert from the right. -/
def insR : List (List Int) → List Int → List (List Int)
  | [], x => [x]
  | a :: A, x => if ltL x a = true then insR A x ++ [a] else A.reverse ++ [a, x]
theorem getD_mid {α : Type} (A B : List α) (x d : α) (k : Nat) (h : k = A.length) : (A ++ x :: B).getD k d = x := by
  subst h
  rw [List.getD_eq_getElem?_getD, List.getElem?_append_right (Nat.le_refl _), Nat.sub_self]
  rfl
theorem set_mid {α : Type} (A B : List α) (x y : α) (k : Nat) (h : k = A.length) : (A ++ x :: B).set k y = A ++ y :: B := by
  subst h
  rw [List.set_append_right _ _ (Nat.le_refl _), Nat.sub_self]
  rfl
theorem bub_insR : ∀ (A : List (List Int)) (x : List Int) (B : List (List Int)), bub A.length (A.reverse ++ x :: B) = insR A x ++ B
  | [], x, B => rfl
  | a :: A, x, B => by
    have e1 : ((a :: A).reverse ++ x :: B).getD (A.length + 1) [] = x := getD_mid _ _ _ _ _ (by simp)
    have e2 : ((a :: A).reverse ++ x :: B).getD A.length [] = a := by
      rw [List.reverse_cons, List.append_assoc]
      exact getD_mid _ _ _ _ _ (by simp)
    have e3 : (((a :: A).reverse ++ x :: B).set (A.length + 1) a).set A.length x = A.reverse ++ x :: (a :: B) := by
      rw [set_mid _ _ _ _ _ (by simp), List.reverse_cons, List.append_assoc]
      exact set_mid _ _ _ _ _ (by simp)
    show bub (A.length + 1) _ = _
    rw [bub, e1, e2, e3]
    unfold insR
    by_cases h : ltL x a = true
    · rw [if_pos h, if_pos h, bub_insR A x (a :: B), List.append_assoc]
      rfl
    · rw [if_neg h, if_neg h, List.reverse_cons, List.append_assoc, List.append_assoc]
      rfl
theorem insL_insR (out : List (List Int)) (x : List Int) : insL out x = insR out.reverse x := by
  have := bub_insR out.reverse x []
  rw [List.length_reverse, List.reverse_reverse, List.append_nil] at this
  exact this
abbrev leU (a b : List Int) : Prop := un a ≤ un b
theorem insR_perm : ∀ (A : List (List Int)) (x : List Int), (insR A x).Perm (x :: A)
  | [], x => List.Perm.refl _
  | a :: A, x => by
    unfold insR
    split
    · refine (List.perm_append_comm).trans ?_
      exact ((insR_perm A x).cons a).trans (List.Perm.swap x a A)
    · have h1 : (A.reverse ++ [a, x]).Perm ([a, x] ++ A.reverse) := List.perm_append_comm
      refine h1.trans ?_
      refine (List.Perm.swap x a _).trans ?_
      exact ((List.reverse_perm A).cons a).cons x
theorem insR_sorted : ∀ (A : List (List Int)) (x : List Int), A.reverse.Pairwise leU → (insR A x).Pairwise leU
  | [], x, _ => List.pairwise_singleton _ _
  | a :: A, x, h => by
    rw [List.reverse_cons, List.pairwise_append] at h
    obtain ⟨h1, _, h3⟩ := h
    have h3' : ∀ u ∈ A.reverse, leU u a := fun u hu => h3 u hu a (List.mem_singleton.2 rfl)
    unfold insR
    split
    · rename_i hlt
      rw [ltL_un, decide_eq_true_eq] at hlt
      rw [List.pairwise_append]
      refine ⟨insR_sorted A x h1, List.pairwise_singleton _ _, fun u hu v hv => ?_⟩
      rw [List.mem_singleton.1 hv]
      have hm := (insR_perm A x).mem_iff.1 hu
      rcases List.mem_cons.1 hm with rfl | hm
      · exact List.le_of_lt hlt
      · exact h3' u (List.mem_reverse.2 hm)
    · rename_i hlt
      rw [ltL_un, decide_eq_true_eq, List.not_lt] at hlt
      rw [List.pairwise_append]
      refine ⟨h1, ?_, fun u hu v hv => ?_⟩
      · rw [List.pairwise_cons]
        exact ⟨fun v hv => by rw [List.mem_singleton.1 hv]; exact hlt, List.pairwise_singleton _ _⟩
      · rcases List.mem_cons.1 hv with rfl | hv
        · exact h3' u hu
        · rw [List.mem_singleton.1 hv]
          exact List.le_trans (h3' u hu) hlt
theorem foldl_ins (l : List (List Int)) : ∀ (out : List (List Int)), out.Pairwise leU → (l.foldl insL out).Pairwise leU ∧ (l.foldl insL out).Perm (out ++ l) := by
  induction l with
  | nil => intro out h; exact ⟨h, by rw [List.append_nil]; exact List.Perm.refl _⟩
  | cons x l ih =>
    intro out h
    have hs : (insL out x).Pairwise leU := by rw [insL_insR]; exact insR_sorted _ _ (by rw [List.reverse_reverse]; exact h)
    obtain ⟨h1, h2⟩ := ih (insL out x) hs
    refine ⟨h1, h2.trans ?_⟩
    have hp : (insL out x).Perm (x :: out) := by rw [insL_insR]; exact (insR_perm _ _).trans ((List.reverse_perm out).cons x)
    refine (hp.append_right l).trans ?_
    exact (List.perm_middle).symm
end Go.Proofs.YtkioddjjfifadaaGreatDoor.P
namespace Go.Proofs
open Go.Shelf
def Tryz.laysSF_ren : Go.Shelf.Ren := ⟨fun | 6 => 150 | 15 => 201 | 14 => 200 | 28 => 247 | 29 => 248 | 20 => 239 | 21 => 240 | 22 => 241 | 23 => 242 | 24 => 243 | 25 => 244 | 26 => 245 | 27 => 246 | 46 => 280 | 47 => 281 | 48 => 282 | 49 => 283 | 50 => 284 | 57 => 303 | n => n, fun | 22 => 67 | 24 => 22 | 25 => 241 | 3 => 3 | 39 => 245 | 0 => 0 | 53 => 323 | 55 => 278 | 4 => 4 | 46 => 355 | 45 => 354 | 50 => 359 | 5 => 5 | 9 => 9 | 66 => 398 | 70 => 402 | 76 => 416 | 77 => 195 | n => n, fun | n => n⟩
theorem Tryz.laysSF : Go.Proofs.SlLaysF.n6 Tryz.prog Tryz.laysSF_ren := {
  mixed := by kernel_rfl
  f6 := ⟨Tryz.f150.name, by decide, Tryz.func150.trans (congrArg some (by kernel_rfl))⟩
  f14 := ⟨Tryz.f200.name, by decide, Tryz.func200.trans (congrArg some (by kernel_rfl))⟩
  f15 := Tryz.func201.trans (congrArg some (by kernel_rfl))
  f20 := ⟨Tryz.f239.name, by decide, Tryz.func239.trans (congrArg some (by kernel_rfl))⟩
  f21 := ⟨Tryz.f240.name, by decide, Tryz.func240.trans (congrArg some (by kernel_rfl))⟩
  f22 := ⟨Tryz.f241.name, by decide, Tryz.func241.trans (congrArg some (by kernel_rfl))⟩
  f23 := ⟨Tryz.f242.name, by decide, Tryz.func242.trans (congrArg some (by kernel_rfl))⟩
  f24 := ⟨Tryz.f243.name, by decide, Tryz.func243.trans (congrArg some (by kernel_rfl))⟩
  f25 := ⟨Tryz.f244.name, by decide, Tryz.func244.trans (congrArg some (by kernel_rfl))⟩
  f26 := ⟨Tryz.f245.name, by decide, Tryz.func245.trans (congrArg some (by kernel_rfl))⟩
  f27 := ⟨Tryz.f246.name, by decide, Tryz.func246.trans (congrArg some (by kernel_rfl))⟩
  f28 := Tryz.func247.trans (congrArg some (by kernel_rfl))
  f29 := Tryz.func248.trans (congrArg some (by kernel_rfl))
  f46 := ⟨Tryz.f280.name, by decide, Tryz.func280.trans (congrArg some (by kernel_rfl))⟩
  f47 := Tryz.func281.trans (congrArg some (by kernel_rfl))
  f48 := Tryz.func282.trans (congrArg some (by kernel_rfl))
  f49 := ⟨Tryz.f283.name, by decide, Tryz.func283.trans (congrArg some (by kernel_rfl))⟩
  f50 := ⟨Tryz.f284.name, by decide, Tryz.func284.trans (congrArg some (by kernel_rfl))⟩
  f57 := ⟨Tryz.f303.name, by decide, Tryz.func303.trans (congrArg some (by kernel_rfl))⟩
  t0 := Tryz.underlying0
  a0 := Tryz.isAgg0
  z0 := Tryz.sizeOf0
  v0 := Tryz.zeroValue0
  t3 := Tryz.underlying3
  a3 := Tryz.isAgg3
  z3 := Tryz.sizeOf3
  v3 := Tryz.zeroValue3
  t4 := Tryz.underlying4
  a4 := Tryz.isAgg4
  z4 := Tryz.sizeOf4
  v4 := Tryz.zeroValue4
  t5 := Tryz.underlying5
  a5 := Tryz.isAgg5
  z5 := Tryz.sizeOf5
  v5 := Tryz.zeroValue5
  t9 := Tryz.underlying9
  a9 := Tryz.isAgg9
  z9 := Tryz.sizeOf9
  v9 := Tryz.zeroValue9
  t22 := Tryz.underlying67
  a22 := Tryz.isAgg67
  z22 := Tryz.sizeOf67
  v22 := Tryz.zeroValue67
  a24 := Tryz.isAgg22
  z24 := Tryz.sizeOf22
  t25 := Tryz.underlying241
  a25 := Tryz.isAgg241
  z25 := Tryz.sizeOf241
  v25 := Tryz.zeroValue241
  t39 := Tryz.underlying245
  a39 := Tryz.isAgg245
  z39 := Tryz.sizeOf245
  v39 := Tryz.zeroValue245
  t45 := Tryz.underlying354
  a45 := Tryz.isAgg354
  z45 := Tryz.sizeOf354
  v45 := Tryz.zeroValue354
  t46 := Tryz.underlying355
  a46 := Tryz.isAgg355
  z46 := Tryz.sizeOf355
  v46 := Tryz.zeroValue355
  t50 := Tryz.underlying359
  a50 := Tryz.isAgg359
  z50 := Tryz.sizeOf359
  v50 := Tryz.zeroValue359
  t53 := Tryz.underlying323
  a53 := Tryz.isAgg323
  z53 := Tryz.sizeOf323
  v53 := Tryz.zeroValue323
  t55 := Tryz.underlying278
  a55 := Tryz.isAgg278
  z55 := Tryz.sizeOf278
  v55 := Tryz.zeroValue278
  t66 := Tryz.underlying398
  a66 := Tryz.isAgg398
  z66 := Tryz.sizeOf398
  v66 := Tryz.zeroValue398
  t70 := Tryz.underlying402
  a70 := Tryz.isAgg402
  z70 := Tryz.sizeOf402
  v70 := Tryz.zeroValue402
  t76 := Tryz.underlying416
  a76 := Tryz.isAgg416
  z76 := Tryz.sizeOf416
  v76 := Tryz.zeroValue416
  t77 := Tryz.underlying195
  a77 := Tryz.isAgg195
  z77 := Tryz.sizeOf195
  v77 := Tryz.zeroValue195 }
end Go.Proofs
namespace Go.Proofs.YtkioddjjfifadaaGreatDoor.P
open Go.RowKit Go.Sort Go.Lib Go.Proofs.YtkioddjjfifadaaGreatDoorW.PrintWords Go.Proofs.YtkioddjjfifadaaGreatDoorW.PrintLast Go.Proofs.YtkioddjjfifadaaGreatDoorW.PrintMore
theorem cmp_lt : ∀ a b : List UInt8, decide (Lib.compareBytes a b < 0) = decide (a < b)
  | [], [] => by simp [Lib.compareBytes]
  | [], _ :: _ => by simp [Lib.compareBytes]
  | _ :: _, [] => by simp [Lib.compareBytes]
  | a :: as_, b :: bs => by
    have ih := cmp_lt as_ bs
    unfold Lib.compareBytes
    by_cases h1 : a < b
    · rw [if_pos h1]
      simp [List.cons_lt_cons_iff, h1]
    · rw [if_neg h1]
      by_cases h2 : b < a
      · rw [if_pos h2]
        have : a ≠ b := fun e => by subst e; exact UInt8.lt_irrefl _ h2
        simp [List.cons_lt_cons_iff, h1, this]
      · rw [if_neg h2]
        have : a = b := UInt8.le_antisymm (UInt8.not_lt.1 h2) (UInt8.not_lt.1 h1)
        rw [ih]
        simp [List.cons_lt_cons_iff, h1, this]
abbrev byteOk (y : List Int) : Bool := y.all isByte
theorem un_inj : ∀ {a b : List Int}, byteOk a = true → byteOk b = true → un a = un b → a = b := by
  intro a b ha hb h
  have key : ∀ y : List Int, byteOk y = true → (un y).map (fun (c : UInt8) => (c.toNat : Int)) = y := by
    intro y hy
    unfold un strOfNums
    simp only [List.map_map]
    refine (List.map_congr_left (g := id) fun x hx => ?_).trans (List.map_id _)
    have := List.all_eq_true.1 hy x hx
    simp only [isByte, Bool.and_eq_true, decide_eq_true_eq] at this
    show ((UInt8.ofNat x.toNat).toNat : Int) = x
    rw [UInt8.toNat_ofNat']
    omega
  rw [← key a ha, ← key b hb, h]
theorem sortedL_perm (xs : List (List Int)) : (sortedL xs).Pairwise leU ∧ (sortedL xs).Perm xs := by
  have := foldl_ins xs [] List.Pairwise.nil
  rwa [List.nil_append] at this
/-- What is sorted is sortedL. -/
theorem sortedL_only {xs ys : List (List Int)} (hb : ∀ y ∈ xs, byteOk y = true) (hp : ys.Perm xs) (hs : ys.Pairwise leU) : ys = sortedL xs := by
  obtain ⟨h1, h2⟩ := sortedL_perm xs
  refine List.Perm.eq_of_pairwise (le := leU) (fun a b ha hb' h3 h4 => ?_) hs h1 (hp.trans h2.symm)
  exact un_inj (hb a (hp.mem_iff.1 ha)) (hb b (h2.mem_iff.1 hb')) (List.le_antisymm h3 h4)
def slices_SortFunc.f (xs : List (List Int)) : Option (List (List Int)) := if (xs.all byteOk = true ∧ xs.length ≤ 1000000) then some (sortedL xs) else none
theorem swo_cmp {n : Nat} (X : Fin n → List Int) : Go.Sort.SWO (ltOf fun i j => Lib.compareBytes (un (X i)) (un (X j))) where
  irrefl x := by unfold ltOf; rw [cmp_lt]; simp
  trans x y z h1 h2 := by
    unfold ltOf at *
    rw [cmp_lt, decide_eq_true_eq] at *
    exact List.lt_trans h1 h2
  ntrans x y z h1 h2 := by
    unfold ltOf at *
    rw [cmp_lt, decide_eq_false_iff_not, List.not_lt] at *
    exact List.le_trans h2 h1
theorem slices_ContainsFunc.calls (A0 : Option Addr) (c0 : Nat) (l0 : List (List S64)) (r : Bool) (w : World) (hr0 : Kd.C (Kd.slice 64 k64) w A0 l0.length l0) (hc0 : l0.length ≤ c0) (h : slices_ContainsFunc.f l0 = some r) :
    Calls Tryz.prog 147 #[.slice A0 l0.length c0, .func (.func 148) #[] #[]] w fun e w' => e = .returned (.bool r) ∧ Below w.heap.size w w' :=
  (contains_long A0 c0 l0 r w hr0 h).mono fun e w' ⟨h1, h2⟩ => ⟨h1, h2 ▸ Below.refl _ _⟩
theorem grownBy_sortW {α : Type} [Inhabited α] (enc : α → Value) {w : World} {g n : Nat} {os : Array Obj} (d : Array α) : w.grownBy (sortWorld enc w g 0 n d os) (some g) := by
  refine ⟨rfl, rfl, rfl, ?_, fun k hk hne => ?_⟩
  · show w.heap.size ≤ ((Go.Sort.putRow enc (Go.Sort.ahead w n) g 0 d).heap ++ os).size
    rw [Array.size_append, Go.Sort.size_putRow]
    exact Nat.le_add_right _ _
  show ((Go.Sort.putRow enc (Go.Sort.ahead w n) g 0 d).heap ++ os)[k]? = _
  rw [Array.getElem?_append_left (by rw [Go.Sort.size_putRow]; exact hk)]
  show (w.heap.modify g _)[k]? = _
  rw [Array.getElem?_modify, if_neg (fun e => hne (by rw [e]))]
theorem ex_all {α : Type} (d : Array α) {n : Nat} (h : d.size = n) : (d.extract 0 n).toList = d.toList := by subst h; simp
theorem sortfunc_own (w0 : World) (v : Value) (xs r : List (List Int)) (ok : Nat → Prop) (w : World) (hR : (Kd.slice 5 (Kd.int .u8)).R 22 w w0.heap.size ok v xs) (h0 : Below w0.heap.size w0 w) (h : slices_SortFunc.f xs = some r) :
    Calls Tryz.prog 150 #[v, .func (.func 151) #[] #[]] w fun e w' => e = .returned (.tuple #[]) ∧ (Kd.slice 5 (Kd.int .u8)).R 22 w' w0.heap.size ok v r ∧ w.grownBy w' v.ownBlock ∧ Below w0.heap.size w0 w' := by
  unfold slices_SortFunc.f at h
  split at h
  case isFalse => cases h
  case isTrue hl =>
  obtain rfl := Option.some.inj h
  have hbk : ∀ y ∈ xs, byteOk y = true := List.all_eq_true.1 hl.1
  obtain ⟨hok, inner, ho, hrep⟩ := hR
  have hz1 : (Kd.slice 5 (Kd.int IntKind.u8)).sz = 1 := rfl
  rcases ho.2 with ⟨rfl, hn⟩ | ⟨g, cap, cur, rfl, hg, hh, hnc, hcm, hsz, htk⟩
  · have hx : xs = [] := List.eq_nil_of_length_eq_zero hn
    subst hx
    refine (AnyF.slices_SortFunc_none (P := Tryz.prog) (ρ := Tryz.laysSF_ren) { Tryz.laysSF with } none 0 (.func (.func 151) #[] #[]) w).mono ?_
    rintro e w' ⟨rfl, rfl⟩
    exact ⟨rfl, ⟨hok, inner, ho, hrep⟩, ⟨rfl, rfl, rfl, Nat.le_refl _, fun _ _ _ => rfl⟩, h0⟩
  have hlt : g < w.heap.size := blk_lt hh
  rw [hz1] at htk
  rcases Nat.eq_zero_or_pos xs.length with hz | hpos
  · have hx : xs = [] := List.eq_nil_of_length_eq_zero hz
    subst hx
    refine (AnyF.slices_SortFunc_none (P := Tryz.prog) (ρ := Tryz.laysSF_ren) { Tryz.laysSF with } (some ⟨g, 0, none⟩) cap (.func (.func 151) #[] #[]) w).mono ?_
    rintro e w' ⟨rfl, rfl⟩
    exact ⟨rfl, ⟨hok, inner, ho, hrep⟩, ⟨rfl, rfl, rfl, Nat.le_refl _, fun _ _ _ => rfl⟩, h0⟩
  haveI : Inhabited (Fin xs.length) := ⟨⟨0, hpos⟩⟩
  have hil : inner.length = xs.length := by have := ho.1; rw [hz1] at this; omega
  let enc : Fin xs.length → Value := fun i => inner.getD i.val undef
  let X : Fin xs.length → List Int := fun i => xs.getD i.val []
  have hM : ∀ i : Fin xs.length, ∃ A c, enc i = .slice A (X i).length c ∧ (Kd.int .u8).R 5 w w0.heap.size (fun k => ok k ∧ k ≠ g) (enc i) (X i) := fun i => by
    have hxi : xs[i.val]? = some (X i) := by
      show _ = some (xs.getD i.val [])
      rw [List.getD_eq_getElem?_getD, List.getElem?_eq_getElem i.isLt]; rfl
    obtain ⟨vi, hvi, hRi⟩ := hrep.2 i.val _ hxi
    have hv : vi = enc i := by
      have h1 : ((inner.drop (i.val * 1)).take 1) = [vi] := hvi
      rw [Nat.mul_one, List.drop_eq_getElem_cons (by omega)] at h1
      have h2 := congrArg List.head? h1
      rw [List.take_succ_cons] at h2
      have h3 : inner[i.val] = vi := Option.some.inj h2
      show vi = inner.getD i.val undef
      rw [List.getD_eq_getElem?_getD, List.getElem?_eq_getElem (by omega), ← h3]; rfl
    rw [hv] at hRi
    obtain ⟨A, c, hA⟩ := Kd.R_slice hRi
    exact ⟨A, c, hA, Kd.R_mono hRi (fun k hk => ⟨hk.1, fun e => hk.2 (by rw [e]; rfl)⟩)⟩
  have h1 : OneCell enc := fun i => by
    obtain ⟨A, c, hA, _⟩ := hM i
    rw [hA]; rfl
  let d : Array (Fin xs.length) := Array.ofFn id
  have hdz : d.size = xs.length := by simp [d]
  have hdj : ∀ j (hj : j < xs.length), d[j]! = ⟨j, hj⟩ := fun j hj => by
    rw [getElem!_pos d j (by omega)]
    simp [d]
  have hH : Go.Sort.Holds enc w g 0 d := fun j hj => by
    have hj' : j < xs.length := by omega
    refine ⟨?_, blk_frozen hh _⟩
    rw [Nat.zero_add, hdj j hj']
    refine (blk_cell hh j).trans ?_
    have h2 : (cur.toList.take (xs.length * 1))[j]? = inner[j]? := by rw [htk]
    rw [List.getElem?_take_of_lt (by omega)] at h2
    rw [← Array.getElem?_toList, h2]
    show _ = some (inner.getD j undef)
    rw [List.getD_eq_getElem?_getD, List.getElem?_eq_getElem (by omega)]; rfl
  have eg : ∀ args w, (callFunc 151 args).run Tryz.prog w = .ok (.enter 151 args) w := enters_of Tryz.func151 (by kernel_rfl) rfl
  have hcmp : CmpLays1 Tryz.prog 151 #[] enc (fun i j => Lib.compareBytes (un (X i)) (un (X j))) g 0 d.size w := fun m os dk hs x y => by
    obtain ⟨A, c, hA, hRA⟩ := hM x
    obtain ⟨B, c2, hB, hRB⟩ := hM y
    have gx := Kd.R_grown hRA (grownBy_sortW enc (g := g) (n := m) (os := os) dk) (fun k hk e => hk.2 (by injection e))
    have gy := Kd.R_grown hRB (grownBy_sortW enc (g := g) (n := m) (os := os) dk) (fun k hk e => hk.2 (by injection e))
    rw [hA] at gx
    rw [hB] at gy
    show Calls Tryz.prog 151 #[enc x, enc y] _ _
    rw [hA, hB]
    refine (bytes_Compare_calls A B (X x).length c (X y).length c2 (X x) (X y) _ (Kd.R_reads' gx).2.2 (Kd.R_reads' gy).2.2).mono ?_
    rintro e w' ⟨rfl, rfl⟩
    exact ⟨rfl, 0, #[], by rw [Go.Sort.grow_empty]; rfl⟩
  have hsort := Any.slices_SortFunc Tryz.laysSF enc h1 (fun i j => Lib.compareBytes (un (X i)) (un (X j))) (swo_cmp X) 151 #[] g 0 cap d w eg hcmp hH hlt (by omega)
  rw [hdz] at hsort
  refine Calls.mono hsort ?_
  rintro e w' ⟨rfl, d', n, os, hp, hs, rfl⟩
  have hgr := grownBy_sortW enc (w := w) (g := g) (n := n) (os := os) d'
  have hd'z : d'.size = xs.length := by rw [hp.1, hdz]
  have hys : (d'.toList.map X) = sortedL xs := by
    refine sortedL_only hbk ?_ ?_
    rotate_left
    · rw [List.pairwise_map]
      rw [List.pairwise_iff_getElem]
      intro i j hi hj hij
      have h3 := hs i j (Nat.zero_le _) hij (by rw [Array.length_toList] at hj; omega)
      unfold ltOf at h3
      rw [cmp_lt, decide_eq_false_iff_not, List.not_lt] at h3
      rw [Array.length_toList] at hi hj
      rw [getElem!_pos d' i hi, getElem!_pos d' j hj] at h3
      simpa using h3
    have h2 := hp.2.2
    have e1 : (d'.extract 0 xs.length).toList = d'.toList := ex_all d' hd'z
    have e2 : (d.extract 0 xs.length).toList = d.toList := ex_all d hdz
    rw [e1, e2] at h2
    refine (h2.map X).trans ?_
    have e3 : d.toList.map X = xs := by
      apply List.ext_getElem?
      intro j
      by_cases hj : j < xs.length
      rotate_left
      · rw [List.getElem?_eq_none (by rw [List.length_map, Array.length_toList]; omega), List.getElem?_eq_none (by omega)]
      rw [List.getElem?_map, List.getElem?_eq_getElem (by rw [Array.length_toList]; omega), List.getElem?_eq_getElem hj]
      simp [d, X, List.getD_eq_getElem?_getD, List.getElem?_eq_getElem hj]
    rw [e3]
  have hml : (d'.toList.map enc).length = xs.length := by rw [List.length_map, Array.length_toList]; exact hd'z
  have hyl : (sortedL xs).length = xs.length := (sortedL_perm xs).2.length_eq
  refine ⟨rfl, ⟨hok, d'.toList.map enc, ⟨by rw [hml, hyl, hz1, Nat.mul_one], Or.inr ⟨g, cap, Go.Sort.putCells enc 0 d' cur, ?_, hg, ?_, by rw [hyl]; omega, hcm, by simp [Go.Sort.putCells]; simpa using hsz, ?_⟩⟩, ?_⟩, hgr, pw_below_grown h0 _ h0.size hgr (fun k hk => by injection hk with hk; omega)⟩
  · rw [hyl]
  · show ((Go.Sort.putRow enc (Go.Sort.ahead w n) g 0 d').heap ++ os)[g]? = _
    rw [Array.getElem?_append_left (by rw [Go.Sort.size_putRow]; exact hlt)]
    show (w.heap.modify g _)[g]? = _
    rw [Array.getElem?_modify, if_pos rfl, hh]
    rfl
  · rw [hyl, hz1, Nat.mul_one]
    have hcz : xs.length ≤ cur.size := by have := hsz; rw [hz1] at this; omega
    apply List.ext_getElem?
    intro j
    by_cases hj : j < d'.size
    rotate_left
    · rw [List.getElem?_eq_none (by rw [List.length_take]; omega), List.getElem?_eq_none (by simp; omega)]
    rw [List.getElem?_take_of_lt (by omega), Array.getElem?_toList]
    have hcl : j < cur.size := by omega
    simp [Go.Sort.putCells, hcl, hj]
  rw [← hys]
  refine ⟨by simp [Kd.slice], fun j p hj => ?_⟩
  rw [List.getElem?_map] at hj
  obtain ⟨i, hi, rfl⟩ := Option.map_eq_some_iff.1 hj
  obtain ⟨A, c, hA, hRi⟩ := hM i
  refine ⟨enc i, ?_, Kd.R_mono (Kd.R_grown hRi hgr (fun k hk e => hk.2 (by injection e))) (fun k hk => ⟨hk.1, fun e => hk.2 (by rw [show (Value.slice (some (⟨g, 0, none⟩ : Addr)) xs.length cap).ownBlock = some g from rfl] at e; injection e)⟩)⟩
  have hjl : j < d'.toList.length := (List.getElem?_eq_some_iff.1 hi).1
  show ((d'.toList.map enc).drop (j * 1)).take 1 = [enc i]
  rw [Nat.mul_one, List.drop_eq_getElem_cons (by rw [List.length_map]; exact hjl), List.take_succ_cons, List.take_zero]
  have := (List.getElem?_eq_some_iff.1 hi).2
  rw [List.getElem_map, this]
end Go.Proofs.YtkioddjjfifadaaGreatDoor.P
namespace Go.Proofs.YtkioddjjfifadaaGreatDoor.P
open Go.RowKit Go.Proofs.YtkioddjjfifadaaGreatDoorW.PrintWords Go.Proofs.YtkioddjjfifadaaGreatDoorW.PrintLast Go.Proofs.YtkioddjjfifadaaGreatDoorW.PrintMore
attribute [local go_sem] max2_int min2_int max_two min_two max_three min_three max_four min_four   -- for this text's walks alone
set_option linter.unusedVariables false
set_option linter.unusedSimpArgs false
def bytes_trimLeftByte.l0 : Nat → List Int → Int → Option (List Int)
  | 0, _, _ => none
  | k + 1, x0, x1 => if (x0.length : Int) > 0 then (if 0 < (x0.length : Int) then (if (rd x0 0) = x1 then (if 1 ≤ (x0.length : Int) then (bytes_trimLeftByte.l0 k (x0.drop 1) x1) else (none)) else (if (x0.length : Int) = 0 then (some ([] : List Int)) else (some x0))) else (none)) else (if (x0.length : Int) = 0 then (some ([] : List Int)) else (some x0))
def bytes_trimLeftByte.f (k : Nat) (l0 : List Int) (a1 : Int) : Option (List Int) := bytes_trimLeftByte.l0 k l0 a1
set_option maxHeartbeats 8000000 in
set_option maxRecDepth 100000 in
theorem bytes_trimLeftByte.calls (k : Nat) (P0_ : Nat → Prop) (A0 : Option Addr) (c0 : Nat) (l0 : List Int) (a1 : Int) (r : List Int) (w : World) (hs0 : Kd.V (Kd.int .u8) 5 w w.heap.size (fun k_ => P0_ k_) (.slice A0 l0.length c0) l0) (h : bytes_trimLeftByte.f k l0 a1 = some r) :
    Calls Tryz.prog 266 #[.slice A0 l0.length c0, .int .u8 a1] w fun e w' => ∃ v0_ : Value, e = .returned (v0_) ∧ Kd.V (Kd.int .u8) 5 w' w.heap.size (fun k_ => (P0_ k_ ∨ w.heap.size ≤ k_)) v0_ r ∧ Below w.heap.size w w' := by
  have HO0 := Aside0.mk (show Kd.V (Kd.int .u8) 5 w w.heap.size (fun k_ => (P0_ k_ ∨ w.heap.size ≤ k_)) (.slice A0 l0.length c0) l0 from Kd.V_mono hs0 (fun k_ hk => .inl hk))
  have HB := Aside0.mk (Below.refl w.heap.size w)
  have H : (bytes_trimLeftByte.l0 k l0 a1) = some r := h
  clear h
  have H' := Aside0.mk H
  clear H
  go_enter Tryz.func266, Tryz.ntmps266
  go_wp2
  go_loopg [0] k (fun kq v0 w' => ∃ (x0_1 : List Int), Aside0 (bytes_trimLeftByte.l0 kq x0_1 a1 = some r) ∧ Aside0 (kq ≤ k) ∧ Aside0 (Kd.V (Kd.int .u8) 5 w' w.heap.size (fun k_ => (P0_ k_ ∨ w.heap.size ≤ k_)) v0 x0_1) ∧ Aside0 (Below w.heap.size w w'))
  case atStart => exact ⟨(l0), H', ⟨Nat.le_refl _⟩, ⟨by (with_reducible repeat (first | apply Kd.V_alloc | apply Kd.V_drewN | apply Kd.V_drew)); exact HO0.out⟩, ⟨by repeat (first | (with_reducible first | exact HB.out | apply below_alloc | apply pw_below_drewN | apply below_drew1) | exact HB.out)⟩⟩
  case round =>
    clear H'
    obtain ⟨x0_1, HA, HK1, HO_0, HB⟩ := hrel
    cases gk with
    | zero => exact absurd HA.out (by simp [bytes_trimLeftByte.l0])
    | succ k1 =>
      have H := HA.out
      clear HA
      simp only [bytes_trimLeftByte.l0] at H
      by_cases c3 : (x0_1.length : Int) > 0
      rotate_left
      · rw [if_neg c3] at H
        have c3b0 : decide (0 < (x0_1.length : Int)) = false := decide_eq_false c3
        have c3b1 : decide (0 < x0_1.length) = false := decide_eq_false (by omega)
        clear c3
        by_cases c12 : (x0_1.length : Int) = 0
        rotate_left
        · rw [if_neg c12] at H
          have c12b0 : ((x0_1.length : Int) == 0) = false := beq_eq_false_iff_ne.mpr c12
          have c12b1 : ((x0_1.length : Int) != 0) = true := bne_iff_ne.mpr c12
          have c12b2 : ¬ (x0_1 = []) := fun h_ => c12 (by rw [h_]; rfl)
          obtain rfl := Option.some.inj H
          obtain ⟨Ao14, co14, eo14⟩ := Kd.V_slice HO_0.out
          subst eo14
          go_wp2
          go_ret
          exact ⟨_, by first | rfl | (simp [errW_none, errW_some] <;> rfl) | (simp [*, errW_none, errW_some] <;> rfl), by (with_reducible repeat (first | apply Kd.V_alloc | apply Kd.V_drewN | apply Kd.V_drew)); exact HO_0.out, by repeat (first | (with_reducible first | exact HB.out | apply below_alloc | apply pw_below_drewN | apply below_drew1) | exact HB.out)⟩
        rw [if_pos c12] at H
        have c12b0 : ((x0_1.length : Int) == 0) = true := beq_iff_eq.mpr c12
        have c12b1 : ((x0_1.length : Int) != 0) = false := bne_eq_false_iff_eq.mpr c12
        clear c12
        obtain rfl := Option.some.inj H
        obtain ⟨Ao13, co13, eo13⟩ := Kd.V_slice HO_0.out
        subst eo13
        go_wp2
        go_ret
        exact ⟨_, by first | rfl | (simp [errW_none, errW_some] <;> rfl) | (simp [*, errW_none, errW_some] <;> rfl), (Kd.V_nil _ _ _ _ _), by repeat (first | (with_reducible first | exact HB.out | apply below_alloc | apply pw_below_drewN | apply below_drew1) | exact HB.out)⟩
      rw [if_pos c3] at H
      have c3b0 : decide (0 < (x0_1.length : Int)) = true := decide_eq_true c3
      have c3b1 : decide (0 < x0_1.length) = true := decide_eq_true (by omega)
      clear c3
      by_cases c4 : 0 < (x0_1.length : Int)
      rotate_left
      · rw [if_neg c4] at H
        exact absurd H (by simp)
      rw [if_pos c4] at H
      have c4b0 : decide (0 < (x0_1.length : Int)) = true := decide_eq_true c4
      have c4b1 : decide (0 < x0_1.length) = true := decide_eq_true (by omega)
      clear c4
      by_cases c5 : (rd x0_1 0) = a1
      rotate_left
      · rw [if_neg c5] at H
        have c5b0 : ((rd x0_1 0) == a1) = false := beq_eq_false_iff_ne.mpr c5
        have c5b1 : ((rd x0_1 0) != a1) = true := bne_iff_ne.mpr c5
        by_cases c9 : (x0_1.length : Int) = 0
        rotate_left
        · rw [if_neg c9] at H
          have c9b0 : ((x0_1.length : Int) == 0) = false := beq_eq_false_iff_ne.mpr c9
          have c9b1 : ((x0_1.length : Int) != 0) = true := bne_iff_ne.mpr c9
          have c9b2 : ¬ (x0_1 = []) := fun h_ => c9 (by rw [h_]; rfl)
          obtain rfl := Option.some.inj H
          obtain ⟨Ao11, co11, eo11⟩ := Kd.V_slice HO_0.out
          subst eo11
          have p347 : 0 ≤ (0 : Int) := (by omega)
          have q347 : 0 < (x0_1.length : Int) := of_decide_eq_true (by first | (with_reducible assumption) | assumption)
          obtain ⟨ad347, e347, hx347_0⟩ := Kd.at_int (Kd.V_reads' HO_0.out).2.2 0 p347 q347
          cases e347
          have qi347 : (0 < x0_1.length) = True := eq_true (by omega)
          (try rw [show ((0 : Int)).toNat = 0 from rfl] at hx347_0)
          (try rw [Addr.add_zero'] at hx347_0)
          replace p347 := eq_true p347
          replace q347 := eq_true q347
          go_wp2
          go_ret
          exact ⟨_, by first | rfl | (simp [errW_none, errW_some] <;> rfl) | (simp [*, errW_none, errW_some] <;> rfl), by (with_reducible repeat (first | apply Kd.V_alloc | apply Kd.V_drewN | apply Kd.V_drew)); exact HO_0.out, by repeat (first | (with_reducible first | exact HB.out | apply below_alloc | apply pw_below_drewN | apply below_drew1) | exact HB.out)⟩
        rw [if_pos c9] at H
        have c9b0 : ((x0_1.length : Int) == 0) = true := beq_iff_eq.mpr c9
        have c9b1 : ((x0_1.length : Int) != 0) = false := bne_eq_false_iff_eq.mpr c9
        clear c9
        obtain rfl := Option.some.inj H
        obtain ⟨Ao10, co10, eo10⟩ := Kd.V_slice HO_0.out
        subst eo10
        have p347 : 0 ≤ (0 : Int) := (by omega)
        have q347 : 0 < (x0_1.length : Int) := of_decide_eq_true (by first | (with_reducible assumption) | assumption)
        obtain ⟨ad347, e347, hx347_0⟩ := Kd.at_int (Kd.V_reads' HO_0.out).2.2 0 p347 q347
        cases e347
        have qi347 : (0 < x0_1.length) = True := eq_true (by omega)
        (try rw [show ((0 : Int)).toNat = 0 from rfl] at hx347_0)
        (try rw [Addr.add_zero'] at hx347_0)
        replace p347 := eq_true p347
        replace q347 := eq_true q347
        go_wp2
        go_ret
        exact ⟨_, by first | rfl | (simp [errW_none, errW_some] <;> rfl) | (simp [*, errW_none, errW_some] <;> rfl), (Kd.V_nil _ _ _ _ _), by repeat (first | (with_reducible first | exact HB.out | apply below_alloc | apply pw_below_drewN | apply below_drew1) | exact HB.out)⟩
      rw [if_pos c5] at H
      have c5b0 : ((rd x0_1 0) == a1) = true := beq_iff_eq.mpr c5
      have c5b1 : ((rd x0_1 0) != a1) = false := bne_eq_false_iff_eq.mpr c5
      clear c5
      by_cases c6 : 1 ≤ (x0_1.length : Int)
      rotate_left
      · rw [if_neg c6] at H
        exact absurd H (by simp)
      rw [if_pos c6] at H
      have c6b0 := eq_true c6
      have c6b1 : decide (1 ≤ (x0_1.length : Int)) = true := decide_eq_true c6
      clear c6
      obtain ⟨y348, hy348⟩ : ∃ y_ : List Int, y_ = (x0_1.drop 1) := ⟨_, rfl⟩
      replace H : (bytes_trimLeftByte.l0 k1 y348 a1) = some r := by first | (rw [hy348]; with_reducible exact H) | (have H2_ := (Option.bind_some _ _).symm.trans H; rw [hy348]; with_reducible exact H2_) | (have H2_ := (Option.bind_some _ _).symm.trans H; with_reducible exact H2_) | with_reducible exact H | (rw [hy348]; exact H) | exact H
      have Ny348 := Aside0.mk hy348
      clear hy348
      have H' := Aside0.mk H
      clear H
      obtain ⟨Ao7, co7, eo7⟩ := Kd.V_slice HO_0.out
      subst eo7
      have p347 : 0 ≤ (0 : Int) := (by omega)
      have q347 : 0 < (x0_1.length : Int) := of_decide_eq_true (by first | (with_reducible assumption) | assumption)
      obtain ⟨ad347, e347, hx347_0⟩ := Kd.at_int (Kd.V_reads' HO_0.out).2.2 0 p347 q347
      cases e347
      have qi347 : (0 < x0_1.length) = True := eq_true (by omega)
      (try rw [show ((0 : Int)).toNat = 0 from rfl] at hx347_0)
      (try rw [Addr.add_zero'] at hx347_0)
      replace p347 := eq_true p347
      replace q347 := eq_true q347
      have q8 : (1 : Int) ≤ ((x0_1.length : Int) : Int) := of_decide_eq_true (by first | (with_reducible assumption) | assumption)
      obtain ⟨i08, hi08, _, hsz8, _⟩ := info_parts info5
      have hroom8 : x0_1.length ≤ co7 := (Kd.V_reads' HO_0.out).2.1
      have hC8 : Kd.F (Kd.int .u8) _ _ (some ad347) x0_1.length x0_1 := (Kd.V_at (base := w.heap.size) HO_0.out).2.2
      have hcut8 := cut_from (P := Tryz.prog) 22 5 .i64 Tryz.underlying22 hi08 1 hsz8 (some ad347) x0_1.length co7 1 (by omega) q8
      have hr8 := Kd.F_cut (m := (1 : Int).toNat) (c := co7) hC8 (by omega) hroom8
      obtain ⟨A8, hA8⟩ : ∃ A1, A1 = (if co7 = (1 : Int).toNat then (some ad347) else ((some ad347) : Option Addr).map (·.add ((1 : Int).toNat * 1))) := ⟨_, rfl⟩
      obtain ⟨c8, hc8⟩ : ∃ c1, c1 = co7 - (1 : Int).toNat := ⟨_, rfl⟩
      have hy8 : y348.length = x0_1.length - (1 : Int).toNat := (by rw [Ny348.out, List.length_drop] <;> omega)
      rw [show (x0_1).drop (1 : Int).toNat = y348 from Ny348.out.symm] at hr8
      replace hr8 : Kd.F (Kd.int .u8) _ _ A8 y348.length y348 := (by rw [hA8]; exact hr8)
      rw [← hy8, ← hA8, ← hc8] at hcut8
      have HO352 := Aside0.mk (show Kd.V (Kd.int .u8) 5 _ w.heap.size _ (.slice A8 y348.length c8) y348 from Kd.V_mk (by rw [hy8, hc8]; exact Nat.sub_le_sub_right hroom8 _) hr8)
      have HC352 := Aside0.mk (show y348.length ≤ c8 from by rw [hy8, hc8]; exact Nat.sub_le_sub_right hroom8 _)
      clear hr8 hC8 hroom8 hi08 hsz8 hc8
      have KY8 := Aside0.mk hy8
      have KA8 := Aside0.mk hA8
      clear hy8 hA8
      replace q8 := eq_true q8
      go_wp2
      go_roundg k1
      case measure => have := HK1.out; omega
      case rel => exact ⟨(y348), H', ⟨by have := HK1.out; omega⟩, ⟨by (with_reducible repeat (first | apply Kd.V_alloc | apply Kd.V_drewN | apply Kd.V_drew)); exact HO352.out⟩, ⟨by repeat (first | (with_reducible first | exact HB.out | apply below_alloc | apply pw_below_drewN | apply below_drew1) | exact HB.out)⟩⟩
end Go.Proofs.YtkioddjjfifadaaGreatDoor.P
namespace Go.Proofs.YtkioddjjfifadaaGreatDoor.P
open Go.RowKit Go.Proofs.YtkioddjjfifadaaGreatDoorW.PrintWords Go.Proofs.YtkioddjjfifadaaGreatDoorW.PrintLast Go.Proofs.YtkioddjjfifadaaGreatDoorW.PrintMore
theorem put_len {x : Int} {n : Nat} (h : 0 ≤ x ∧ x ≤ 16777216) (c : ¬ ((n : Int) > wrap64 (16777216 - x))) : 0 ≤ wrap64 (x + (n : Int)) ∧ wrap64 (x + (n : Int)) ≤ 16777216 := by
  unfold wrap64 at *; omega
theorem put_cap {x : Int} (h : 0 ≤ x ∧ x ≤ 16777216) : wrap64 (x + 10) = ((x + 10).toNat : Int) := by unfold wrap64; omega
theorem put_cap2 {x : Int} (h : 0 ≤ x ∧ x ≤ 16777216) : (x + 10).toNat ≤ 140737488355328 := by omega
theorem trimLeftByte_nil {k : Nat} {a : Int} {r : List Int} (h : bytes_trimLeftByte.f k [] a = some r) : r = [] := by
  cases k with
  | zero => simp [bytes_trimLeftByte.f, bytes_trimLeftByte.l0] at h
  | succ k => simpa [bytes_trimLeftByte.f, bytes_trimLeftByte.l0] using h.symm
set_option maxRecDepth 100000 in
theorem bytes_TrimLeft0.calls (k : Nat) (P0_ : Nat → Prop) (A0 : Option Addr) (c0 : Nat) (l0 : List Int) (r : List Int) (w : World) (hs0 : Kd.V (Kd.int .u8) 5 w w.heap.size (fun k_ => P0_ k_) (.slice A0 l0.length c0) l0) (h : bytes_trimLeftByte.f k l0 0 = some r) :
    Calls Tryz.prog 218 #[.slice A0 l0.length c0, .string ⟨#[0]⟩] w fun e w' => ∃ v0_ : Value, e = .returned (v0_) ∧ Kd.V (Kd.int .u8) 5 w' w.heap.size (fun k_ => (P0_ k_ ∨ w.heap.size ≤ k_)) v0_ r ∧ Below w.heap.size w w' := by
  have HO := Aside0.mk hs0
  have H := Aside0.mk h
  have HB := Aside0.mk (Below.refl w.heap.size w)
  clear hs0
  by_cases hl : l0 = []
  rotate_left
  · have h0 : 0 < l0.length := List.length_pos_iff.2 hl
    have c1 : ((l0.length : Int) == 0) = false := beq_eq_false_iff_ne.mpr (by omega)
    clear h h0 hl
    go_enter Tryz.func218, Tryz.ntmps218
    go_wp2_with (go_at_call 266; refine (bytes_trimLeftByte.calls k P0_ A0 c0 l0 0 r _ ?side1 H.out).mono ?_; (case side1 => exact HO.out); rintro e w5 ⟨v, rfl, hv, hb⟩; have HV := Aside0.mk hv; have HB2 := Aside0.mk hb; clear hv hb)
    go_ret
    exact ⟨_, rfl, HV.out, HB2.out⟩
  subst hl
  have hr := trimLeftByte_nil h
  clear h
  subst hr
  simp only [List.length_nil] at *
  go_enter Tryz.func218, Tryz.ntmps218
  go_wp2_with fail
  go_ret
  exact ⟨_, rfl, Kd.V_nil _ _ _ _ _, HB.out⟩
end Go.Proofs.YtkioddjjfifadaaGreatDoor.P
namespace Go.Proofs.YtkioddjjfifadaaGreatDoor.P
open Go.RowKit Go.Proofs.YtkioddjjfifadaaGreatDoorW.PrintWords Go.Proofs.YtkioddjjfifadaaGreatDoorW.PrintLast Go.Proofs.YtkioddjjfifadaaGreatDoorW.PrintMore
attribute [local go_sem] max2_int min2_int max_two min_two max_three min_three max_four min_four   -- for this text's walks alone
set_option linter.unusedVariables false
set_option linter.unusedSimpArgs false
def der_seven.l0 : Nat → Int → List Int → Option (List Int)
  | 0, _, _ => none
  | k + 1, x0, x3 => if x0 > 0 then ((some (([Go.bits .or .u8 ((x0) % 256) 128] : List Int) : List Int)).bind fun y541 => (if y541.length + x3.length < 140737488355328 then (der_seven.l0 k (x0 / 128) (y541 ++ x3)) else (none))) else (some x3)
def der_seven.f (k : Nat) (a0 : Int) : Option (List Int) := der_seven.l0 k (a0 / 128) (([(Go.bits .and .u64 a0 127) % 256] : List Int))
set_option maxHeartbeats 8000000 in
set_option maxRecDepth 100000 in
theorem der_seven.calls (k : Nat) (a0 : Int) (r : List Int) (w : World) (h : der_seven.f k a0 = some r) :
    Calls Tryz.prog 219 #[.int .u64 a0] w fun e w' => ∃ v0_ : Value, e = .returned (v0_) ∧ Kd.R (Kd.int .u8) 5 w' w.heap.size (fun _ => True) v0_ r ∧ Below w.heap.size w w' := by
  have HB := Aside0.mk (Below.refl w.heap.size w)
  have H : (der_seven.l0 k (a0 / 128) (([(Go.bits .and .u64 a0 127) % 256] : List Int))) = some r := h
  clear h
  obtain ⟨y538, hy538⟩ : ∃ y_ : List Int, y_ = (([(Go.bits .and .u64 a0 127) % 256] : List Int)) := ⟨_, rfl⟩
  replace H : (der_seven.l0 k (a0 / 128) y538) = some r := by first | (rw [hy538]; with_reducible exact H) | (have H2_ := (Option.bind_some _ _).symm.trans H; rw [hy538]; with_reducible exact H2_) | (have H2_ := (Option.bind_some _ _).symm.trans H; with_reducible exact H2_) | with_reducible exact H | (rw [hy538]; exact H) | exact H
  have Ny538 := Aside0.mk hy538
  clear hy538
  have H' := Aside0.mk H
  clear H
  go_enter Tryz.func219, Tryz.ntmps219
  go_wp2_with (first | ((with_reducible refine gate_dst (N := 7) rfl ?_); refine Kd.R_lit (Kd.int .u8) _ 5 ?hg (N := 7) ?hd (xs := ([(Go.bits .and .u64 a0 127) % 256] : List Int)) (inner := [.int .u8 ((Go.bits .and .u64 a0 127) % 256)]) (ok := fun _ => True) (okp := fun _ => True) ?hr ?hp (fun _ hk => hk) trivial (Below.refl _ _) (Nat.le_refl _) (by simp) ?_; (case hd => rfl); (case hg => rfl); (case hr => first | (go_simp; done) | (go_simp; rfl)); (case hp => exact (Reps.one (show Kd.M (Kd.int .u8) _ _ _ ((Go.bits .and .u64 a0 127) % 256) [.int .u8 ((Go.bits .and .u64 a0 127) % 256)] from rfl) (Reps.none _ _))); intro v539 w2 ho3 hb hg_ hnew_; clear hg_ hnew_; (first | rw [← Ny538.out] at ho3 | (simp only [Int.reduceToNat] at ho3; rw [← Ny538.out] at ho3)); have n0_ := Aside0.mk (Kd.R_lower ho3 (below_size (by repeat (first | (with_reducible first | exact HB.out | apply below_alloc | apply pw_below_drewN | apply below_drew1) | exact HB.out)))); have n1_ := Aside0.mk (below_step (by repeat (first | (with_reducible first | exact HB.out | apply below_alloc | apply pw_below_drewN | apply below_drew1) | exact HB.out)) hb); clear HB; have HO540 := n0_; have HB := n1_; clear n0_ n1_; clear hb ho3))
  go_loopg [0, 3] k (fun kq v0 v3 w' => ∃ (x0_1 : Int) (x3_1 : List Int), v0 = .int .u64 x0_1 ∧ Aside0 (der_seven.l0 kq x0_1 x3_1 = some r) ∧ Aside0 (kq ≤ k) ∧ Aside0 (Kd.R (Kd.int .u8) 5 w' w.heap.size (fun _ => True) v3 x3_1) ∧ Aside0 (Below w.heap.size w w'))
  case atStart => exact ⟨(a0 / 128), (y538), (by first | rfl | (simp; done) | (simp [*]; done)), H', ⟨Nat.le_refl _⟩, ⟨by (with_reducible repeat (first | apply Kd.R_alloc | apply Kd.R_drewN | apply Kd.R_drew)); exact HO540.out⟩, ⟨by repeat (first | (with_reducible first | exact HB.out | apply below_alloc | apply pw_below_drewN | apply below_drew1) | exact HB.out)⟩⟩
  case round =>
    clear H'
    obtain ⟨x0_1, x3_1, rfl, HA, HK1, HO_3, HB⟩ := hrel
    cases gk with
    | zero => exact absurd HA.out (by simp [der_seven.l0])
    | succ k1 =>
      have H := HA.out
      clear HA
      simp only [der_seven.l0] at H
      by_cases c4 : x0_1 > 0
      rotate_left
      · rw [if_neg c4] at H
        have c4b0 : decide (0 < x0_1) = false := decide_eq_false c4
        clear c4
        obtain rfl := Option.some.inj H
        go_wp2
        go_ret
        exact ⟨_, by first | rfl | (simp [errW_none, errW_some] <;> rfl) | (simp [*, errW_none, errW_some] <;> rfl), by (with_reducible repeat (first | apply Kd.R_alloc | apply Kd.R_drewN | apply Kd.R_drew)); exact HO_3.out, by repeat (first | (with_reducible first | exact HB.out | apply below_alloc | apply pw_below_drewN | apply below_drew1) | exact HB.out)⟩
      rw [if_pos c4] at H
      have c4b0 : decide (0 < x0_1) = true := decide_eq_true c4
      clear c4
      obtain ⟨y541, hy541⟩ : ∃ y_ : List Int, y_ = (([Go.bits .or .u8 ((x0_1) % 256) 128] : List Int)) := ⟨_, rfl⟩
      replace H : (if y541.length + x3_1.length < 140737488355328 then (der_seven.l0 k1 (x0_1 / 128) (y541 ++ x3_1)) else (none)) = some r := by first | (rw [hy541]; with_reducible exact H) | (have H2_ := (Option.bind_some _ _).symm.trans H; rw [hy541]; with_reducible exact H2_) | (have H2_ := (Option.bind_some _ _).symm.trans H; with_reducible exact H2_) | with_reducible exact H | (rw [hy541]; exact H) | exact H
      have Ny541 := Aside0.mk hy541
      clear hy541
      by_cases c5 : y541.length + x3_1.length < 140737488355328
      rotate_left
      · rw [if_neg c5] at H
        exact absurd H (by simp)
      rw [if_pos c5] at H
      have LMc5 := Aside0.mk c5
      clear c5
      obtain ⟨y544, hy544⟩ : ∃ y_ : List Int, y_ = (y541 ++ x3_1) := ⟨_, rfl⟩
      replace H : (der_seven.l0 k1 (x0_1 / 128) y544) = some r := by first | (rw [hy544]; with_reducible exact H) | (have H2_ := (Option.bind_some _ _).symm.trans H; rw [hy544]; with_reducible exact H2_) | (have H2_ := (Option.bind_some _ _).symm.trans H; with_reducible exact H2_) | with_reducible exact H | (rw [hy544]; exact H) | exact H
      have Ny544 := Aside0.mk hy544
      clear hy544
      have H' := Aside0.mk H
      clear H
      go_wp2_with (first | ((with_reducible refine gate_dst (N := 17) rfl ?_); refine Kd.R_lit (Kd.int .u8) _ 5 ?hg (N := 17) ?hd (xs := ([Go.bits .or .u8 ((x0_1) % 256) 128] : List Int)) (inner := [.int .u8 (Go.bits .or .u8 ((x0_1) % 256) 128)]) (ok := fun _ => True) (okp := fun _ => True) ?hr ?hp (fun _ hk => hk) trivial (Below.refl _ _) (Nat.le_refl _) (by simp) ?_; (case hd => rfl); (case hg => rfl); (case hr => first | (go_simp; done) | (go_simp; rfl)); (case hp => exact (Reps.one (show Kd.M (Kd.int .u8) _ _ _ (Go.bits .or .u8 ((x0_1) % 256) 128) [.int .u8 (Go.bits .or .u8 ((x0_1) % 256) 128)] from rfl) (Reps.none _ _))); intro v542 w6 ho7 hb hg_ hnew_; clear hg_ hnew_; (first | rw [← Ny541.out] at ho7 | (simp only [Int.reduceToNat] at ho7; rw [← Ny541.out] at ho7)); have n0_ := Aside0.mk (Kd.R_elder' (by (with_reducible repeat (first | apply Kd.R_alloc | apply Kd.R_drewN | apply Kd.R_drew)); exact HO_3.out) (Kd.R_base ho7) hb); have n1_ := Aside0.mk (Kd.R_lower (Kd.R_new' ho7 (Kd.R_lt (by (with_reducible repeat (first | apply Kd.R_alloc | apply Kd.R_drewN | apply Kd.R_drew)); exact HO_3.out))) (below_size (by repeat (first | (with_reducible first | exact HB.out | apply below_alloc | apply pw_below_drewN | apply below_drew1) | exact HB.out)))); have n2_ := Aside0.mk (below_step (by repeat (first | (with_reducible first | exact HB.out | apply below_alloc | apply pw_below_drewN | apply below_drew1) | exact HB.out)) hb); clear HO_3; clear HB; have HO_3 := n0_; have HO543 := n1_; have HB := n2_; clear n0_ n1_ n2_; clear hb ho7; obtain ⟨Ao9, co9, eo9⟩ := Kd.R_slice HO_3.out; subst eo9) | ((with_reducible refine gate_builtin (b := .append) (xs := #[.tmp 17, .tmp 18]) rfl ?_); at_builtin; refine Kd.R_append_rows (Kd.int .u8) (w0 := w) w.heap.size rfl (.tmp 17) (.tmp 18) 22 5 (.int .u8 0) 1 rfl Tryz.underlying22 info5 rfl (by decide) (by omega) v542 y541 x3_1 _ _ _ (fun k_ => some k_ ≠ (.slice Ao9 x3_1.length co9 : Value).ownBlock) (fun _ => False) rfl rfl ?aO ?aR (fun _ _ h => h) (fun _ h => h.elim) ?aF ?aB ?aS ?aL ?_; (case aR => repeat (first | exact (Kd.R_reads' HO_3.out).2.2 | (with_reducible refine Kd.C_alloc ?_ _) | (with_reducible refine Kd.C_drewN ?_ _) | (with_reducible refine Kd.C_drew ?_))); (case aB => exact (by repeat (first | (with_reducible first | exact HB.out | apply below_alloc | apply pw_below_drewN | apply below_drew1) | exact HB.out))); (case aF => exact (fun k_ hk => Kd.fresh' (Kd.R_lt (by (with_reducible repeat (first | apply Kd.R_alloc | apply Kd.R_drewN | apply Kd.R_drew)); exact HO_3.out)) k_ hk)); (case aO => exact (by (with_reducible repeat (first | apply Kd.R_alloc | apply Kd.R_drewN | apply Kd.R_drew)); exact Kd.R_mono HO543.out (fun _ hk => hk.2))); (case aS => exact (below_size (by repeat (first | (with_reducible first | exact HB.out | apply below_alloc | apply pw_below_drewN | apply below_drew1) | exact HB.out)))); (case aL => have := LMc5.out; omega); intro v545 w8 ho hb hg hat; rw [← Ny544.out] at ho; have n0_ := Aside0.mk (Kd.R_after (ok := (fun _ => True)) (by (with_reducible repeat (first | apply Kd.R_alloc | apply Kd.R_drewN | apply Kd.R_drew)); exact HO_3.out) hg hat); have n1_ := Aside0.mk (hb); have n2_ := Aside0.mk (ho); clear HO_3; clear HB; clear HO543; have HO_3 := n0_; have HB := n1_; have HO546 := n2_; clear n0_ n1_ n2_; clear ho hb hg hat))
      go_roundg k1
      case measure => have := HK1.out; omega
      case rel => exact ⟨(x0_1 / 128), (y544), (by first | rfl | (simp; done) | (simp [*]; done)), H', ⟨by have := HK1.out; omega⟩, ⟨by (with_reducible repeat (first | apply Kd.R_alloc | apply Kd.R_drewN | apply Kd.R_drew)); exact Kd.R_mono HO546.out (fun _ hk => trivial)⟩, ⟨by repeat (first | (with_reducible first | exact HB.out | apply below_alloc | apply pw_below_drewN | apply below_drew1) | exact HB.out)⟩⟩
mutual
def der_Put.j0 : Nat → Int → Int → Bool → List (List Int) → Bool → Option (List Int × Int)
  | 0, _, _, _, _, _ => none
  | k + 1, x0, x1, x2, x3, x37 => if x37 = true then (some (([] : List Int), 1)) else (der_Put.l0 k x0 x1 x2 x3 0 x3 (x3.length : Int) 0)
def der_Put.l0 : Nat → Int → Int → Bool → List (List Int) → Int → List (List Int) → Int → Int → Option (List Int × Int)
  | 0, _, _, _, _, _, _, _, _ => none
  | k + 1, x0, x1, x2, x3, x10, x38, x39, x40 => if x40 < x39 then (if 0 ≤ x40 then (if x40 < (x38.length : Int) then (if ((rd_L1 x38 x40).length : Int) > (wrap64 (16777216 - x10)) then (some (([] : List Int), 3)) else (der_Put.l0 k x0 x1 x2 x3 (wrap64 (x10 + ((rd_L1 x38 x40).length : Int))) x38 x39 (wrap64 (x40 + 1)))) else (none)) else (none)) else (if x2 = true then (der_Put.j2 k x1 x3 x10 (Go.bits .or .u8 ((wrap64 (x0 * 64)) % 256) 32)) else (der_Put.j2 k x1 x3 x10 ((wrap64 (x0 * 64)) % 256)))
def der_Put.j2 : Nat → Int → List (List Int) → Int → Int → Option (List Int × Int)
  | 0, _, _, _, _ => none
  | k + 1, x1, x3, x10, x13 => if x1 < 31 then (if ([] : List Int).length < 140737488355328 then (der_Put.j3 k x3 x10 (([] : List Int) ++ [Go.bits .or .u8 x13 ((x1) % 256)])) else (none)) else (if ([] : List Int).length < 140737488355328 then ((some (([] : List Int) ++ [Go.bits .or .u8 x13 31] : List Int)).bind fun y279 => ((der_seven.f k (IntKind.u64.wrap (x1))).bind fun t282 => (if y279.length + t282.length < 140737488355328 then (der_Put.j3 k x3 x10 (y279 ++ t282)) else (none)))) else (none))
def der_Put.j3 : Nat → List (List Int) → Int → List Int → Option (List Int × Int)
  | 0, _, _, _ => none
  | k + 1, x3, x10, x14 => if x10 < 128 then (if x14.length < 140737488355328 then (der_Put.j4 k x3 (x14 ++ [(x10) % 256])) else (none)) else ((bytes_trimLeftByte.f k (([(x10 / 16777216) % 256, (x10 / 65536) % 256, (x10 / 256) % 256, (x10) % 256] : List Int)) 0).bind fun t294 => (if x14.length < 140737488355328 then ((some (x14 ++ [Go.bits .or .u8 128 (((t294.length : Int)) % 256)] : List Int)).bind fun y297 => (if y297.length + t294.length < 140737488355328 then (der_Put.j4 k x3 (y297 ++ t294)) else (none))) else (none)))
def der_Put.j4 : Nat → List (List Int) → List Int → Option (List Int × Int)
  | 0, _, _ => none
  | k + 1, x3, x14 => der_Put.l1 k x14 x3 (x3.length : Int) 0
def der_Put.l1 : Nat → List Int → List (List Int) → Int → Int → Option (List Int × Int)
  | 0, _, _, _, _ => none
  | k + 1, x14, x111, x112, x113 => if x113 < x112 then (if 0 ≤ x113 then (if x113 < (x111.length : Int) then (if x14.length + (rd_L1 x111 x113).length < 140737488355328 then (der_Put.l1 k (x14 ++ (rd_L1 x111 x113)) x111 x112 (wrap64 (x113 + 1))) else (none)) else (none)) else (none)) else (some (x14, 0))
end
def der_Put.f (k : Nat) (a0 : Int) (a1 : Int) (a2 : Bool) (l3 : List (List Int)) : Option (List Int × Int) := if a0 < 0 then (der_Put.j0 k a0 a1 a2 l3 true) else (if a0 > 3 then (der_Put.j0 k a0 a1 a2 l3 true) else (if a1 < 0 then (der_Put.j0 k a0 a1 a2 l3 true) else (if a1 > 268435455 then (der_Put.j0 k a0 a1 a2 l3 true) else (der_Put.j0 k a0 a1 a2 l3 ((wrap64 (a0 + a1)) == 0)))))
set_option maxHeartbeats 8000000 in
set_option maxRecDepth 100000 in
theorem der_Put.calls (k : Nat) (a0 : Int) (a1 : Int) (a2 : Bool) (A3 : Option Addr) (c3 : Nat) (l3 : List (List Int)) (r1 : List Int) (r2 : Int) (w : World) (hr3 : Kd.C (Kd.slice 5 (Kd.int .u8)) w A3 l3.length l3) (hc3 : l3.length ≤ c3) (h : der_Put.f k a0 a1 a2 l3 = some (r1, r2)) :
    Calls Tryz.prog 168 #[.int .i64 a0, .int .i64 a1, .bool a2, .slice A3 l3.length c3] w fun e w' => ∃ v0_ : Value, e = .returned (.tuple #[v0_, .int .i64 r2]) ∧ Kd.R (Kd.int .u8) 5 w' w.heap.size (fun _ => True) v0_ r1 ∧ Below w.heap.size w w' := by
  have HR3 := Aside0.mk hr3
  have HC3 := Aside0.mk hc3
  clear hr3 hc3
  have HB := Aside0.mk (Below.refl w.heap.size w)
  have H : (if a0 < 0 then (der_Put.j0 k a0 a1 a2 l3 true) else (if a0 > 3 then (der_Put.j0 k a0 a1 a2 l3 true) else (if a1 < 0 then (der_Put.j0 k a0 a1 a2 l3 true) else (if a1 > 268435455 then (der_Put.j0 k a0 a1 a2 l3 true) else (der_Put.j0 k a0 a1 a2 l3 ((wrap64 (a0 + a1)) == 0)))))) = some (r1, r2) := h
  clear h
  have HC5 := Aside0.mk H
  clear H
  go_enter Tryz.func168, Tryz.ntmps168
  go_upto_region 1 with (fail)
  go_cut [37] (fun v37 wc => ∃ (kq : Nat) (x37_4 : Bool), v37 = .bool x37_4 ∧ Aside0 (der_Put.j0 kq a0 a1 a2 l3 x37_4 = some (r1, r2)) ∧ Aside0 (kq ≤ k) ∧ Aside0 (Below w.heap.size w wc))
  case first =>
    have H := HC5.out
    clear HC5
    by_cases c6 : a0 < 0
    · rw [if_pos c6] at H
      have c6b0 : decide (a0 < 0) = true := decide_eq_true c6
      clear c6
      (first | rw [c6b0] | (simp only [i64_w, i32_w]; rw [c6b0]) | skip)
      have H' := Aside0.mk H
      clear H
      go_wp2
      go_meet
      case rel => exact ⟨_, (true), (by first | rfl | (simp; done) | (simp [*]; done)), H', ⟨by first | omega | exact Nat.le_refl _⟩, ⟨by repeat (first | (with_reducible first | exact HB.out | apply below_alloc | apply pw_below_drewN | apply below_drew1) | exact HB.out)⟩⟩
    rw [if_neg c6] at H
    have c6b0 : decide (a0 < 0) = false := decide_eq_false c6
    clear c6
    (first | rw [c6b0] | (simp only [i64_w, i32_w]; rw [c6b0]) | skip)
    by_cases c7 : a0 > 3
    · rw [if_pos c7] at H
      have c7b0 : decide (3 < a0) = true := decide_eq_true c7
      clear c7
      have H' := Aside0.mk H
      clear H
      go_wp2
      go_meet
      case rel => exact ⟨_, (true), (by first | rfl | (simp; done) | (simp [*]; done)), H', ⟨by first | omega | exact Nat.le_refl _⟩, ⟨by repeat (first | (with_reducible first | exact HB.out | apply below_alloc | apply pw_below_drewN | apply below_drew1) | exact HB.out)⟩⟩
    rw [if_neg c7] at H
    have c7b0 : decide (3 < a0) = false := decide_eq_false c7
    clear c7
    by_cases c8 : a1 < 0
    · rw [if_pos c8] at H
      have c8b0 : decide (a1 < 0) = true := decide_eq_true c8
      clear c8
      have H' := Aside0.mk H
      clear H
      go_wp2
      go_meet
      case rel => exact ⟨_, (true), (by first | rfl | (simp; done) | (simp [*]; done)), H', ⟨by first | omega | exact Nat.le_refl _⟩, ⟨by repeat (first | (with_reducible first | exact HB.out | apply below_alloc | apply pw_below_drewN | apply below_drew1) | exact HB.out)⟩⟩
    rw [if_neg c8] at H
    have c8b0 : decide (a1 < 0) = false := decide_eq_false c8
    clear c8
    by_cases c9 : a1 > 268435455
    rotate_left
    · rw [if_neg c9] at H
      have c9b0 : decide (268435455 < a1) = false := decide_eq_false c9
      clear c9
      have H' := Aside0.mk H
      clear H
      go_wp2
      go_meet
      case rel => exact ⟨_, (((wrap64 (a0 + a1)) == 0)), (by first | rfl | (simp; done) | (simp [*]; done)), H', ⟨by first | omega | exact Nat.le_refl _⟩, ⟨by repeat (first | (with_reducible first | exact HB.out | apply below_alloc | apply pw_below_drewN | apply below_drew1) | exact HB.out)⟩⟩
    rw [if_pos c9] at H
    have c9b0 : decide (268435455 < a1) = true := decide_eq_true c9
    clear c9
    have H' := Aside0.mk H
    clear H
    go_wp2
    go_meet
    case rel => exact ⟨_, (true), (by first | rfl | (simp; done) | (simp [*]; done)), H', ⟨by first | omega | exact Nat.le_refl _⟩, ⟨by repeat (first | (with_reducible first | exact HB.out | apply below_alloc | apply pw_below_drewN | apply below_drew1) | exact HB.out)⟩⟩
  clear HC5
  obtain ⟨kq, x37_4, rfl, HA, HJ4, HB⟩ := hcut
  cases kq with
  | zero => exact absurd HA.out (by simp [der_Put.j0])
  | succ kj4 =>
    have H := HA.out
    clear HA
    simp only [der_Put.j0] at H
    by_cases c10 : x37_4 = true
    · subst c10
      have H1 : (some (([] : List Int), 1)) = some (r1, r2) := by rw [if_pos rfl] at H; exact H
      clear H
      have H := H1
      clear H1
      simp only [Option.some.injEq, Prod.mk.injEq] at H
      obtain ⟨rfl, rfl⟩ := H
      go_wp2
      go_ret2
      exact ⟨_, by first | rfl | (simp [errW_none, errW_some] <;> rfl) | (simp [*, errW_none, errW_some] <;> rfl), by first | exact Kd.R_nil _ _ _ _ _ | exact Kd.N_nil _ _ _ _ _ | exact Kd.V_nil _ _ _ _ _ | exact Kd.Q_nil _ _ _ _ _ | exact Kd.S_nil _ _ _ _ _, by repeat (first | (with_reducible first | exact HB.out | apply below_alloc | apply pw_below_drewN | apply below_drew1) | exact HB.out)⟩
    replace c10 := Bool.eq_false_iff.mpr c10
    subst c10
    have H1 : (der_Put.l0 kj4 a0 a1 a2 l3 0 l3 (l3.length : Int) 0) = some (r1, r2) := by rw [if_neg (show ¬ (false = true) by decide)] at H; exact H
    clear H
    have H := H1
    clear H1
    have H' := Aside0.mk H
    clear H
    go_wp2
    go_loopg [10, 40] kj4 (fun kq v10 v40 w' => ∃ (x10_2 : Int) (x40_2 : Int), v10 = .int .i64 x10_2 ∧ v40 = .int .i64 x40_2 ∧ Aside0 (der_Put.l0 kq a0 a1 a2 l3 x10_2 l3 (l3.length : Int) x40_2 = some (r1, r2)) ∧ Aside0 (kq ≤ kj4) ∧ Aside0 (Below w.heap.size w w') ∧ Aside0 (0 ≤ x10_2 ∧ x10_2 ≤ 16777216))
    case atStart => exact ⟨(0), (0), (by first | rfl | (simp; done) | (simp [*]; done)), (by first | rfl | (simp; done) | (simp [*]; done)), H', ⟨Nat.le_refl _⟩, ⟨by repeat (first | (with_reducible first | exact HB.out | apply below_alloc | apply pw_below_drewN | apply below_drew1) | exact HB.out)⟩, ⟨by decide⟩⟩
    case round =>
      clear H'
      obtain ⟨x10_2, x40_2, rfl, rfl, HA, HK2, HB, HX10⟩ := hrel
      cases gk with
      | zero => exact absurd HA.out (by simp [der_Put.l0])
      | succ k2 =>
        have H := HA.out
        clear HA
        simp only [der_Put.l0] at H
        by_cases c11 : x40_2 < (l3.length : Int)
        · rw [if_pos c11] at H
          have c11b0 : decide (x40_2 < (l3.length : Int)) = true := decide_eq_true c11
          clear c11
          by_cases c12 : 0 ≤ x40_2
          rotate_left
          · rw [if_neg c12] at H
            exact absurd H (by simp)
          rw [if_pos c12] at H
          have c12b0 : decide (0 ≤ x40_2) = true := decide_eq_true c12
          clear c12
          by_cases c13 : x40_2 < (l3.length : Int)
          rotate_left
          · rw [if_neg c13] at H
            exact absurd H (by simp)
          rw [if_pos c13] at H
          have c13b0 : decide (x40_2 < (l3.length : Int)) = true := decide_eq_true c13
          clear c13
          by_cases c14 : ((rd_L1 l3 x40_2).length : Int) > (wrap64 (16777216 - x10_2))
          · rw [if_pos c14] at H
            have c14b0 : decide ((wrap64 (16777216 - x10_2)) < ((rd_L1 l3 x40_2).length : Int)) = true := decide_eq_true c14
            clear c14
            simp only [Option.some.injEq, Prod.mk.injEq] at H
            obtain ⟨rfl, rfl⟩ := H
            have p275 : 0 ≤ (x40_2 : Int) := of_decide_eq_true (by first | (with_reducible assumption) | assumption)
            have q275 : x40_2 < (l3.length : Int) := of_decide_eq_true (by first | (with_reducible assumption) | assumption)
            obtain ⟨ad275, A275_0, c275_0, e275, hx275_0, hl275_0, hi275_0⟩ := at_L1 HR3.out x40_2 p275 q275
            cases e275
            replace hx275_0 := (HB.out.cell (World.block_lt_of_cell? w _ hx275_0)).trans hx275_0
            have HR275_0 := Aside0.mk hi275_0
            have HC275_0 := Aside0.mk hl275_0
            clear hi275_0 hl275_0
            replace p275 := eq_true p275
            replace q275 := eq_true q275
            go_wp2
            go_ret2
            exact ⟨_, by first | rfl | (simp [errW_none, errW_some] <;> rfl) | (simp [*, errW_none, errW_some] <;> rfl), by first | exact Kd.R_nil _ _ _ _ _ | exact Kd.N_nil _ _ _ _ _ | exact Kd.V_nil _ _ _ _ _ | exact Kd.Q_nil _ _ _ _ _ | exact Kd.S_nil _ _ _ _ _, by repeat (first | (with_reducible first | exact HB.out | apply below_alloc | apply pw_below_drewN | apply below_drew1) | exact HB.out)⟩
          rw [if_neg c14] at H
          have c14b0 : decide ((wrap64 (16777216 - x10_2)) < ((rd_L1 l3 x40_2).length : Int)) = false := decide_eq_false c14
          have HX2 : Aside0 (0 ≤ wrap64 (x10_2 + ((rd_L1 l3 x40_2).length : Int)) ∧ wrap64 (x10_2 + ((rd_L1 l3 x40_2).length : Int)) ≤ 16777216) := ⟨put_len HX10.out c14⟩
          clear c14
          have H' := Aside0.mk H
          clear H
          have p275 : 0 ≤ (x40_2 : Int) := of_decide_eq_true (by first | (with_reducible assumption) | assumption)
          have q275 : x40_2 < (l3.length : Int) := of_decide_eq_true (by first | (with_reducible assumption) | assumption)
          obtain ⟨ad275, A275_0, c275_0, e275, hx275_0, hl275_0, hi275_0⟩ := at_L1 HR3.out x40_2 p275 q275
          cases e275
          replace hx275_0 := (HB.out.cell (World.block_lt_of_cell? w _ hx275_0)).trans hx275_0
          have HR275_0 := Aside0.mk hi275_0
          have HC275_0 := Aside0.mk hl275_0
          clear hi275_0 hl275_0
          replace p275 := eq_true p275
          replace q275 := eq_true q275
          go_wp2
          go_roundg k2
          case measure => have := HJ4.out; have := HK2.out; omega
          case rel => exact ⟨(wrap64 (x10_2 + ((rd_L1 l3 x40_2).length : Int))), (wrap64 (x40_2 + 1)), (by first | rfl | (simp; done) | (simp [*]; done)), (by first | rfl | (simp; done) | (simp [*]; done)), H', ⟨by have := HJ4.out; have := HK2.out; omega⟩, ⟨by repeat (first | (with_reducible first | exact HB.out | apply below_alloc | apply pw_below_drewN | apply below_drew1) | exact HB.out)⟩, HX2⟩
        rw [if_neg c11] at H
        have c11b0 : decide (x40_2 < (l3.length : Int)) = false := decide_eq_false c11
        clear c11
        have HC15 := Aside0.mk H
        clear H
        go_upto_if 57 with (fail)
        go_cut [13] (fun v13 wc => ∃ (kq : Nat) (x13_14 : Int), v13 = .int .u8 x13_14 ∧ Aside0 (der_Put.j2 kq a1 l3 x10_2 x13_14 = some (r1, r2)) ∧ Aside0 (kq ≤ k2) ∧ Aside0 (Below w.heap.size w wc))
        case first =>
          have H := HC15.out
          clear HC15
          by_cases c16 : a2 = true
          · subst c16
            have H1 : (der_Put.j2 k2 a1 l3 x10_2 (Go.bits .or .u8 ((wrap64 (a0 * 64)) % 256) 32)) = some (r1, r2) := by rw [if_pos rfl] at H; exact H
            clear H
            have H := H1
            clear H1
            have H' := Aside0.mk H
            clear H
            go_wp2
            go_meet
            case rel => exact ⟨_, (Go.bits .or .u8 ((wrap64 (a0 * 64)) % 256) 32), (by first | rfl | (simp; done) | (simp [*]; done)), H', ⟨by have := HJ4.out; have := HK2.out; first | omega | exact Nat.le_refl _⟩, ⟨by repeat (first | (with_reducible first | exact HB.out | apply below_alloc | apply pw_below_drewN | apply below_drew1) | exact HB.out)⟩⟩
          replace c16 := Bool.eq_false_iff.mpr c16
          subst c16
          have H1 : (der_Put.j2 k2 a1 l3 x10_2 ((wrap64 (a0 * 64)) % 256)) = some (r1, r2) := by rw [if_neg (show ¬ (false = true) by decide)] at H; exact H
          clear H
          have H := H1
          clear H1
          have H' := Aside0.mk H
          clear H
          go_wp2
          go_meet
          case rel => exact ⟨_, ((wrap64 (a0 * 64)) % 256), (by first | rfl | (simp; done) | (simp [*]; done)), H', ⟨by have := HJ4.out; have := HK2.out; first | omega | exact Nat.le_refl _⟩, ⟨by repeat (first | (with_reducible first | exact HB.out | apply below_alloc | apply pw_below_drewN | apply below_drew1) | exact HB.out)⟩⟩
        clear HC15
        obtain ⟨kq, x13_14, rfl, HA, HJ14, HB⟩ := hcut
        cases kq with
        | zero => exact absurd HA.out (by simp [der_Put.j2])
        | succ kj14 =>
          have H := HA.out
          clear HA
          simp only [der_Put.j2] at H
          have HC17 := Aside0.mk H
          clear H
          have hwc : wrap64 (x10_2 + 10) = ((x10_2 + 10).toNat : Int) := put_cap HX10.out
          have HWC := Aside0.mk hwc
          clear hwc
          go_upto_if 64 with ((with_reducible refine gate_dst (N := 62) rfl ?_); refine make_bytes w rfl rfl rfl (x10_2 + 10).toNat (congrArg (Value.int .i64) HWC.out) Tryz.underlying22 info5 (put_cap2 HX10.out) HB.out ?_; intro vM wM hv hb; have HOM := Aside0.mk hv; have HBM := Aside0.mk hb; clear hv hb HB; have HB := HBM; clear HBM)
          go_cut [14] (fun v14 wc => ∃ (kq : Nat) (x14_16 : List Int), Aside0 (der_Put.j3 kq l3 x10_2 x14_16 = some (r1, r2)) ∧ Aside0 (kq ≤ kj14) ∧ Aside0 (Kd.R (Kd.int .u8) 5 wc w.heap.size (fun _ => True) v14 x14_16) ∧ Aside0 (Below w.heap.size w wc))
          case first =>
            have H := HC17.out
            clear HC17
            by_cases c18 : a1 < 31
            · rw [if_pos c18] at H
              have c18b0 : decide (a1 < 31) = true := decide_eq_true c18
              clear c18
              (first | rw [c18b0] | (simp only [i64_w, i32_w]; rw [c18b0]) | skip)
              by_cases c19 : ([] : List Int).length < 140737488355328
              rotate_left
              · rw [if_neg c19] at H
                exact absurd H (by simp)
              rw [if_pos c19] at H
              have LMc19 := Aside0.mk c19
              clear c19
              obtain ⟨y276, hy276⟩ : ∃ y_ : List Int, y_ = (([] : List Int) ++ [Go.bits .or .u8 x13_14 ((a1) % 256)]) := ⟨_, rfl⟩
              replace H : (der_Put.j3 kj14 l3 x10_2 y276) = some (r1, r2) := by first | (rw [hy276]; with_reducible exact H) | (have H2_ := (Option.bind_some _ _).symm.trans H; rw [hy276]; with_reducible exact H2_) | (have H2_ := (Option.bind_some _ _).symm.trans H; with_reducible exact H2_) | with_reducible exact H | (rw [hy276]; exact H) | exact H
              have Ny276 := Aside0.mk hy276
              clear hy276
              have H' := Aside0.mk H
              clear H
              go_wp2_with (first | ((with_reducible refine gate_builtin (b := .append) (xs := #[.tmp 65, .tmp 70]) rfl ?_); at_builtin; refine Kd.R_append (Kd.int .u8) (w0 := w) w.heap.size rfl (.tmp 65) (.tmp 70) 22 5 (.int .u8 0) 1 rfl Tryz.underlying22 info5 rfl (by decide) (by omega) vM ([] : List Int) (Go.bits .or .u8 x13_14 ((a1) % 256)) [.int .u8 (Go.bits .or .u8 x13_14 ((a1) % 256))] (fun _ => True) (fun _ => False) rfl rfl ?aP (fun _ hk => hk.elim) ?aF ?aO ?aB ?aS ?aL ?_; (case aP => exact rfl); (case aB => exact (by repeat (first | (with_reducible first | exact HB.out | apply below_alloc | apply pw_below_drewN | apply below_drew1) | exact HB.out))); (case aF => exact (fun _ _ => trivial)); (case aO => exact (by (with_reducible repeat (first | apply Kd.R_alloc | apply Kd.R_drewN | apply Kd.R_drew)); exact HOM.out)); (case aS => exact (below_size (by repeat (first | (with_reducible first | exact HB.out | apply below_alloc | apply pw_below_drewN | apply below_drew1) | exact HB.out)))); (case aL => have := LMc19.out; omega); intro v277 w20 ho hb hg hat; rw [← Ny276.out] at ho; have n0_ := Aside0.mk (hb); have n1_ := Aside0.mk (ho); clear HB; have HB := n0_; have HO278 := n1_; clear n0_ n1_; clear ho hb hg hat))
              go_meet
              case rel => exact ⟨_, (y276), H', ⟨by have := HJ4.out; have := HK2.out; have := HJ14.out; first | omega | exact Nat.le_refl _⟩, ⟨by (with_reducible repeat (first | apply Kd.R_alloc | apply Kd.R_drewN | apply Kd.R_drew)); exact HO278.out⟩, ⟨by repeat (first | (with_reducible first | exact HB.out | apply below_alloc | apply pw_below_drewN | apply below_drew1) | exact HB.out)⟩⟩
            rw [if_neg c18] at H
            have c18b0 : decide (a1 < 31) = false := decide_eq_false c18
            clear c18
            (first | rw [c18b0] | (simp only [i64_w, i32_w]; rw [c18b0]) | skip)
            by_cases c21 : ([] : List Int).length < 140737488355328
            rotate_left
            · rw [if_neg c21] at H
              exact absurd H (by simp)
            rw [if_pos c21] at H
            have LMc21 := Aside0.mk c21
            clear c21
            obtain ⟨y279, hy279⟩ : ∃ y_ : List Int, y_ = (([] : List Int) ++ [Go.bits .or .u8 x13_14 31]) := ⟨_, rfl⟩
            replace H : ((der_seven.f kj14 (IntKind.u64.wrap (a1))).bind fun t282 => (if y279.length + t282.length < 140737488355328 then (der_Put.j3 kj14 l3 x10_2 (y279 ++ t282)) else (none))) = some (r1, r2) := by first | (rw [hy279]; with_reducible exact H) | (have H2_ := (Option.bind_some _ _).symm.trans H; rw [hy279]; with_reducible exact H2_) | (have H2_ := (Option.bind_some _ _).symm.trans H; with_reducible exact H2_) | with_reducible exact H | (rw [hy279]; exact H) | exact H
            have Ny279 := Aside0.mk hy279
            clear hy279
            replace H := Option.bind_eq_some_iff.mp H
            obtain ⟨t282, A220, H⟩ := H
            replace H : (if y279.length + t282.length < 140737488355328 then (der_Put.j3 kj14 l3 x10_2 (y279 ++ t282)) else (none)) = some (r1, r2) := H
            have A22 := Aside0.mk A220
            clear A220
            by_cases c23 : y279.length + t282.length < 140737488355328
            rotate_left
            · rw [if_neg c23] at H
              exact absurd H (by simp)
            rw [if_pos c23] at H
            have LMc23 := Aside0.mk c23
            clear c23
            obtain ⟨y285, hy285⟩ : ∃ y_ : List Int, y_ = (y279 ++ t282) := ⟨_, rfl⟩
            replace H : (der_Put.j3 kj14 l3 x10_2 y285) = some (r1, r2) := by first | (rw [hy285]; with_reducible exact H) | (have H2_ := (Option.bind_some _ _).symm.trans H; rw [hy285]; with_reducible exact H2_) | (have H2_ := (Option.bind_some _ _).symm.trans H; with_reducible exact H2_) | with_reducible exact H | (rw [hy285]; exact H) | exact H
            have Ny285 := Aside0.mk hy285
            clear hy285
            have H' := Aside0.mk H
            clear H
            go_wp2_with (first | ((with_reducible refine gate_builtin (b := .append) (xs := #[.tmp 72, .tmp 75]) rfl ?_); at_builtin; refine Kd.R_append (Kd.int .u8) (w0 := w) w.heap.size rfl (.tmp 72) (.tmp 75) 22 5 (.int .u8 0) 1 rfl Tryz.underlying22 info5 rfl (by decide) (by omega) vM ([] : List Int) (Go.bits .or .u8 x13_14 31) [.int .u8 (Go.bits .or .u8 x13_14 31)] (fun _ => True) (fun _ => False) rfl rfl ?aP (fun _ hk => hk.elim) ?aF ?aO ?aB ?aS ?aL ?_; (case aP => exact rfl); (case aB => exact (by repeat (first | (with_reducible first | exact HB.out | apply below_alloc | apply pw_below_drewN | apply below_drew1) | exact HB.out))); (case aF => exact (fun _ _ => trivial)); (case aO => exact (by (with_reducible repeat (first | apply Kd.R_alloc | apply Kd.R_drewN | apply Kd.R_drew)); exact HOM.out)); (case aS => exact (below_size (by repeat (first | (with_reducible first | exact HB.out | apply below_alloc | apply pw_below_drewN | apply below_drew1) | exact HB.out)))); (case aL => have := LMc21.out; omega); intro v280 w24 ho hb hg hat; rw [← Ny279.out] at ho; have n0_ := Aside0.mk (hb); have n1_ := Aside0.mk (ho); clear HB; have HB := n0_; have HO281 := n1_; clear n0_ n1_; clear ho hb hg hat) | ((with_reducible refine gate_callee (f := 219) rfl ?_); refine goesL_ (some 80) rfl rfl Tryz.func219 (by kernel_rfl) rfl #[.int .u64 (IntKind.u64.wrap (a1))] rfl (by (try simp only [List.map_toArray, List.map_cons, List.map_nil]); first | done | rfl | (simp only [List.length_drop, List.length_take]; rfl)) ?_; (with_reducible refine (der_seven.calls kj14 (IntKind.u64.wrap (a1)) t282 _ A22.out).mono ?_); rintro e w25 ⟨v283, rfl, ho0, hb⟩; refine ⟨_, rfl, ?_⟩; have n0_ := Aside0.mk (Kd.R_elder' (by (with_reducible repeat (first | apply Kd.R_alloc | apply Kd.R_drewN | apply Kd.R_drew)); exact HO281.out) (Kd.R_base ho0) hb); have n1_ := Aside0.mk (Kd.R_lower (Kd.R_new' ho0 (Kd.R_lt (by (with_reducible repeat (first | apply Kd.R_alloc | apply Kd.R_drewN | apply Kd.R_drew)); exact HO281.out))) (below_size (by repeat (first | (with_reducible first | exact HB.out | apply below_alloc | apply pw_below_drewN | apply below_drew1) | exact HB.out)))); have n2_ := Aside0.mk (below_step (by repeat (first | (with_reducible first | exact HB.out | apply below_alloc | apply pw_below_drewN | apply below_drew1) | exact HB.out)) hb); clear HO281; clear HB; have HO281 := n0_; have HO284 := n1_; have HB := n2_; clear n0_ n1_ n2_; (try clear hb); (try clear hb2); (try clear hk); (try clear hi); (try clear ho0); obtain ⟨Ao27, co27, eo27⟩ := Kd.R_slice HO284.out; subst eo27) | ((with_reducible refine gate_builtin (b := .append) (xs := #[.tmp 77, .tmp 80]) rfl ?_); at_builtin; refine Kd.R_append_rows (Kd.int .u8) (w0 := w) w.heap.size rfl (.tmp 77) (.tmp 80) 22 5 (.int .u8 0) 1 rfl Tryz.underlying22 info5 rfl (by decide) (by omega) v280 y279 t282 _ _ _ (fun k_ => some k_ ≠ (.slice Ao27 t282.length co27 : Value).ownBlock) (fun _ => False) rfl rfl ?aO ?aR (fun _ _ h => h) (fun _ h => h.elim) ?aF ?aB ?aS ?aL ?_; (case aR => repeat (first | exact (Kd.R_reads' HO284.out).2.2 | (with_reducible refine Kd.C_alloc ?_ _) | (with_reducible refine Kd.C_drewN ?_ _) | (with_reducible refine Kd.C_drew ?_))); (case aB => exact (by repeat (first | (with_reducible first | exact HB.out | apply below_alloc | apply pw_below_drewN | apply below_drew1) | exact HB.out))); (case aF => exact (fun k_ hk => Kd.fresh' (Kd.R_lt (by (with_reducible repeat (first | apply Kd.R_alloc | apply Kd.R_drewN | apply Kd.R_drew)); exact HO284.out)) k_ hk)); (case aO => exact (by (with_reducible repeat (first | apply Kd.R_alloc | apply Kd.R_drewN | apply Kd.R_drew)); exact Kd.R_mono HO281.out (fun _ hk => hk.2))); (case aS => exact (below_size (by repeat (first | (with_reducible first | exact HB.out | apply below_alloc | apply pw_below_drewN | apply below_drew1) | exact HB.out)))); (case aL => have := LMc23.out; omega); intro v286 w26 ho hb hg hat; rw [← Ny285.out] at ho; have n0_ := Aside0.mk (Kd.R_after (ok := (fun _ => True)) (by (with_reducible repeat (first | apply Kd.R_alloc | apply Kd.R_drewN | apply Kd.R_drew)); exact HO284.out) hg hat); have n1_ := Aside0.mk (hb); have n2_ := Aside0.mk (ho); clear HO284; clear HB; clear HO281; have HO284 := n0_; have HB := n1_; have HO287 := n2_; clear n0_ n1_ n2_; clear ho hb hg hat))
            go_meet
            case rel => exact ⟨_, (y285), H', ⟨by have := HJ4.out; have := HK2.out; have := HJ14.out; first | omega | exact Nat.le_refl _⟩, ⟨by (with_reducible repeat (first | apply Kd.R_alloc | apply Kd.R_drewN | apply Kd.R_drew)); exact Kd.R_mono HO287.out (fun _ hk => trivial)⟩, ⟨by repeat (first | (with_reducible first | exact HB.out | apply below_alloc | apply pw_below_drewN | apply below_drew1) | exact HB.out)⟩⟩
          clear HC17
          obtain ⟨kq, x14_16, HA, HJ16, HO_14, HB⟩ := hcut
          cases kq with
          | zero => exact absurd HA.out (by simp [der_Put.j3])
          | succ kj16 =>
            have H := HA.out
            clear HA
            simp only [der_Put.j3] at H
            have HC28 := Aside0.mk H
            clear H
            go_upto_if 83 with (fail)
            go_cut [14] (fun v14 wc => ∃ (kq : Nat) (x14_27 : List Int), Aside0 (der_Put.j4 kq l3 x14_27 = some (r1, r2)) ∧ Aside0 (kq ≤ kj16) ∧ Aside0 (Kd.R (Kd.int .u8) 5 wc w.heap.size (fun _ => True) v14 x14_27) ∧ Aside0 (Below w.heap.size w wc))
            case first =>
              have H := HC28.out
              clear HC28
              by_cases c29 : x10_2 < 128
              · rw [if_pos c29] at H
                have c29b0 : decide (x10_2 < 128) = true := decide_eq_true c29
                clear c29
                (first | rw [c29b0] | (simp only [i64_w, i32_w]; rw [c29b0]) | skip)
                by_cases c30 : x14_16.length < 140737488355328
                rotate_left
                · rw [if_neg c30] at H
                  exact absurd H (by simp)
                rw [if_pos c30] at H
                have LMc30 := Aside0.mk c30
                clear c30
                obtain ⟨y288, hy288⟩ : ∃ y_ : List Int, y_ = (x14_16 ++ [(x10_2) % 256]) := ⟨_, rfl⟩
                replace H : (der_Put.j4 kj16 l3 y288) = some (r1, r2) := by first | (rw [hy288]; with_reducible exact H) | (have H2_ := (Option.bind_some _ _).symm.trans H; rw [hy288]; with_reducible exact H2_) | (have H2_ := (Option.bind_some _ _).symm.trans H; with_reducible exact H2_) | with_reducible exact H | (rw [hy288]; exact H) | exact H
                have Ny288 := Aside0.mk hy288
                clear hy288
                have H' := Aside0.mk H
                clear H
                go_wp2_with (first | ((with_reducible refine gate_builtin (b := .append) (xs := #[.tmp 84, .tmp 87]) rfl ?_); at_builtin; refine Kd.R_append (Kd.int .u8) (w0 := w) w.heap.size rfl (.tmp 84) (.tmp 87) 22 5 (.int .u8 0) 1 rfl Tryz.underlying22 info5 rfl (by decide) (by omega) u14 x14_16 ((x10_2) % 256) [.int .u8 ((x10_2) % 256)] (fun _ => True) (fun _ => False) rfl rfl ?aP (fun _ hk => hk.elim) ?aF ?aO ?aB ?aS ?aL ?_; (case aP => exact rfl); (case aB => exact (by repeat (first | (with_reducible first | exact HB.out | apply below_alloc | apply pw_below_drewN | apply below_drew1) | exact HB.out))); (case aF => exact (fun _ _ => trivial)); (case aO => exact (by (with_reducible repeat (first | apply Kd.R_alloc | apply Kd.R_drewN | apply Kd.R_drew)); exact HO_14.out)); (case aS => exact (below_size (by repeat (first | (with_reducible first | exact HB.out | apply below_alloc | apply pw_below_drewN | apply below_drew1) | exact HB.out)))); (case aL => have := LMc30.out; omega); intro v289 w31 ho hb hg hat; rw [← Ny288.out] at ho; have n0_ := Aside0.mk (hb); have n1_ := Aside0.mk (ho); clear HB; clear HO_14; have HB := n0_; have HO290 := n1_; clear n0_ n1_; clear ho hb hg hat))
                go_meet
                case rel => exact ⟨_, (y288), H', ⟨by have := HJ4.out; have := HK2.out; have := HJ14.out; have := HJ16.out; first | omega | exact Nat.le_refl _⟩, ⟨by (with_reducible repeat (first | apply Kd.R_alloc | apply Kd.R_drewN | apply Kd.R_drew)); exact HO290.out⟩, ⟨by repeat (first | (with_reducible first | exact HB.out | apply below_alloc | apply pw_below_drewN | apply below_drew1) | exact HB.out)⟩⟩
              rw [if_neg c29] at H
              have c29b0 : decide (x10_2 < 128) = false := decide_eq_false c29
              clear c29
              (first | rw [c29b0] | (simp only [i64_w, i32_w]; rw [c29b0]) | skip)
              obtain ⟨y291, hy291⟩ : ∃ y_ : List Int, y_ = (([(x10_2 / 16777216) % 256, (x10_2 / 65536) % 256, (x10_2 / 256) % 256, (x10_2) % 256] : List Int)) := ⟨_, rfl⟩
              replace H : ((bytes_trimLeftByte.f kj16 y291 0).bind fun t294 => (if x14_16.length < 140737488355328 then ((some (x14_16 ++ [Go.bits .or .u8 128 (((t294.length : Int)) % 256)] : List Int)).bind fun y297 => (if y297.length + t294.length < 140737488355328 then (der_Put.j4 kj16 l3 (y297 ++ t294)) else (none))) else (none))) = some (r1, r2) := by first | (rw [hy291]; with_reducible exact H) | (have H2_ := (Option.bind_some _ _).symm.trans H; rw [hy291]; with_reducible exact H2_) | (have H2_ := (Option.bind_some _ _).symm.trans H; with_reducible exact H2_) | with_reducible exact H | (rw [hy291]; exact H) | exact H
              have Ny291 := Aside0.mk hy291
              clear hy291
              replace H := Option.bind_eq_some_iff.mp H
              obtain ⟨t294, A320, H⟩ := H
              replace H : (if x14_16.length < 140737488355328 then ((some (x14_16 ++ [Go.bits .or .u8 128 (((t294.length : Int)) % 256)] : List Int)).bind fun y297 => (if y297.length + t294.length < 140737488355328 then (der_Put.j4 kj16 l3 (y297 ++ t294)) else (none))) else (none)) = some (r1, r2) := H
              have A32 := Aside0.mk A320
              clear A320
              by_cases c33 : x14_16.length < 140737488355328
              rotate_left
              · rw [if_neg c33] at H
                exact absurd H (by simp)
              rw [if_pos c33] at H
              have LMc33 := Aside0.mk c33
              clear c33
              obtain ⟨y297, hy297⟩ : ∃ y_ : List Int, y_ = (x14_16 ++ [Go.bits .or .u8 128 (((t294.length : Int)) % 256)]) := ⟨_, rfl⟩
              replace H : (if y297.length + t294.length < 140737488355328 then (der_Put.j4 kj16 l3 (y297 ++ t294)) else (none)) = some (r1, r2) := by first | (rw [hy297]; with_reducible exact H) | (have H2_ := (Option.bind_some _ _).symm.trans H; rw [hy297]; with_reducible exact H2_) | (have H2_ := (Option.bind_some _ _).symm.trans H; with_reducible exact H2_) | with_reducible exact H | (rw [hy297]; exact H) | exact H
              have Ny297 := Aside0.mk hy297
              clear hy297
              by_cases c34 : y297.length + t294.length < 140737488355328
              rotate_left
              · rw [if_neg c34] at H
                exact absurd H (by simp)
              rw [if_pos c34] at H
              have LMc34 := Aside0.mk c34
              clear c34
              obtain ⟨y300, hy300⟩ : ∃ y_ : List Int, y_ = (y297 ++ t294) := ⟨_, rfl⟩
              replace H : (der_Put.j4 kj16 l3 y300) = some (r1, r2) := by first | (rw [hy300]; with_reducible exact H) | (have H2_ := (Option.bind_some _ _).symm.trans H; rw [hy300]; with_reducible exact H2_) | (have H2_ := (Option.bind_some _ _).symm.trans H; with_reducible exact H2_) | with_reducible exact H | (rw [hy300]; exact H) | exact H
              have Ny300 := Aside0.mk hy300
              clear hy300
              have H' := Aside0.mk H
              clear H
              go_wp2_with (first | ((with_reducible refine gate_dst (N := 100) rfl ?_); refine Kd.R_lit (Kd.int .u8) _ 5 ?hg (N := 100) ?hd (xs := ([(x10_2 / 16777216) % 256, (x10_2 / 65536) % 256, (x10_2 / 256) % 256, (x10_2) % 256] : List Int)) (inner := [.int .u8 ((x10_2 / 16777216) % 256), .int .u8 ((x10_2 / 65536) % 256), .int .u8 ((x10_2 / 256) % 256), .int .u8 ((x10_2) % 256)]) (ok := fun _ => True) (okp := fun _ => True) ?hr ?hp (fun _ hk => hk) trivial (Below.refl _ _) (Nat.le_refl _) (by simp) ?_; (case hd => rfl); (case hg => rfl); (case hr => first | (go_simp; done) | (go_simp; rfl)); (case hp => exact (Reps.one (show Kd.M (Kd.int .u8) _ _ _ ((x10_2 / 16777216) % 256) [.int .u8 ((x10_2 / 16777216) % 256)] from rfl) (Reps.one (show Kd.M (Kd.int .u8) _ _ _ ((x10_2 / 65536) % 256) [.int .u8 ((x10_2 / 65536) % 256)] from rfl) (Reps.one (show Kd.M (Kd.int .u8) _ _ _ ((x10_2 / 256) % 256) [.int .u8 ((x10_2 / 256) % 256)] from rfl) (Reps.one (show Kd.M (Kd.int .u8) _ _ _ ((x10_2) % 256) [.int .u8 ((x10_2) % 256)] from rfl) (Reps.none _ _)))))); intro v292 w35 ho36 hb hg_ hnew_; clear hg_ hnew_; (first | rw [← Ny291.out] at ho36 | (simp only [Int.reduceToNat] at ho36; rw [← Ny291.out] at ho36)); have n0_ := Aside0.mk (Kd.R_elder' (by (with_reducible repeat (first | apply Kd.R_alloc | apply Kd.R_drewN | apply Kd.R_drew)); exact HO_14.out) (Kd.R_base ho36) hb); have n1_ := Aside0.mk (Kd.R_lower (Kd.R_new' ho36 (Kd.R_lt (by (with_reducible repeat (first | apply Kd.R_alloc | apply Kd.R_drewN | apply Kd.R_drew)); exact HO_14.out))) (below_size (by repeat (first | (with_reducible first | exact HB.out | apply below_alloc | apply pw_below_drewN | apply below_drew1) | exact HB.out)))); have n2_ := Aside0.mk (below_step (by repeat (first | (with_reducible first | exact HB.out | apply below_alloc | apply pw_below_drewN | apply below_drew1) | exact HB.out)) hb); clear HO_14; clear HB; have HO_14 := n0_; have HO293 := n1_; have HB := n2_; clear n0_ n1_ n2_; clear hb ho36; obtain ⟨Ao37, co37, eo37⟩ := Kd.R_slice HO293.out; subst eo37) | ((with_reducible refine gate_callee (f := 218) rfl ?_); refine goesL_ (some 101) rfl rfl Tryz.func218 (by kernel_rfl) rfl #[.slice Ao37 y291.length co37, .string (⟨#[0]⟩ : ByteArray)] rfl (by (try simp only [List.map_toArray, List.map_cons, List.map_nil]); first | done | rfl | (simp only [List.length_drop, List.length_take]; rfl)) ?_; (with_reducible refine (bytes_TrimLeft0.calls kj16 (fun k_ => some k_ = (.slice Ao37 y291.length co37 : Value).ownBlock) _ _ y291 t294 _ ?side1 A32.out).mono ?_); (case side1 => exact Kd.R_V (Kd.R_tight rfl (HO293.out))); rintro e w38 ⟨v295, rfl, ho0, hb⟩; refine ⟨_, rfl, ?_⟩; have n0_ := Aside0.mk (Kd.R_below (by (with_reducible repeat (first | apply Kd.R_alloc | apply Kd.R_drewN | apply Kd.R_drew)); exact HO_14.out) hb); have n1_ := Aside0.mk (Kd.R_below (by (with_reducible repeat (first | apply Kd.R_alloc | apply Kd.R_drewN | apply Kd.R_drew)); exact HO293.out) hb); have n2_ := Aside0.mk (Kd.V_lower (Kd.V_mono (ok' := fun k_ => some k_ ≠ (u14 : Value).ownBlock) ho0 (fun k_ hk_ => Or.elim hk_ (fun hs_ => ((HO293.out).1 k_ hs_.symm).2) (fun hn_ => (Kd.fresh' (Kd.R_lt (by (with_reducible repeat (first | apply Kd.R_alloc | apply Kd.R_drewN | apply Kd.R_drew)); exact HO_14.out)) k_ hn_)))) (below_size (by repeat (first | (with_reducible first | exact HB.out | apply below_alloc | apply pw_below_drewN | apply below_drew1) | exact HB.out)))); have n3_ := Aside0.mk (below_step (by repeat (first | (with_reducible first | exact HB.out | apply below_alloc | apply pw_below_drewN | apply below_drew1) | exact HB.out)) hb); clear HO_14; clear HO293; clear HB; have HO_14 := n0_; have HO293 := n1_; have HO296 := n2_; have HB := n3_; clear n0_ n1_ n2_ n3_; (try clear hb); (try clear hb2); (try clear hk); (try clear hi); (try clear ho0); obtain ⟨Ao39, co39, eo39⟩ := Kd.V_slice HO296.out; subst eo39) | ((with_reducible refine gate_builtin (b := .append) (xs := #[.tmp 102, .tmp 107]) rfl ?_); at_builtin; refine Kd.R_append (Kd.int .u8) (w0 := w) w.heap.size rfl (.tmp 102) (.tmp 107) 22 5 (.int .u8 0) 1 rfl Tryz.underlying22 info5 rfl (by decide) (by omega) u14 x14_16 (Go.bits .or .u8 128 (((t294.length : Int)) % 256)) [.int .u8 (Go.bits .or .u8 128 (((t294.length : Int)) % 256))] (fun k_ => some k_ ≠ (.slice Ao37 y291.length co37 : Value).ownBlock) (fun _ => False) rfl rfl ?aP (fun _ hk => hk.elim) ?aF ?aO ?aB ?aS ?aL ?_; (case aP => exact rfl); (case aB => exact (by repeat (first | (with_reducible first | exact HB.out | apply below_alloc | apply pw_below_drewN | apply below_drew1) | exact HB.out))); (case aF => exact (fun k_ hk => Kd.fresh' (Kd.R_lt (by (with_reducible repeat (first | apply Kd.R_alloc | apply Kd.R_drewN | apply Kd.R_drew)); exact HO293.out)) k_ hk)); (case aO => exact (by (with_reducible repeat (first | apply Kd.R_alloc | apply Kd.R_drewN | apply Kd.R_drew)); exact Kd.R_mono HO_14.out (fun _ hk => hk.2))); (case aS => exact (below_size (by repeat (first | (with_reducible first | exact HB.out | apply below_alloc | apply pw_below_drewN | apply below_drew1) | exact HB.out)))); (case aL => have := LMc33.out; omega); intro v298 w40 ho hb hg hat; rw [← Ny297.out] at ho; have n0_ := Aside0.mk (Kd.R_after (ok := (fun _ => True)) (by (with_reducible repeat (first | apply Kd.R_alloc | apply Kd.R_drewN | apply Kd.R_drew)); exact HO293.out) hg hat); have n1_ := Aside0.mk (Kd.V_afterv (ok := (fun _ => True)) (by (with_reducible repeat (first | apply Kd.V_alloc | apply Kd.V_drewN | apply Kd.V_drew)); exact Kd.V_mono HO296.out (fun _ hk => ⟨trivial, hk⟩)) hg hat); have n2_ := Aside0.mk (hb); have n3_ := Aside0.mk (ho); clear HO293; clear HO296; clear HB; clear HO_14; have HO293 := n0_; have HO296 := n1_; have HB := n2_; have HO299 := n3_; clear n0_ n1_ n2_ n3_; clear ho hb hg hat) | ((with_reducible refine gate_builtin (b := .append) (xs := #[.tmp 108, .tmp 109]) rfl ?_); at_builtin; refine Kd.R_append_rows (Kd.int .u8) (w0 := w) w.heap.size rfl (.tmp 108) (.tmp 109) 22 5 (.int .u8 0) 1 rfl Tryz.underlying22 info5 rfl (by decide) (by omega) v298 y297 t294 _ _ _ (fun k_ => some k_ ≠ (.slice Ao37 y291.length co37 : Value).ownBlock) (fun _ => False) rfl rfl ?aO ?aR (fun _ _ h => h) (fun _ h => h.elim) ?aF ?aB ?aS ?aL ?_; (case aR => repeat (first | exact (Kd.V_reads' HO296.out).2.2 | (with_reducible refine Kd.C_alloc ?_ _) | (with_reducible refine Kd.C_drewN ?_ _) | (with_reducible refine Kd.C_drew ?_))); (case aB => exact (by repeat (first | (with_reducible first | exact HB.out | apply below_alloc | apply pw_below_drewN | apply below_drew1) | exact HB.out))); (case aF => exact (fun k_ hk => Kd.fresh' (Kd.R_lt (by (with_reducible repeat (first | apply Kd.R_alloc | apply Kd.R_drewN | apply Kd.R_drew)); exact HO293.out)) k_ hk)); (case aO => exact (by (with_reducible repeat (first | apply Kd.R_alloc | apply Kd.R_drewN | apply Kd.R_drew)); exact HO299.out)); (case aS => exact (below_size (by repeat (first | (with_reducible first | exact HB.out | apply below_alloc | apply pw_below_drewN | apply below_drew1) | exact HB.out)))); (case aL => have := LMc34.out; omega); intro v301 w41 ho hb hg hat; rw [← Ny300.out] at ho; have n0_ := Aside0.mk (Kd.R_after (ok := (fun _ => True)) (by (with_reducible repeat (first | apply Kd.R_alloc | apply Kd.R_drewN | apply Kd.R_drew)); exact HO293.out) hg hat); have n1_ := Aside0.mk (Kd.V_afterv (ok := (fun _ => True)) (by (with_reducible repeat (first | apply Kd.V_alloc | apply Kd.V_drewN | apply Kd.V_drew)); exact HO296.out) hg hat); have n2_ := Aside0.mk (hb); have n3_ := Aside0.mk (ho); clear HO293; clear HO296; clear HB; clear HO299; have HO293 := n0_; have HO296 := n1_; have HB := n2_; have HO302 := n3_; clear n0_ n1_ n2_ n3_; clear ho hb hg hat))
              go_meet
              case rel => exact ⟨_, (y300), H', ⟨by have := HJ4.out; have := HK2.out; have := HJ14.out; have := HJ16.out; first | omega | exact Nat.le_refl _⟩, ⟨by (with_reducible repeat (first | apply Kd.R_alloc | apply Kd.R_drewN | apply Kd.R_drew)); exact Kd.R_mono HO302.out (fun _ hk => trivial)⟩, ⟨by repeat (first | (with_reducible first | exact HB.out | apply below_alloc | apply pw_below_drewN | apply below_drew1) | exact HB.out)⟩⟩
            clear HC28
            obtain ⟨kq, x14_27, HA, HJ27, HO_14, HB⟩ := hcut
            cases kq with
            | zero => exact absurd HA.out (by simp [der_Put.j4])
            | succ kj27 =>
              have H := HA.out
              clear HA
              simp only [der_Put.j4] at H
              have H' := Aside0.mk H
              clear H
              go_wp2
              go_loopg [14, 113] kj27 (fun kq v14 v113 w' => ∃ (x14_6 : List Int) (x113_6 : Int), v113 = .int .i64 x113_6 ∧ Aside0 (der_Put.l1 kq x14_6 l3 (l3.length : Int) x113_6 = some (r1, r2)) ∧ Aside0 (kq ≤ kj27) ∧ Aside0 (Kd.R (Kd.int .u8) 5 w' w.heap.size (fun _ => True) v14 x14_6) ∧ Aside0 (Below w.heap.size w w'))
              case atStart => exact ⟨(x14_27), (0), (by first | rfl | (simp; done) | (simp [*]; done)), H', ⟨Nat.le_refl _⟩, ⟨by (with_reducible repeat (first | apply Kd.R_alloc | apply Kd.R_drewN | apply Kd.R_drew)); exact HO_14.out⟩, ⟨by repeat (first | (with_reducible first | exact HB.out | apply below_alloc | apply pw_below_drewN | apply below_drew1) | exact HB.out)⟩⟩
              case round =>
                clear H'
                obtain ⟨x14_6, x113_6, rfl, HA, HK6, HO_14, HB⟩ := hrel
                cases gk with
                | zero => exact absurd HA.out (by simp [der_Put.l1])
                | succ k6 =>
                  have H := HA.out
                  clear HA
                  simp only [der_Put.l1] at H
                  by_cases c42 : x113_6 < (l3.length : Int)
                  rotate_left
                  · rw [if_neg c42] at H
                    have c42b0 : decide (x113_6 < (l3.length : Int)) = false := decide_eq_false c42
                    clear c42
                    simp only [Option.some.injEq, Prod.mk.injEq] at H
                    obtain ⟨rfl, rfl⟩ := H
                    go_wp2
                    go_ret2
                    exact ⟨_, by first | rfl | (simp [errW_none, errW_some] <;> rfl) | (simp [*, errW_none, errW_some] <;> rfl), by (with_reducible repeat (first | apply Kd.R_alloc | apply Kd.R_drewN | apply Kd.R_drew)); exact HO_14.out, by repeat (first | (with_reducible first | exact HB.out | apply below_alloc | apply pw_below_drewN | apply below_drew1) | exact HB.out)⟩
                  rw [if_pos c42] at H
                  have c42b0 : decide (x113_6 < (l3.length : Int)) = true := decide_eq_true c42
                  clear c42
                  by_cases c43 : 0 ≤ x113_6
                  rotate_left
                  · rw [if_neg c43] at H
                    exact absurd H (by simp)
                  rw [if_pos c43] at H
                  have c43b0 : decide (0 ≤ x113_6) = true := decide_eq_true c43
                  clear c43
                  by_cases c44 : x113_6 < (l3.length : Int)
                  rotate_left
                  · rw [if_neg c44] at H
                    exact absurd H (by simp)
                  rw [if_pos c44] at H
                  have c44b0 : decide (x113_6 < (l3.length : Int)) = true := decide_eq_true c44
                  clear c44
                  by_cases c45 : x14_6.length + (rd_L1 l3 x113_6).length < 140737488355328
                  rotate_left
                  · rw [if_neg c45] at H
                    exact absurd H (by simp)
                  rw [if_pos c45] at H
                  have LMc45 := Aside0.mk c45
                  clear c45
                  obtain ⟨y304, hy304⟩ : ∃ y_ : List Int, y_ = (x14_6 ++ (rd_L1 l3 x113_6)) := ⟨_, rfl⟩
                  replace H : (der_Put.l1 k6 y304 l3 (l3.length : Int) (wrap64 (x113_6 + 1))) = some (r1, r2) := by first | (rw [hy304]; with_reducible exact H) | (have H2_ := (Option.bind_some _ _).symm.trans H; rw [hy304]; with_reducible exact H2_) | (have H2_ := (Option.bind_some _ _).symm.trans H; with_reducible exact H2_) | with_reducible exact H | (rw [hy304]; exact H) | exact H
                  have Ny304 := Aside0.mk hy304
                  clear hy304
                  have H' := Aside0.mk H
                  clear H
                  have p303 : 0 ≤ (x113_6 : Int) := of_decide_eq_true (by first | (with_reducible assumption) | assumption)
                  have q303 : x113_6 < (l3.length : Int) := of_decide_eq_true (by first | (with_reducible assumption) | assumption)
                  obtain ⟨ad303, A303_0, c303_0, e303, hx303_0, hl303_0, hi303_0⟩ := at_L1 HR3.out x113_6 p303 q303
                  cases e303
                  replace hx303_0 := (HB.out.cell (World.block_lt_of_cell? w _ hx303_0)).trans hx303_0
                  have HR303_0 := Aside0.mk hi303_0
                  have HC303_0 := Aside0.mk hl303_0
                  clear hi303_0 hl303_0
                  replace p303 := eq_true p303
                  replace q303 := eq_true q303
                  go_wp2_with (first | ((with_reducible refine gate_builtin (b := .append) (xs := #[.tmp 117, .tmp 118]) rfl ?_); at_builtin; refine Kd.R_append_rows (Kd.int .u8) (w0 := w) w.heap.size rfl (.tmp 117) (.tmp 118) 22 5 (.int .u8 0) 1 rfl Tryz.underlying22 info5 rfl (by decide) (by omega) u14 x14_6 (rd_L1 l3 x113_6) _ _ _ (fun _ => True) (fun _ => False) rfl rfl ?aO ?aR (fun _ _ h => h) (fun _ h => h.elim) ?aF ?aB ?aS ?aL ?_; (case aR => repeat (first | exact (Kd.C_below HR303_0.out HB.out) | (with_reducible refine Kd.C_alloc ?_ _) | (with_reducible refine Kd.C_drewN ?_ _) | (with_reducible refine Kd.C_drew ?_))); (case aB => exact (by repeat (first | (with_reducible first | exact HB.out | apply below_alloc | apply pw_below_drewN | apply below_drew1) | exact HB.out))); (case aF => exact (fun _ _ => trivial)); (case aO => exact (by (with_reducible repeat (first | apply Kd.R_alloc | apply Kd.R_drewN | apply Kd.R_drew)); exact HO_14.out)); (case aS => exact (below_size (by repeat (first | (with_reducible first | exact HB.out | apply below_alloc | apply pw_below_drewN | apply below_drew1) | exact HB.out)))); (case aL => have := LMc45.out; omega); intro v305 w46 ho hb hg hat; rw [← Ny304.out] at ho; have n0_ := Aside0.mk (hb); have n1_ := Aside0.mk (ho); clear HB; clear HO_14; have HB := n0_; have HO306 := n1_; clear n0_ n1_; clear ho hb hg hat))
                  go_roundg k6
                  case measure => have := HJ4.out; have := HK2.out; have := HJ14.out; have := HJ16.out; have := HJ27.out; have := HK6.out; omega
                  case rel => exact ⟨(y304), (wrap64 (x113_6 + 1)), (by first | rfl | (simp; done) | (simp [*]; done)), H', ⟨by have := HJ4.out; have := HK2.out; have := HJ14.out; have := HJ16.out; have := HJ27.out; have := HK6.out; omega⟩, ⟨by (with_reducible repeat (first | apply Kd.R_alloc | apply Kd.R_drewN | apply Kd.R_drew)); exact HO306.out⟩, ⟨by repeat (first | (with_reducible first | exact HB.out | apply below_alloc | apply pw_below_drewN | apply below_drew1) | exact HB.out)⟩⟩
def name_about.f (k : Nat) (a0 : Int) (l1 : List (List Int)) : Option (List Int × Int) := (der_Put.f k 0 a0 true l1).bind fun bt307 => (if bt307.2 = 0 then (some (bt307.1, 0)) else (some (([] : List Int), bt307.2)))
set_option maxHeartbeats 8000000 in
set_option maxRecDepth 100000 in
theorem name_about.calls (k : Nat) (a0 : Int) (A1 : Option Addr) (c1 : Nat) (l1 : List (List Int)) (r1 : List Int) (r2 : Int) (w : World) (hr1 : Kd.C (Kd.slice 5 (Kd.int .u8)) w A1 l1.length l1) (hc1 : l1.length ≤ c1) (h : name_about.f k a0 l1 = some (r1, r2)) :
    Calls Tryz.prog 152 #[.int .i64 a0, .slice A1 l1.length c1] w fun e w' => ∃ v0_ ev_ : Value, e = .returned (.tuple #[v0_, ev_]) ∧ EV ev_ r2 ∧ Kd.R (Kd.int .u8) 5 w' w.heap.size (fun _ => True) v0_ r1 ∧ Below w.heap.size w w' := by
  have HR1 := Aside0.mk hr1
  have HC1 := Aside0.mk hc1
  clear hr1 hc1
  have HB := Aside0.mk (Below.refl w.heap.size w)
  have H : ((der_Put.f k 0 a0 true l1).bind fun bt307 => (if bt307.2 = 0 then (some (bt307.1, 0)) else (some (([] : List Int), bt307.2)))) = some (r1, r2) := h
  clear h
  replace H := Option.bind_eq_some_iff.mp H
  obtain ⟨⟨t307, t308⟩, A30, H⟩ := H
  replace H : (if t308 = 0 then (some (t307, 0)) else (some (([] : List Int), t308))) = some (r1, r2) := H
  have A3 := Aside0.mk A30
  clear A30
  by_cases c4 : t308 = 0
  rotate_left
  · rw [if_neg c4] at H
    have c4b0 : (t308 == 0) = false := beq_eq_false_iff_ne.mpr c4
    have c4b1 : (t308 != 0) = true := bne_iff_ne.mpr c4
    simp only [Option.some.injEq, Prod.mk.injEq] at H
    obtain ⟨rfl, rfl⟩ := H
    go_enter Tryz.func152, Tryz.ntmps152
    go_wp2_with (first | ((with_reducible refine gate_callee (f := 168) rfl ?_); refine goesL_ (some 11) rfl rfl Tryz.func168 (by kernel_rfl) rfl #[.int .i64 0, .int .i64 a0, .bool true, .slice A1 l1.length c1] rfl (by (try simp only [List.map_toArray, List.map_cons, List.map_nil]); first | done | rfl | (simp only [List.length_drop, List.length_take]; rfl)) ?_; (with_reducible refine (der_Put.calls k 0 a0 true _ _ l1 t307 t308 _ ?side1 ?side2 A3.out).mono ?_); (case side1 => repeat (first | exact HR1.out | (with_reducible refine Kd.C_alloc ?_ _) | (with_reducible refine Kd.C_drewN ?_ _) | (with_reducible refine Kd.C_drew ?_))); (case side2 => exact HC1.out); rintro e w6 ⟨v309, rfl, ho0, hb⟩; refine ⟨_, rfl, ?_⟩; have n0_ := Aside0.mk (Kd.R_lower ho0 (below_size (by repeat (first | (with_reducible first | exact HB.out | apply below_alloc | apply pw_below_drewN | apply below_drew1) | exact HB.out)))); have n1_ := Aside0.mk (below_step (by repeat (first | (with_reducible first | exact HB.out | apply below_alloc | apply pw_below_drewN | apply below_drew1) | exact HB.out)) hb); clear HB; have HO310 := n0_; have HB := n1_; clear n0_ n1_; (try clear hb); (try clear hb2); (try clear hk); (try clear hi); (try clear ho0)))
    go_ret2
    exact ⟨_, _, by first | rfl | (simp [errW_none, errW_some] <;> rfl) | (simp [*, errW_none, errW_some] <;> rfl), (by first | exact EV.nil | exact EV.f30 | exact EV.f5 | exact EV.f4 | exact EV.f1 | exact EV.low (by assumption) | exact HEV_.out | exact EV.part HEV_.out), by first | exact Kd.R_nil _ _ _ _ _ | exact Kd.N_nil _ _ _ _ _ | exact Kd.V_nil _ _ _ _ _ | exact Kd.Q_nil _ _ _ _ _ | exact Kd.S_nil _ _ _ _ _, by repeat (first | (with_reducible first | exact HB.out | apply below_alloc | apply pw_below_drewN | apply below_drew1) | exact HB.out)⟩
  rw [if_pos c4] at H
  have c4b0 : (t308 == 0) = true := beq_iff_eq.mpr c4
  have c4b1 : (t308 != 0) = false := bne_eq_false_iff_eq.mpr c4
  clear c4
  simp only [Option.some.injEq, Prod.mk.injEq] at H
  obtain ⟨rfl, rfl⟩ := H
  go_enter Tryz.func152, Tryz.ntmps152
  go_wp2_with (first | ((with_reducible refine gate_callee (f := 168) rfl ?_); refine goesL_ (some 11) rfl rfl Tryz.func168 (by kernel_rfl) rfl #[.int .i64 0, .int .i64 a0, .bool true, .slice A1 l1.length c1] rfl (by (try simp only [List.map_toArray, List.map_cons, List.map_nil]); first | done | rfl | (simp only [List.length_drop, List.length_take]; rfl)) ?_; (with_reducible refine (der_Put.calls k 0 a0 true _ _ l1 t307 t308 _ ?side1 ?side2 A3.out).mono ?_); (case side1 => repeat (first | exact HR1.out | (with_reducible refine Kd.C_alloc ?_ _) | (with_reducible refine Kd.C_drewN ?_ _) | (with_reducible refine Kd.C_drew ?_))); (case side2 => exact HC1.out); rintro e w5 ⟨v309, rfl, ho0, hb⟩; refine ⟨_, rfl, ?_⟩; have n0_ := Aside0.mk (Kd.R_lower ho0 (below_size (by repeat (first | (with_reducible first | exact HB.out | apply below_alloc | apply pw_below_drewN | apply below_drew1) | exact HB.out)))); have n1_ := Aside0.mk (below_step (by repeat (first | (with_reducible first | exact HB.out | apply below_alloc | apply pw_below_drewN | apply below_drew1) | exact HB.out)) hb); clear HB; have HO310 := n0_; have HB := n1_; clear n0_ n1_; (try clear hb); (try clear hb2); (try clear hk); (try clear hi); (try clear ho0)))
  go_ret2
  exact ⟨_, _, by first | rfl | (simp [errW_none, errW_some] <;> rfl) | (simp [*, errW_none, errW_some] <;> rfl), (by first | exact EV.nil | exact EV.f30 | exact EV.f5 | exact EV.f4 | exact EV.f1 | exact EV.low (by assumption) | exact HEV_.out | exact EV.part HEV_.out), by (with_reducible repeat (first | apply Kd.R_alloc | apply Kd.R_drewN | apply Kd.R_drew)); exact HO310.out, by repeat (first | (with_reducible first | exact HB.out | apply below_alloc | apply pw_below_drewN | apply below_drew1) | exact HB.out)⟩
end Go.Proofs.YtkioddjjfifadaaGreatDoor.P
namespace Go.Proofs.YtkioddjjfifadaaGreatDoor.P
open Go.RowKit Go.Proofs.YtkioddjjfifadaaGreatDoorW.PrintWords Go.Proofs.YtkioddjjfifadaaGreatDoorW.PrintLast Go.Proofs.YtkioddjjfifadaaGreatDoorW.PrintMore
attribute [local go_sem] max2_int min2_int max_two min_two max_three min_three max_four min_four
theorem R_iterG {α : Type} {d : Kd α} {e B kb p : Nat} {ok : Nat → Prop} {s : ByteArray} {w : World} {v : Value} {xs : List α} (h : d.R e w B ok v xs) (hb : w.heap[kb]? = some (.stringIter s p)) (p' : Nat) : d.R e (w.iterAt kb s p') B ok v xs :=
  Kd.R_mono (Kd.R_move (Kd.R_bound h) (fun k hk => by
    refine Lib.iterAt_other w kb k s p' ?_
    rintro rfl
    obtain ⟨_, _, _, _, _, cells, hc⟩ := hk
    rw [hb] at hc
    cases hc)) (fun _ hk => hk.1)
theorem iter_neG {α : Type} {d : Kd α} {e B kb p : Nat} {ok : Nat → Prop} {s : ByteArray} {w : World} {v : Value} {xs : List α} (h : d.R e w B ok v xs) (hb : w.heap[kb]? = some (.stringIter s p)) : some kb ≠ v.ownBlock := fun e => by
  obtain ⟨inner, ho⟩ := Kd.R_own h
  obtain ⟨cells, hc⟩ := own_typed ho kb e.symm
  rw [hb] at hc
  cases hc
def arcsGo (s : ByteArray) : Nat → Nat → List Int → Int → Int → Option (List Int)
  | 0, _, _, _, _ => none
  | f + 1, pos, l, v, n =>
    if pos < s.size then
      (if ((Utf8.decode s pos).1 : Int) = 46 ∧ 0 < n then arcsGo s f (pos + (Utf8.decode s pos).2) (l ++ [v]) 0 0
       else if ((Utf8.decode s pos).1 : Int) < 48 ∨ 57 < ((Utf8.decode s pos).1 : Int) ∨ (n = 1 ∧ v = 0) then none
       else arcsGo s f (pos + (Utf8.decode s pos).2) l (min (10 * v + (((Utf8.decode s pos).1 : Int) - 48)) 1099511627776) (min (n + 1) 20))
    else some l
def arcsEnd (l : List Int) : List Int × Bool :=
  if (l.length : Int) < 2 then ([], false) else if 2 < rd l 0 then ([], false) else if rd l 0 < 2 then (if 40 ≤ rd l 1 then ([], false) else (l, true)) else (l, true)
def der_arcs.f (a0 : ByteArray) : Option (List Int × Bool) :=
  if a0.size < 8796093022208 then some (match arcsGo (a0 ++ ⟨#[46]⟩) (a0.size + 2) 0 [] 0 0 with | none => ([], false) | some l => arcsEnd l) else none
set_option maxRecDepth 100000 in
set_option maxHeartbeats 8000000 in
theorem der_arcs.calls (a0 : ByteArray) (r1 : List Int) (r2 : Bool) (w : World) (h : der_arcs.f a0 = some (r1, r2)) :
    Calls Tryz.prog 238 #[.string a0] w fun e w' => ∃ v0_ : Value, e = .returned (.tuple #[v0_, .bool r2]) ∧ Kd.R (Kd.int .u64) 278 w' w.heap.size (fun _ => True) v0_ r1 ∧ Below w.heap.size w w' := by
  unfold der_arcs.f at h
  split at h
  case isFalse => cases h
  case isTrue hlen =>
  have h := Option.some.inj h
  have HLEN := Aside0.mk hlen
  have z46 : (⟨#[46]⟩ : ByteArray).size = 1 := rfl
  have hsz : (a0 ++ (⟨#[46]⟩ : ByteArray)).size = a0.size + 1 := by rw [ByteArray.size_append, z46]
  have yy : (9223372036854775807 < a0.size + 1) = False := eq_false (by omega)
  have HB0 := Aside0.mk (below_alloc (Below.refl w.heap.size w) (.stringIter (a0 ++ (⟨#[46]⟩ : ByteArray)) 0))
  have HIT : Aside0 ((w.alloc (.stringIter (a0 ++ (⟨#[46]⟩ : ByteArray)) 0)).heap[w.heap.size]? = some (.stringIter (a0 ++ (⟨#[46]⟩ : ByteArray)) 0)) := ⟨heap_alloc_new w _⟩
  have HE := Aside0.mk h
  have HSZ := Aside0.mk hsz
  clear h hsz hlen
  go_enter Tryz.func238, Tryz.ntmps238
  go_wp2_with fail
  generalize hS : a0 ++ (⟨#[46]⟩ : ByteArray) = S at *
  clear hS yy z46
  go_loopg [4, 5, 6] (S.size + 1) (fun kq v4 v5 v6 w' => ∃ (pos : Nat) (l : List Int) (v n : Int) (f : Nat), v5 = .int .u64 v ∧ v6 = .int .i64 n ∧ Aside0 (arcsGo S f pos l v n = arcsGo S (a0.size + 2) 0 [] 0 0) ∧ Aside0 (pos ≤ S.size ∧ S.size < f + pos ∧ S.size < kq + pos) ∧ Aside0 (l.length ≤ pos) ∧
    Aside0 (0 ≤ v ∧ v ≤ 1099511627776 ∧ 0 ≤ n ∧ n ≤ 20) ∧ Aside0 ((Kd.int .u64).R 278 w' w.heap.size (fun _ => True) v4 l) ∧ Aside0 (w'.heap[w.heap.size]? = some (.stringIter S pos)) ∧ Aside0 (Below w.heap.size w w'))
  case atStart => exact ⟨0, [], 0, 0, a0.size + 2, rfl, rfl, ⟨rfl⟩, ⟨⟨Nat.zero_le _, by have := HSZ.out; omega, by omega⟩⟩, ⟨Nat.zero_le _⟩, ⟨by decide⟩, ⟨Kd.R_nil _ _ _ _ _⟩, HIT, HB0⟩
  case round =>
    clear HB0 HIT
    obtain ⟨pos, l, v, n, f, rfl, rfl, HF, HI, HA, HV, HO, HIT, HB⟩ := hrel
    cases gk with
    | zero => exact absurd HI.out (by omega)
    | succ g1 =>
      obtain ⟨f1, rfl⟩ : ∃ f1, f = f1 + 1 := ⟨f - 1, by have := HI.out; omega⟩
      by_cases hp : pos < S.size
      rotate_left
      · have he : pos = S.size := by have := HI.out; omega
        have HR : Aside0 (arcsGo S (a0.size + 2) 0 [] 0 0 = some l) := ⟨by have := HF.out; rw [arcsGo, if_neg hp] at this; exact this.symm⟩
        have hE := HE.out
        rw [HR.out] at hE
        have HE2 : Aside0 (arcsEnd l = (r1, r2)) := ⟨hE⟩
        have hnx0 : ∀ ty, (Instr.next (.pointer (some ⟨w.heap.size, 0, none⟩)) true ty).run Tryz.prog wr = _ := fun ty => Lib.run_next_end_at wr w.heap.size S pos ty HIT.out (by omega)
        obtain ⟨Ao, co, hu⟩ := Kd.R_slice HO.out
        subst hu
        have HC := Aside0.mk (Kd.R_reads' HO.out).2.2
        have hnx := hnx0
        clear hnx0 hE
        by_cases hl : (l.length : Int) < 2
        · have e1 : decide ((l.length : Int) < 2) = true := decide_eq_true hl
          have HX : Aside0 (([], false) = (r1, r2)) := ⟨by have := HE2.out; rw [arcsEnd, if_pos hl] at this; exact this⟩
          clear hl
          go_wp2_with fail
          go_ret2
          obtain ⟨rfl, rfl⟩ := Prod.mk.inj (HX.out)
          exact ⟨_, rfl, Kd.R_nil _ _ _ _ _, HB.out⟩
        have e1 : decide ((l.length : Int) < 2) = false := decide_eq_false hl
        have p244 : 0 ≤ (0 : Int) := (by omega)
        have q244 : 0 < (l.length : Int) := by omega
        obtain ⟨ad244, e244, hx244_0⟩ := Kd.at_int HC.out 0 p244 q244
        cases e244
        have qi244 : (0 < l.length) = True := eq_true (by omega)
        (try rw [show ((0 : Int)).toNat = 0 from rfl] at hx244_0)
        (try rw [Addr.add_zero'] at hx244_0)
        replace p244 := eq_true p244
        replace q244 := eq_true q244
        by_cases h2 : 2 < rd l 0
        · have e2 : decide (2 < rd l 0) = true := decide_eq_true h2
          have HX : Aside0 (([], false) = (r1, r2)) := ⟨by have := HE2.out; rw [arcsEnd, if_neg hl, if_pos h2] at this; exact this⟩
          clear h2
          clear hl
          go_wp2_with fail
          go_ret2
          obtain ⟨rfl, rfl⟩ := Prod.mk.inj (HX.out)
          exact ⟨_, rfl, Kd.R_nil _ _ _ _ _, HB.out⟩
        have e2 : decide (2 < rd l 0) = false := decide_eq_false h2
        by_cases h3 : rd l 0 < 2
        rotate_left
        · have e3 : decide (rd l 0 < 2) = false := decide_eq_false h3
          have HX : Aside0 ((l, true) = (r1, r2)) := ⟨by have := HE2.out; rw [arcsEnd, if_neg hl, if_neg h2, if_neg h3] at this; exact this⟩
          clear h2 h3
          clear hl
          go_wp2_with fail
          go_ret2
          obtain ⟨rfl, rfl⟩ := Prod.mk.inj (HX.out)
          exact ⟨_, rfl, HO.out, HB.out⟩
        have e3 : decide (rd l 0 < 2) = true := decide_eq_true h3
        have p245 : 0 ≤ (1 : Int) := (by omega)
        have q245 : 1 < (l.length : Int) := by omega
        obtain ⟨ad245, e245, hx245_0⟩ := Kd.at_int HC.out 1 p245 q245
        obtain rfl : ad244 = ad245 := (by injection e245)
        (try simp only [show (1 : Int).toNat = 1 from rfl, Nat.reduceMul, Nat.reduceEqDiff, Go.Addr.add, ↓reduceIte] at hx245_0)
        have qi245 : (1 < l.length) = True := eq_true (by omega)
        (try rw [show ((1 : Int)).toNat = 1 from rfl] at hx245_0)
        replace p245 := eq_true p245
        replace q245 := eq_true q245
        by_cases h4 : 40 ≤ rd l 1
        rotate_left
        · have e4 : decide (40 ≤ rd l 1) = false := decide_eq_false h4
          have HX : Aside0 ((l, true) = (r1, r2)) := ⟨by have := HE2.out; rw [arcsEnd, if_neg hl, if_neg h2, if_pos h3, if_neg h4] at this; exact this⟩
          clear h2 h3 h4
          clear hl
          go_wp2_with fail
          go_ret2
          obtain ⟨rfl, rfl⟩ := Prod.mk.inj (HX.out)
          exact ⟨_, rfl, HO.out, HB.out⟩
        have e4 : decide (40 ≤ rd l 1) = true := decide_eq_true h4
        have HX : Aside0 (([], false) = (r1, r2)) := ⟨by have := HE2.out; rw [arcsEnd, if_neg hl, if_neg h2, if_pos h3, if_pos h4] at this; exact this⟩
        clear h2 h3 h4
        clear hl
        go_wp2_with fail
        go_ret2
        obtain ⟨rfl, rfl⟩ := Prod.mk.inj (HX.out)
        exact ⟨_, rfl, Kd.R_nil _ _ _ _ _, HB.out⟩
      have hnx0 : ∀ ty, (Instr.next (.pointer (some ⟨w.heap.size, 0, none⟩)) true ty).run Tryz.prog wr = _ := fun ty => Lib.run_next_any_at wr w.heap.size S pos ty HIT.out hp
      obtain ⟨n1, n2, n4⟩ := decode_width S pos hp
      have hle := decode_le S pos
      have hf := HF.out
      rw [arcsGo, if_pos hp] at hf
      have HO1 := Aside0.mk (R_iterG HO.out HIT.out (pos + (Utf8.decode S pos).2))
      have HIT1 := Aside0.mk (Lib.iterAt_heap wr w.heap.size S pos (pos + (Utf8.decode S pos).2) HIT.out)
      have HB1 := Aside0.mk (Lib.below_iterAt HB.out (Nat.le_refl _) S (pos + (Utf8.decode S pos).2))
      have hnx := hnx0
      clear HF HO HIT HB hnx0
      generalize wr.iterAt w.heap.size S (pos + (Utf8.decode S pos).2) = W2 at *
      generalize hc : (Utf8.decode S pos).1 = C at *
      generalize hn : (Utf8.decode S pos).2 = m at *
      have HFF := Aside0.mk hf
      clear hc hn hf
      have hv0 := HV.out.1
      have hv1 := HV.out.2.1
      have hn0 := HV.out.2.2.1
      have hn2 := HV.out.2.2.2
      obtain ⟨Ao, co, hu⟩ := Kd.R_slice HO1.out
      subst hu
      by_cases h46 : (C : Int) = 46
      · have e1 : ((C : Int) == 46) = true := beq_iff_eq.2 h46
        by_cases hn3 : 0 < n
        · have e2 : decide (0 < n) = true := decide_eq_true hn3
          clear hv0 hv1 hn0 hn2
          go_wp2_with ((with_reducible refine gate_builtin (b := .append) (xs := #[.tmp 32, .tmp 34]) rfl ?_); at_builtin; refine Kd.R_append (Kd.int .u64) (w0 := w) w.heap.size rfl (.tmp 32) (.tmp 34) 277 278 (.int .u64 0) 8 rfl Tryz.underlying277 info278 rfl (by decide) (by omega) (.slice Ao l.length co) l v [.int .u64 v] (fun _ => True) (fun _ => False) rfl rfl ?aP (fun _ hk => hk.elim) ?aF ?aO ?aB ?aS ?aL ?_; (case aP => exact rfl); (case aF => exact (fun _ _ => trivial)); (case aO => exact HO1.out); (case aB => exact HB1.out); (case aS => exact (below_size HB1.out)); (case aL => have := HA.out; have := HI.out; have := HLEN.out; have := HSZ.out; omega); intro v2 W3 ho hb hgr hat; have HO2 := Aside0.mk ho; have HB2 := Aside0.mk hb; have HIT2 := Aside0.mk (blk_grown HIT1.out hgr (iter_neG HO1.out HIT1.out)); clear ho hb hgr hat)
          go_roundg g1
          case measure => exact Nat.lt_succ_self _
          case rel => exact ⟨pos + m, l ++ [v], 0, 0, f1, rfl, rfl, ⟨by have := HFF.out; rw [if_pos ⟨h46, hn3⟩] at this; exact this⟩, ⟨by have := HI.out; omega⟩, ⟨by rw [List.length_append, List.length_singleton]; have := HA.out; omega⟩, ⟨by decide⟩, HO2, HIT2, HB2⟩
        have e2 : decide (0 < n) = false := decide_eq_false hn3
        have e3 : decide ((C : Int) < 48) = true := decide_eq_true (by omega)
        have HR : Aside0 (arcsGo S (a0.size + 2) 0 [] 0 0 = none) := ⟨by have := HFF.out; rw [if_neg (fun q => hn3 q.2), if_pos (Or.inl (by omega))] at this; exact this.symm⟩
        clear hv0 hv1 hn0 hn2
        go_wp2_with fail
        go_ret2
        have hE := HE.out
        rw [HR.out] at hE
        obtain ⟨rfl, rfl⟩ := Prod.mk.inj hE
        exact ⟨_, rfl, Kd.R_nil _ _ _ _ _, HB1.out⟩
      have e1 : ((C : Int) == 46) = false := by simpa using h46
      by_cases h48 : (C : Int) < 48
      · have e3 : decide ((C : Int) < 48) = true := decide_eq_true h48
        have HR : Aside0 (arcsGo S (a0.size + 2) 0 [] 0 0 = none) := ⟨by have := HFF.out; rw [if_neg (fun q => h46 q.1), if_pos (Or.inl h48)] at this; exact this.symm⟩
        clear hv0 hv1 hn0 hn2
        go_wp2_with fail
        go_ret2
        have hE := HE.out
        rw [HR.out] at hE
        obtain ⟨rfl, rfl⟩ := Prod.mk.inj hE
        exact ⟨_, rfl, Kd.R_nil _ _ _ _ _, HB1.out⟩
      have e3 : decide ((C : Int) < 48) = false := decide_eq_false h48
      by_cases h57 : 57 < (C : Int)
      · have e4 : decide (57 < (C : Int)) = true := decide_eq_true h57
        have HR : Aside0 (arcsGo S (a0.size + 2) 0 [] 0 0 = none) := ⟨by have := HFF.out; rw [if_neg (fun q => h46 q.1), if_pos (Or.inr (Or.inl h57))] at this; exact this.symm⟩
        clear hv0 hv1 hn0 hn2
        go_wp2_with fail
        go_ret2
        have hE := HE.out
        rw [HR.out] at hE
        obtain ⟨rfl, rfl⟩ := Prod.mk.inj hE
        exact ⟨_, rfl, Kd.R_nil _ _ _ _ _, HB1.out⟩
      have e4 : decide (57 < (C : Int)) = false := decide_eq_false h57
      by_cases hq : n = 1 ∧ v = 0
      · have e5 : (n == 1) = true := beq_iff_eq.2 hq.1
        have e6 : (v == 0) = true := beq_iff_eq.2 hq.2
        have HR : Aside0 (arcsGo S (a0.size + 2) 0 [] 0 0 = none) := ⟨by have := HFF.out; rw [if_neg (fun q => h46 q.1), if_pos (Or.inr (Or.inr hq))] at this; exact this.symm⟩
        clear hv0 hv1 hn0 hn2 hq
        go_wp2_with fail
        go_ret2
        have hE := HE.out
        rw [HR.out] at hE
        obtain ⟨rfl, rfl⟩ := Prod.mk.inj hE
        exact ⟨_, rfl, Kd.R_nil _ _ _ _ _, HB1.out⟩
      have HN : Aside0 (arcsGo S f1 (pos + m) l (min (10 * v + ((C : Int) - 48)) 1099511627776) (min (n + 1) 20) = arcsGo S (a0.size + 2) 0 [] 0 0) := ⟨by have := HFF.out; rw [if_neg (fun q => h46 q.1), if_neg (fun q => by rcases q with q | q | q; exact h48 q; exact h57 q; exact hq q)] at this; exact this⟩
      have h48' : (48 : Int) ≤ (C : Int) := by omega
      have h57' : (C : Int) ≤ 57 := by omega
      have hm0 : 0 ≤ (C : Int) - 48 := by omega
      have hm1 : (C : Int) - 48 ≤ 9 := by omega
      have hk0 : 0 ≤ 10 * v + ((C : Int) - 48) := by omega
      have hk1 : 10 * v + ((C : Int) - 48) ≤ 10995116277769 := by omega
      have HN0 : Aside0 (0 ≤ min (10 * v + ((C : Int) - 48)) 1099511627776 ∧ min (10 * v + ((C : Int) - 48)) 1099511627776 ≤ 1099511627776 ∧ 0 ≤ min (n + 1) 20 ∧ min (n + 1) 20 ≤ 20) := ⟨by omega⟩
      have u1 : IntKind.u64.wrap (10 * v) = 10 * v := by simp [IntKind.wrap, show IntKind.u64.signed = false from rfl, show IntKind.u64.bits = 64 from rfl]; omega
      have u2 : IntKind.i32.wrap ((C : Int) - 48) = (C : Int) - 48 := by simp [IntKind.wrap, show IntKind.i32.signed = true from rfl, show IntKind.i32.bits = 32 from rfl]; omega
      have u3 : IntKind.u64.wrap ((C : Int) - 48) = (C : Int) - 48 := by simp [IntKind.wrap, show IntKind.u64.signed = false from rfl, show IntKind.u64.bits = 64 from rfl]; omega
      have u4 : IntKind.u64.wrap (10 * v + ((C : Int) - 48)) = 10 * v + ((C : Int) - 48) := by simp [IntKind.wrap, show IntKind.u64.signed = false from rfl, show IntKind.u64.bits = 64 from rfl]; omega
      have u5 : wrap64 (n + 1) = n + 1 := by unfold wrap64; omega
      by_cases q5 : n = 1
      rotate_left
      · have e5 : (n == 1) = false := by simpa using q5
        clear hq q5 hv0 hv1 hn0 hn2 h48 h57
        go_wp2_with fail
        all_goals
          clear u1 u2 u3 u4 u5
          go_roundg g1
          case measure => exact Nat.lt_succ_self _
          case rel => exact ⟨pos + m, l, _, _, f1, rfl, rfl, ⟨(congr (congrArg (arcsGo S f1 (pos + m) l) (by omega)) (by omega)).trans HN.out⟩, ⟨by have := HI.out; omega⟩, ⟨by have := HA.out; omega⟩, ⟨by have := HV.out; omega⟩, HO1, HIT1, HB1⟩
      have e5 : (n == 1) = true := beq_iff_eq.2 q5
      have e6 : (v == 0) = false := by simpa using (fun q => hq ⟨q5, q⟩ : ¬ v = 0)
      clear hq q5 hv0 hv1 hn0 hn2 h48 h57
      go_wp2_with fail
      all_goals
        clear u1 u2 u3 u4 u5
        go_roundg g1
        case measure => exact Nat.lt_succ_self _
        case rel => exact ⟨pos + m, l, _, _, f1, rfl, rfl, ⟨(congr (congrArg (arcsGo S f1 (pos + m) l) (by omega)) (by omega)).trans HN.out⟩, ⟨by have := HI.out; omega⟩, ⟨by have := HA.out; omega⟩, ⟨by have := HV.out; omega⟩, HO1, HIT1, HB1⟩
end Go.Proofs.YtkioddjjfifadaaGreatDoor.P
