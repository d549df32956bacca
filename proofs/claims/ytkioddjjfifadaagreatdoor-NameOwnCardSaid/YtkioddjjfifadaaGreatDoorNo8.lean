/- What the proof of NameOwn needs of: Lq4, Pxf82, Pxf83, Pxf81, Lq5, Hp3, Pxf36, Lq7, Hr0, Hb0, Hm0, Lt4, Shm, Hb1, Pxf152, Pxf149, Pxf84, Pxf41, Lb2, Hn7, Hs6, Ht7, Ht8, Hy0, Pxf90, Hy1, Ht9, Pxf205, Pxf250, Hu0. -/
import Derived.Deep.LoopGhost
import Derived.Deep.DeepBigQuietO
import Derived.Laws.BytesArg
import Derived.Lib.BytesEntry
import Derived.Lib.Bytealg
import Derived.Deep.MidRow
import Derived.Sort.Walk0
import Derived.Shelf.SlGeneric
import Derived.Shelf.SlLaysF
import Derived.Ground.SlsfProg
import Derived.Test.YtkioddjjfifadaaGreatDoorProg
import Derived.Shelf.SlSortCmp.NoneTotal
import Derived.Lib.ValidAsc
import Derived.Lib.EndianBits
import Derived.Laws.BitsAllLaws
import Derived.Shelf.Unicode.ValidAny
import Derived.Test.YtkioddjjfifadaaGreatDoorNo2
import Derived.Test.YtkioddjjfifadaaGreatDoorNo5
import Derived.Test.YtkioddjjfifadaaGreatDoorNo6
import Derived.Test.YtkioddjjfifadaaGreatDoorNo7
set_option linter.unusedVariables false
set_option linter.unusedSimpArgs false
namespace Go.Proofs.YtkioddjjfifadaaGreatDoor.P
open Go.RowKit Go.Proofs.YtkioddjjfifadaaGreatDoorW.PrintWords Go.Proofs.YtkioddjjfifadaaGreatDoorW.PrintMore
theorem decimal_any (k : Nat) (h : 30 ≤ k) (x : Int) (h0 : 0 ≤ x) (h1 : x ≤ 9223372036854775807) : chirographref04_Decimal.f k x = some (T (Lib.itoa x)) ∧ (Lib.itoa x).length ≤ 21 := by
  refine ⟨?_, (itoa_at x h0 h1).2⟩
  obtain ⟨u, rfl⟩ : ∃ u : Nat, x = (u : Int) := ⟨x.toNat, by omega⟩
  exact at_rounds (g := fun k => chirographref04_Decimal.f k (u : Int)) (fun k => chirographref04_Decimal.mono _ k) h (decimal_itoa 30 (by decide) (by decide) u (by omega))
theorem val_min (b v : Int) (b0 : 0 ≤ b) (b1 : b ≤ 255) (v0 : 0 ≤ v) (v1 : v ≤ 1099511627776) : mn (Go.bits .or .u64 (IntKind.u64.wrap (v * 128)) (IntKind.u64.wrap (Go.bits .and .u8 b 127))) 1099511627776 = min (v * 128 + b % 128) 1099511627776 := by
  have e1 : IntKind.u64.wrap (v * 128) = v * 128 := by rw [IntKind.wrap_u64]; omega
  have e2 : IntKind.u64.wrap (b % 128) = b % 128 := by rw [IntKind.wrap_u64]; omega
  rw [and127b b b0 b1, e1, e2, or7u v _ v0 (by omega) (by omega) (by omega)]
  unfold mn
  split <;> omega
/-- The first arc's two numbers, der's way. -/
theorem firsts (V : Int) (h0 : 0 ≤ V) (h1 : V ≤ 1099511627776) :
    wrap64 (mn (IntKind.u64.wrap (Int.tdiv V 40)) 2) = (if V ≥ 80 then 2 else if V ≥ 40 then 1 else 0) ∧
    IntKind.u64.wrap (V - (IntKind.u64.wrap (40 * (mn (IntKind.u64.wrap (Int.tdiv V 40)) 2)))) = (if V ≥ 80 then V - 80 else if V ≥ 40 then V - 40 else V) := by
  have e1 : mn (IntKind.u64.wrap (Int.tdiv V 40)) 2 = (if V ≥ 80 then 2 else if V ≥ 40 then 1 else 0) := by
    rw [Int.tdiv_eq_ediv_of_nonneg h0, IntKind.wrap_u64]
    unfold mn
    split <;> split <;> (try split) <;> omega
  rw [e1]
  by_cases a : V ≥ 80
  · simp only [if_pos a]
    refine ⟨wb (by decide) (by decide), ?_⟩
    rw [show IntKind.u64.wrap (40 * 2) = 80 by decide, IntKind.wrap_u64]
    omega
  · by_cases b : V ≥ 40
    · simp only [if_neg a, if_pos b]
      refine ⟨wb (by decide) (by decide), ?_⟩
      rw [show IntKind.u64.wrap (40 * 1) = 40 by decide, IntKind.wrap_u64]
      omega
    · simp only [if_neg a, if_neg b]
      refine ⟨wb (by decide) (by decide), ?_⟩
      rw [show IntKind.u64.wrap (40 * 0) = 0 by decide, IntKind.wrap_u64]
      omega
theorem dot_two (d : UInt8) (s : List UInt8) : ((⟨#[d]⟩ : ByteArray) ++ (⟨#[46]⟩ : ByteArray)) ++ T s = T ([d] ++ ([46] ++ s)) := by
  rw [show (⟨#[d]⟩ : ByteArray) = T [d] from rfl, show (⟨#[46]⟩ : ByteArray) = T [46] from rfl, T_app, T_app, List.append_assoc]
theorem oid_alike (x0 : List Int) (hl : Aside0 (x0.length ≤ 100000000)) (hb : ByL x0) : ∀ (m kd kr : Nat) (q v : Int) (t : List UInt8), 0 ≤ q → q ≤ (x0.length : Int) → (x0.length : Int) - q ≤ m → m + 1 ≤ kd → 2 * m + 40 ≤ kr → 0 ≤ v → v ≤ 1099511627776 → (t.length : Int) ≤ 50 * q →
    ∃ s e, der_Oid.l1 kd (T t) v x0 (x0.length : Int) q = some (s, e) ∧ chirographref04_Oid.l1 kr x0 (T t) v q = some (s, e) := by
  intro m
  induction m with
  | zero =>
    intro kd kr q v t h0 h1 hm hkd hkr v0 v1 ht
    obtain ⟨kd, rfl⟩ : ∃ k1, kd = k1 + 1 := ⟨kd - 1, by omega⟩
    obtain ⟨kr, rfl⟩ : ∃ k1, kr = k1 + 1 := ⟨kr - 1, by omega⟩
    have n : ¬ q < (x0.length : Int) := by omega
    rw [der_Oid.l1, chirographref04_Oid.l1, if_neg n, if_neg n]
    exact ⟨_, _, rfl, rfl⟩
  | succ m IH =>
    intro kd kr q v t h0 h1 hm hkd hkr v0 v1 ht
    obtain ⟨kd, rfl⟩ : ∃ k1, kd = k1 + 1 := ⟨kd - 1, by omega⟩
    obtain ⟨kr, rfl⟩ : ∃ k1, kr = k1 + 2 := ⟨kr - 2, by omega⟩
    by_cases c : q < (x0.length : Int)
    · have hl2 := hl.out
      obtain ⟨b0, b1⟩ := hb _ (rd_memI x0 q h0 c)
      obtain ⟨b, hbd⟩ : ∃ b, rd x0 q = b := ⟨_, rfl⟩
      rw [hbd] at b0 b1
      obtain ⟨V, hV⟩ : ∃ V, min (v * 128 + b % 128) 1099511627776 = V := ⟨_, rfl⟩
      have V0 : 0 ≤ V := by omega
      have V1 : V ≤ 1099511627776 := by omega
      have hm1 := val_min b v b0 b1 v0 v1
      rw [hV] at hm1
      have e1 : Int.tmod b 128 = b % 128 := Int.tmod_eq_emod_of_nonneg b0
      have w1 : wrap64 (v * 128) = v * 128 := wb (by omega) (by omega)
      have w2 : wrap64 (b % 128) = b % 128 := wb (by omega) (by omega)
      have w3 : wrap64 (v * 128 + b % 128) = v * 128 + b % 128 := wb (by omega) (by omega)
      have w4 : wrap64 (q + 1) = q + 1 := wb (by omega) (by omega)
      have ih : ∀ (v' : Int) (t' : List UInt8), 0 ≤ v' → v' ≤ 1099511627776 → (t'.length : Int) ≤ (t.length : Int) + 50 → ∃ s e, der_Oid.l1 kd (T t') v' x0 (x0.length : Int) (q + 1) = some (s, e) ∧ chirographref04_Oid.l1 kr x0 (T t') v' (q + 1) = some (s, e) := fun v' t' a1 a2 a3 => IH kd kr (q + 1) v' t' (by omega) (by omega) (by omega) (by omega) (by omega) a1 a2 (by omega)
      have hs : (t.length : Int) ≤ 5000000000 := by omega
      have hk30 : 30 ≤ kr := by omega
      have hR : chirographref04_Oid.l1 (kr + 2) x0 (T t) v q = chirographref04_Oid.j3 (kr + 1) x0 (T t) V q := by
        rw [chirographref04_Oid.l1, if_pos c, if_pos h0, hbd, e1, w1, w2, w3]
        by_cases cM : v * 128 + b % 128 > 1099511627776
        · rw [if_pos cM, show V = 1099511627776 by omega]
        · rw [if_neg cM, show v * 128 + b % 128 = V by omega]
      rw [hR, der_Oid.l1, chirographref04_Oid.j3, if_pos c, if_pos h0, if_pos h0, if_pos c, if_pos c, hbd, hm1, w4]
      clear hR w1 w2 w3 w4 e1 hm1 IH hm hkd hkr
      by_cases c8 : b ≥ 128
      · rw [if_pos c8, if_pos c8]
        exact ih V t V0 V1 (by omega)
      · rw [if_neg c8, if_neg c8]
        by_cases ce : (T t).toList = []
        · rw [if_pos ce, if_pos ce]
          obtain ⟨f1, f2⟩ := firsts V V0 V1
          rw [f1, f2]
          clear f1 f2
          have te : t = [] := by rw [Lib.toList_data] at ce; simpa [T] using ce
          have one : (1 : Nat) + 1 ≤ 9223372036854775807 := by decide
          have fin : ∀ (d : UInt8) (F W : Int), 0 ≤ F → F ≤ 9 → Lib.itoa F = [d] → 0 ≤ W → W ≤ 1099511627776 →
              ∃ s e, ((strconv_Itoa.f F).bind fun t179 => (if W > 2147483647 then (some ((⟨#[]⟩ : ByteArray), (3 : Int))) else ((strconv_Itoa.f (wrap64 W)).bind fun t180 => (if 1 + t180.size ≤ 9223372036854775807 then (if t179.size + ((⟨#[46]⟩ : ByteArray) ++ t180).size ≤ 9223372036854775807 then (der_Oid.l1 kd (t179 ++ ((⟨#[46]⟩ : ByteArray) ++ t180)) 0 x0 (x0.length : Int) (q + 1)) else (none)) else (none))))) = some (s, e) ∧
                (if (wrap64 W) > 2147483647 then (some ((⟨#[]⟩ : ByteArray), (3 : Int))) else (if 1 + 1 ≤ 9223372036854775807 then ((chirographref04_Decimal.f kr (wrap64 W)).bind fun t900 => (if 2 + t900.size ≤ 9223372036854775807 then (chirographref04_Oid.l1 kr x0 (((⟨#[d]⟩ : ByteArray) ++ (⟨#[46]⟩ : ByteArray)) ++ t900) 0 (q + 1)) else (none))) else (none))) = some (s, e) := fun d F W F0 F9 hF W0 W1 => by
            obtain ⟨i1, i2⟩ := itoa_at F F0 (by omega)
            rw [i1, Option.bind_some, wb (n := W) (by omega) (by omega)]
            by_cases cw : W > 2147483647
            · rw [if_pos cw, if_pos cw]
              exact ⟨_, _, rfl, rfl⟩
            · obtain ⟨j1, j2⟩ := itoa_at W W0 (by omega)
              obtain ⟨d1, _⟩ := decimal_any kr hk30 W W0 (by omega)
              have z1 : (⟨#[46]⟩ : ByteArray) = T [46] := rfl
              have s1 : 1 + (T (Lib.itoa W)).size ≤ 9223372036854775807 := by rw [T_size]; omega
              have s2 : (T (Lib.itoa F)).size + (T ([46] ++ Lib.itoa W)).size ≤ 9223372036854775807 := by rw [T_size, T_size, List.length_append]; simp only [List.length_cons, List.length_nil]; omega
              have s3 : 2 + (T (Lib.itoa W)).size ≤ 9223372036854775807 := by rw [T_size]; omega
              rw [if_neg cw, if_neg cw, if_pos one, j1, d1, Option.bind_some, Option.bind_some, if_pos s1, if_pos s3, dot_two, z1, T_app, if_pos s2, T_app, hF]
              exact ih 0 ([d] ++ ([46] ++ Lib.itoa W)) (Int.le_refl _) (by decide) (by simp only [List.length_append, List.length_cons, List.length_nil]; omega)
          by_cases a : V ≥ 80
          · simp only [if_pos a]
            exact fin 50 2 (V - 80) (by decide) (by decide) (itoa_digit 2 (by decide) (by decide)) (by omega) (by omega)
          · by_cases a4 : V ≥ 40
            · simp only [if_neg a, if_pos a4]
              exact fin 49 1 (V - 40) (by decide) (by decide) (itoa_digit 1 (by decide) (by decide)) (by omega) (by omega)
            · simp only [if_neg a, if_neg a4]
              have := fin 48 0 V (by decide) (by decide) (itoa_digit 0 (by decide) (by decide)) V0 V1
              rw [wb (n := V) (by omega) (by omega)] at this
              rw [wb (n := V) (by omega) (by omega)]
              exact this
        · rw [if_neg ce, if_neg ce]
          by_cases cw : V > 2147483647
          · rw [if_pos cw, if_pos cw]
            exact ⟨_, _, rfl, rfl⟩
          · obtain ⟨j1, j2⟩ := itoa_at V V0 (by omega)
            obtain ⟨d1, _⟩ := decimal_any kr hk30 V V0 (by omega)
            have z1 : (⟨#[46]⟩ : ByteArray) = T [46] := rfl
            have s0 : (T t).size + 1 ≤ 9223372036854775807 := by rw [T_size]; omega
            have s1 : 1 + (T (Lib.itoa V)).size ≤ 9223372036854775807 := by rw [T_size]; omega
            have s2 : (T t).size + (T ([46] ++ Lib.itoa V)).size ≤ 9223372036854775807 := by rw [T_size, T_size, List.length_append]; simp only [List.length_cons, List.length_nil]; omega
            have s3 : (T (t ++ [46])).size + (T (Lib.itoa V)).size ≤ 9223372036854775807 := by rw [T_size, T_size, List.length_append]; simp only [List.length_cons, List.length_nil]; omega
            rw [if_neg cw, if_neg cw, wb (n := V) (by omega) (by omega), j1, d1, Option.bind_some, Option.bind_some, z1, T_app, T_app, T_app, T_app, List.append_assoc, if_pos s0, if_pos s1, if_pos s2, if_pos s3]
            exact ih 0 (t ++ ([46] ++ Lib.itoa V)) (Int.le_refl _) (by decide) (by simp only [List.length_append, List.length_cons, List.length_nil]; omega)
    · have n := c
      rw [der_Oid.l1, chirographref04_Oid.l1, if_neg n, if_neg n]
      exact ⟨_, _, rfl, rfl⟩
theorem oid_scan (x0 : List Int) (hl : Aside0 (x0.length ≤ 100000000)) (hb : ByL x0) : ∀ (m k : Nat) (q : Int), 0 ≤ q → q ≤ (x0.length : Int) → (x0.length : Int) - q ≤ m → m + 1 + (2 * x0.length + 40) ≤ k →
    ∃ s e, der_Oid.l0 k x0 x0 (x0.length : Int) q = some (s, e) ∧ chirographref04_Oid.l0 k x0 q = some (s, e) := by
  intro m
  induction m with
  | zero =>
    intro k q h0 h1 hm hk
    obtain ⟨k, rfl⟩ : ∃ k1, k = k1 + 1 := ⟨k - 1, by omega⟩
    have n : ¬ q < (x0.length : Int) := by omega
    rw [der_Oid.l0, chirographref04_Oid.l0, if_neg n, if_neg n]
    exact oid_alike x0 hl hb x0.length k k 0 0 [] (Int.le_refl _) (by omega) (by omega) (by omega) (by omega) (Int.le_refl _) (by decide) (by decide)
  | succ m IH =>
    intro k q h0 h1 hm hk
    obtain ⟨k, rfl⟩ : ∃ k1, k = k1 + 1 := ⟨k - 1, by omega⟩
    by_cases c : q < (x0.length : Int)
    · have hl2 := hl.out
      have ih := IH k (q + 1) (by omega) (by omega) (by omega) (by omega)
      have w4 : wrap64 (q + 1) = q + 1 := wb (by omega) (by omega)
      rw [der_Oid.l0, chirographref04_Oid.l0, if_pos c, if_pos h0, if_pos c, if_pos c, if_pos h0]
      by_cases cb : rd x0 q = 128
      · rw [if_pos cb, if_pos cb]
        by_cases cq : q = 0
        · rw [if_pos cq, if_pos cq]
          exact ⟨_, _, rfl, rfl⟩
        · have q1 : 0 ≤ q - 1 := by omega
          have q2 : q - 1 < (x0.length : Int) := by omega
          have w5 : wrap64 (q - 1) = q - 1 := wb (by omega) (by omega)
          rw [if_neg cq, if_neg cq, w5, if_pos q1, if_pos q1, if_pos q2, if_pos q2]
          by_cases cp : rd x0 (q - 1) < 128
          · rw [if_pos cp, if_pos cp]
            exact ⟨_, _, rfl, rfl⟩
          · rw [if_neg cp, if_neg cp, w4]
            exact ih
      · rw [if_neg cb, if_neg cb, w4]
        exact ih
    · have n := c
      rw [der_Oid.l0, chirographref04_Oid.l0, if_neg n, if_neg n]
      exact oid_alike x0 hl hb x0.length k k 0 0 [] (Int.le_refl _) (by omega) (by omega) (by omega) (by omega) (Int.le_refl _) (by decide) (by decide)
/-- An identifier's bytes: the same answer. -/
theorem oid_both (x0 : List Int) (hl : x0.length ≤ 100000000) (hb : ByL x0) (k : Nat) (hk : 3 * x0.length + 60 ≤ k) :
    ∃ s e, der_Oid.f k x0 = some (s, e) ∧ chirographref04_Oid.f k x0 = some (s, e) := by
  obtain ⟨k, rfl⟩ : ∃ k1, k = k1 + 1 := ⟨k - 1, by omega⟩
  unfold der_Oid.f chirographref04_Oid.f
  have sc := fun k' (h : x0.length + 1 + (2 * x0.length + 40) ≤ k') => oid_scan x0 ⟨hl⟩ hb x0.length k' 0 (Int.le_refl _) (by omega) (by omega) h
  by_cases c : (x0.length : Int) = 0
  · rw [if_pos c, if_pos c, der_Oid.j0, chirographref04_Oid.j0, if_pos rfl, if_pos rfl]
    exact ⟨_, _, rfl, rfl⟩
  · have q1 : 0 ≤ (x0.length : Int) - 1 := by omega
    have q2 : (x0.length : Int) - 1 < (x0.length : Int) := by omega
    have w5 : wrap64 ((x0.length : Int) - 1) = (x0.length : Int) - 1 := wb (by omega) (by omega)
    rw [if_neg c, if_neg c, w5, if_pos q1, if_pos q1, if_pos q2, if_pos q2]
    by_cases cb : rd x0 ((x0.length : Int) - 1) ≥ 128
    · rw [decide_eq_true cb, der_Oid.j0, chirographref04_Oid.j0, if_pos rfl, if_pos rfl]
      exact ⟨_, _, rfl, rfl⟩
    · rw [decide_eq_false cb, der_Oid.j0, chirographref04_Oid.j0, if_neg (show ¬ (false = true) by decide), if_neg (show ¬ (false = true) by decide)]
      exact sc k (by omega)
end Go.Proofs.YtkioddjjfifadaaGreatDoor.P
namespace Go.Proofs.YtkioddjjfifadaaGreatDoor.P
open Go.RowKit Go.Proofs.YtkioddjjfifadaaGreatDoorW.PrintWords Go.Proofs.YtkioddjjfifadaaGreatDoorW.PrintLast Go.Proofs.YtkioddjjfifadaaGreatDoorW.PrintMore
attribute [local go_sem] max2_int min2_int max_two min_two max_three min_three max_four min_four   -- for this text's walks alone
set_option linter.unusedVariables false
set_option linter.unusedSimpArgs false
def chirographref07_in.f (k : Nat) (a0_0 : Int) (a0_1 : Int) (a0_2 : Bool) (l0_3 : List Int) (l0_4 : List Int) (a1 : Int) : Option ((List (S77)) × Int) := if a0_0 = 0 then (if a0_1 = a1 then (if a0_2 = true then ((chirographref04_Split.f k l0_3).bind fun bt536 => (some (bt536.1, bt536.2.1))) else (some (([] : List (S77)), 30))) else (some (([] : List (S77)), 30))) else (some (([] : List (S77)), 30))
end Go.Proofs.YtkioddjjfifadaaGreatDoor.P
namespace Go.Proofs.YtkioddjjfifadaaGreatDoor.P
open Go.RowKit Go.Proofs.YtkioddjjfifadaaGreatDoorW.PrintWords Go.Proofs.YtkioddjjfifadaaGreatDoorW.PrintLast Go.Proofs.YtkioddjjfifadaaGreatDoorW.PrintMore
attribute [local go_sem] max2_int min2_int max_two min_two max_three min_three max_four min_four   -- for this text's walks alone
set_option linter.unusedVariables false
set_option linter.unusedSimpArgs false
def chirographref07_part.j0 : Nat → List (S77) → Bool → Option (ByteArray × Int × List Int × Int)
  | 0, _, _ => none
  | k + 1, x4, x51 => if x51 = true then (some ((⟨#[]⟩ : ByteArray), 0, ([] : List Int), 30)) else (if 0 < (x4.length : Int) then ((chirographref04_Oid.f k ((rd_T77 x4 0).f3)).bind fun bt568 => (if bt568.2 = 0 then (if 1 < (x4.length : Int) then (some (bt568.1, (rd_T77 x4 1).f1, (rd_T77 x4 1).f3, 0)) else (none)) else (some ((⟨#[]⟩ : ByteArray), 0, ([] : List Int), bt568.2)))) else (none))
def chirographref07_part.f (k : Nat) (a0_0 : Int) (a0_1 : Int) (a0_2 : Bool) (l0_3 : List Int) (l0_4 : List Int) : Option (ByteArray × Int × List Int × Int) := (chirographref07_in.f k a0_0 a0_1 a0_2 l0_3 l0_4 16).bind fun bt558 => (if bt558.2 = 0 then (if (bt558.1.length : Int) = 2 then (if 0 < (bt558.1.length : Int) then (if ((rd_T77 bt558.1 0).f0) = 0 then (if ((rd_T77 bt558.1 0).f1) = 6 then (if 1 < (bt558.1.length : Int) then (if ((rd_T77 bt558.1 1).f0) = 0 then (if (rd_T77 bt558.1 0).f2 = true then (chirographref07_part.j0 k bt558.1 true) else (chirographref07_part.j0 k bt558.1 ((rd_T77 bt558.1 1).f2))) else (chirographref07_part.j0 k bt558.1 true)) else (none)) else (chirographref07_part.j0 k bt558.1 true)) else (chirographref07_part.j0 k bt558.1 true)) else (none)) else (chirographref07_part.j0 k bt558.1 true)) else (some ((⟨#[]⟩ : ByteArray), 0, ([] : List Int), bt558.2)))
end Go.Proofs.YtkioddjjfifadaaGreatDoor.P
namespace Go.Proofs.YtkioddjjfifadaaGreatDoor.P
open Go.RowKit Go.Proofs.YtkioddjjfifadaaGreatDoorW.PrintWords Go.Proofs.YtkioddjjfifadaaGreatDoorW.PrintLast Go.Proofs.YtkioddjjfifadaaGreatDoorW.PrintMore
attribute [local go_sem] max2_int min2_int max_two min_two max_three min_three max_four min_four   -- for this text's walks alone
set_option linter.unusedVariables false
set_option linter.unusedSimpArgs false
def chirographref04_One.f (k : Nat) (l0 : List Int) : Option (Int × Int × Bool × List Int × List Int × Int) := (chirographref04_Split.f k l0).bind fun bt529 => (if bt529.2.1 = 0 then (if (bt529.1.length : Int) = 0 then (some (0, 0, false, ([] : List Int), ([] : List Int), 5)) else (if (bt529.1.length : Int) > 1 then (some (0, 0, false, ([] : List Int), ([] : List Int), 4)) else (if 0 < (bt529.1.length : Int) then (some ((rd_T77 bt529.1 0).f0, (rd_T77 bt529.1 0).f1, (rd_T77 bt529.1 0).f2, (rd_T77 bt529.1 0).f3, (rd_T77 bt529.1 0).f4, 0)) else (none)))) else (some (0, 0, false, ([] : List Int), ([] : List Int), bt529.2.1)))
end Go.Proofs.YtkioddjjfifadaaGreatDoor.P
namespace Go.Proofs.YtkioddjjfifadaaGreatDoor.P
open Go.RowKit Go.Proofs.YtkioddjjfifadaaGreatDoorW.PrintWords Go.Proofs.YtkioddjjfifadaaGreatDoorW.PrintMore
theorem rd77_mem (L : List S77) (i : Int) (h0 : 0 ≤ i) (h1 : i < (L.length : Int)) : rd_T77 L i ∈ L := by
  unfold rd_T77
  rw [List.getD_eq_getElem?_getD, List.getElem?_eq_getElem (by omega)]
  exact List.getElem_mem _
theorem one_both (x0 : List Int) (hb : ByL x0) (k : Nat) (hk : 3 * x0.length + 600 ≤ k) :
    ∃ c t s d r e, der_One.f k x0 = some (c, t, s, d, r, e) ∧ chirographref04_One.f k x0 = some (c, t, s, d, r, e) ∧ ByL d ∧ d.length ≤ x0.length ∧ 0 ≤ c ∧ c ≤ 3 := by
  obtain ⟨L, e, a, h1, h2, h3, h4⟩ := split_both x0 hb k hk
  have nil : ByL ([] : List Int) ∧ ([] : List Int).length ≤ x0.length ∧ (0 : Int) ≤ 0 ∧ (0 : Int) ≤ 3 := ⟨(fun c hc => by cases hc), Nat.zero_le _, by decide, by decide⟩
  have same : der_One.f k x0 = chirographref04_One.f k x0 := by
    unfold der_One.f chirographref04_One.f
    rw [h1, h2]
  rw [same]
  unfold chirographref04_One.f
  rw [h2, Option.bind_some]
  dsimp only
  by_cases ce : e = 0
  · rw [if_pos ce]
    by_cases c0 : (L.length : Int) = 0
    · rw [if_pos c0]
      exact ⟨_, _, _, _, _, _, rfl, rfl, nil⟩
    · rw [if_neg c0]
      by_cases c1 : (L.length : Int) > 1
      · rw [if_pos c1]
        exact ⟨_, _, _, _, _, _, rfl, rfl, nil⟩
      · have c2 : 0 < (L.length : Int) := by omega
        rw [if_neg c1, if_pos c2]
        exact ⟨_, _, _, _, _, _, rfl, rfl, h4 _ (rd77_mem L 0 (Int.le_refl _) c2)⟩
  · rw [if_neg ce]
    exact ⟨_, _, _, _, _, _, rfl, rfl, nil⟩
theorem in_both (c t : Int) (s : Bool) (d r : List Int) (hd : ByL d) (tag : Int) (k : Nat) (hk : 3 * d.length + 601 ≤ k) :
    ∃ L e, name_inside.f k c t s d r tag = some (L, e) ∧ chirographref07_in.f k c t s d r tag = some (L, e) ∧ (∀ x ∈ L, OkT d.length x) := by
  obtain ⟨k, rfl⟩ : ∃ k1, k = k1 + 1 := ⟨k - 1, by omega⟩
  have h3 : 3 * d.length + 600 ≤ k := by omega
  obtain ⟨L, e, a, h1, h2, e3, h4⟩ := split_both d hd k h3
  have g2 : chirographref04_Split.f (k + 1) d = some (L, e, a) := chirographref04_Split.mono d k _ h2
  have no : ∀ x ∈ ([] : List S77), OkT d.length x := fun x hx => by cases hx
  have t1 : name_inside.j0 (k + 1) true c t s d r = some ([], 30) := by rw [name_inside.j0, if_pos rfl]
  unfold name_inside.f chirographref07_in.f
  by_cases c0 : c = 0
  · rw [if_pos c0, if_pos c0]
    by_cases c1 : t = tag
    · rw [if_pos c1, if_pos c1]
      cases s with
      | false =>
        rw [if_neg (show ¬ (false = true) by decide)]
        exact ⟨_, _, t1, rfl, no⟩
      | true =>
        rw [if_pos rfl, g2, Option.bind_some, show (!true) = false from rfl, name_inside.j0, if_neg (show ¬ (false = true) by decide), h1, Option.bind_some]
        dsimp only
        by_cases ce : e = 0
        · rw [if_pos ce]
          exact ⟨_, _, rfl, by rw [ce], h4⟩
        · rw [if_neg ce]
          exact ⟨_, _, rfl, by rw [e3 ce], no⟩
    · rw [if_neg c1, if_neg c1]
      exact ⟨_, _, t1, rfl, no⟩
  · rw [if_neg c0, if_neg c0]
    exact ⟨_, _, t1, rfl, no⟩
theorem part_both (c t : Int) (s : Bool) (d r : List Int) (hd : ByL d) (hl : d.length ≤ 100000000) (k : Nat) (hk : 3 * d.length + 602 ≤ k) :
    ∃ o g v e, name_part.f k c t s d r = some (o, g, v, e) ∧ chirographref07_part.f k c t s d r = some (o, g, v, e) := by
  obtain ⟨k, rfl⟩ : ∃ k1, k = k1 + 1 := ⟨k - 1, by omega⟩
  obtain ⟨L, e, h1, h2, h4⟩ := in_both c t s d r hd 16 (k + 1) (by omega)
  have t1 : name_part.j0 (k + 1) L true = some (⟨#[]⟩, 0, [], 30) := by rw [name_part.j0, if_pos rfl]
  have t2 : chirographref07_part.j0 (k + 1) L true = some (⟨#[]⟩, 0, [], 30) := by rw [chirographref07_part.j0, if_pos rfl]
  unfold name_part.f chirographref07_part.f
  rw [h1, h2, Option.bind_some, Option.bind_some]
  dsimp only
  by_cases ce : e = 0
  · rw [if_pos ce, if_pos ce]
    by_cases c2 : (L.length : Int) = 2
    · have l0 : 0 < (L.length : Int) := by omega
      have l1 : 1 < (L.length : Int) := by omega
      obtain ⟨a1, a2, a3, a4⟩ := h4 _ (rd77_mem L 0 (Int.le_refl _) l0)
      obtain ⟨b1, b2, b3, b4⟩ := h4 _ (rd77_mem L 1 (by decide) l1)
      obtain ⟨o, e2, o1, o2⟩ := oid_both (rd_T77 L 0).f3 (by omega) a1 k (by omega)
      have w : wrap64 ((rd_T77 L 0).f0 + (rd_T77 L 1).f0) = (rd_T77 L 0).f0 + (rd_T77 L 1).f0 := wb (by omega) (by omega)
      have tail : ∃ o g v e, name_part.j0 (k + 1) L false = some (o, g, v, e) ∧ chirographref07_part.j0 (k + 1) L false = some (o, g, v, e) := by
        rw [name_part.j0, chirographref07_part.j0, if_neg (show ¬ (false = true) by decide), if_neg (show ¬ (false = true) by decide), if_pos l0, if_pos l0, o1, o2]
        simp only [Option.bind_some, if_pos l1]
        by_cases ce2 : e2 = 0
        · rw [if_pos ce2]
          exact ⟨_, _, _, _, rfl, rfl⟩
        · rw [if_neg ce2]
          exact ⟨_, _, _, _, rfl, rfl⟩
      have last : ∀ b : Bool, ∃ o g v e, name_part.j0 (k + 1) L b = some (o, g, v, e) ∧ chirographref07_part.j0 (k + 1) L b = some (o, g, v, e) := fun b => by
        cases b with
        | false => exact tail
        | true => exact ⟨_, _, _, _, t1, t2⟩
      have bad := last true
      rw [if_pos c2, if_pos c2, if_pos l0, if_pos l0, if_pos l1, if_pos l1, w]
      by_cases f0 : (rd_T77 L 0).f0 = 0
      · by_cases f1 : (rd_T77 L 1).f0 = 0
        · rw [if_pos (show (rd_T77 L 0).f0 + (rd_T77 L 1).f0 = 0 by omega), if_pos f0, if_pos f1]
          by_cases ft : (rd_T77 L 0).f1 = 6
          · rw [if_pos ft, if_pos ft]
            by_cases fc : (rd_T77 L 0).f2 = true
            · rw [if_pos fc, if_pos fc]
              exact bad
            · rw [if_neg fc, if_neg fc]
              exact last _
          · rw [if_neg ft, if_neg ft]
            exact bad
        · rw [if_neg (show ¬ (rd_T77 L 0).f0 + (rd_T77 L 1).f0 = 0 by omega), if_pos f0, if_neg f1]
          by_cases ft : (rd_T77 L 0).f1 = 6
          · rw [if_pos ft]
            exact bad
          · rw [if_neg ft]
            exact bad
      · rw [if_neg (show ¬ (rd_T77 L 0).f0 + (rd_T77 L 1).f0 = 0 by omega), if_neg f0]
        exact bad
    · rw [if_neg c2, if_neg c2]
      exact ⟨_, _, _, _, t1, t2⟩
  · rw [if_neg ce, if_neg ce]
    exact ⟨_, _, _, _, rfl, rfl⟩
end Go.Proofs.YtkioddjjfifadaaGreatDoor.P
namespace Go.Proofs.YtkioddjjfifadaaGreatDoor.P
open Go.RowKit Go.Proofs.YtkioddjjfifadaaGreatDoorW.PrintWords Go.Proofs.YtkioddjjfifadaaGreatDoorW.PrintLast Go.Proofs.YtkioddjjfifadaaGreatDoorW.PrintMore
def ref_set.l0 : Nat → List (S64) → List (S77) → Int → Int → Option ((List (S64)) × Int)
  | 0, _, _, _, _ => none
  | k + 1, x6, x30, x31, x32 => if x32 < x31 then (if 0 ≤ x32 then (if x32 < (x30.length : Int) then ((chirographref07_part.f k ((rd_T77 x30 x32).f0) ((rd_T77 x30 x32).f1) ((rd_T77 x30 x32).f2) ((rd_T77 x30 x32).f3) ((rd_T77 x30 x32).f4)).bind fun bt216 => (if bt216.2.2.2 = 0 then (if x6.length < 2932031007402 then (ref_set.l0 k (x6 ++ [(⟨bt216.1, bt216.2.1, bt216.2.2.1⟩ : S64)]) x30 x31 (wrap64 (x32 + 1))) else (none)) else (some (([] : List (S64)), bt216.2.2.2)))) else (none)) else (none)) else (some (x6, 0))
def ref_set.f (k : Nat) (a0_0 : Int) (a0_1 : Int) (a0_2 : Bool) (l0_3 : List Int) (l0_4 : List Int) : Option ((List (S64)) × Int) := (chirographref07_in.f k a0_0 a0_1 a0_2 l0_3 l0_4 17).bind fun bt210 => (if bt210.2 = 0 then (if (bt210.1.length : Int) = 0 then (some (([] : List (S64)), 5)) else (if (bt210.1.length : Int) > 64 then (some (([] : List (S64)), 4)) else (ref_set.l0 k ([] : List (S64)) bt210.1 (bt210.1.length : Int) 0))) else (some (([] : List (S64)), bt210.2)))
end Go.Proofs.YtkioddjjfifadaaGreatDoor.P
namespace Go.Proofs.YtkioddjjfifadaaGreatDoor.P
open Go.RowKit Go.Proofs.YtkioddjjfifadaaGreatDoorW.PrintWords Go.Proofs.YtkioddjjfifadaaGreatDoorW.PrintLast Go.Proofs.YtkioddjjfifadaaGreatDoorW.PrintMore
attribute [local go_sem] max2_int min2_int max_two min_two max_three min_three max_four min_four   -- for this text's walks alone
set_option linter.unusedVariables false
set_option linter.unusedSimpArgs false
def chirographref07_Parse.l0 : Nat → List (S77) → List (List (S64)) → Int → Option ((List (List (S64))) × Int)
  | 0, _, _, _ => none
  | k + 1, x6, x7, x8 => if x8 < (x6.length : Int) then (if 0 ≤ x8 then ((ref_set.f k ((rd_T77 x6 x8).f0) ((rd_T77 x6 x8).f1) ((rd_T77 x6 x8).f2) ((rd_T77 x6 x8).f3) ((rd_T77 x6 x8).f4)).bind fun bt587 => (if bt587.2 = 0 then (if x7.length < 5864062014805 then (chirographref07_Parse.l0 k x6 (x7 ++ [bt587.1]) (wrap64 (x8 + 1))) else (none)) else (some (([] : List (List (S64))), bt587.2)))) else (none)) else (some (x7, 0))
def chirographref07_Parse.f (k : Nat) (l0 : List Int) : Option ((List (List (S64))) × Int) := (chirographref04_One.f k l0).bind fun bt571 => (if bt571.2.2.2.2.2 = 0 then ((chirographref07_in.f k bt571.1 bt571.2.1 bt571.2.2.1 bt571.2.2.2.1 bt571.2.2.2.2.1 16).bind fun bt582 => (if bt582.2 = 0 then (if (bt582.1.length : Int) > 64 then (some (([] : List (List (S64))), 4)) else (chirographref07_Parse.l0 k bt582.1 ([] : List (List (S64))) 0)) else (some (([] : List (List (S64))), bt582.2)))) else (some (([] : List (List (S64))), bt571.2.2.2.2.2)))
end Go.Proofs.YtkioddjjfifadaaGreatDoor.P
namespace Go.Proofs.YtkioddjjfifadaaGreatDoor.P
open Go.RowKit Go.Proofs.YtkioddjjfifadaaGreatDoorW.PrintWords Go.Proofs.YtkioddjjfifadaaGreatDoorW.PrintMore
theorem part_len (c t : Int) (s : Bool) (d r : List Int) (hd : ByL d) (k : Nat) (hk : 3 * d.length + 602 ≤ k) (o : ByteArray) (g : Int) (v : List Int) (e : Int)
    (h : chirographref07_part.f k c t s d r = some (o, g, v, e)) : v.length ≤ d.length := by
  obtain ⟨k, rfl⟩ : ∃ k1, k = k1 + 1 := ⟨k - 1, by omega⟩
  obtain ⟨L, e1, _, h2, h4⟩ := in_both c t s d r hd 16 (k + 1) (by omega)
  have hj : ∀ b, chirographref07_part.j0 (k + 1) L b = some (o, g, v, e) → v.length ≤ d.length := fun b hb => by
    rw [chirographref07_part.j0] at hb
    by_cases cb : b = true
    · rw [if_pos cb] at hb
      cases hb
      exact Nat.zero_le _
    · rw [if_neg cb] at hb
      by_cases l0 : 0 < (L.length : Int)
      · rw [if_pos l0] at hb
        obtain ⟨⟨o2, e2⟩, _, hb⟩ := Option.bind_eq_some_iff.1 hb
        by_cases ce : e2 = 0
        · by_cases l1 : 1 < (L.length : Int)
          · simp only [if_pos ce, if_pos l1] at hb
            cases hb
            exact (h4 _ (rd77_mem L 1 (by decide) l1)).2.1
          · simp only [if_pos ce, if_neg l1] at hb
            cases hb
        · simp only [if_neg ce] at hb
          cases hb
          exact Nat.zero_le _
      · rw [if_neg l0] at hb
        cases hb
  unfold chirographref07_part.f at h
  rw [h2, Option.bind_some] at h
  dsimp only at h
  repeat' split at h
  all_goals first
    | exact hj _ h
    | (cases h; exact Nat.zero_le _)
    | cases h
set_option maxRecDepth 20000 in
theorem set_loop2 (n : Nat) (hn : n ≤ 100000000) (L : List S77) (hL : ∀ x ∈ L, OkT n x) (h64 : (L.length : Int) ≤ 64) : ∀ (m k : Nat) (i : Int) (acc : List S64), 0 ≤ i → i ≤ (L.length : Int) → (L.length : Int) - i ≤ m → m + 1 + (3 * n + 602) ≤ k → (acc.length : Int) ≤ i → (∀ p ∈ acc, p.f2.length ≤ n) →
    ∃ r e, name_set.l0 k acc L (L.length : Int) i = some (r, e) ∧ ref_set.l0 k acc L (L.length : Int) i = some (r, e) ∧ r.length ≤ 64 ∧ ∀ p ∈ r, p.f2.length ≤ n := by
  intro m
  induction m with
  | zero =>
    intro k i acc h0 h1 hm hk ha hp
    obtain ⟨k, rfl⟩ : ∃ k1, k = k1 + 1 := ⟨k - 1, by omega⟩
    have c : ¬ i < (L.length : Int) := by omega
    rw [name_set.l0, ref_set.l0, if_neg c, if_neg c]
    exact ⟨_, _, rfl, rfl, by omega, hp⟩
  | succ m IH =>
    intro k i acc h0 h1 hm hk ha hp
    obtain ⟨k, rfl⟩ : ∃ k1, k = k1 + 1 := ⟨k - 1, by omega⟩
    by_cases c : i < (L.length : Int)
    · obtain ⟨a1, a2, a3, a4⟩ := hL _ (rd77_mem L i h0 c)
      obtain ⟨o, g, v, e, p1, p2⟩ := part_both (rd_T77 L i).f0 (rd_T77 L i).f1 (rd_T77 L i).f2 (rd_T77 L i).f3 (rd_T77 L i).f4 a1 (by omega) k (by omega)
      have p3 := part_len (rd_T77 L i).f0 (rd_T77 L i).f1 (rd_T77 L i).f2 (rd_T77 L i).f3 (rd_T77 L i).f4 a1 k (by omega) o g v e p2
      have ih := IH k (i + 1) (acc ++ [(⟨o, g, v⟩ : S64)]) (by omega) (by omega) (by omega) (by omega) (by rw [List.length_append, List.length_singleton]; omega) (fun p hq => by
        rcases List.mem_append.1 hq with q | q
        · exact hp p q
        · rw [List.mem_singleton.1 q]
          exact Nat.le_trans p3 a2)
      have hA : acc.length < 2932031007402 := by omega
      have w : wrap64 (i + 1) = i + 1 := wb (by omega) (by omega)
      rw [name_set.l0, ref_set.l0, p1, p2]
      simp only [Option.bind_some, if_pos c, if_pos h0, w, if_pos hA]
      by_cases ce : e = 0
      · simp only [if_pos ce]
        exact ih
      · simp only [if_neg ce]
        exact ⟨_, _, rfl, rfl, Nat.zero_le _, fun _ h => by cases h⟩
    · rw [name_set.l0, ref_set.l0, if_neg c, if_neg c]
      exact ⟨_, _, rfl, rfl, by omega, hp⟩
set_option maxRecDepth 20000 in
theorem set_both2 (c t : Int) (s : Bool) (d r : List Int) (hd : ByL d) (hl : d.length ≤ 100000000) (k : Nat) (hk : 3 * d.length + 700 ≤ k) :
    ∃ L e, name_set.f k c t s d r = some (L, e) ∧ ref_set.f k c t s d r = some (L, e) ∧ L.length ≤ 64 ∧ ∀ p ∈ L, p.f2.length ≤ d.length := by
  obtain ⟨L, e, h1, h2, h4⟩ := in_both c t s d r hd 17 k (by omega)
  have nil : ([] : List S64).length ≤ 64 ∧ ∀ p ∈ ([] : List S64), p.f2.length ≤ d.length := ⟨Nat.zero_le _, fun _ h => by cases h⟩
  unfold name_set.f ref_set.f
  rw [h1, h2]
  simp only [Option.bind_some]
  by_cases ce : e = 0
  · simp only [if_pos ce]
    by_cases c0 : (L.length : Int) = 0
    · simp only [if_pos c0]
      exact ⟨_, _, rfl, rfl, nil⟩
    · by_cases c1 : (L.length : Int) > 64
      · simp only [if_neg c0, if_pos c1]
        exact ⟨_, _, rfl, rfl, nil⟩
      · simp only [if_neg c0, if_neg c1]
        exact set_loop2 d.length hl L h4 (by omega) L.length k 0 [] (Int.le_refl _) (by omega) (by omega) (by omega) (by simp) nil.2
  · simp only [if_neg ce]
    exact ⟨_, _, rfl, rfl, nil⟩
set_option maxRecDepth 20000 in
theorem read_loop (n : Nat) (hn : n ≤ 100000000) (L : List S77) (hL : ∀ x ∈ L, OkT n x) (h64 : (L.length : Int) ≤ 64) : ∀ (m k : Nat) (i : Int) (acc : List (List S64)), 0 ≤ i → i ≤ (L.length : Int) → (L.length : Int) - i ≤ m → m + 1 + (3 * n + 700) ≤ k → (acc.length : Int) ≤ i → (∀ s ∈ acc, s.length ≤ 64 ∧ ∀ p ∈ s, p.f2.length ≤ n) →
    ∃ r e, name_read.l0 k acc L (L.length : Int) i = some (r, e) ∧ chirographref07_Parse.l0 k L acc i = some (r, e) ∧ r.length ≤ 64 ∧ ∀ s ∈ r, s.length ≤ 64 ∧ ∀ p ∈ s, p.f2.length ≤ n := by
  intro m
  induction m with
  | zero =>
    intro k i acc h0 h1 hm hk ha hp
    obtain ⟨k, rfl⟩ : ∃ k1, k = k1 + 1 := ⟨k - 1, by omega⟩
    have c : ¬ i < (L.length : Int) := by omega
    rw [name_read.l0, chirographref07_Parse.l0, if_neg c, if_neg c]
    exact ⟨_, _, rfl, rfl, by omega, hp⟩
  | succ m IH =>
    intro k i acc h0 h1 hm hk ha hp
    obtain ⟨k, rfl⟩ : ∃ k1, k = k1 + 1 := ⟨k - 1, by omega⟩
    by_cases c : i < (L.length : Int)
    · obtain ⟨a1, a2, a3, a4⟩ := hL _ (rd77_mem L i h0 c)
      obtain ⟨S, e, p1, p2, p3, p4⟩ := set_both2 (rd_T77 L i).f0 (rd_T77 L i).f1 (rd_T77 L i).f2 (rd_T77 L i).f3 (rd_T77 L i).f4 a1 (by omega) k (by omega)
      have ih := IH k (i + 1) (acc ++ [S]) (by omega) (by omega) (by omega) (by omega) (by rw [List.length_append, List.length_singleton]; omega) (fun s hq => by
        rcases List.mem_append.1 hq with q | q
        · exact hp s q
        · rw [List.mem_singleton.1 q]
          exact ⟨p3, fun p hp => Nat.le_trans (p4 p hp) a2⟩)
      have hA : acc.length < 5864062014805 := by omega
      have w : wrap64 (i + 1) = i + 1 := wb (by omega) (by omega)
      rw [name_read.l0, chirographref07_Parse.l0, p1, p2]
      simp only [Option.bind_some, if_pos c, if_pos h0, w, if_pos hA]
      by_cases ce : e = 0
      · simp only [if_pos ce]
        exact ih
      · simp only [if_neg ce]
        exact ⟨_, _, rfl, rfl, Nat.zero_le _, fun _ h => by cases h⟩
    · rw [name_read.l0, chirographref07_Parse.l0, if_neg c, if_neg c]
      exact ⟨_, _, rfl, rfl, by omega, hp⟩
set_option maxRecDepth 20000 in
/-- Any bytes: the same name, the same error. -/
theorem read_both (b : List Int) (hb : ByL b) (hl : b.length ≤ 100000000) (k : Nat) (hk : 3 * b.length + 800 ≤ k) :
    ∃ n e, name_Parse.f k b = some (n, e) ∧ chirographref07_Parse.f k b = some (n, e) ∧ n.length ≤ 64 ∧ ∀ s ∈ n, s.length ≤ 64 ∧ ∀ p ∈ s, p.f2.length ≤ b.length := by
  obtain ⟨c, t, s, d, r, e, h1, h2, h3, h4, h5, h6⟩ := one_both b hb k (by omega)
  obtain ⟨L, e2, g1, g2, g4⟩ := in_both c t s d r h3 16 k (by omega)
  have nil : ([] : List (List S64)).length ≤ 64 ∧ ∀ s ∈ ([] : List (List S64)), s.length ≤ 64 ∧ ∀ p ∈ s, p.f2.length ≤ b.length := ⟨Nat.zero_le _, fun _ h => by cases h⟩
  unfold name_Parse.f name_read.f chirographref07_Parse.f
  rw [h1, h2]
  simp only [Option.bind_some]
  by_cases ce : e = 0
  · simp only [if_pos ce]
    rw [g1, g2]
    simp only [Option.bind_some]
    by_cases ce2 : e2 = 0
    · simp only [if_pos ce2]
      by_cases c1 : (L.length : Int) > 64
      · simp only [if_pos c1]
        exact ⟨_, _, rfl, rfl, nil⟩
      · simp only [if_neg c1]
        exact read_loop b.length hl L (fun x hx => ⟨(g4 x hx).1, Nat.le_trans (g4 x hx).2.1 h4, (g4 x hx).2.2⟩) (by omega) L.length k 0 [] (Int.le_refl _) (by omega) (by omega) (by omega) (by simp) nil.2
    · simp only [if_neg ce2]
      exact ⟨_, _, rfl, rfl, nil⟩
  · simp only [if_neg ce]
    exact ⟨_, _, rfl, rfl, nil⟩
end Go.Proofs.YtkioddjjfifadaaGreatDoor.P
namespace Go.Proofs.YtkioddjjfifadaaGreatDoor.P
open Go.RowKit Go.Proofs.YtkioddjjfifadaaGreatDoorW.PrintWords Go.Proofs.YtkioddjjfifadaaGreatDoorW.PrintLast Go.Proofs.YtkioddjjfifadaaGreatDoorW.PrintMore
/-- One byte string less than another, as Go's strings are held. -/
def ltL (a b : List Int) : Bool := Op.bytesLess (strOfNums a).toList (strOfNums b).toList
def bub : Nat → List (List Int) → List (List Int)
  | 0, l => l
  | k + 1, l => if ltL (l.getD (k + 1) []) (l.getD k []) = true then bub k ((l.set (k + 1) (l.getD k [])).set k (l.getD (k + 1) [])) else l
def insL (out : List (List Int)) (x : List Int) : List (List Int) := bub out.length (out ++ [x])
def sortedL (l : List (List Int)) : List (List Int) := l.foldl insL []
def chirographref07_sorted.f (l : List (List Int)) : Option (List (List Int)) := if l.length ≤ 1000000 then some (sortedL l) else none
end Go.Proofs.YtkioddjjfifadaaGreatDoor.P
set_option linter.unusedVariables false
namespace Go.Proofs.YtkioddjjfifadaaGreatDoor.P
open Go.RowKit Go.Proofs.YtkioddjjfifadaaGreatDoorW.PrintWords Go.Proofs.YtkioddjjfifadaaGreatDoorW.PrintLast Go.Proofs.YtkioddjjfifadaaGreatDoorW.PrintMore
theorem run_bytesSl {P : Program} {w : World} {A : Option Addr} {n c : Nat} {xs : List Int} (h : (Kd.int .u8).C w A n xs) : (Extern.Bytes.bytesOf (.slice A n c)).run P w = .ok ⟨(Lib.bytesOf xs).toArray⟩ w := by
  have hn : xs.length = n := h.1
  cases A with
  | none =>
    have : xs = [] := by
      rcases Nat.eq_zero_or_pos n with h0 | h0
      · exact List.eq_nil_of_length_eq_zero (hn.trans h0)
      · obtain ⟨ad, e, _⟩ := h.2.2 h0
        cases e
    subst this
    rfl
  | some a =>
    have hr := Kd.reads_of_C (d := (0 : Int)) h
    have hl := Lib.run_loadBytesX (P := P) w xs a .empty (fun j x hj => by
      have hjl : j < xs.length := (List.getElem?_eq_some_iff.1 hj).1
      obtain ⟨ad, e, hc⟩ := hr.2.2 (by omega)
      cases e
      have h2 := hc j (by omega)
      rw [List.getD_eq_getElem?_getD, hj] at h2
      exact h2)
    rw [hn] at hl
    have he : (⟨ByteArray.empty.data ++ (Lib.bytesOf xs).toArray⟩ : ByteArray) = ⟨(Lib.bytesOf xs).toArray⟩ := by
      apply ByteArray.ext
      show (#[] : Array UInt8) ++ (Lib.bytesOf xs).toArray = (Lib.bytesOf xs).toArray
      simp
    rw [he] at hl
    exact hl
theorem run_compareSl {P : Program} {w : World} {A B : Option Addr} {n c m d : Nat} {xs ys : List Int} (h : (Kd.int .u8).C w A n xs) (h2 : (Kd.int .u8).C w B m ys) :
    (Extern.BytealgCompare.compare #[.slice A n c, .slice B m d]).run P w = .ok (.int .i64 (Lib.compareBytes (Lib.bytesOf xs) (Lib.bytesOf ys))) w := by
  change Sem.run P (do pure (goInt (Extern.BytealgCompare.cmp (← Extern.Bytes.bytesOf (.slice A n c)) (← Extern.Bytes.bytesOf (.slice B m d))))) w = _
  simp only [Sem.run_bind, run_bytesSl h, run_bytesSl h2, Sem.run_pure, Result.andThen]
  rw [Lib.cmp_eq]
  rfl
theorem bytes_Compare_calls (A B : Option Addr) (n c m d : Nat) (xs ys : List Int) (w : World) (h : (Kd.int .u8).C w A n xs) (h2 : (Kd.int .u8).C w B m ys) :
    Calls Tryz.prog 151 #[.slice A n c, .slice B m d] w fun e w' => e = .returned (.int .i64 (Lib.compareBytes (Lib.bytesOf xs) (Lib.bytesOf ys))) ∧ w' = w := by
  have h8 := @run_callFunc_extern Tryz.prog 202 _ Extern.BytealgCompare.compare Tryz.func202 (by kernel_rfl) (by kernel_rfl) (by kernel_rfl) (by kernel_rfl)
  have hr := run_compareSl (P := Tryz.prog) (c := c) (d := d) h h2
  clear h h2
  generalize Lib.compareBytes (Lib.bytesOf xs) (Lib.bytesOf ys) = R at *
  go_enter Tryz.func151, Tryz.ntmps151
  go_wp2
  go_ret
  exact ⟨rfl, rfl⟩
theorem long_calls (A : Option Addr) (n c : Nat) (w : World) : Calls Tryz.prog 148 #[.slice A n c] w fun e w' => e = .returned (.bool (decide (64 < (n : Int)))) ∧ w' = w := by
  go_enter Tryz.func148, Tryz.ntmps148
  go_wp2
  go_ret
  exact ⟨rfl, rfl⟩
def longL (l : List (List S64)) : Bool := l.any fun s => decide (64 < (s.length : Int))
def IdxPost (l : List (List S64)) (w : World) (e : Ending) (w' : World) : Prop := ∃ i : Int, e = .returned (.int .i64 i) ∧ decide (0 ≤ i) = longL l ∧ w' = w
theorem longL_take (l : List (List S64)) (j : Nat) (hj : j < l.length) : longL (l.take (j + 1)) = (longL (l.take j) || decide (64 < ((rd_L5 l (j : Int)).length : Int))) := by
  unfold longL
  rw [List.take_succ_eq_append_getElem hj, List.any_append]
  congr 1
  simp only [List.any_cons, List.any_nil, Bool.or_false]
  have : rd_L5 l (j : Int) = l[j] := by
    show l.getD (j : Int).toNat [] = l[j]
    rw [Int.toNat_natCast, List.getD_eq_getElem?_getD, List.getElem?_eq_getElem hj]; rfl
  rw [this]
set_option maxRecDepth 100000 in
set_option maxHeartbeats 4000000 in
theorem index_long (A0 : Option Addr) (c0 : Nat) (l0 : List (List S64)) (w : World) (hr0 : Kd.C (Kd.slice 64 k64) w A0 l0.length l0) (hl : l0.length < 4611686018427387904) :
    Calls Tryz.prog 198 #[.slice A0 l0.length c0, .func (.func 148) #[] #[]] w (IdxPost l0 w) := by
  have HR0 := Aside0.mk hr0
  have HL := Aside0.mk hl
  clear hr0 hl
  go_enter Tryz.func198, Tryz.ntmps198
  go_wp2
  go_loopg [8] (l0.length + 1) (fun kq v8 w' => ∃ (j : Nat), v8 = .int .i64 (j : Int) ∧ Aside0 (j ≤ l0.length ∧ l0.length < kq + j) ∧ Aside0 (longL (l0.take j) = false) ∧ w' = w)
  case atStart => exact ⟨0, rfl, ⟨⟨Nat.zero_le _, by omega⟩⟩, ⟨rfl⟩, rfl⟩
  case round =>
    obtain ⟨j, rfl, HJ, HF, rfl⟩ := hrel
    cases gk with
    | zero => exact absurd HJ.out (by omega)
    | succ g1 =>
      by_cases hj : j < l0.length
      · have c1 : decide ((j : Int) < (l0.length : Int)) = true := decide_eq_true (by omega)
        have p1 : ((0 : Int) ≤ (j : Int)) = True := eq_true (by omega)
        have q1 : ((j : Int) < (l0.length : Int)) = True := eq_true (by omega)
        obtain ⟨ad, A1, c1', rfl, hx, hl1, hC1⟩ := at_L5 HR0.out (j : Int) (by omega) (by omega)
        rw [Int.toNat_natCast] at hx
        have HS := Aside0.mk (longL_take l0 j hj)
        have hw3 : wrap64 ((j : Int) + 1) = ((j + 1 : Nat) : Int) := by unfold wrap64; have := HL.out; omega
        clear hl1 hC1
        obtain ⟨n1, hn1⟩ : ∃ n1, (rd_L5 l0 (j : Int)).length = n1 := ⟨_, rfl⟩
        rw [hn1] at hx
        have HN := Aside0.mk hn1
        clear hn1
        by_cases hb : 64 < (n1 : Int)
        · have hd : decide (64 < (n1 : Int)) = true := decide_eq_true hb
          have HB : Aside0 (longL (l0.take (j + 1)) = true) := ⟨by rw [HS.out, HF.out, HN.out, hd]; rfl⟩
          have ARM : ∀ W : World, Calls Tryz.prog 148 #[.slice A1 n1 c1'] W fun e w' => e = .returned (.bool true) ∧ w' = W := fun W => hd ▸ long_calls A1 n1 c1' W
          clear hd hb
          go_wp2_with ((with_reducible refine (ARM _).mono ?_); rintro e w4 ⟨rfl, rfl⟩)
          go_ret
          refine ⟨_, rfl, ?_, rfl⟩
          have h1 : longL l0 = true := by
            have := HB.out
            unfold longL at this ⊢
            rw [List.any_eq_true] at this ⊢
            obtain ⟨x, hx, hp⟩ := this
            exact ⟨x, List.mem_of_mem_take hx, hp⟩
          rw [h1]
          exact decide_eq_true (by omega)
        · have hd : decide (64 < (n1 : Int)) = false := decide_eq_false hb
          have HB : Aside0 (longL (l0.take (j + 1)) = false) := ⟨by rw [HS.out, HF.out, HN.out, hd]; rfl⟩
          have ARM : ∀ W : World, Calls Tryz.prog 148 #[.slice A1 n1 c1'] W fun e w' => e = .returned (.bool false) ∧ w' = W := fun W => hd ▸ long_calls A1 n1 c1' W
          clear hd hb
          go_wp2_with ((with_reducible refine (ARM _).mono ?_); rintro e w4 ⟨rfl, rfl⟩)
          go_roundg g1
          case measure => exact Nat.lt_succ_self _
          case rel => exact ⟨j + 1, congrArg (Value.int .i64) hw3, ⟨by have := HJ.out; omega⟩, HB, rfl⟩
      · have c1 : decide ((j : Int) < (l0.length : Int)) = false := decide_eq_false (by omega)
        go_wp2
        go_ret
        refine ⟨_, rfl, ?_, rfl⟩
        have := HF.out
        rw [List.take_of_length_le (by omega)] at this
        rw [this]
        rfl
def slices_ContainsFunc.f (l : List (List S64)) : Option Bool := if l.length < 4611686018427387904 then some (longL l) else none
theorem contains_long (A0 : Option Addr) (c0 : Nat) (l0 : List (List S64)) (r : Bool) (w : World) (hr0 : Kd.C (Kd.slice 64 k64) w A0 l0.length l0) (h : slices_ContainsFunc.f l0 = some r) :
    Calls Tryz.prog 147 #[.slice A0 l0.length c0, .func (.func 148) #[] #[]] w fun e w' => e = .returned (.bool r) ∧ w' = w := by
  unfold slices_ContainsFunc.f at h
  split at h
  case isFalse => cases h
  case isTrue hl =>
  have HR := Aside0.mk (Option.some.inj h)
  have HC := Aside0.mk hr0
  have HL := Aside0.mk hl
  clear h hl hr0
  go_enter Tryz.func147, Tryz.ntmps147
  go_wp2_with fail
  refine (index_long A0 c0 l0 _ HC.out HL.out).mono ?_
  rintro e w4 ⟨i, rfl, hi, rfl⟩
  rw [HR.out] at hi
  go_wp2_with fail
  go_ret
  exact ⟨by first | rfl | (rw [hi]), rfl⟩
end Go.Proofs.YtkioddjjfifadaaGreatDoor.P
namespace Go.Proofs.YtkioddjjfifadaaGreatDoor.P
open Go.RowKit Go.Proofs.YtkioddjjfifadaaGreatDoorW.PrintWords Go.Proofs.YtkioddjjfifadaaGreatDoorW.PrintLast Go.Proofs.YtkioddjjfifadaaGreatDoorW.PrintMore
def sortB (xs : List ByteArray) : List ByteArray := ((xs.map fun b => b.data.toList).mergeSort fun x y => decide (x ≤ y)).map fun l => ⟨l.toArray⟩
theorem sortB_len (xs : List ByteArray) : (sortB xs).length = xs.length := by simp [sortB]
def slices_Sort.f (xs : List ByteArray) : Option (List ByteArray) := if xs.length < 4611686018427387904 then some (sortB xs) else none
theorem sort_own (w0 : World) (v : Value) (xs r : List ByteArray) (w : World) (hR : Kd.string.R 9 w w0.heap.size (fun _ => True) v xs) (h0 : Below w0.heap.size w0 w) (h : slices_Sort.f xs = some r) :
    Calls Tryz.prog 161 #[v] w fun e w' => e = .returned (.tuple #[]) ∧ Kd.string.R 9 w' w0.heap.size (fun _ => True) v r ∧ Below w0.heap.size w0 w' := by
  unfold slices_Sort.f at h
  split at h
  case isFalse => cases h
  case isTrue hl =>
  obtain rfl := Option.some.inj h
  have ho := Kd.own_of_R hR
  rcases ho.2 with ⟨rfl, hn⟩ | ⟨g, cap, cur, rfl, hg, hh, hnc, hcm, hsz, htk⟩
  · have hx : xs = [] := List.eq_nil_of_length_eq_zero hn
    subst hx
    refine (Tryz.slices_Sort_string_none none 0 w).mono ?_
    rintro e w' ⟨rfl, rfl⟩
    have hnil : sortB [] = [] := List.eq_nil_of_length_eq_zero (sortB_len [])
    rw [hnil]
    exact ⟨rfl, hR, h0⟩
  · have hcur : ∀ j, j < xs.length → cur[j]? = some (Value.string (xs[j]!)) := fun j hj => by
      have h1 : (cur.toList.take (xs.length * 1))[j]? = (encs Value.string xs)[j]? := by rw [htk]
      rw [List.getElem?_take_of_lt (by omega)] at h1
      rw [← Array.getElem?_toList, h1]
      simp [encs, List.getElem?_eq_getElem hj, getElem!_pos xs j hj]
    have hlt : g < w.heap.size := blk_lt hh
    have hH : Go.Sort.Holds Go.Proofs.encStr w g 0 (xs.map fun b => b.data.toList).toArray := fun j hj => by
      have hj' : j < xs.length := by simpa using hj
      refine ⟨?_, blk_frozen hh _⟩
      rw [Nat.zero_add]
      refine (blk_cell hh j).trans ?_
      rw [hcur j hj']
      simp [hj']
    refine (show Calls Tryz.prog 161 #[.slice (some ⟨g, 0, none⟩) xs.length cap] w _ from ?_)
    have hc := Tryz.slices_Sort_string g 0 cap (xs.map fun b => b.data.toList) w hH hlt (by simpa using hl)
    rw [List.length_map] at hc
    refine hc.mono ?_
    rintro e w' ⟨rfl, n, os, rfl⟩
    generalize hss : (((xs.map fun b => b.data.toList).mergeSort fun x y => decide (x ≤ y)) : List (List UInt8)) = ss
    have hsl : ss.length = xs.length := by rw [← hss]; simp
    have hsb : sortB xs = ss.map fun l => ⟨l.toArray⟩ := by rw [← hss]; rfl
    rw [hsb]
    have hgr : w.grownBy (Go.Sort.grow (Go.Sort.putRow Go.Proofs.encStr (Go.Sort.ahead w n) g 0 ss.toArray) os) (some g) := by
      refine ⟨rfl, rfl, rfl, ?_, fun k hk hne => ?_⟩
      · show w.heap.size ≤ ((Go.Sort.putRow Go.Proofs.encStr (Go.Sort.ahead w n) g 0 ss.toArray).heap ++ os).size
        rw [Array.size_append, Go.Sort.size_putRow]
        exact Nat.le_add_right _ _
      · show ((Go.Sort.putRow Go.Proofs.encStr (Go.Sort.ahead w n) g 0 ss.toArray).heap ++ os)[k]? = _
        rw [Array.getElem?_append_left (by rw [Go.Sort.size_putRow]; exact hk)]
        show (w.heap.modify g _)[k]? = _
        rw [Array.getElem?_modify, if_neg (fun e => hne (by rw [e]))]
    refine ⟨rfl, Kd.R_of_own ⟨by simp [encs], Or.inr ⟨g, cap, Go.Sort.putCells Go.Proofs.encStr 0 ss.toArray cur, by rw [List.length_map, hsl], hg, ?_, by rw [List.length_map, hsl]; exact hnc, hcm, by simp [Go.Sort.putCells]; simpa using hsz, ?_⟩⟩ (fun _ _ => trivial), pw_below_grown h0 _ h0.size hgr (fun k hk => by injection hk with hk; omega)⟩
    · show ((Go.Sort.putRow Go.Proofs.encStr (Go.Sort.ahead w n) g 0 ss.toArray).heap ++ os)[g]? = _
      rw [Array.getElem?_append_left (by rw [Go.Sort.size_putRow]; exact hlt)]
      show (w.heap.modify g _)[g]? = _
      rw [Array.getElem?_modify, if_pos rfl, hh]
      rfl
    · rw [List.length_map, Nat.mul_one]
      apply List.ext_getElem?
      intro j
      by_cases hj : j < ss.length
      · rw [List.getElem?_take_of_lt hj, Array.getElem?_toList]
        have hcl : j < cur.size := by omega
        simp [Go.Sort.putCells, hcl, hj, encs]
      · rw [List.getElem?_eq_none (by rw [List.length_take]; omega), List.getElem?_eq_none (by simp [encs]; omega)]
def strings_Join.f (xs : List ByteArray) (sep : ByteArray) : Option ByteArray :=
  if xs.length ≤ 140737488355328 ∧ (Lib.join (xs.map (·.data.toList)) sep.data.toList).length ≤ 140737488355328 then some ⟨(Lib.join (xs.map (·.data.toList)) sep.data.toList).toArray⟩ else none
theorem strings_Join.calls (A0 : Option Addr) (c0 : Nat) (l0 : List ByteArray) (a1 : ByteArray) (r : ByteArray) (w : World) (hr0 : Kd.C Kd.string w A0 l0.length l0) (hc0 : l0.length ≤ c0) (h : strings_Join.f l0 a1 = some r) :
    Calls Tryz.prog 88 #[.slice A0 l0.length c0, .string a1] w fun e w' => e = .returned (.string r) ∧ Below w.heap.size w w' := by
  unfold strings_Join.f at h
  split at h
  case isFalse => cases h
  case isTrue hl =>
  obtain rfl := Option.some.inj h
  cases l0 with
  | nil =>
    refine (Tryz.strings_Join_none A0 c0 a1 w).mono ?_
    rintro e w' ⟨rfl, rfl⟩
    exact ⟨rfl, Below.refl _ _⟩
  | cons x xs =>
    obtain ⟨ad, rfl, hcell⟩ := hr0.2.2 (by simp)
    have hc1 : ∀ (j : Nat) y, (x :: xs)[j]? = some y → w.cell? (ad.add j) = some (.string y) := fun j y hy => by
      obtain ⟨c, _, hK, hu⟩ := hcell j y hy
      have hK' : c = [Value.string y] := hK
      subst hK'
      have := hu 0 _ rfl
      simpa [Kd.string, Kd.scalar] using this
    obtain ⟨b, o, spot⟩ := ad
    have h0 := hc1 0 x rfl
    have hspot : spot = none := by simpa [Addr.add] using World.cell?_spot h0
    subst hspot
    refine (Tryz.strings_Join b o c0 (x :: xs) a1 w (fun j y hy => by have := hc1 j y hy; rwa [Go.Addr.add_mid] at this) (World.block_lt_of_cell? w _ h0) hl.1 hc0 hl.2).mono ?_
    rintro e w' ⟨rfl, hb⟩
    exact ⟨rfl, hb⟩
end Go.Proofs.YtkioddjjfifadaaGreatDoor.P
namespace Go.Proofs.YtkioddjjfifadaaGreatDoor.P
open Go.RowKit Go.Proofs.YtkioddjjfifadaaGreatDoorW.PrintWords
def un (y : List Int) : List UInt8 := (strOfNums y).data.toList
theorem ltL_un (a b : List Int) : ltL a b = decide (un a < un b) := by
  unfold ltL un
  rw [bytesLess_eq, Lib.toList_data, Lib.toList_data]
/-- Insert from the right. -/
def insR : List (List Int) → List Int → List (List Int)
  | [], x => [x]
  | a :: A, x => if ltL x a = true then insR A x ++ [a] else A.reverse ++ [a, x]
theorem getD_mid {α : Type} (A B : List α) (x d : α) (k : Nat) (h : k = A.length) : (A ++ x :: B).getD k d = x := by
  subst h
  rw [List.getD_eq_getElem?_getD, List.getElem?_append_right (Nat.le_refl _), Nat.sub_self]
  rfl
theorem set_mid {α : Type} (A B : List α) (x y : α) (k : Nat) (h : k = A.length) : (A ++ x :: B).set k y = A ++ y :: B := by
  subst h
  rw [List.set_append_right _ _ (Nat.le_refl _), Nat.sub_self]
  rfl
theorem bub_insR : ∀ (A : List (List Int)) (x : List Int) (B : List (List Int)), bub A.length (A.reverse ++ x :: B) = insR A x ++ B
  | [], x, B => rfl
  | a :: A, x, B => by
    have e1 : ((a :: A).reverse ++ x :: B).getD (A.length + 1) [] = x := getD_mid _ _ _ _ _ (by simp)
    have e2 : ((a :: A).reverse ++ x :: B).getD A.length [] = a := by
      rw [List.reverse_cons, List.append_assoc]
      exact getD_mid _ _ _ _ _ (by simp)
    have e3 : (((a :: A).reverse ++ x :: B).set (A.length + 1) a).set A.length x = A.reverse ++ x :: (a :: B) := by
      rw [set_mid _ _ _ _ _ (by simp), List.reverse_cons, List.append_assoc]
      exact set_mid _ _ _ _ _ (by simp)
    show bub (A.length + 1) _ = _
    rw [bub, e1, e2, e3]
    unfold insR
    by_cases h : ltL x a = true
    · rw [if_pos h, if_pos h, bub_insR A x (a :: B), List.append_assoc]
      rfl
    · rw [if_neg h, if_neg h, List.reverse_cons, List.append_assoc, List.append_assoc]
      rfl
theorem insL_insR (out : List (List Int)) (x : List Int) : insL out x = insR out.reverse x := by
  have := bub_insR out.reverse x []
  rw [List.length_reverse, List.reverse_reverse, List.append_nil] at this
  exact this
abbrev leU (a b : List Int) : Prop := un a ≤ un b
theorem insR_perm : ∀ (A : List (List Int)) (x : List Int), (insR A x).Perm (x :: A)
  | [], x => List.Perm.refl _
  | a :: A, x => by
    unfold insR
    split
    · refine (List.perm_append_comm).trans ?_
      exact ((insR_perm A x).cons a).trans (List.Perm.swap x a A)
    · have h1 : (A.reverse ++ [a, x]).Perm ([a, x] ++ A.reverse) := List.perm_append_comm
      refine h1.trans ?_
      refine (List.Perm.swap x a _).trans ?_
      exact ((List.reverse_perm A).cons a).cons x
theorem insR_sorted : ∀ (A : List (List Int)) (x : List Int), A.reverse.Pairwise leU → (insR A x).Pairwise leU
  | [], x, _ => List.pairwise_singleton _ _
  | a :: A, x, h => by
    rw [List.reverse_cons, List.pairwise_append] at h
    obtain ⟨h1, _, h3⟩ := h
    have h3' : ∀ u ∈ A.reverse, leU u a := fun u hu => h3 u hu a (List.mem_singleton.2 rfl)
    unfold insR
    split
    · rename_i hlt
      rw [ltL_un, decide_eq_true_eq] at hlt
      rw [List.pairwise_append]
      refine ⟨insR_sorted A x h1, List.pairwise_singleton _ _, fun u hu v hv => ?_⟩
      rw [List.mem_singleton.1 hv]
      have hm := (insR_perm A x).mem_iff.1 hu
      rcases List.mem_cons.1 hm with rfl | hm
      · exact List.le_of_lt hlt
      · exact h3' u (List.mem_reverse.2 hm)
    · rename_i hlt
      rw [ltL_un, decide_eq_true_eq, List.not_lt] at hlt
      rw [List.pairwise_append]
      refine ⟨h1, ?_, fun u hu v hv => ?_⟩
      · rw [List.pairwise_cons]
        exact ⟨fun v hv => by rw [List.mem_singleton.1 hv]; exact hlt, List.pairwise_singleton _ _⟩
      · rcases List.mem_cons.1 hv with rfl | hv
        · exact h3' u hu
        · rw [List.mem_singleton.1 hv]
          exact List.le_trans (h3' u hu) hlt
theorem foldl_ins (l : List (List Int)) : ∀ (out : List (List Int)), out.Pairwise leU → (l.foldl insL out).Pairwise leU ∧ (l.foldl insL out).Perm (out ++ l) := by
  induction l with
  | nil => intro out h; exact ⟨h, by rw [List.append_nil]; exact List.Perm.refl _⟩
  | cons x l ih =>
    intro out h
    have hs : (insL out x).Pairwise leU := by rw [insL_insR]; exact insR_sorted _ _ (by rw [List.reverse_reverse]; exact h)
    obtain ⟨h1, h2⟩ := ih (insL out x) hs
    refine ⟨h1, h2.trans ?_⟩
    have hp : (insL out x).Perm (x :: out) := by rw [insL_insR]; exact (insR_perm _ _).trans ((List.reverse_perm out).cons x)
    refine (hp.append_right l).trans ?_
    exact (List.perm_middle).symm
end Go.Proofs.YtkioddjjfifadaaGreatDoor.P
namespace Go.Proofs
open Go.Shelf
def Tryz.laysSF_ren : Go.Shelf.Ren := ⟨fun | 6 => 150 | 15 => 201 | 14 => 200 | 28 => 247 | 29 => 248 | 20 => 239 | 21 => 240 | 22 => 241 | 23 => 242 | 24 => 243 | 25 => 244 | 26 => 245 | 27 => 246 | 46 => 280 | 47 => 281 | 48 => 282 | 49 => 283 | 50 => 284 | 57 => 303 | n => n, fun | 22 => 67 | 24 => 22 | 25 => 241 | 3 => 3 | 39 => 245 | 0 => 0 | 53 => 323 | 55 => 278 | 4 => 4 | 46 => 355 | 45 => 354 | 50 => 359 | 5 => 5 | 9 => 9 | 66 => 398 | 70 => 402 | 76 => 416 | 77 => 195 | n => n, fun | n => n⟩
theorem Tryz.laysSF : Go.Proofs.SlLaysF.n6 Tryz.prog Tryz.laysSF_ren := {
  mixed := by kernel_rfl
  f6 := ⟨Tryz.f150.name, by decide, Tryz.func150.trans (congrArg some (by kernel_rfl))⟩
  f14 := ⟨Tryz.f200.name, by decide, Tryz.func200.trans (congrArg some (by kernel_rfl))⟩
  f15 := Tryz.func201.trans (congrArg some (by kernel_rfl))
  f20 := ⟨Tryz.f239.name, by decide, Tryz.func239.trans (congrArg some (by kernel_rfl))⟩
  f21 := ⟨Tryz.f240.name, by decide, Tryz.func240.trans (congrArg some (by kernel_rfl))⟩
  f22 := ⟨Tryz.f241.name, by decide, Tryz.func241.trans (congrArg some (by kernel_rfl))⟩
  f23 := ⟨Tryz.f242.name, by decide, Tryz.func242.trans (congrArg some (by kernel_rfl))⟩
  f24 := ⟨Tryz.f243.name, by decide, Tryz.func243.trans (congrArg some (by kernel_rfl))⟩
  f25 := ⟨Tryz.f244.name, by decide, Tryz.func244.trans (congrArg some (by kernel_rfl))⟩
  f26 := ⟨Tryz.f245.name, by decide, Tryz.func245.trans (congrArg some (by kernel_rfl))⟩
  f27 := ⟨Tryz.f246.name, by decide, Tryz.func246.trans (congrArg some (by kernel_rfl))⟩
  f28 := Tryz.func247.trans (congrArg some (by kernel_rfl))
  f29 := Tryz.func248.trans (congrArg some (by kernel_rfl))
  f46 := ⟨Tryz.f280.name, by decide, Tryz.func280.trans (congrArg some (by kernel_rfl))⟩
  f47 := Tryz.func281.trans (congrArg some (by kernel_rfl))
  f48 := Tryz.func282.trans (congrArg some (by kernel_rfl))
  f49 := ⟨Tryz.f283.name, by decide, Tryz.func283.trans (congrArg some (by kernel_rfl))⟩
  f50 := ⟨Tryz.f284.name, by decide, Tryz.func284.trans (congrArg some (by kernel_rfl))⟩
  f57 := ⟨Tryz.f303.name, by decide, Tryz.func303.trans (congrArg some (by kernel_rfl))⟩
  t0 := Tryz.underlying0
  a0 := Tryz.isAgg0
  z0 := Tryz.sizeOf0
  v0 := Tryz.zeroValue0
  t3 := Tryz.underlying3
  a3 := Tryz.isAgg3
  z3 := Tryz.sizeOf3
  v3 := Tryz.zeroValue3
  t4 := Tryz.underlying4
  a4 := Tryz.isAgg4
  z4 := Tryz.sizeOf4
  v4 := Tryz.zeroValue4
  t5 := Tryz.underlying5
  a5 := Tryz.isAgg5
  z5 := Tryz.sizeOf5
  v5 := Tryz.zeroValue5
  t9 := Tryz.underlying9
  a9 := Tryz.isAgg9
  z9 := Tryz.sizeOf9
  v9 := Tryz.zeroValue9
  t22 := Tryz.underlying67
  a22 := Tryz.isAgg67
  z22 := Tryz.sizeOf67
  v22 := Tryz.zeroValue67
  a24 := Tryz.isAgg22
  z24 := Tryz.sizeOf22
  t25 := Tryz.underlying241
  a25 := Tryz.isAgg241
  z25 := Tryz.sizeOf241
  v25 := Tryz.zeroValue241
  t39 := Tryz.underlying245
  a39 := Tryz.isAgg245
  z39 := Tryz.sizeOf245
  v39 := Tryz.zeroValue245
  t45 := Tryz.underlying354
  a45 := Tryz.isAgg354
  z45 := Tryz.sizeOf354
  v45 := Tryz.zeroValue354
  t46 := Tryz.underlying355
  a46 := Tryz.isAgg355
  z46 := Tryz.sizeOf355
  v46 := Tryz.zeroValue355
  t50 := Tryz.underlying359
  a50 := Tryz.isAgg359
  z50 := Tryz.sizeOf359
  v50 := Tryz.zeroValue359
  t53 := Tryz.underlying323
  a53 := Tryz.isAgg323
  z53 := Tryz.sizeOf323
  v53 := Tryz.zeroValue323
  t55 := Tryz.underlying278
  a55 := Tryz.isAgg278
  z55 := Tryz.sizeOf278
  v55 := Tryz.zeroValue278
  t66 := Tryz.underlying398
  a66 := Tryz.isAgg398
  z66 := Tryz.sizeOf398
  v66 := Tryz.zeroValue398
  t70 := Tryz.underlying402
  a70 := Tryz.isAgg402
  z70 := Tryz.sizeOf402
  v70 := Tryz.zeroValue402
  t76 := Tryz.underlying416
  a76 := Tryz.isAgg416
  z76 := Tryz.sizeOf416
  v76 := Tryz.zeroValue416
  t77 := Tryz.underlying195
  a77 := Tryz.isAgg195
  z77 := Tryz.sizeOf195
  v77 := Tryz.zeroValue195 }
end Go.Proofs
set_option linter.unusedVariables false
namespace Go.Proofs.YtkioddjjfifadaaGreatDoor.P
open Go.RowKit Go.Sort Go.Lib Go.Proofs.YtkioddjjfifadaaGreatDoorW.PrintWords Go.Proofs.YtkioddjjfifadaaGreatDoorW.PrintLast Go.Proofs.YtkioddjjfifadaaGreatDoorW.PrintMore
theorem cmp_lt : ∀ a b : List UInt8, decide (Lib.compareBytes a b < 0) = decide (a < b)
  | [], [] => by simp [Lib.compareBytes]
  | [], _ :: _ => by simp [Lib.compareBytes]
  | _ :: _, [] => by simp [Lib.compareBytes]
  | a :: as_, b :: bs => by
    have ih := cmp_lt as_ bs
    unfold Lib.compareBytes
    by_cases h1 : a < b
    · rw [if_pos h1]
      simp [List.cons_lt_cons_iff, h1]
    · rw [if_neg h1]
      by_cases h2 : b < a
      · rw [if_pos h2]
        have : a ≠ b := fun e => by subst e; exact UInt8.lt_irrefl _ h2
        simp [List.cons_lt_cons_iff, h1, this]
      · rw [if_neg h2]
        have : a = b := UInt8.le_antisymm (UInt8.not_lt.1 h2) (UInt8.not_lt.1 h1)
        rw [ih]
        simp [List.cons_lt_cons_iff, h1, this]
abbrev byteOk (y : List Int) : Bool := y.all isByte
theorem un_inj : ∀ {a b : List Int}, byteOk a = true → byteOk b = true → un a = un b → a = b := by
  intro a b ha hb h
  have key : ∀ y : List Int, byteOk y = true → (un y).map (fun (c : UInt8) => (c.toNat : Int)) = y := by
    intro y hy
    unfold un strOfNums
    simp only [List.map_map]
    refine (List.map_congr_left (g := id) fun x hx => ?_).trans (List.map_id _)
    have := List.all_eq_true.1 hy x hx
    simp only [isByte, Bool.and_eq_true, decide_eq_true_eq] at this
    show ((UInt8.ofNat x.toNat).toNat : Int) = x
    rw [UInt8.toNat_ofNat']
    omega
  rw [← key a ha, ← key b hb, h]
theorem sortedL_perm (xs : List (List Int)) : (sortedL xs).Pairwise leU ∧ (sortedL xs).Perm xs := by
  have := foldl_ins xs [] List.Pairwise.nil
  rwa [List.nil_append] at this
/-- What is sorted is sortedL. -/
theorem sortedL_only {xs ys : List (List Int)} (hb : ∀ y ∈ xs, byteOk y = true) (hp : ys.Perm xs) (hs : ys.Pairwise leU) : ys = sortedL xs := by
  obtain ⟨h1, h2⟩ := sortedL_perm xs
  refine List.Perm.eq_of_pairwise (le := leU) (fun a b ha hb' h3 h4 => ?_) hs h1 (hp.trans h2.symm)
  exact un_inj (hb a (hp.mem_iff.1 ha)) (hb b (h2.mem_iff.1 hb')) (List.le_antisymm h3 h4)
def slices_SortFunc.f (xs : List (List Int)) : Option (List (List Int)) := if (xs.all byteOk = true ∧ xs.length ≤ 1000000) then some (sortedL xs) else none
theorem swo_cmp {n : Nat} (X : Fin n → List Int) : Go.Sort.SWO (ltOf fun i j => Lib.compareBytes (un (X i)) (un (X j))) where
  irrefl x := by unfold ltOf; rw [cmp_lt]; simp
  trans x y z h1 h2 := by
    unfold ltOf at *
    rw [cmp_lt, decide_eq_true_eq] at *
    exact List.lt_trans h1 h2
  ntrans x y z h1 h2 := by
    unfold ltOf at *
    rw [cmp_lt, decide_eq_false_iff_not, List.not_lt] at *
    exact List.le_trans h2 h1
theorem slices_ContainsFunc.calls (A0 : Option Addr) (c0 : Nat) (l0 : List (List S64)) (r : Bool) (w : World) (hr0 : Kd.C (Kd.slice 64 k64) w A0 l0.length l0) (hc0 : l0.length ≤ c0) (h : slices_ContainsFunc.f l0 = some r) :
    Calls Tryz.prog 147 #[.slice A0 l0.length c0, .func (.func 148) #[] #[]] w fun e w' => e = .returned (.bool r) ∧ Below w.heap.size w w' :=
  (contains_long A0 c0 l0 r w hr0 h).mono fun e w' ⟨h1, h2⟩ => ⟨h1, h2 ▸ Below.refl _ _⟩
theorem grownBy_sortW {α : Type} [Inhabited α] (enc : α → Value) {w : World} {g n : Nat} {os : Array Obj} (d : Array α) : w.grownBy (sortWorld enc w g 0 n d os) (some g) := by
  refine ⟨rfl, rfl, rfl, ?_, fun k hk hne => ?_⟩
  · show w.heap.size ≤ ((Go.Sort.putRow enc (Go.Sort.ahead w n) g 0 d).heap ++ os).size
    rw [Array.size_append, Go.Sort.size_putRow]
    exact Nat.le_add_right _ _
  · show ((Go.Sort.putRow enc (Go.Sort.ahead w n) g 0 d).heap ++ os)[k]? = _
    rw [Array.getElem?_append_left (by rw [Go.Sort.size_putRow]; exact hk)]
    show (w.heap.modify g _)[k]? = _
    rw [Array.getElem?_modify, if_neg (fun e => hne (by rw [e]))]
theorem ex_all {α : Type} (d : Array α) {n : Nat} (h : d.size = n) : (d.extract 0 n).toList = d.toList := by subst h; simp
theorem sortfunc_own (w0 : World) (v : Value) (xs r : List (List Int)) (ok : Nat → Prop) (w : World) (hR : (Kd.slice 5 (Kd.int .u8)).R 22 w w0.heap.size ok v xs) (h0 : Below w0.heap.size w0 w) (h : slices_SortFunc.f xs = some r) :
    Calls Tryz.prog 150 #[v, .func (.func 151) #[] #[]] w fun e w' => e = .returned (.tuple #[]) ∧ (Kd.slice 5 (Kd.int .u8)).R 22 w' w0.heap.size ok v r ∧ w.grownBy w' v.ownBlock ∧ Below w0.heap.size w0 w' := by
  unfold slices_SortFunc.f at h
  split at h
  case isFalse => cases h
  case isTrue hl =>
  obtain rfl := Option.some.inj h
  have hbk : ∀ y ∈ xs, byteOk y = true := List.all_eq_true.1 hl.1
  obtain ⟨hok, inner, ho, hrep⟩ := hR
  have hz1 : (Kd.slice 5 (Kd.int IntKind.u8)).sz = 1 := rfl
  rcases ho.2 with ⟨rfl, hn⟩ | ⟨g, cap, cur, rfl, hg, hh, hnc, hcm, hsz, htk⟩
  · have hx : xs = [] := List.eq_nil_of_length_eq_zero hn
    subst hx
    refine (AnyF.slices_SortFunc_none (P := Tryz.prog) (ρ := Tryz.laysSF_ren) { Tryz.laysSF with } none 0 (.func (.func 151) #[] #[]) w).mono ?_
    rintro e w' ⟨rfl, rfl⟩
    exact ⟨rfl, ⟨hok, inner, ho, hrep⟩, ⟨rfl, rfl, rfl, Nat.le_refl _, fun _ _ _ => rfl⟩, h0⟩
  · have hlt : g < w.heap.size := blk_lt hh
    rw [hz1] at htk
    rcases Nat.eq_zero_or_pos xs.length with hz | hpos
    · have hx : xs = [] := List.eq_nil_of_length_eq_zero hz
      subst hx
      refine (AnyF.slices_SortFunc_none (P := Tryz.prog) (ρ := Tryz.laysSF_ren) { Tryz.laysSF with } (some ⟨g, 0, none⟩) cap (.func (.func 151) #[] #[]) w).mono ?_
      rintro e w' ⟨rfl, rfl⟩
      exact ⟨rfl, ⟨hok, inner, ho, hrep⟩, ⟨rfl, rfl, rfl, Nat.le_refl _, fun _ _ _ => rfl⟩, h0⟩
    · haveI : Inhabited (Fin xs.length) := ⟨⟨0, hpos⟩⟩
      have hil : inner.length = xs.length := by have := ho.1; rw [hz1] at this; omega
      let enc : Fin xs.length → Value := fun i => inner.getD i.val undef
      let X : Fin xs.length → List Int := fun i => xs.getD i.val []
      have hM : ∀ i : Fin xs.length, ∃ A c, enc i = .slice A (X i).length c ∧ (Kd.int .u8).R 5 w w0.heap.size (fun k => ok k ∧ k ≠ g) (enc i) (X i) := fun i => by
        have hxi : xs[i.val]? = some (X i) := by
          show _ = some (xs.getD i.val [])
          rw [List.getD_eq_getElem?_getD, List.getElem?_eq_getElem i.isLt]; rfl
        obtain ⟨vi, hvi, hRi⟩ := hrep.2 i.val _ hxi
        have hv : vi = enc i := by
          have h1 : ((inner.drop (i.val * 1)).take 1) = [vi] := hvi
          rw [Nat.mul_one, List.drop_eq_getElem_cons (by omega)] at h1
          have h2 := congrArg List.head? h1
          rw [List.take_succ_cons] at h2
          have h3 : inner[i.val] = vi := Option.some.inj h2
          show vi = inner.getD i.val undef
          rw [List.getD_eq_getElem?_getD, List.getElem?_eq_getElem (by omega), ← h3]; rfl
        rw [hv] at hRi
        obtain ⟨A, c, hA⟩ := Kd.R_slice hRi
        exact ⟨A, c, hA, Kd.R_mono hRi (fun k hk => ⟨hk.1, fun e => hk.2 (by rw [e]; rfl)⟩)⟩
      have h1 : OneCell enc := fun i => by
        obtain ⟨A, c, hA, _⟩ := hM i
        rw [hA]; rfl
      let d : Array (Fin xs.length) := Array.ofFn id
      have hdz : d.size = xs.length := by simp [d]
      have hdj : ∀ j (hj : j < xs.length), d[j]! = ⟨j, hj⟩ := fun j hj => by
        rw [getElem!_pos d j (by omega)]
        simp [d]
      have hH : Go.Sort.Holds enc w g 0 d := fun j hj => by
        have hj' : j < xs.length := by omega
        refine ⟨?_, blk_frozen hh _⟩
        rw [Nat.zero_add, hdj j hj']
        refine (blk_cell hh j).trans ?_
        have h2 : (cur.toList.take (xs.length * 1))[j]? = inner[j]? := by rw [htk]
        rw [List.getElem?_take_of_lt (by omega)] at h2
        rw [← Array.getElem?_toList, h2]
        show _ = some (inner.getD j undef)
        rw [List.getD_eq_getElem?_getD, List.getElem?_eq_getElem (by omega)]; rfl
      have eg : ∀ args w, (callFunc 151 args).run Tryz.prog w = .ok (.enter 151 args) w := enters_of Tryz.func151 (by kernel_rfl) rfl
      have hcmp : CmpLays1 Tryz.prog 151 #[] enc (fun i j => Lib.compareBytes (un (X i)) (un (X j))) g 0 d.size w := fun m os dk hs x y => by
        obtain ⟨A, c, hA, hRA⟩ := hM x
        obtain ⟨B, c2, hB, hRB⟩ := hM y
        have gx := Kd.R_grown hRA (grownBy_sortW enc (g := g) (n := m) (os := os) dk) (fun k hk e => hk.2 (by injection e))
        have gy := Kd.R_grown hRB (grownBy_sortW enc (g := g) (n := m) (os := os) dk) (fun k hk e => hk.2 (by injection e))
        rw [hA] at gx
        rw [hB] at gy
        show Calls Tryz.prog 151 #[enc x, enc y] _ _
        rw [hA, hB]
        refine (bytes_Compare_calls A B (X x).length c (X y).length c2 (X x) (X y) _ (Kd.R_reads' gx).2.2 (Kd.R_reads' gy).2.2).mono ?_
        rintro e w' ⟨rfl, rfl⟩
        exact ⟨rfl, 0, #[], by rw [Go.Sort.grow_empty]; rfl⟩
      have hsort := Any.slices_SortFunc Tryz.laysSF enc h1 (fun i j => Lib.compareBytes (un (X i)) (un (X j))) (swo_cmp X) 151 #[] g 0 cap d w eg hcmp hH hlt (by omega)
      rw [hdz] at hsort
      refine Calls.mono hsort ?_
      rintro e w' ⟨rfl, d', n, os, hp, hs, rfl⟩
      have hgr := grownBy_sortW enc (w := w) (g := g) (n := n) (os := os) d'
      have hd'z : d'.size = xs.length := by rw [hp.1, hdz]
      have hys : (d'.toList.map X) = sortedL xs := by
        refine sortedL_only hbk ?_ ?_
        · have h2 := hp.2.2
          have e1 : (d'.extract 0 xs.length).toList = d'.toList := ex_all d' hd'z
          have e2 : (d.extract 0 xs.length).toList = d.toList := ex_all d hdz
          rw [e1, e2] at h2
          refine (h2.map X).trans ?_
          have e3 : d.toList.map X = xs := by
            apply List.ext_getElem?
            intro j
            by_cases hj : j < xs.length
            · rw [List.getElem?_map, List.getElem?_eq_getElem (by rw [Array.length_toList]; omega), List.getElem?_eq_getElem hj]
              simp [d, X, List.getD_eq_getElem?_getD, List.getElem?_eq_getElem hj]
            · rw [List.getElem?_eq_none (by rw [List.length_map, Array.length_toList]; omega), List.getElem?_eq_none (by omega)]
          rw [e3]
        · rw [List.pairwise_map]
          rw [List.pairwise_iff_getElem]
          intro i j hi hj hij
          have h3 := hs i j (Nat.zero_le _) hij (by rw [Array.length_toList] at hj; omega)
          unfold ltOf at h3
          rw [cmp_lt, decide_eq_false_iff_not, List.not_lt] at h3
          rw [Array.length_toList] at hi hj
          rw [getElem!_pos d' i hi, getElem!_pos d' j hj] at h3
          simpa using h3
      have hml : (d'.toList.map enc).length = xs.length := by rw [List.length_map, Array.length_toList]; exact hd'z
      have hyl : (sortedL xs).length = xs.length := (sortedL_perm xs).2.length_eq
      refine ⟨rfl, ⟨hok, d'.toList.map enc, ⟨by rw [hml, hyl, hz1, Nat.mul_one], Or.inr ⟨g, cap, Go.Sort.putCells enc 0 d' cur, ?_, hg, ?_, by rw [hyl]; omega, hcm, by simp [Go.Sort.putCells]; simpa using hsz, ?_⟩⟩, ?_⟩, hgr, pw_below_grown h0 _ h0.size hgr (fun k hk => by injection hk with hk; omega)⟩
      · rw [hyl]
      · show ((Go.Sort.putRow enc (Go.Sort.ahead w n) g 0 d').heap ++ os)[g]? = _
        rw [Array.getElem?_append_left (by rw [Go.Sort.size_putRow]; exact hlt)]
        show (w.heap.modify g _)[g]? = _
        rw [Array.getElem?_modify, if_pos rfl, hh]
        rfl
      · rw [hyl, hz1, Nat.mul_one]
        have hcz : xs.length ≤ cur.size := by have := hsz; rw [hz1] at this; omega
        apply List.ext_getElem?
        intro j
        by_cases hj : j < d'.size
        · rw [List.getElem?_take_of_lt (by omega), Array.getElem?_toList]
          have hcl : j < cur.size := by omega
          simp [Go.Sort.putCells, hcl, hj]
        · rw [List.getElem?_eq_none (by rw [List.length_take]; omega), List.getElem?_eq_none (by simp; omega)]
      · rw [← hys]
        refine ⟨by simp [Kd.slice], fun j p hj => ?_⟩
        rw [List.getElem?_map] at hj
        obtain ⟨i, hi, rfl⟩ := Option.map_eq_some_iff.1 hj
        obtain ⟨A, c, hA, hRi⟩ := hM i
        refine ⟨enc i, ?_, Kd.R_mono (Kd.R_grown hRi hgr (fun k hk e => hk.2 (by injection e))) (fun k hk => ⟨hk.1, fun e => hk.2 (by rw [show (Value.slice (some (⟨g, 0, none⟩ : Addr)) xs.length cap).ownBlock = some g from rfl] at e; injection e)⟩)⟩
        have hjl : j < d'.toList.length := (List.getElem?_eq_some_iff.1 hi).1
        show ((d'.toList.map enc).drop (j * 1)).take 1 = [enc i]
        rw [Nat.mul_one, List.drop_eq_getElem_cons (by rw [List.length_map]; exact hjl), List.take_succ_cons, List.take_zero]
        have := (List.getElem?_eq_some_iff.1 hi).2
        rw [List.getElem_map, this]
end Go.Proofs.YtkioddjjfifadaaGreatDoor.P
namespace Go.Proofs.YtkioddjjfifadaaGreatDoor.P
open Go.RowKit Go.Proofs.YtkioddjjfifadaaGreatDoorW.PrintWords Go.Proofs.YtkioddjjfifadaaGreatDoorW.PrintLast Go.Proofs.YtkioddjjfifadaaGreatDoorW.PrintMore
attribute [local go_sem] max2_int min2_int max_two min_two max_three min_three max_four min_four   -- for this text's walks alone
set_option linter.unusedVariables false
set_option linter.unusedSimpArgs false
def name_about.f (k : Nat) (a0 : Int) (l1 : List (List Int)) : Option (List Int × Int) := (der_Put.f k 0 a0 true l1).bind fun bt307 => (if bt307.2 = 0 then (some (bt307.1, 0)) else (some (([] : List Int), bt307.2)))
set_option maxHeartbeats 8000000 in
set_option maxRecDepth 100000 in
theorem name_about.calls (k : Nat) (a0 : Int) (A1 : Option Addr) (c1 : Nat) (l1 : List (List Int)) (r1 : List Int) (r2 : Int) (w : World) (hr1 : Kd.C (Kd.slice 5 (Kd.int .u8)) w A1 l1.length l1) (hc1 : l1.length ≤ c1) (h : name_about.f k a0 l1 = some (r1, r2)) :
    Calls Tryz.prog 152 #[.int .i64 a0, .slice A1 l1.length c1] w fun e w' => ∃ v0_ ev_ : Value, e = .returned (.tuple #[v0_, ev_]) ∧ EV ev_ r2 ∧ Kd.R (Kd.int .u8) 5 w' w.heap.size (fun _ => True) v0_ r1 ∧ Below w.heap.size w w' := by
  have HR1 := Aside0.mk hr1
  have HC1 := Aside0.mk hc1
  clear hr1 hc1
  have HB := Aside0.mk (Below.refl w.heap.size w)
  have H : ((der_Put.f k 0 a0 true l1).bind fun bt307 => (if bt307.2 = 0 then (some (bt307.1, 0)) else (some (([] : List Int), bt307.2)))) = some (r1, r2) := h
  clear h
  replace H := Option.bind_eq_some_iff.mp H
  obtain ⟨⟨t307, t308⟩, A30, H⟩ := H
  replace H : (if t308 = 0 then (some (t307, 0)) else (some (([] : List Int), t308))) = some (r1, r2) := H
  have A3 := Aside0.mk A30
  clear A30
  by_cases c4 : t308 = 0
  · rw [if_pos c4] at H
    have c4b0 : (t308 == 0) = true := beq_iff_eq.mpr c4
    have c4b1 : (t308 != 0) = false := bne_eq_false_iff_eq.mpr c4
    clear c4
    simp only [Option.some.injEq, Prod.mk.injEq] at H
    obtain ⟨rfl, rfl⟩ := H
    go_enter Tryz.func152, Tryz.ntmps152
    go_wp2_with (first | ((with_reducible refine gate_callee (f := 168) rfl ?_); refine goesL_ (some 11) rfl rfl Tryz.func168 (by kernel_rfl) rfl #[.int .i64 0, .int .i64 a0, .bool true, .slice A1 l1.length c1] rfl (by (try simp only [List.map_toArray, List.map_cons, List.map_nil]); first | done | rfl | (simp only [List.length_drop, List.length_take]; rfl)) ?_; (with_reducible refine (der_Put.calls k 0 a0 true _ _ l1 t307 t308 _ ?side1 ?side2 A3.out).mono ?_); (case side1 => repeat (first | exact HR1.out | (with_reducible refine Kd.C_alloc ?_ _) | (with_reducible refine Kd.C_drewN ?_ _) | (with_reducible refine Kd.C_drew ?_))); (case side2 => exact HC1.out); rintro e w5 ⟨v309, rfl, ho0, hb⟩; refine ⟨_, rfl, ?_⟩; have n0_ := Aside0.mk (Kd.R_lower ho0 (below_size (by repeat (first | (with_reducible first | exact HB.out | apply below_alloc | apply pw_below_drewN | apply below_drew1) | exact HB.out)))); have n1_ := Aside0.mk (below_step (by repeat (first | (with_reducible first | exact HB.out | apply below_alloc | apply pw_below_drewN | apply below_drew1) | exact HB.out)) hb); clear HB; have HO310 := n0_; have HB := n1_; clear n0_ n1_; (try clear hb); (try clear hb2); (try clear hk); (try clear hi); (try clear ho0)))
    go_ret2
    exact ⟨_, _, by first | rfl | (simp [errW_none, errW_some] <;> rfl) | (simp [*, errW_none, errW_some] <;> rfl), (by first | exact EV.nil | exact EV.f30 | exact EV.f5 | exact EV.f4 | exact EV.f1 | exact EV.low (by assumption) | exact HEV_.out | exact EV.part HEV_.out), by (with_reducible repeat (first | apply Kd.R_alloc | apply Kd.R_drewN | apply Kd.R_drew)); exact HO310.out, by repeat (first | (with_reducible first | exact HB.out | apply below_alloc | apply pw_below_drewN | apply below_drew1) | exact HB.out)⟩
  · rw [if_neg c4] at H
    have c4b0 : (t308 == 0) = false := beq_eq_false_iff_ne.mpr c4
    have c4b1 : (t308 != 0) = true := bne_iff_ne.mpr c4
    simp only [Option.some.injEq, Prod.mk.injEq] at H
    obtain ⟨rfl, rfl⟩ := H
    go_enter Tryz.func152, Tryz.ntmps152
    go_wp2_with (first | ((with_reducible refine gate_callee (f := 168) rfl ?_); refine goesL_ (some 11) rfl rfl Tryz.func168 (by kernel_rfl) rfl #[.int .i64 0, .int .i64 a0, .bool true, .slice A1 l1.length c1] rfl (by (try simp only [List.map_toArray, List.map_cons, List.map_nil]); first | done | rfl | (simp only [List.length_drop, List.length_take]; rfl)) ?_; (with_reducible refine (der_Put.calls k 0 a0 true _ _ l1 t307 t308 _ ?side1 ?side2 A3.out).mono ?_); (case side1 => repeat (first | exact HR1.out | (with_reducible refine Kd.C_alloc ?_ _) | (with_reducible refine Kd.C_drewN ?_ _) | (with_reducible refine Kd.C_drew ?_))); (case side2 => exact HC1.out); rintro e w6 ⟨v309, rfl, ho0, hb⟩; refine ⟨_, rfl, ?_⟩; have n0_ := Aside0.mk (Kd.R_lower ho0 (below_size (by repeat (first | (with_reducible first | exact HB.out | apply below_alloc | apply pw_below_drewN | apply below_drew1) | exact HB.out)))); have n1_ := Aside0.mk (below_step (by repeat (first | (with_reducible first | exact HB.out | apply below_alloc | apply pw_below_drewN | apply below_drew1) | exact HB.out)) hb); clear HB; have HO310 := n0_; have HB := n1_; clear n0_ n1_; (try clear hb); (try clear hb2); (try clear hk); (try clear hi); (try clear ho0)))
    go_ret2
    exact ⟨_, _, by first | rfl | (simp [errW_none, errW_some] <;> rfl) | (simp [*, errW_none, errW_some] <;> rfl), (by first | exact EV.nil | exact EV.f30 | exact EV.f5 | exact EV.f4 | exact EV.f1 | exact EV.low (by assumption) | exact HEV_.out | exact EV.part HEV_.out), by first | exact Kd.R_nil _ _ _ _ _ | exact Kd.N_nil _ _ _ _ _ | exact Kd.V_nil _ _ _ _ _ | exact Kd.Q_nil _ _ _ _ _ | exact Kd.S_nil _ _ _ _ _, by repeat (first | (with_reducible first | exact HB.out | apply below_alloc | apply pw_below_drewN | apply below_drew1) | exact HB.out)⟩
end Go.Proofs.YtkioddjjfifadaaGreatDoor.P
namespace Go.Proofs.YtkioddjjfifadaaGreatDoor.P
open Go.RowKit Go.Proofs.YtkioddjjfifadaaGreatDoorW.PrintWords Go.Proofs.YtkioddjjfifadaaGreatDoorW.PrintLast Go.Proofs.YtkioddjjfifadaaGreatDoorW.PrintMore
attribute [local go_sem] max2_int min2_int max_two min_two max_three min_three max_four min_four   -- for this text's walks alone
set_option linter.unusedVariables false
set_option linter.unusedSimpArgs false
def name_lay.j0 : Nat → List Int → Bool → ByteArray → Int → List Int → Option (List Int × Int)
  | 0, _, _, _, _, _ => none
  | k + 1, x4, x26, x333000, x333001, x333002 => if x26 = true then (some (([] : List Int), 1)) else ((der_Put.f k 0 6 false (([x4] : List (List Int)))).bind fun bt340 => (if bt340.2 = 0 then ((der_Put.f k 0 x333001 false (([x333002] : List (List Int)))).bind fun bt347 => (if bt347.2 = 0 then ((name_about.f k 16 (([bt340.1, bt347.1] : List (List Int)))).bind fun bt354 => (some (bt354.1, bt354.2))) else (some (([] : List Int), bt347.2)))) else (some (([] : List Int), bt340.2))))
def name_lay.f (k : Nat) (a0_0 : ByteArray) (a0_1 : Int) (l0_2 : List Int) : Option (List Int × Int) := (der_PutOid.f k a0_0).bind fun bt333 => (if bt333.2 = 0 then (if a0_1 < 1 then (name_lay.j0 k bt333.1 true a0_0 a0_1 l0_2) else (name_lay.j0 k bt333.1 (decide (a0_1 > 268435455)) a0_0 a0_1 l0_2)) else (some (([] : List Int), bt333.2)))
end Go.Proofs.YtkioddjjfifadaaGreatDoor.P
namespace Go.Proofs.YtkioddjjfifadaaGreatDoor.P
open Go.RowKit Go.Proofs.YtkioddjjfifadaaGreatDoorW.PrintWords Go.Proofs.YtkioddjjfifadaaGreatDoorW.PrintLast Go.Proofs.YtkioddjjfifadaaGreatDoorW.PrintMore
attribute [local go_sem] max2_int min2_int max_two min_two max_three min_three max_four min_four   -- for this text's walks alone
set_option linter.unusedVariables false
set_option linter.unusedSimpArgs false
mutual
def name_build.j0 : Nat → List (List (S64)) → Bool → Option (List Int × Int)
  | 0, _, _ => none
  | k + 1, x0, x20 => if x20 = true then (some (([] : List Int), 4)) else (name_build.l0 k ([] : List (List Int)) x0 (x0.length : Int) 0)
def name_build.l0 : Nat → List (List Int) → List (List (S64)) → Int → Int → Option (List Int × Int)
  | 0, _, _, _, _ => none
  | k + 1, x4, x22, x23, x24 => if x24 < x23 then (if 0 ≤ x24 then (if x24 < (x22.length : Int) then (if ((rd_L5 x22 x24).length : Int) = 0 then (some (([] : List Int), 5)) else (name_build.l1 k x4 ([] : List (List Int)) x22 x23 x24 (rd_L5 x22 x24) ((rd_L5 x22 x24).length : Int) 0)) else (none)) else (none)) else ((name_about.f k 16 x4).bind fun bt361 => (some (bt361.1, bt361.2)))
def name_build.l1 : Nat → List (List Int) → List (List Int) → List (List (S64)) → Int → Int → List (S64) → Int → Int → Option (List Int × Int)
  | 0, _, _, _, _, _, _, _, _ => none
  | k + 1, x4, x7, x22, x23, x24, x36, x37, x38 => if x38 < x37 then (if 0 ≤ x38 then (if x38 < (x36.length : Int) then ((name_lay.f k ((rd_T64 x36 x38).f0) ((rd_T64 x36 x38).f1) ((rd_T64 x36 x38).f2)).bind fun bt368 => (if bt368.2 = 0 then (if x7.length < 5864062014805 then (name_build.l1 k x4 (x7 ++ [bt368.1]) x22 x23 x24 x36 x37 (wrap64 (x38 + 1))) else (none)) else (some (([] : List Int), bt368.2)))) else (none)) else (none)) else ((slices_SortFunc.f x7).bind fun y7 => ((name_about.f k 17 y7).bind fun bt375 => (if bt375.2 = 0 then (if x4.length < 5864062014805 then (name_build.l0 k (x4 ++ [bt375.1]) x22 x23 (wrap64 (x24 + 1))) else (none)) else (some (([] : List Int), bt375.2)))))
end
def name_build.f (k : Nat) (l0 : List (List (S64))) : Option (List Int × Int) := if (l0.length : Int) > 64 then (name_build.j0 k l0 true) else ((slices_ContainsFunc.f l0).bind fun t360 => (name_build.j0 k l0 t360))
end Go.Proofs.YtkioddjjfifadaaGreatDoor.P
set_option linter.unusedVariables false
namespace Go.Proofs.YtkioddjjfifadaaGreatDoor.P
open Go.RowKit Go.Proofs.YtkioddjjfifadaaGreatDoorW.PrintWords Go.Proofs.YtkioddjjfifadaaGreatDoorW.PrintLast Go.Proofs.YtkioddjjfifadaaGreatDoorW.PrintMore
def name_Build.f (k : Nat) (l0 : List (List (S64))) : Option (List Int × Int) := name_build.f k l0
end Go.Proofs.YtkioddjjfifadaaGreatDoor.P
namespace Go.Proofs.YtkioddjjfifadaaGreatDoor.P
open Go.RowKit Go.Proofs.YtkioddjjfifadaaGreatDoorW.PrintWords
theorem drop_64 (l : List S64) (i : Int) (h0 : 0 ≤ i) (h1 : i < (l.length : Int)) : l.drop i.toNat = rd_T64 l i :: l.drop (i + 1).toNat := by
  have e : (i + 1).toNat = i.toNat + 1 := by omega
  rw [e, List.drop_eq_getElem_cons (by omega)]
  congr 1
  unfold rd_T64
  rw [List.getD_eq_getElem?_getD, List.getElem?_eq_getElem (by omega), Option.getD_some]
theorem drop_L5 (l : List (List S64)) (i : Int) (h0 : 0 ≤ i) (h1 : i < (l.length : Int)) : l.drop i.toNat = rd_L5 l i :: l.drop (i + 1).toNat := by
  have e : (i + 1).toNat = i.toNat + 1 := by omega
  rw [e, List.drop_eq_getElem_cons (by omega)]
  congr 1
  unfold rd_L5
  rw [List.getD_eq_getElem?_getD, List.getElem?_eq_getElem (by omega), Option.getD_some]
theorem mem_64 (l : List S64) (i : Int) (h0 : 0 ≤ i) (h1 : i < (l.length : Int)) : rd_T64 l i ∈ l := List.mem_of_mem_drop (drop_64 l i h0 h1 ▸ List.mem_cons_self)
theorem mem_L5 (l : List (List S64)) (i : Int) (h0 : 0 ≤ i) (h1 : i < (l.length : Int)) : rd_L5 l i ∈ l := List.mem_of_mem_drop (drop_L5 l i h0 h1 ▸ List.mem_cons_self)
theorem sb_self (l : List Int) (hl : l.length ≤ 1000000000) : ∀ (m k : Nat) (i : Int), 0 ≤ i → (l.length : Int) - i = m → m + 1 ≤ k → chirographref01_SameBytes.l0 k l l i = some true
  | 0, k, i, h0, hm, hk => by
    obtain ⟨k1, rfl⟩ : ∃ k1, k = k1 + 1 := ⟨k - 1, by omega⟩
    rw [chirographref01_SameBytes.l0, if_neg (by omega)]
  | m + 1, k, i, h0, hm, hk => by
    obtain ⟨k1, rfl⟩ : ∃ k1, k = k1 + 1 := ⟨k - 1, by omega⟩
    rw [chirographref01_SameBytes.l0, if_pos (by omega), if_pos h0, if_pos (by omega), if_pos rfl, wb (by omega) (by omega)]
    exact sb_self l hl m k1 (i + 1) (by omega) (by omega) (by omega)
theorem sameb_self (k : Nat) (l : List Int) (hl : l.length ≤ 1000000000) (hk : l.length + 1 ≤ k) : chirographref01_SameBytes.f k l l = some true := by
  unfold chirographref01_SameBytes.f
  rw [if_pos rfl]
  exact sb_self l hl l.length k 0 (Int.le_refl _) (by omega) hk
end Go.Proofs.YtkioddjjfifadaaGreatDoor.P
namespace Go.Proofs.YtkioddjjfifadaaGreatDoor.P
open Go.RowKit Go.Proofs.YtkioddjjfifadaaGreatDoorW.PrintWords Go.Proofs.YtkioddjjfifadaaGreatDoorW.PrintLast Go.Proofs.YtkioddjjfifadaaGreatDoorW.PrintMore
def p07 : S64 := ⟨⟨#[50, 46, 53, 46, 52, 46, 54]⟩, 19, [68, 69]⟩
def n07 : List (List S64) := [[p07]]
/-- The cells of the example's name. -/
theorem n07_open {w : World} {A : Option Addr} (h : Kd.C (Kd.slice 64 k64) w A 1 n07) : ∃ ad bd B b X x, A = some ad ∧ B = some bd ∧ w.cell? ad = some (.slice B 1 b) ∧ w.cell? bd = some (.string p07.f0) ∧ w.cell? ⟨bd.block, bd.off + 1, none⟩ = some (.int .i64 19) ∧ w.cell? ⟨bd.block, bd.off + 2, none⟩ = some (.slice X 2 x) ∧ 1 ≤ b ∧ Kd.C k64 w B 1 [p07] ∧ 2 ≤ x ∧ Kd.C (Kd.int .u8) w X 2 [68, 69] := by
  obtain ⟨ad, B, b, rfl, h0, lb, hB⟩ := at_L5 h 0 (Int.le_refl _) (by decide)
  rw [show (0 : Int).toNat = 0 from rfl, Addr.add_zero'] at h0
  obtain ⟨bd, X, x, e, g0, g1, g2, lx, hX⟩ := at_T64 hB 0 (Int.le_refl _) (by decide)
  rw [show (0 : Int).toNat * 3 = 0 from rfl, Addr.add_zero'] at g0 g1 g2
  exact ⟨ad, bd, B, b, X, x, rfl, e, h0, g0, g1, g2, lb, hB, lx, hX⟩
def e77 : S77 := ⟨0, 16, true, [6, 3, 85, 4, 6, 19, 2, 68, 69], [48, 9, 6, 3, 85, 4, 6, 19, 2, 68, 69]⟩
def b07 : List Int := 48 :: 13 :: 49 :: 11 :: e77.f4
end Go.Proofs.YtkioddjjfifadaaGreatDoor.P
set_option linter.unusedVariables false
set_option linter.unusedSimpArgs false
namespace Go.Proofs.YtkioddjjfifadaaGreatDoor.P
open Go.RowKit Go.Proofs.YtkioddjjfifadaaGreatDoorW.PrintWords Go.Proofs.YtkioddjjfifadaaGreatDoorW.PrintLast Go.Proofs.YtkioddjjfifadaaGreatDoorW.PrintMore
set_option maxHeartbeats 4000000 in
set_option maxRecDepth 100000 in
theorem lay_at (w : World) (X : Option Addr) (x : Nat) (hx : 2 ≤ x) (hX : Kd.C (Kd.int .u8) w X 2 [68, 69]) :
    Calls Tryz.prog 149 #[.agg #[.string p07.f0, .int .i64 19, .slice X 2 x]] w fun e w' => ∃ V v, e = .returned (.tuple #[.slice V 11 v, .nilIface]) ∧ Kd.R (Kd.int .u8) 5 w' w.heap.size (fun _ => True) (.slice V 11 v) e77.f4 ∧ Below w.heap.size w w' := by
  have hu64 := Tryz.underlying64
  have ho : der_PutOid.f 100 p07.f0 = some ([85, 4, 6], 0) := by kernel_rfl
  have hp : der_Put.f 100 0 6 false [[85, 4, 6]] = some ([6, 3, 85, 4, 6], 0) := by kernel_rfl
  have hq : der_Put.f 100 0 19 false [[68, 69]] = some ([19, 2, 68, 69], 0) := by kernel_rfl
  have ha : name_about.f 100 16 [[6, 3, 85, 4, 6], [19, 2, 68, 69]] = some (e77.f4, 0) := by kernel_rfl
  have HX := Aside0.mk hX
  have HO := Aside0.mk ho
  have HP := Aside0.mk hp
  have HQ := Aside0.mk hq
  have HA := Aside0.mk ha
  clear hX ho hp hq ha
  go_enter Tryz.func149, Tryz.ntmps149
  go_wp2_with ((with_reducible refine gate_dst (N := 1) rfl ?_); refine box_event ?hg (N := 1) ?hd (cs := #[.string p07.f0, .int .i64 19, .slice X 2 x]) (t := 64) ?hr ?_; (case hd => rfl); (case hg => rfl); (case hr => first | (go_simp; done) | (go_simp; rfl)); intro g1 hg w1 hbox hb; have HB := Aside0.mk hb; have BK := Aside0.mk hbox; have hc0 : w1.cell? ⟨g1, 0, none⟩ = some (.string p07.f0) := (blk_cell BK.out 0).trans rfl; clear hb hbox hg)
  refine (der_PutOid.calls 100 p07.f0 [85, 4, 6] 0 _ HO.out).mono ?_
  rintro e w2 ⟨v, rfl, ho, hb⟩
  obtain ⟨C, c, rfl⟩ := Kd.R_slice ho
  have HC := Aside0.mk (Kd.R_reads' ho)
  have HB2 := Aside0.mk (below_step HB.out hb)
  have BK2 := Aside0.mk (blk_below BK.out hb)
  clear ho hb HB BK hc0 HO
  have hc1 : w2.cell? ⟨g1, 1, none⟩ = some (.int .i64 19) := (blk_cell BK2.out 1).trans rfl
  go_wp2_with fail
  refine (der_Put.calls 100 0 6 false _ 1 [[85, 4, 6]] [6, 3, 85, 4, 6] 0 _ (C_row1 kB (more := []) (kB.K_below (below_alloc (Below.refl w2.heap.size w2) _) (kB_mk HC.out.2.1 HC.out.2.2)) (new_alloc _ _)) (Nat.le_refl 1) HP.out).mono ?_
  rintro e w3 ⟨v, rfl, ho, hb⟩
  obtain ⟨D, d, rfl⟩ := Kd.R_slice ho
  have HD := Aside0.mk (Kd.R_reads' ho)
  have HB3 := Aside0.mk (below_step (below_alloc HB2.out _) hb)
  have BK3 := Aside0.mk (blk_below (blk_alloc BK2.out _) hb)
  clear ho hb HB2 BK2 hc1 HP HC
  have hc1 : w3.cell? ⟨g1, 1, none⟩ = some (.int .i64 19) := (blk_cell BK3.out 1).trans rfl
  have hc2 : w3.cell? ⟨g1, 2, none⟩ = some (.slice X 2 x) := (blk_cell BK3.out 2).trans rfl
  go_wp2_with fail
  refine (der_Put.calls 100 0 19 false _ 1 [[68, 69]] [19, 2, 68, 69] 0 _ (C_row1 kB (more := []) (kB.K_below (below_alloc HB3.out _) (kB_mk hx HX.out)) (new_alloc _ _)) (Nat.le_refl 1) HQ.out).mono ?_
  rintro e w4 ⟨v, rfl, ho, hb⟩
  obtain ⟨F, f, rfl⟩ := Kd.R_slice ho
  have HF := Aside0.mk (Kd.R_reads' ho)
  have HD4 := Aside0.mk (Kd.C_below (Kd.C_alloc HD.out.2.2 _) hb)
  have LD := Aside0.mk HD.out.2.1
  have HB4 := Aside0.mk (below_step (below_alloc HB3.out _) hb)
  clear ho hb HB3 BK3 hc1 hc2 HQ HD HX
  go_wp2_with fail
  refine (name_about.calls 100 16 _ 2 [[6, 3, 85, 4, 6], [19, 2, 68, 69]] e77.f4 0 _ (C_row2 kB rfl (kB_mk LD.out (Kd.C_alloc HD4.out _)) (kB_mk HF.out.2.1 (Kd.C_alloc HF.out.2.2 _)) (new_alloc _ _)) (Nat.le_refl 2) HA.out).mono ?_
  rintro e w5 ⟨v, ev, rfl, hev, ho, hb⟩
  obtain rfl := EV.nil_of hev rfl
  obtain ⟨G, g, rfl⟩ := Kd.R_slice ho
  have HG := Aside0.mk (Kd.R_lower ho (below_size (below_alloc HB4.out _)))
  have HB5 := Aside0.mk (below_step (below_alloc HB4.out _) hb)
  clear ho hb HB4 HD4 LD HF HA
  go_wp2_with fail
  go_ret2
  exact ⟨_, _, rfl, HG.out, HB5.out⟩
set_option maxHeartbeats 4000000 in
set_option maxRecDepth 100000 in
theorem build_at (w : World) (A : Option Addr) (c : Nat) (hA : Kd.C (Kd.slice 64 k64) w A 1 n07) (hc : 1 ≤ c) :
    Calls Tryz.prog 84 #[.slice A 1 c] w fun e w' => ∃ V v, e = .returned (.tuple #[.slice V 15 v, .nilIface]) ∧ 15 ≤ v ∧ Kd.C (Kd.int .u8) w' V 15 b07 ∧ Below w.heap.size w w' := by
  have hu64 := Tryz.underlying64
  have hcf : slices_ContainsFunc.f n07 = some false := by kernel_rfl
  have hso : slices_SortFunc.f [e77.f4] = some [e77.f4] := by kernel_rfl
  have ha : name_about.f 100 17 [e77.f4] = some (49 :: 11 :: e77.f4, 0) := by kernel_rfl
  have hb0 : name_about.f 100 16 [49 :: 11 :: e77.f4] = some (b07, 0) := by kernel_rfl
  have HN := Aside0.mk hA
  have HCF := Aside0.mk hcf
  have HSO := Aside0.mk hso
  have HA := Aside0.mk ha
  have HZ := Aside0.mk hb0
  clear hcf hso ha hb0
  obtain ⟨ad, bd, B1, b, X, x, rfl, rfl, h0, g0, g1, g2, lb, hB1, lx, hX⟩ := n07_open hA
  clear hA hB1
  have HX := Aside0.mk hX
  clear hX
  go_enter Tryz.func84, Tryz.ntmps84
  go_wp2_with fail
  refine (slices_ContainsFunc.calls (some ad) c n07 false _ HN.out hc HCF.out).mono ?_
  rintro e w1 ⟨rfl, hb⟩
  have HB := Aside0.mk hb
  replace h0 := (hb.cell (World.block_lt_of_cell? w _ h0)).trans h0
  replace g0 := (hb.cell (World.block_lt_of_cell? w _ g0)).trans g0
  replace g1 := (hb.cell (World.block_lt_of_cell? w _ g1)).trans g1
  replace g2 := (hb.cell (World.block_lt_of_cell? w _ g2)).trans g2
  have HX1 := Aside0.mk (Kd.C_below HX.out hb)
  clear hb HX HN HCF
  go_wp2_with fail
  refine wp_loop_rounds 2 ?_
  rw [rounds_succ]
  go_wp2_with fail
  refine wp_loop_rounds 2 ?_
  rw [rounds_succ]
  go_wp2_with fail
  have HB1 := Aside0.mk (below_alloc HB.out (.cells #[.string p07.f0, .int .i64 19, .slice X 2 x] 64))
  refine (lay_at _ X x lx (Kd.C_alloc HX1.out _)).mono ?_
  rintro e w2 ⟨V, v, rfl, ho, hb⟩
  have HR := Aside0.mk (Kd.R_lower ho (below_size HB1.out))
  have HB2 := Aside0.mk (below_step HB1.out hb)
  clear ho hb HB HB1 HX1 h0 g0 g1 g2
  go_wp2_with ((with_reducible refine gate_builtin (b := .append) (xs := #[.tmp 54, .tmp 56]) rfl ?_); at_builtin; refine Kd.R_append (Kd.slice 5 (Kd.int .u8)) (w0 := w) w.heap.size rfl (.tmp 54) (.tmp 56) 67 22 (.slice none 0 0) 24 rfl Tryz.underlying67 info22 rfl (by decide) (by omega) (.slice none 0 0) [] e77.f4 [.slice V 11 v] (fun _ => True) (fun k_ => some k_ = (.slice V 11 v : Value).ownBlock) rfl rfl ?aP (fun _ _ => ⟨trivial, fun h => by cases h⟩) (fun _ _ => trivial) (Kd.R_nil _ _ _ _ _) HB2.out (below_size HB2.out) (by decide) ?_; (case aP => exact Kd.M_row (Kd.R_tight rfl HR.out)); intro v5 w3 ho hb hgr hat; have HO := Aside0.mk ho; have HB3 := Aside0.mk hb; clear ho hb hgr hat HB2 HR)
  rw [rounds_succ]
  obtain ⟨Y, y, eY⟩ := Kd.R_slice HO.out
  subst eY
  go_wp2_with fail
  refine (sortfunc_own w _ [e77.f4] [e77.f4] (fun _ => True) _ HO.out HB3.out HSO.out).mono ?_
  rintro e w4 ⟨rfl, ho, hgr, hb⟩
  have HC := Aside0.mk (Kd.R_reads' ho)
  have HB := Aside0.mk hb
  clear ho hgr hb HO HB3 HSO
  go_wp2_with fail
  refine (name_about.calls 100 17 Y y [e77.f4] (49 :: 11 :: e77.f4) 0 _ HC.out.2.2 HC.out.2.1 HA.out).mono ?_
  rintro e w5 ⟨v6, ev, rfl, hev, ho, hb⟩
  obtain rfl := EV.nil_of hev rfl
  obtain ⟨G, g, rfl⟩ := Kd.R_slice ho
  have HG := Aside0.mk (Kd.R_reads' ho)
  have HB5 := Aside0.mk (below_step HB.out hb)
  clear ho hb HB HC HA hev
  go_wp2_with fail
  rw [rounds_succ]
  go_wp2_with fail
  have hb2 : Below w5.heap.size w5 _ := below_drew1 (below_alloc (below_alloc (Below.refl w5.heap.size w5) (.cells #[.slice G 13 g] 22)) (.cells (#[.slice G 13 g] ++ Builtin.zeroCells #[.slice none 0 0] ((Question.appendCap 1 0 22).cut (w5.tape w5.drawn (Question.appendCap 1 0 22)) - 1)) 22))
  refine (name_about.calls 100 16 _ _ [49 :: 11 :: e77.f4] b07 0 _ (C_row1 kB (cs := [.slice G 13 g]) (more := (Builtin.zeroCells #[.slice none 0 0] ((Question.appendCap 1 0 22).cut (w5.tape w5.drawn (Question.appendCap 1 0 22)) - 1)).toList) (kB.K_below hb2 (kB_mk HG.out.2.1 HG.out.2.2)) ((at_alloc _ _ _ (by show (w5.heap.push _).size = _; simp)).trans (congrArg (fun z => some (Obj.cells z 22 (0, 0))) (arr_app #[.slice G 13 g] _)))) (Nat.le_add_right 1 _) HZ.out).mono ?_
  rintro e w6 ⟨v6, ev, rfl, hev, ho, hb⟩
  obtain rfl := EV.nil_of hev rfl
  obtain ⟨I, i, rfl⟩ := Kd.R_slice ho
  have HI := Aside0.mk (Kd.R_reads' ho)
  have HB6 := Aside0.mk (below_step (below_step HB5.out hb2) hb)
  clear ho hb hb2 HB5 HG HZ hev
  go_wp2_with fail
  go_ret2
  exact ⟨_, _, rfl, HI.out.2.1, HI.out.2.2, HB6.out⟩
set_option maxRecDepth 100000 in
set_option maxHeartbeats 4000000 in
theorem Build_at (w : World) (A : Option Addr) (c : Nat) (hA : Kd.C (Kd.slice 64 k64) w A 1 n07) (hc : 1 ≤ c) (hD : Hd w) :
    Calls Tryz.prog 41 #[.slice A 1 c] w fun e w' => ∃ V v, e = .returned (.tuple #[.slice V 15 v, .int .i64 0]) ∧ 15 ≤ v ∧ Kd.C (Kd.int .u8) w' V 15 b07 ∧ Below w.heap.size w w' := by
  have HD := Aside0.mk hD
  clear hD
  go_enter Tryz.func41, Tryz.ntmps41
  go_wp2_with fail
  refine (build_at _ A c hA hc).mono ?_
  rintro e w1 ⟨X, x, rfl, hx, hC, hb⟩
  have HC := Aside0.mk hC
  have HB := Aside0.mk hb
  have HD1 := Aside0.mk (HD.out.below hb)
  clear hC hb HD
  go_wp2_with fail
  refine (name_number_ev EV.nil _ HD1.out).mono ?_
  rintro e w2 ⟨rfl, hb⟩
  have HC2 := Aside0.mk (Kd.C_below HC.out hb)
  have HB2 := Aside0.mk (below_step HB.out hb)
  clear hb HC HB
  go_wp2_with fail
  go_ret2
  exact ⟨_, _, rfl, hx, HC2.out, HB2.out⟩
end Go.Proofs.YtkioddjjfifadaaGreatDoor.P
set_option linter.unusedVariables false
set_option linter.unusedSimpArgs false
namespace Go.Proofs.YtkioddjjfifadaaGreatDoor.P
open Go.RowKit Go.Proofs.YtkioddjjfifadaaGreatDoorW.PrintWords Go.Proofs.YtkioddjjfifadaaGreatDoorW.PrintLast Go.Proofs.YtkioddjjfifadaaGreatDoorW.PrintMore
set_option maxHeartbeats 4000000 in
set_option maxRecDepth 100000 in
theorem fits_68 (w : World) : Calls Tryz.prog 205 #[.int .i64 19, .int .u8 68] w fun e w' => e = .returned (.bool true) ∧ w' = w := by
  go_enter Tryz.func205, Tryz.ntmps205
  go_wp2_with fail
  go_ret
  exact ⟨rfl, rfl⟩
set_option maxHeartbeats 4000000 in
set_option maxRecDepth 100000 in
theorem fits_69 (w : World) : Calls Tryz.prog 205 #[.int .i64 19, .int .u8 69] w fun e w' => e = .returned (.bool true) ∧ w' = w := by
  go_enter Tryz.func205, Tryz.ntmps205
  go_wp2_with fail
  go_ret
  exact ⟨rfl, rfl⟩
/-- The cells of the example's data. -/
theorem de_open {w : World} {X : Option Addr} (h : Kd.C (Kd.int .u8) w X 2 [68, 69]) : ∃ g o, X = some ⟨g, o, none⟩ ∧ w.cell? ⟨g, o, none⟩ = some (.int .u8 68) ∧ w.cell? ⟨g, o + 1, none⟩ = some (.int .u8 69) := by
  obtain ⟨ad, cs, rfl, hl, hK, hc⟩ := Kd.C_get h 0 0 (Int.le_refl _) (by decide)
  obtain ⟨ad', cs', e, hl', hK', hc'⟩ := Kd.C_get h 0 1 (by decide) (by decide)
  obtain rfl := Option.some.inj e
  have e0 : cs = [.int .u8 68] := hK
  have e1 : cs' = [.int .u8 69] := hK'
  subst e0
  subst e1
  have h0 := hc 0 _ rfl
  have h1 := hc' 0 _ rfl
  rw [show (0 : Int).toNat * (Kd.int .u8).sz + 0 = 0 from rfl, Addr.add_zero'] at h0
  have hs := World.cell?_spot h0
  cases ad with
  | mk b o s =>
    simp only at hs
    subst hs
    exact ⟨b, o, rfl, h0, h1⟩
set_option maxHeartbeats 4000000 in
set_option maxRecDepth 100000 in
theorem text_at (w : World) (X : Option Addr) (x : Nat) (hx : 2 ≤ x) (hX : Kd.C (Kd.int .u8) w X 2 [68, 69]) :
    Calls Tryz.prog 153 #[.int .i64 19, .slice X 2 x] w fun e w' => e = .returned (.tuple #[.string ⟨#[68, 69]⟩, .int .i64 0]) ∧ Below w.heap.size w w' := by
  have HX := Aside0.mk hX
  have HB := Aside0.mk (Below.refl w.heap.size w)
  obtain ⟨g, o, rfl, h0, h1⟩ := de_open hX
  clear hX
  have hcs := Kd.C_string (P := Tryz.prog) (c := x) Tryz.underlying22 Tryz.underlying5 Tryz.underlying9 HX.out
  go_enter Tryz.func153, Tryz.ntmps153
  go_wp2_with fail
  refine wp_loop_rounds 3 ?_
  rw [rounds_succ]
  go_wp2_with fail
  refine (fits_68 _).mono ?_
  rintro e w1 ⟨rfl, rfl⟩
  go_wp2_with fail
  rw [rounds_succ]
  go_wp2_with fail
  refine (fits_69 _).mono ?_
  rintro e w1 ⟨rfl, rfl⟩
  go_wp2_with fail
  rw [rounds_succ]
  go_wp2_with fail
  go_ret2
  exact ⟨by first | rfl | trace_state, HB.out⟩
end Go.Proofs.YtkioddjjfifadaaGreatDoor.P
set_option linter.unusedVariables false
set_option linter.unusedSimpArgs false
namespace Go.Proofs.YtkioddjjfifadaaGreatDoor.P
open Go.RowKit Go.Proofs.YtkioddjjfifadaaGreatDoorW.PrintWords Go.Proofs.YtkioddjjfifadaaGreatDoorW.PrintLast Go.Proofs.YtkioddjjfifadaaGreatDoorW.PrintMore
set_option maxHeartbeats 4000000 in
set_option maxRecDepth 100000 in
theorem value_at (w : World) (a : ByteArray) (X : Option Addr) (x : Nat) (hx : 2 ≤ x) (hX : Kd.C (Kd.int .u8) w X 2 [68, 69]) :
    Calls Tryz.prog 87 #[.agg #[.string a, .int .i64 19, .slice X 2 x]] w fun e w' => e = .returned (.string ⟨#[68, 69]⟩) ∧ Below w.heap.size w w' := by
  have HX := Aside0.mk hX
  have hi0 : strings_IndexByte.f ⟨#[34, 43, 44, 59, 60, 62, 61, 92]⟩ 68 = some (-1) := by kernel_rfl
  have hi1 : strings_IndexByte.f ⟨#[34, 43, 44, 59, 60, 62, 61, 92]⟩ 69 = some (-1) := by kernel_rfl
  have HI0 := Aside0.mk hi0
  have HI1 := Aside0.mk hi1
  clear hX hi0 hi1
  have hu64 := Tryz.underlying64
  go_enter Tryz.func87, Tryz.ntmps87
  go_wp2_with fail
  have HB0 := Aside0.mk (below_alloc (Below.refl w.heap.size w) (.cells #[.string a, .int .i64 19, .slice X 2 x] 64))
  refine (text_at _ X x hx (Kd.C_below HX.out HB0.out)).mono ?_
  rintro e w1 ⟨rfl, hb⟩
  have HB := Aside0.mk (below_step HB0.out hb)
  clear hb HB0 HX
  go_wp2_with fail
  refine wp_loop_rounds 3 ?_
  rw [rounds_succ]
  go_wp2_with fail
  refine (strings_IndexByte.calls _ 68 (-1) _ HI0.out).mono ?_
  rintro e w2 ⟨rfl, hb⟩
  have HB2 := Aside0.mk (below_step HB.out hb)
  clear hb HB HI0
  go_wp2_with ((with_reducible refine gate_builtin (b := .append) (xs := #[.tmp 50, .tmp 52]) rfl ?_); at_builtin; refine Kd.R_append (Kd.int .u8) (w0 := w) w.heap.size rfl (.tmp 50) (.tmp 52) 22 5 (.int .u8 0) 1 rfl Tryz.underlying22 info5 rfl (by decide) (by omega) (.slice none 0 0) [] 68 [.int .u8 68] (fun _ => True) (fun _ => False) rfl rfl ?aP (fun _ hk => hk.elim) ?aF ?aO ?aB ?aS ?aL ?_; (case aP => exact rfl); (case aF => exact (fun _ _ => trivial)); (case aO => exact Kd.R_nil _ _ _ _ _); (case aB => exact HB2.out); (case aS => exact (below_size HB2.out)); (case aL => decide); intro v5 w3 ho hb hgr hat; have HO := Aside0.mk ho; have HB := Aside0.mk hb; clear ho hb hgr hat HB2)
  rw [rounds_succ]
  go_wp2_with fail
  refine (strings_IndexByte.calls _ 69 (-1) _ HI1.out).mono ?_
  rintro e w4 ⟨rfl, hb⟩
  have HB2 := Aside0.mk (below_step HB.out hb)
  have HO2 := Aside0.mk (Kd.R_below HO.out hb)
  clear hb HB HI1 HO
  go_wp2_with ((with_reducible refine gate_builtin (b := .append) (xs := #[.tmp 50, .tmp 52]) rfl ?_); at_builtin; refine Kd.R_append (Kd.int .u8) (w0 := w) w.heap.size rfl (.tmp 50) (.tmp 52) 22 5 (.int .u8 0) 1 rfl Tryz.underlying22 info5 rfl (by decide) (by omega) v5 ([] ++ [68]) 69 [.int .u8 69] (fun _ => True) (fun _ => False) rfl rfl ?aP (fun _ hk => hk.elim) ?aF ?aO ?aB ?aS ?aL ?_; (case aP => exact rfl); (case aF => exact (fun _ _ => trivial)); (case aO => exact HO2.out); (case aB => exact HB2.out); (case aS => exact (below_size HB2.out)); (case aL => decide); intro v6 w5 ho hb hgr hat; have HO := Aside0.mk ho; have HB := Aside0.mk hb; clear ho hb hgr hat HB2)
  rw [rounds_succ]
  obtain ⟨A, c, hv4⟩ := Kd.R_slice HO.out
  subst hv4
  have hcs := Kd.C_string (P := Tryz.prog) (c := c) Tryz.underlying22 Tryz.underlying5 Tryz.underlying9 (show Kd.C (Kd.int .u8) w5 A 2 [68, 69] from (Kd.R_reads' HO.out).2.2)
  go_wp2_with fail
  go_ret
  exact ⟨by first | rfl | trace_state, HB.out⟩
end Go.Proofs.YtkioddjjfifadaaGreatDoor.P
namespace Go.Proofs
open Go.Shelf Go.RowKit
def Tryz.laysRev_ren : Go.Shelf.Ren := ⟨fun | 17 => 89 | n => n, fun | 24 => 102 | n => n, fun | n => n⟩
theorem Tryz.laysRev : Go.Proofs.Lays2.n17 Tryz.prog Tryz.laysRev_ren := {
  mixed := by kernel_rfl
  f17 := Tryz.func89.trans (congrArg some (by kernel_rfl))
  t0 := Tryz.underlying0
  a0 := Tryz.isAgg0
  z0 := Tryz.sizeOf0
  v0 := Tryz.zeroValue0
  t3 := Tryz.underlying3
  a3 := Tryz.isAgg3
  z3 := Tryz.sizeOf3
  v3 := Tryz.zeroValue3
  t4 := Tryz.underlying4
  a4 := Tryz.isAgg4
  z4 := Tryz.sizeOf4
  v4 := Tryz.zeroValue4
  t9 := Tryz.underlying9
  a9 := Tryz.isAgg9
  z9 := Tryz.sizeOf9
  v9 := Tryz.zeroValue9
  t24 := Tryz.underlying102
  a24 := Tryz.isAgg102
  z24 := Tryz.sizeOf102
  v24 := Tryz.zeroValue102
 }
theorem Tryz.slices_Reverse_string (blk off cap : Nat) (zs : List (List UInt8)) (w : World) (hH : Go.Sort.Holds encStr w blk off zs.toArray) (hsz : zs.length ≤ 9223372036854775807) :
    Calls Tryz.prog 89 #[.slice (some ⟨blk, off, none⟩) zs.length cap] w fun e w' => e = .returned (.tuple #[]) ∧ ∃ n, w' = Go.Sort.putRow encStr (Go.Sort.ahead w n) blk off zs.reverse.toArray := Any.slices_Reverse_string Tryz.laysRev blk off cap zs w hH hsz
theorem Tryz.slices_Reverse_string_empty (a : Option Addr) (cap : Nat) (w : World) :
    Calls Tryz.prog 89 #[.slice a 0 cap] w fun e w' => e = .returned (.tuple #[]) ∧ w' = w := Any.slices_Reverse_string_empty Tryz.laysRev a cap w
end Go.Proofs
namespace Go.Proofs.YtkioddjjfifadaaGreatDoor.P
open Go.RowKit Go.Proofs.YtkioddjjfifadaaGreatDoorW.PrintWords Go.Proofs.YtkioddjjfifadaaGreatDoorW.PrintLast Go.Proofs.YtkioddjjfifadaaGreatDoorW.PrintMore
def slices_Reverse.f (xs : List ByteArray) : Option (List ByteArray) := if xs.length < 4611686018427387904 then some xs.reverse else none
theorem rev_own (w0 : World) (v : Value) (xs r : List ByteArray) (w : World) (hR : Kd.string.R 9 w w0.heap.size (fun _ => True) v xs) (h0 : Below w0.heap.size w0 w) (h : slices_Reverse.f xs = some r) :
    Calls Tryz.prog 89 #[v] w fun e w' => e = .returned (.tuple #[]) ∧ Kd.string.R 9 w' w0.heap.size (fun _ => True) v r ∧ Below w0.heap.size w0 w' := by
  unfold slices_Reverse.f at h
  split at h
  case isFalse => cases h
  case isTrue hl =>
  obtain rfl := Option.some.inj h
  have ho := Kd.own_of_R hR
  rcases ho.2 with ⟨rfl, hn⟩ | ⟨g, cap, cur, rfl, hg, hh, hnc, hcm, hsz, htk⟩
  · have hx : xs = [] := List.eq_nil_of_length_eq_zero hn
    subst hx
    refine (Tryz.slices_Reverse_string_empty none 0 w).mono ?_
    rintro e w' ⟨rfl, rfl⟩
    exact ⟨rfl, hR, h0⟩
  · have hcur : ∀ j, j < xs.length → cur[j]? = some (Value.string (xs[j]!)) := fun j hj => by
      have h1 : (cur.toList.take (xs.length * 1))[j]? = (encs Value.string xs)[j]? := by rw [htk]
      rw [List.getElem?_take_of_lt (by omega)] at h1
      rw [← Array.getElem?_toList, h1]
      simp [encs, List.getElem?_eq_getElem hj, getElem!_pos xs j hj]
    have hlt : g < w.heap.size := blk_lt hh
    have hH : Go.Sort.Holds Go.Proofs.encStr w g 0 (xs.map fun b => b.data.toList).toArray := fun j hj => by
      have hj' : j < xs.length := by simpa using hj
      refine ⟨?_, blk_frozen hh _⟩
      rw [Nat.zero_add]
      refine (blk_cell hh j).trans ?_
      rw [hcur j hj']
      simp [hj']
    refine (show Calls Tryz.prog 89 #[.slice (some ⟨g, 0, none⟩) xs.length cap] w _ from ?_)
    have hc := Tryz.slices_Reverse_string g 0 cap (xs.map fun b => b.data.toList) w hH (by rw [List.length_map]; omega)
    rw [List.length_map] at hc
    refine hc.mono ?_
    rintro e w' ⟨rfl, n, rfl⟩
    generalize hss : ((xs.map fun b => b.data.toList).reverse : List (List UInt8)) = ss
    have hsl : ss.length = xs.length := by rw [← hss]; simp
    have hsb : xs.reverse = ss.map fun l => (⟨l.toArray⟩ : ByteArray) := by rw [← hss]; simp [← List.map_reverse, List.map_map, Function.comp_def]
    rw [hsb]
    have hgr : w.grownBy (Go.Sort.putRow Go.Proofs.encStr (Go.Sort.ahead w n) g 0 ss.toArray) (some g) := by
      refine ⟨rfl, rfl, rfl, ?_, fun k hk hne => ?_⟩
      · rw [Go.Sort.size_putRow]
        exact Nat.le_refl _
      · show (w.heap.modify g _)[k]? = _
        rw [Array.getElem?_modify, if_neg (fun e => hne (by rw [e]))]
    refine ⟨rfl, Kd.R_of_own ⟨by simp [encs], Or.inr ⟨g, cap, Go.Sort.putCells Go.Proofs.encStr 0 ss.toArray cur, by rw [List.length_map, hsl], hg, ?_, by rw [List.length_map, hsl]; exact hnc, hcm, by simp [Go.Sort.putCells]; simpa using hsz, ?_⟩⟩ (fun _ _ => trivial), pw_below_grown h0 _ h0.size hgr (fun k hk => by injection hk with hk; omega)⟩
    · show (w.heap.modify g _)[g]? = _
      rw [Array.getElem?_modify, if_pos rfl, hh]
      rfl
    · rw [List.length_map, Nat.mul_one]
      apply List.ext_getElem?
      intro j
      by_cases hj : j < ss.length
      · rw [List.getElem?_take_of_lt hj, Array.getElem?_toList]
        have hcl : j < cur.size := by omega
        simp [Go.Sort.putCells, hcl, hj, encs]
      · rw [List.getElem?_eq_none (by rw [List.length_take]; omega), List.getElem?_eq_none (by simp [encs]; omega)]
end Go.Proofs.YtkioddjjfifadaaGreatDoor.P
namespace Go.Proofs.YtkioddjjfifadaaGreatDoor.P
open Go.RowKit Go.Proofs.YtkioddjjfifadaaGreatDoorW.PrintWords Go.Proofs.YtkioddjjfifadaaGreatDoorW.PrintLast Go.Proofs.YtkioddjjfifadaaGreatDoorW.PrintMore
attribute [local go_sem] max2_int min2_int max_two min_two max_three min_three max_four min_four   -- for this text's walks alone
set_option linter.unusedVariables false
set_option linter.unusedSimpArgs false
def chirographref07_letters.f (a0 : ByteArray) : Option (ByteArray) := if a0.toList = ([50, 46, 53, 46, 52, 46, 51] : List UInt8) then (some (⟨#[67, 78]⟩ : ByteArray)) else (if a0.toList = ([50, 46, 53, 46, 52, 46, 54] : List UInt8) then (some (⟨#[67]⟩ : ByteArray)) else (if a0.toList = ([50, 46, 53, 46, 52, 46, 55] : List UInt8) then (some (⟨#[76]⟩ : ByteArray)) else (if a0.toList = ([50, 46, 53, 46, 52, 46, 56] : List UInt8) then (some (⟨#[83, 84]⟩ : ByteArray)) else (if a0.toList = ([50, 46, 53, 46, 52, 46, 49, 48] : List UInt8) then (some (⟨#[79]⟩ : ByteArray)) else (if a0.toList = ([50, 46, 53, 46, 52, 46, 49, 49] : List UInt8) then (some (⟨#[79, 85]⟩ : ByteArray)) else (if a0.toList = ([49, 46, 50, 46, 56, 52, 48, 46, 49, 49, 51, 53, 52, 57, 46, 49, 46, 57, 46, 49] : List UInt8) then (some (⟨#[69]⟩ : ByteArray)) else (some a0)))))))
end Go.Proofs.YtkioddjjfifadaaGreatDoor.P
namespace Go.Proofs.YtkioddjjfifadaaGreatDoor.P
open Go.RowKit Go.Proofs.YtkioddjjfifadaaGreatDoorW.PrintWords Go.Proofs.YtkioddjjfifadaaGreatDoorW.PrintLast Go.Proofs.YtkioddjjfifadaaGreatDoorW.PrintMore
def letE (k v : ByteArray) (n : Nat) : MapEntry := { key := .string k, val := .agg #[.string v], born := n }
def letEs : Array MapEntry := #[letE ⟨#[50, 46, 53, 46, 52, 46, 51]⟩ ⟨#[67, 78]⟩ 0, letE ⟨#[50, 46, 53, 46, 52, 46, 54]⟩ ⟨#[67]⟩ 1, letE ⟨#[50, 46, 53, 46, 52, 46, 55]⟩ ⟨#[76]⟩ 2, letE ⟨#[50, 46, 53, 46, 52, 46, 56]⟩ ⟨#[83, 84]⟩ 3, letE ⟨#[50, 46, 53, 46, 52, 46, 49, 48]⟩ ⟨#[79]⟩ 4, letE ⟨#[50, 46, 53, 46, 52, 46, 49, 49]⟩ ⟨#[79, 85]⟩ 5, letE ⟨#[49, 46, 50, 46, 56, 52, 48, 46, 49, 49, 51, 53, 52, 57, 46, 49, 46, 57, 46, 49]⟩ ⟨#[69]⟩ 6]
def LetMap (w : World) (m : Nat) : Prop := w.heap[m]? = some (.map letEs 7)
theorem mk_run (w : World) : (Instr.makeMap 146 none).run Tryz.prog w = .ok (.map (some w.heap.size)) (w.alloc (.map #[] 0)) := rfl
theorem chk_run (b : Bool) (k : ByteArray) (w : World) : (Instr.checkKey b 10000 9 (.string k)).run Tryz.prog w = .ok () w := by
  rw [show (10000 : Nat) = 9999 + 1 from rfl]
  unfold Instr.checkKey
  simp [run_underlying Tryz.underlying9, Result.andThen]
theorem find_run {es : List MapEntry} (k : ByteArray) (r : Option (Nat × Value)) (hf : Instr.findNow .string (.string k) es 0 = some r) (w : World) : (Instr.findKey 9 (.string k) es).run Tryz.prog w = .ok r w := by
  unfold Instr.findKey
  simp [run_underlying Tryz.underlying9, hf, Result.andThen]
theorem ins_run {w : World} {m c : Nat} {es : Array MapEntry} (k : ByteArray) (v : Value) (hb : w.heap[m]? = some (.map es c)) (hf : Instr.findNow .string (.string k) es.toList 0 = some none) :
    (Instr.mapUpdate 146 (.map (some m)) (.string k) v).run Tryz.prog w = .ok () { w with heap := w.heap.setIfInBounds m (.map (es.push ⟨.string k, v, c⟩) (c + 1)) } := by
  unfold Instr.mapUpdate
  simp [run_underlying Tryz.underlying146, Go.MapKept.run_getObj_map hb, chk_run, find_run k none hf, Go.MapKept.run_setObj_map _ hb, Result.andThen]
theorem ins_ex {w : World} {m c : Nat} {es : Array MapEntry} (k : ByteArray) (v : Value) (hb : w.heap[m]? = some (.map es c)) (hf : Instr.findNow .string (.string k) es.toList 0 = some none) :
    ∃ w' : World, (Instr.mapUpdate 146 (.map (some m)) (.string k) v).run Tryz.prog w = .ok () w' ∧ w'.heap[m]? = some (.map (es.push ⟨.string k, v, c⟩) (c + 1)) ∧ (∀ B w0, B ≤ m → Below B w0 w → Below B w0 w') := by
  refine ⟨_, ins_run k v hb hf, ?_, ?_⟩
  · have hm : m < w.heap.size := by
      rcases Nat.lt_or_ge m w.heap.size with h | h
      · exact h
      · rw [Array.getElem?_eq_none h] at hb; cases hb
    show (w.heap.setIfInBounds m _)[m]? = _
    rw [Array.getElem?_setIfInBounds, if_pos rfl, if_pos hm]
  · intro B w0 hB h
    refine ⟨h.os, h.tape, h.output, ?_, ?_⟩
    · show _ ≤ (w.heap.setIfInBounds m _).size
      rw [Array.size_setIfInBounds]
      exact h.size
    · intro j hj
      show (w.heap.setIfInBounds m _)[j]? = _
      rw [Array.getElem?_setIfInBounds, if_neg (by omega)]
      exact h.block j hj
def letR : Option (Nat × Value) → Value
  | some (_, v) => v
  | none => .agg #[.string ⟨#[]⟩]
theorem look_run {w : World} {m : Nat} (k : ByteArray) (hb : LetMap w m) (r : Option (Nat × Value)) (hf : Instr.findNow .string (.string k) letEs.toList 0 = some r) :
    (Instr.lookup 146 (.map (some m)) (.string k) true).run Tryz.prog w = .ok (.tuple #[letR r, .bool r.isSome]) w := by
  have hz := Tryz.zeroValue149 w
  have he := Tryz.underlying146
  unfold Instr.lookup
  cases r with
  | none => simp [run_underlying Tryz.underlying146, Go.MapKept.run_getObj_map hb, chk_run, find_run k none hf, hz, Result.andThen, letR]
  | some q => simp [run_underlying Tryz.underlying146, Go.MapKept.run_getObj_map hb, chk_run, find_run k (some q) hf, Result.andThen, letR]
set_option maxHeartbeats 8000000 in
set_option maxRecDepth 100000 in
theorem letters_calls (w : World) : Calls Tryz.prog 86 #[] w fun e w' => ∃ m, e = .returned (.map (some m)) ∧ LetMap w' m ∧ m < w'.heap.size ∧ Below w.heap.size w w' := by
  have e0 := mk_run w
  have h0 : (w.alloc (.map #[] 0)).heap[w.heap.size]? = some (.map #[] 0) := by
    show (w.heap.push _)[w.heap.size]? = _
    rw [Array.getElem?_push_size]
  have b0 : Below w.heap.size w (w.alloc (.map #[] 0)) := below_alloc (Below.refl _ _) _
  generalize w.alloc (.map #[] 0) = W0 at e0 h0 b0
  obtain ⟨W1, e1, h1, x_⟩ := ins_ex ⟨#[50, 46, 53, 46, 52, 46, 51]⟩ (.agg #[.string ⟨#[67, 78]⟩]) h0 (by kernel_rfl)
  have b1 := x_ _ _ (Nat.le_refl _) b0
  clear x_
  obtain ⟨W2, e2, h2, x_⟩ := ins_ex ⟨#[50, 46, 53, 46, 52, 46, 54]⟩ (.agg #[.string ⟨#[67]⟩]) h1 (by kernel_rfl)
  have b2 := x_ _ _ (Nat.le_refl _) b1
  clear x_
  obtain ⟨W3, e3, h3, x_⟩ := ins_ex ⟨#[50, 46, 53, 46, 52, 46, 55]⟩ (.agg #[.string ⟨#[76]⟩]) h2 (by kernel_rfl)
  have b3 := x_ _ _ (Nat.le_refl _) b2
  clear x_
  obtain ⟨W4, e4, h4, x_⟩ := ins_ex ⟨#[50, 46, 53, 46, 52, 46, 56]⟩ (.agg #[.string ⟨#[83, 84]⟩]) h3 (by kernel_rfl)
  have b4 := x_ _ _ (Nat.le_refl _) b3
  clear x_
  obtain ⟨W5, e5, h5, x_⟩ := ins_ex ⟨#[50, 46, 53, 46, 52, 46, 49, 48]⟩ (.agg #[.string ⟨#[79]⟩]) h4 (by kernel_rfl)
  have b5 := x_ _ _ (Nat.le_refl _) b4
  clear x_
  obtain ⟨W6, e6, h6, x_⟩ := ins_ex ⟨#[50, 46, 53, 46, 52, 46, 49, 49]⟩ (.agg #[.string ⟨#[79, 85]⟩]) h5 (by kernel_rfl)
  have b6 := x_ _ _ (Nat.le_refl _) b5
  clear x_
  obtain ⟨W7, e7, h7, x_⟩ := ins_ex ⟨#[49, 46, 50, 46, 56, 52, 48, 46, 49, 49, 51, 53, 52, 57, 46, 49, 46, 57, 46, 49]⟩ (.agg #[.string ⟨#[69]⟩]) h6 (by kernel_rfl)
  have b7 := x_ _ _ (Nat.le_refl _) b6
  clear x_
  have hs : w.heap.size < W7.heap.size := by
    rcases Nat.lt_or_ge w.heap.size W7.heap.size with h | h
    · exact h
    · rw [Array.getElem?_eq_none h] at h7; cases h7
  have H := Aside0.mk h7
  have B := Aside0.mk b7
  clear h0 h1 h2 h3 h4 h5 h6 h7 b0 b1 b2 b3 b4 b5 b6 b7
  go_enter Tryz.func86, Tryz.ntmps86
  go_wp2
  go_ret
  exact ⟨_, rfl, H.out, hs, B.out⟩
end Go.Proofs.YtkioddjjfifadaaGreatDoor.P
set_option linter.unusedVariables false
set_option linter.unusedSimpArgs false
namespace Go.Proofs.YtkioddjjfifadaaGreatDoor.P
open Go.RowKit Go.Proofs.YtkioddjjfifadaaGreatDoorW.PrintWords Go.Proofs.YtkioddjjfifadaaGreatDoorW.PrintLast Go.Proofs.YtkioddjjfifadaaGreatDoorW.PrintMore
set_option maxHeartbeats 4000000 in
set_option maxRecDepth 100000 in
theorem show_at (w : World) (A : Option Addr) (c : Nat) (hA : Kd.C (Kd.slice 64 k64) w A 1 n07) :
    Calls Tryz.prog 43 #[.slice A 1 c] w fun e w' => e = .returned (.string ⟨#[67, 61, 68, 69]⟩) ∧ Below w.heap.size w w' := by
  have hu64 := Tryz.underlying64
  obtain ⟨ad, bd, B1, b, X, x, rfl, rfl, h0, g0, g1, g2, lb, hB1, lx, hX⟩ := n07_open hA
  have HX := Aside0.mk hX
  have hj0 : strings_Join.f [⟨#[67, 61, 68, 69]⟩] ⟨#[43]⟩ = some ⟨#[67, 61, 68, 69]⟩ := by kernel_rfl
  have hj1 : strings_Join.f [⟨#[67, 61, 68, 69]⟩] ⟨#[44]⟩ = some ⟨#[67, 61, 68, 69]⟩ := by kernel_rfl
  have hrv : slices_Reverse.f [(⟨#[67, 61, 68, 69]⟩ : ByteArray)] = some [⟨#[67, 61, 68, 69]⟩] := by kernel_rfl
  have HJ0 := Aside0.mk hj0
  have HJ1 := Aside0.mk hj1
  have HRV := Aside0.mk hrv
  clear hA hB1 hX hj0 hj1 hrv lb
  go_enter Tryz.func43, Tryz.ntmps43
  go_wp2_with fail
  refine (letters_calls _).mono ?_
  rintro e w1 ⟨m, rfl, hm, hlt, hb⟩
  have HB := Aside0.mk hb
  replace h0 := (hb.cell (World.block_lt_of_cell? w _ h0)).trans h0
  replace g0 := (hb.cell (World.block_lt_of_cell? w _ g0)).trans g0
  replace g1 := (hb.cell (World.block_lt_of_cell? w _ g1)).trans g1
  replace g2 := (hb.cell (World.block_lt_of_cell? w _ g2)).trans g2
  have HX1 := Aside0.mk (Kd.C_below HX.out hb)
  have HM := Aside0.mk hm
  have hlk : ∀ W : World, LetMap W m → (Instr.lookup 146 (.map (some m)) (.string p07.f0) true).run Tryz.prog W = .ok (.tuple #[.agg #[.string ⟨#[67]⟩], .bool true]) W := fun W h => look_run p07.f0 h (some (1, .agg #[.string ⟨#[67]⟩])) (by kernel_rfl)
  have hlk1 := hlk _ (show LetMap (w1.alloc (.cells #[.string p07.f0, .int .i64 19, .slice X 2 x] 64)) m from (below_alloc (Below.refl w1.heap.size w1) _).block m hlt |>.trans hm)
  clear hb HX hm hlk
  go_wp2_with fail
  refine wp_loop_rounds 2 ?_
  rw [rounds_succ]
  go_wp2_with fail
  refine wp_loop_rounds 2 ?_
  rw [rounds_succ]
  go_wp2_with fail
  have hb2 := below_alloc (below_alloc (Below.refl w1.heap.size w1) (.cells #[.string p07.f0, .int .i64 19, .slice X 2 x] 64)) (.cells #[.string ⟨#[67]⟩] 149)
  refine (value_at _ p07.f0 X x lx (Kd.C_below HX1.out hb2)).mono ?_
  rintro e w2 ⟨rfl, hb⟩
  have HB2 := Aside0.mk (below_step (below_step HB.out hb2) hb)
  clear hb hb2 HB HX1 hlk1 h0 g0 g1 g2 HM
  go_wp2_with ((with_reducible refine gate_builtin (b := .append) (xs := #[.tmp 37, .tmp 43]) rfl ?_); at_builtin; refine Kd.R_append Kd.string (w0 := w) w.heap.size rfl (.tmp 37) (.tmp 43) 102 9 (.string ⟨#[]⟩) 16 rfl Tryz.underlying102 info9 rfl (by decide) (by omega) (.slice none 0 0) [] (⟨#[67, 61, 68, 69]⟩ : ByteArray) [.string ⟨#[67, 61, 68, 69]⟩] (fun _ => True) (fun _ => False) rfl rfl ?aP (fun _ hk => hk.elim) ?aF ?aO ?aB ?aS ?aL ?_; (case aP => exact rfl); (case aF => exact (fun _ _ => trivial)); (case aO => exact Kd.R_nil _ _ _ _ _); (case aB => exact HB2.out); (case aS => exact (below_size HB2.out)); (case aL => decide); intro v5 w3 ho hb hgr hat; have HO := Aside0.mk ho; have HB := Aside0.mk hb; clear ho hb hgr hat HB2)
  rw [rounds_succ]
  obtain ⟨D, d, hv5⟩ := Kd.R_slice HO.out
  subst hv5
  have HC := Aside0.mk (Kd.R_reads' HO.out)
  clear HO
  go_wp2_with fail
  refine (strings_Join.calls D d [⟨#[67, 61, 68, 69]⟩] ⟨#[43]⟩ ⟨#[67, 61, 68, 69]⟩ _ HC.out.2.2 HC.out.2.1 HJ0.out).mono ?_
  rintro e w4 ⟨rfl, hb⟩
  have HB2 := Aside0.mk (below_step HB.out hb)
  clear hb HB HC HJ0
  go_wp2_with ((with_reducible refine gate_builtin (b := .append) (xs := #[.tmp 46, .tmp 49]) rfl ?_); at_builtin; refine Kd.R_append Kd.string (w0 := w) w.heap.size rfl (.tmp 46) (.tmp 49) 102 9 (.string ⟨#[]⟩) 16 rfl Tryz.underlying102 info9 rfl (by decide) (by omega) (.slice none 0 0) [] (⟨#[67, 61, 68, 69]⟩ : ByteArray) [.string ⟨#[67, 61, 68, 69]⟩] (fun _ => True) (fun _ => False) rfl rfl ?aP (fun _ hk => hk.elim) ?aF ?aO ?aB ?aS ?aL ?_; (case aP => exact rfl); (case aF => exact (fun _ _ => trivial)); (case aO => exact Kd.R_nil _ _ _ _ _); (case aB => exact HB2.out); (case aS => exact (below_size HB2.out)); (case aL => decide); intro v6 w5 ho hb hgr hat; have HO := Aside0.mk ho; have HB := Aside0.mk hb; clear ho hb hgr hat HB2)
  rw [rounds_succ]
  go_wp2_with fail
  refine (rev_own w _ [⟨#[67, 61, 68, 69]⟩] [⟨#[67, 61, 68, 69]⟩] _ HO.out HB.out HRV.out).mono ?_
  rintro e w6 ⟨rfl, ho, hb⟩
  have HB6 := Aside0.mk hb
  obtain ⟨E, f, hv6⟩ := Kd.R_slice ho
  subst hv6
  have HC := Aside0.mk (Kd.R_reads' ho)
  clear ho hb HO HB HRV
  go_wp2_with fail
  refine (strings_Join.calls E f [⟨#[67, 61, 68, 69]⟩] ⟨#[44]⟩ ⟨#[67, 61, 68, 69]⟩ _ HC.out.2.2 HC.out.2.1 HJ1.out).mono ?_
  rintro e w7 ⟨rfl, hb⟩
  have HB7 := Aside0.mk (below_step HB6.out hb)
  clear hb HB6 HC HJ1
  go_wp2_with fail
  go_ret
  exact ⟨by first | rfl | trace_state, HB7.out⟩
end Go.Proofs.YtkioddjjfifadaaGreatDoor.P
namespace Go.Proofs.YtkioddjjfifadaaGreatDoor.P
open Go.RowKit Go.Proofs.YtkioddjjfifadaaGreatDoorW.PrintWords Go.Proofs.YtkioddjjfifadaaGreatDoorW.PrintLast Go.Proofs.YtkioddjjfifadaaGreatDoorW.PrintMore
attribute [local go_sem] max2_int min2_int max_two min_two max_three min_three max_four min_four   -- for this text's walks alone
set_option linter.unusedVariables false
set_option linter.unusedSimpArgs false
def text_fits.f (a0 : Int) (a1 : Int) : Option (Bool) := if a0 = 18 then (if a1 = 32 then (some true) else (if a1 ≥ 48 then (some (decide (a1 ≤ 57))) else (some false))) else (if a0 = 19 then (if (Go.bits .or .u8 a1 32) ≥ 97 then (if (Go.bits .or .u8 a1 32) ≤ 122 then (some true) else (if a1 ≥ 48 then (if a1 ≤ 57 then (some true) else (if a1 = 0 then (some false) else ((strings_IndexByte.f (⟨#[32, 39, 40, 41, 43, 44, 45, 46, 47, 58, 61, 63]⟩ : ByteArray) a1).bind fun t602 => (some (decide (t602 ≥ 0)))))) else (if a1 = 0 then (some false) else ((strings_IndexByte.f (⟨#[32, 39, 40, 41, 43, 44, 45, 46, 47, 58, 61, 63]⟩ : ByteArray) a1).bind fun t603 => (some (decide (t603 ≥ 0))))))) else (if a1 ≥ 48 then (if a1 ≤ 57 then (some true) else (if a1 = 0 then (some false) else ((strings_IndexByte.f (⟨#[32, 39, 40, 41, 43, 44, 45, 46, 47, 58, 61, 63]⟩ : ByteArray) a1).bind fun t604 => (some (decide (t604 ≥ 0)))))) else (if a1 = 0 then (some false) else ((strings_IndexByte.f (⟨#[32, 39, 40, 41, 43, 44, 45, 46, 47, 58, 61, 63]⟩ : ByteArray) a1).bind fun t605 => (some (decide (t605 ≥ 0))))))) else (if a0 = 22 then (some (decide (a1 < 128))) else (if a1 ≥ 32 then (some (decide (a1 < 127))) else (some false))))
set_option maxHeartbeats 8000000 in
set_option maxRecDepth 100000 in
theorem text_fits.calls (a0 : Int) (a1 : Int) (r : Bool) (w : World) (h : text_fits.f a0 a1 = some r) :
    Calls Tryz.prog 205 #[.int .i64 a0, .int .u8 a1] w fun e w' => e = .returned (.bool r) ∧ Below w.heap.size w w' := by
  have HB := Aside0.mk (Below.refl w.heap.size w)
  have H : (if a0 = 18 then (if a1 = 32 then (some true) else (if a1 ≥ 48 then (some (decide (a1 ≤ 57))) else (some false))) else (if a0 = 19 then (if (Go.bits .or .u8 a1 32) ≥ 97 then (if (Go.bits .or .u8 a1 32) ≤ 122 then (some true) else (if a1 ≥ 48 then (if a1 ≤ 57 then (some true) else (if a1 = 0 then (some false) else ((strings_IndexByte.f (⟨#[32, 39, 40, 41, 43, 44, 45, 46, 47, 58, 61, 63]⟩ : ByteArray) a1).bind fun t602 => (some (decide (t602 ≥ 0)))))) else (if a1 = 0 then (some false) else ((strings_IndexByte.f (⟨#[32, 39, 40, 41, 43, 44, 45, 46, 47, 58, 61, 63]⟩ : ByteArray) a1).bind fun t603 => (some (decide (t603 ≥ 0))))))) else (if a1 ≥ 48 then (if a1 ≤ 57 then (some true) else (if a1 = 0 then (some false) else ((strings_IndexByte.f (⟨#[32, 39, 40, 41, 43, 44, 45, 46, 47, 58, 61, 63]⟩ : ByteArray) a1).bind fun t604 => (some (decide (t604 ≥ 0)))))) else (if a1 = 0 then (some false) else ((strings_IndexByte.f (⟨#[32, 39, 40, 41, 43, 44, 45, 46, 47, 58, 61, 63]⟩ : ByteArray) a1).bind fun t605 => (some (decide (t605 ≥ 0))))))) else (if a0 = 22 then (some (decide (a1 < 128))) else (if a1 ≥ 32 then (some (decide (a1 < 127))) else (some false))))) = some r := h
  clear h
  by_cases c3 : a0 = 18
  · rw [if_pos c3] at H
    have c3b0 : (a0 == 18) = true := beq_iff_eq.mpr c3
    have c3b1 : (a0 != 18) = false := bne_eq_false_iff_eq.mpr c3
    clear c3
    by_cases c4 : a1 = 32
    · rw [if_pos c4] at H
      have c4b0 : (a1 == 32) = true := beq_iff_eq.mpr c4
      have c4b1 : (a1 != 32) = false := bne_eq_false_iff_eq.mpr c4
      clear c4
      obtain rfl := Option.some.inj H
      go_enter Tryz.func205, Tryz.ntmps205
      go_wp2
      go_ret
      exact ⟨by first | rfl | (simp [errW_none, errW_some] <;> rfl) | (simp [*, errW_none, errW_some] <;> rfl), by repeat (first | (with_reducible first | exact HB.out | apply below_alloc | apply pw_below_drewN | apply below_drew1) | exact HB.out)⟩
    · rw [if_neg c4] at H
      have c4b0 : (a1 == 32) = false := beq_eq_false_iff_ne.mpr c4
      have c4b1 : (a1 != 32) = true := bne_iff_ne.mpr c4
      by_cases c5 : a1 ≥ 48
      · rw [if_pos c5] at H
        have c5b0 : decide (48 ≤ a1) = true := decide_eq_true c5
        clear c5
        obtain rfl := Option.some.inj H
        go_enter Tryz.func205, Tryz.ntmps205
        go_wp2
        go_ret
        exact ⟨by first | rfl | (simp [errW_none, errW_some] <;> rfl) | (simp [*, errW_none, errW_some] <;> rfl), by repeat (first | (with_reducible first | exact HB.out | apply below_alloc | apply pw_below_drewN | apply below_drew1) | exact HB.out)⟩
      · rw [if_neg c5] at H
        have c5b0 : decide (48 ≤ a1) = false := decide_eq_false c5
        clear c5
        obtain rfl := Option.some.inj H
        go_enter Tryz.func205, Tryz.ntmps205
        go_wp2
        go_ret
        exact ⟨by first | rfl | (simp [errW_none, errW_some] <;> rfl) | (simp [*, errW_none, errW_some] <;> rfl), by repeat (first | (with_reducible first | exact HB.out | apply below_alloc | apply pw_below_drewN | apply below_drew1) | exact HB.out)⟩
  · rw [if_neg c3] at H
    have c3b0 : (a0 == 18) = false := beq_eq_false_iff_ne.mpr c3
    have c3b1 : (a0 != 18) = true := bne_iff_ne.mpr c3
    by_cases c6 : a0 = 19
    · rw [if_pos c6] at H
      have c6b0 : (a0 == 19) = true := beq_iff_eq.mpr c6
      have c6b1 : (a0 != 19) = false := bne_eq_false_iff_eq.mpr c6
      clear c6
      by_cases c7 : (Go.bits .or .u8 a1 32) ≥ 97
      · rw [if_pos c7] at H
        have c7b0 : decide (97 ≤ (Go.bits .or .u8 a1 32)) = true := decide_eq_true c7
        clear c7
        by_cases c8 : (Go.bits .or .u8 a1 32) ≤ 122
        · rw [if_pos c8] at H
          have c8b0 : decide ((Go.bits .or .u8 a1 32) ≤ 122) = true := decide_eq_true c8
          clear c8
          obtain rfl := Option.some.inj H
          go_enter Tryz.func205, Tryz.ntmps205
          go_wp2
          go_ret
          exact ⟨by first | rfl | (simp [errW_none, errW_some] <;> rfl) | (simp [*, errW_none, errW_some] <;> rfl), by repeat (first | (with_reducible first | exact HB.out | apply below_alloc | apply pw_below_drewN | apply below_drew1) | exact HB.out)⟩
        · rw [if_neg c8] at H
          have c8b0 : decide ((Go.bits .or .u8 a1 32) ≤ 122) = false := decide_eq_false c8
          clear c8
          by_cases c9 : a1 ≥ 48
          · rw [if_pos c9] at H
            have c9b0 : decide (48 ≤ a1) = true := decide_eq_true c9
            clear c9
            by_cases c10 : a1 ≤ 57
            · rw [if_pos c10] at H
              have c10b0 : decide (a1 ≤ 57) = true := decide_eq_true c10
              clear c10
              obtain rfl := Option.some.inj H
              go_enter Tryz.func205, Tryz.ntmps205
              go_wp2
              go_ret
              exact ⟨by first | rfl | (simp [errW_none, errW_some] <;> rfl) | (simp [*, errW_none, errW_some] <;> rfl), by repeat (first | (with_reducible first | exact HB.out | apply below_alloc | apply pw_below_drewN | apply below_drew1) | exact HB.out)⟩
            · rw [if_neg c10] at H
              have c10b0 : decide (a1 ≤ 57) = false := decide_eq_false c10
              clear c10
              by_cases c11 : a1 = 0
              · rw [if_pos c11] at H
                have c11b0 : (a1 == 0) = true := beq_iff_eq.mpr c11
                have c11b1 : (a1 != 0) = false := bne_eq_false_iff_eq.mpr c11
                clear c11
                obtain rfl := Option.some.inj H
                go_enter Tryz.func205, Tryz.ntmps205
                go_wp2
                go_ret
                exact ⟨by first | rfl | (simp [errW_none, errW_some] <;> rfl) | (simp [*, errW_none, errW_some] <;> rfl), by repeat (first | (with_reducible first | exact HB.out | apply below_alloc | apply pw_below_drewN | apply below_drew1) | exact HB.out)⟩
              · rw [if_neg c11] at H
                have c11b0 : (a1 == 0) = false := beq_eq_false_iff_ne.mpr c11
                have c11b1 : (a1 != 0) = true := bne_iff_ne.mpr c11
                replace H := Option.bind_eq_some_iff.mp H
                obtain ⟨t602, A120, H⟩ := H
                replace H : (some (decide (t602 ≥ 0))) = some r := H
                have A12 := Aside0.mk A120
                clear A120
                obtain rfl := Option.some.inj H
                go_enter Tryz.func205, Tryz.ntmps205
                go_wp2_with (first | (go_at_call 154; (with_reducible refine (strings_IndexByte.calls (⟨#[32, 39, 40, 41, 43, 44, 45, 46, 47, 58, 61, 63]⟩ : ByteArray) a1 t602 _ A12.out).mono ?_); rintro e w13 ⟨rfl, hb⟩; have n0_ := Aside0.mk (below_step (by repeat (first | (with_reducible first | exact HB.out | apply below_alloc | apply pw_below_drewN | apply below_drew1) | exact HB.out)) hb); clear HB; have HB := n0_; clear n0_; (try clear hb); (try clear hb2); (try clear hk); (try clear hi)))
                go_ret
                exact ⟨by first | rfl | (simp [errW_none, errW_some] <;> rfl) | (simp [*, errW_none, errW_some] <;> rfl), by repeat (first | (with_reducible first | exact HB.out | apply below_alloc | apply pw_below_drewN | apply below_drew1) | exact HB.out)⟩
          · rw [if_neg c9] at H
            have c9b0 : decide (48 ≤ a1) = false := decide_eq_false c9
            clear c9
            by_cases c14 : a1 = 0
            · rw [if_pos c14] at H
              have c14b0 : (a1 == 0) = true := beq_iff_eq.mpr c14
              have c14b1 : (a1 != 0) = false := bne_eq_false_iff_eq.mpr c14
              clear c14
              obtain rfl := Option.some.inj H
              go_enter Tryz.func205, Tryz.ntmps205
              go_wp2
              go_ret
              exact ⟨by first | rfl | (simp [errW_none, errW_some] <;> rfl) | (simp [*, errW_none, errW_some] <;> rfl), by repeat (first | (with_reducible first | exact HB.out | apply below_alloc | apply pw_below_drewN | apply below_drew1) | exact HB.out)⟩
            · rw [if_neg c14] at H
              have c14b0 : (a1 == 0) = false := beq_eq_false_iff_ne.mpr c14
              have c14b1 : (a1 != 0) = true := bne_iff_ne.mpr c14
              replace H := Option.bind_eq_some_iff.mp H
              obtain ⟨t603, A150, H⟩ := H
              replace H : (some (decide (t603 ≥ 0))) = some r := H
              have A15 := Aside0.mk A150
              clear A150
              obtain rfl := Option.some.inj H
              go_enter Tryz.func205, Tryz.ntmps205
              go_wp2_with (first | (go_at_call 154; (with_reducible refine (strings_IndexByte.calls (⟨#[32, 39, 40, 41, 43, 44, 45, 46, 47, 58, 61, 63]⟩ : ByteArray) a1 t603 _ A15.out).mono ?_); rintro e w16 ⟨rfl, hb⟩; have n0_ := Aside0.mk (below_step (by repeat (first | (with_reducible first | exact HB.out | apply below_alloc | apply pw_below_drewN | apply below_drew1) | exact HB.out)) hb); clear HB; have HB := n0_; clear n0_; (try clear hb); (try clear hb2); (try clear hk); (try clear hi)))
              go_ret
              exact ⟨by first | rfl | (simp [errW_none, errW_some] <;> rfl) | (simp [*, errW_none, errW_some] <;> rfl), by repeat (first | (with_reducible first | exact HB.out | apply below_alloc | apply pw_below_drewN | apply below_drew1) | exact HB.out)⟩
      · rw [if_neg c7] at H
        have c7b0 : decide (97 ≤ (Go.bits .or .u8 a1 32)) = false := decide_eq_false c7
        clear c7
        by_cases c17 : a1 ≥ 48
        · rw [if_pos c17] at H
          have c17b0 : decide (48 ≤ a1) = true := decide_eq_true c17
          clear c17
          by_cases c18 : a1 ≤ 57
          · rw [if_pos c18] at H
            have c18b0 : decide (a1 ≤ 57) = true := decide_eq_true c18
            clear c18
            obtain rfl := Option.some.inj H
            go_enter Tryz.func205, Tryz.ntmps205
            go_wp2
            go_ret
            exact ⟨by first | rfl | (simp [errW_none, errW_some] <;> rfl) | (simp [*, errW_none, errW_some] <;> rfl), by repeat (first | (with_reducible first | exact HB.out | apply below_alloc | apply pw_below_drewN | apply below_drew1) | exact HB.out)⟩
          · rw [if_neg c18] at H
            have c18b0 : decide (a1 ≤ 57) = false := decide_eq_false c18
            clear c18
            by_cases c19 : a1 = 0
            · rw [if_pos c19] at H
              have c19b0 : (a1 == 0) = true := beq_iff_eq.mpr c19
              have c19b1 : (a1 != 0) = false := bne_eq_false_iff_eq.mpr c19
              clear c19
              obtain rfl := Option.some.inj H
              go_enter Tryz.func205, Tryz.ntmps205
              go_wp2
              go_ret
              exact ⟨by first | rfl | (simp [errW_none, errW_some] <;> rfl) | (simp [*, errW_none, errW_some] <;> rfl), by repeat (first | (with_reducible first | exact HB.out | apply below_alloc | apply pw_below_drewN | apply below_drew1) | exact HB.out)⟩
            · rw [if_neg c19] at H
              have c19b0 : (a1 == 0) = false := beq_eq_false_iff_ne.mpr c19
              have c19b1 : (a1 != 0) = true := bne_iff_ne.mpr c19
              replace H := Option.bind_eq_some_iff.mp H
              obtain ⟨t604, A200, H⟩ := H
              replace H : (some (decide (t604 ≥ 0))) = some r := H
              have A20 := Aside0.mk A200
              clear A200
              obtain rfl := Option.some.inj H
              go_enter Tryz.func205, Tryz.ntmps205
              go_wp2_with (first | (go_at_call 154; (with_reducible refine (strings_IndexByte.calls (⟨#[32, 39, 40, 41, 43, 44, 45, 46, 47, 58, 61, 63]⟩ : ByteArray) a1 t604 _ A20.out).mono ?_); rintro e w21 ⟨rfl, hb⟩; have n0_ := Aside0.mk (below_step (by repeat (first | (with_reducible first | exact HB.out | apply below_alloc | apply pw_below_drewN | apply below_drew1) | exact HB.out)) hb); clear HB; have HB := n0_; clear n0_; (try clear hb); (try clear hb2); (try clear hk); (try clear hi)))
              go_ret
              exact ⟨by first | rfl | (simp [errW_none, errW_some] <;> rfl) | (simp [*, errW_none, errW_some] <;> rfl), by repeat (first | (with_reducible first | exact HB.out | apply below_alloc | apply pw_below_drewN | apply below_drew1) | exact HB.out)⟩
        · rw [if_neg c17] at H
          have c17b0 : decide (48 ≤ a1) = false := decide_eq_false c17
          clear c17
          by_cases c22 : a1 = 0
          · rw [if_pos c22] at H
            have c22b0 : (a1 == 0) = true := beq_iff_eq.mpr c22
            have c22b1 : (a1 != 0) = false := bne_eq_false_iff_eq.mpr c22
            clear c22
            obtain rfl := Option.some.inj H
            go_enter Tryz.func205, Tryz.ntmps205
            go_wp2
            go_ret
            exact ⟨by first | rfl | (simp [errW_none, errW_some] <;> rfl) | (simp [*, errW_none, errW_some] <;> rfl), by repeat (first | (with_reducible first | exact HB.out | apply below_alloc | apply pw_below_drewN | apply below_drew1) | exact HB.out)⟩
          · rw [if_neg c22] at H
            have c22b0 : (a1 == 0) = false := beq_eq_false_iff_ne.mpr c22
            have c22b1 : (a1 != 0) = true := bne_iff_ne.mpr c22
            replace H := Option.bind_eq_some_iff.mp H
            obtain ⟨t605, A230, H⟩ := H
            replace H : (some (decide (t605 ≥ 0))) = some r := H
            have A23 := Aside0.mk A230
            clear A230
            obtain rfl := Option.some.inj H
            go_enter Tryz.func205, Tryz.ntmps205
            go_wp2_with (first | (go_at_call 154; (with_reducible refine (strings_IndexByte.calls (⟨#[32, 39, 40, 41, 43, 44, 45, 46, 47, 58, 61, 63]⟩ : ByteArray) a1 t605 _ A23.out).mono ?_); rintro e w24 ⟨rfl, hb⟩; have n0_ := Aside0.mk (below_step (by repeat (first | (with_reducible first | exact HB.out | apply below_alloc | apply pw_below_drewN | apply below_drew1) | exact HB.out)) hb); clear HB; have HB := n0_; clear n0_; (try clear hb); (try clear hb2); (try clear hk); (try clear hi)))
            go_ret
            exact ⟨by first | rfl | (simp [errW_none, errW_some] <;> rfl) | (simp [*, errW_none, errW_some] <;> rfl), by repeat (first | (with_reducible first | exact HB.out | apply below_alloc | apply pw_below_drewN | apply below_drew1) | exact HB.out)⟩
    · rw [if_neg c6] at H
      have c6b0 : (a0 == 19) = false := beq_eq_false_iff_ne.mpr c6
      have c6b1 : (a0 != 19) = true := bne_iff_ne.mpr c6
      by_cases c25 : a0 = 22
      · rw [if_pos c25] at H
        have c25b0 : (a0 == 22) = true := beq_iff_eq.mpr c25
        have c25b1 : (a0 != 22) = false := bne_eq_false_iff_eq.mpr c25
        clear c25
        obtain rfl := Option.some.inj H
        go_enter Tryz.func205, Tryz.ntmps205
        go_wp2
        go_ret
        exact ⟨by first | rfl | (simp [errW_none, errW_some] <;> rfl) | (simp [*, errW_none, errW_some] <;> rfl), by repeat (first | (with_reducible first | exact HB.out | apply below_alloc | apply pw_below_drewN | apply below_drew1) | exact HB.out)⟩
      · rw [if_neg c25] at H
        have c25b0 : (a0 == 22) = false := beq_eq_false_iff_ne.mpr c25
        have c25b1 : (a0 != 22) = true := bne_iff_ne.mpr c25
        by_cases c26 : a1 ≥ 32
        · rw [if_pos c26] at H
          have c26b0 : decide (32 ≤ a1) = true := decide_eq_true c26
          clear c26
          obtain rfl := Option.some.inj H
          go_enter Tryz.func205, Tryz.ntmps205
          go_wp2
          go_ret
          exact ⟨by first | rfl | (simp [errW_none, errW_some] <;> rfl) | (simp [*, errW_none, errW_some] <;> rfl), by repeat (first | (with_reducible first | exact HB.out | apply below_alloc | apply pw_below_drewN | apply below_drew1) | exact HB.out)⟩
        · rw [if_neg c26] at H
          have c26b0 : decide (32 ≤ a1) = false := decide_eq_false c26
          clear c26
          obtain rfl := Option.some.inj H
          go_enter Tryz.func205, Tryz.ntmps205
          go_wp2
          go_ret
          exact ⟨by first | rfl | (simp [errW_none, errW_some] <;> rfl) | (simp [*, errW_none, errW_some] <;> rfl), by repeat (first | (with_reducible first | exact HB.out | apply below_alloc | apply pw_below_drewN | apply below_drew1) | exact HB.out)⟩
end Go.Proofs.YtkioddjjfifadaaGreatDoor.P
namespace Go.Proofs.YtkioddjjfifadaaGreatDoor.P
open Go.RowKit Go.Proofs.YtkioddjjfifadaaGreatDoorW.PrintWords Go.Proofs.YtkioddjjfifadaaGreatDoorW.PrintLast Go.Proofs.YtkioddjjfifadaaGreatDoorW.PrintMore
attribute [local go_sem] max2_int min2_int max_two min_two max_three min_three max_four min_four   -- for this text's walks alone
set_option linter.unusedVariables false
set_option linter.unusedSimpArgs false
def utf8_word_byte.f (l0 : List Int) : Option (Int) := if 0 < (l0.length : Int) then (if 1 < (l0.length : Int) then (if 2 < (l0.length : Int) then (if 3 < (l0.length : Int) then (if 4 < (l0.length : Int) then (if 5 < (l0.length : Int) then (if 6 < (l0.length : Int) then (if 7 < (l0.length : Int) then (some (Go.bits .or .u64 (Go.bits .or .u64 (Go.bits .or .u64 (Go.bits .or .u64 (Go.bits .or .u64 (Go.bits .or .u64 (Go.bits .or .u64 (IntKind.u64.wrap (rd l0 0)) (IntKind.u64.wrap ((IntKind.u64.wrap (rd l0 1)) * 256))) (IntKind.u64.wrap ((IntKind.u64.wrap (rd l0 2)) * 65536))) (IntKind.u64.wrap ((IntKind.u64.wrap (rd l0 3)) * 16777216))) (IntKind.u64.wrap ((IntKind.u64.wrap (rd l0 4)) * 4294967296))) (IntKind.u64.wrap ((IntKind.u64.wrap (rd l0 5)) * 1099511627776))) (IntKind.u64.wrap ((IntKind.u64.wrap (rd l0 6)) * 281474976710656))) (IntKind.u64.wrap ((IntKind.u64.wrap (rd l0 7)) * 72057594037927936)))) else (none)) else (none)) else (none)) else (none)) else (none)) else (none)) else (none)) else (none)
set_option maxHeartbeats 8000000 in
set_option maxRecDepth 100000 in
theorem utf8_word_byte.calls (A0 : Option Addr) (c0 : Nat) (l0 : List Int) (r : Int) (w : World) (hr0 : Kd.C (Kd.int .u8) w A0 l0.length l0) (hc0 : l0.length ≤ c0) (h : utf8_word_byte.f l0 = some r) :
    Calls Tryz.prog 250 #[.slice A0 l0.length c0] w fun e w' => e = .returned (.int .u64 r) ∧ Drawn0 w w' := by
  have HR0 := Aside0.mk hr0
  have HC0 := Aside0.mk hc0
  clear hr0 hc0
  have H : (if 0 < (l0.length : Int) then (if 1 < (l0.length : Int) then (if 2 < (l0.length : Int) then (if 3 < (l0.length : Int) then (if 4 < (l0.length : Int) then (if 5 < (l0.length : Int) then (if 6 < (l0.length : Int) then (if 7 < (l0.length : Int) then (some (Go.bits .or .u64 (Go.bits .or .u64 (Go.bits .or .u64 (Go.bits .or .u64 (Go.bits .or .u64 (Go.bits .or .u64 (Go.bits .or .u64 (IntKind.u64.wrap (rd l0 0)) (IntKind.u64.wrap ((IntKind.u64.wrap (rd l0 1)) * 256))) (IntKind.u64.wrap ((IntKind.u64.wrap (rd l0 2)) * 65536))) (IntKind.u64.wrap ((IntKind.u64.wrap (rd l0 3)) * 16777216))) (IntKind.u64.wrap ((IntKind.u64.wrap (rd l0 4)) * 4294967296))) (IntKind.u64.wrap ((IntKind.u64.wrap (rd l0 5)) * 1099511627776))) (IntKind.u64.wrap ((IntKind.u64.wrap (rd l0 6)) * 281474976710656))) (IntKind.u64.wrap ((IntKind.u64.wrap (rd l0 7)) * 72057594037927936)))) else (none)) else (none)) else (none)) else (none)) else (none)) else (none)) else (none)) else (none)) = some r := h
  clear h
  by_cases c2 : 0 < (l0.length : Int)
  · rw [if_pos c2] at H
    have c2b0 : decide (0 < (l0.length : Int)) = true := decide_eq_true c2
    have c2b1 : decide (0 < l0.length) = true := decide_eq_true (by omega)
    clear c2
    by_cases c3 : 1 < (l0.length : Int)
    · rw [if_pos c3] at H
      have c3b0 : decide (1 < (l0.length : Int)) = true := decide_eq_true c3
      have c3b1 : decide (1 < l0.length) = true := decide_eq_true (by omega)
      clear c3
      by_cases c4 : 2 < (l0.length : Int)
      · rw [if_pos c4] at H
        have c4b0 : decide (2 < (l0.length : Int)) = true := decide_eq_true c4
        have c4b1 : decide (2 < l0.length) = true := decide_eq_true (by omega)
        clear c4
        by_cases c5 : 3 < (l0.length : Int)
        · rw [if_pos c5] at H
          have c5b0 : decide (3 < (l0.length : Int)) = true := decide_eq_true c5
          have c5b1 : decide (3 < l0.length) = true := decide_eq_true (by omega)
          clear c5
          by_cases c6 : 4 < (l0.length : Int)
          · rw [if_pos c6] at H
            have c6b0 : decide (4 < (l0.length : Int)) = true := decide_eq_true c6
            have c6b1 : decide (4 < l0.length) = true := decide_eq_true (by omega)
            clear c6
            by_cases c7 : 5 < (l0.length : Int)
            · rw [if_pos c7] at H
              have c7b0 : decide (5 < (l0.length : Int)) = true := decide_eq_true c7
              have c7b1 : decide (5 < l0.length) = true := decide_eq_true (by omega)
              clear c7
              by_cases c8 : 6 < (l0.length : Int)
              · rw [if_pos c8] at H
                have c8b0 : decide (6 < (l0.length : Int)) = true := decide_eq_true c8
                have c8b1 : decide (6 < l0.length) = true := decide_eq_true (by omega)
                clear c8
                by_cases c9 : 7 < (l0.length : Int)
                · rw [if_pos c9] at H
                  have c9b0 : decide (7 < (l0.length : Int)) = true := decide_eq_true c9
                  have c9b1 : decide (7 < l0.length) = true := decide_eq_true (by omega)
                  clear c9
                  obtain rfl := Option.some.inj H
                  have p535 : 0 ≤ (0 : Int) := (by omega)
                  have q535 : 0 < (l0.length : Int) := of_decide_eq_true (by first | (with_reducible assumption) | assumption)
                  obtain ⟨ad535, e535, hx535_0⟩ := Kd.at_int HR0.out 0 p535 q535
                  cases e535
                  have qi535 : (0 < l0.length) = True := eq_true (by omega)
                  (try rw [show ((0 : Int)).toNat = 0 from rfl] at hx535_0)
                  (try rw [Addr.add_zero'] at hx535_0)
                  replace p535 := eq_true p535
                  replace q535 := eq_true q535
                  have p536 : 0 ≤ (1 : Int) := (by omega)
                  have q536 : 1 < (l0.length : Int) := of_decide_eq_true (by first | (with_reducible assumption) | assumption)
                  obtain ⟨ad536, e536, hx536_0⟩ := Kd.at_int HR0.out 1 p536 q536
                  obtain rfl : ad535 = ad536 := (by injection e536)
                  (try simp only [show (1 : Int).toNat = 1 from rfl, Nat.reduceMul, Nat.reduceEqDiff, Go.Addr.add, ↓reduceIte] at hx536_0)
                  have qi536 : (1 < l0.length) = True := eq_true (by omega)
                  (try rw [show ((1 : Int)).toNat = 1 from rfl] at hx536_0)
                  replace p536 := eq_true p536
                  replace q536 := eq_true q536
                  have p537 : 0 ≤ (2 : Int) := (by omega)
                  have q537 : 2 < (l0.length : Int) := of_decide_eq_true (by first | (with_reducible assumption) | assumption)
                  obtain ⟨ad537, e537, hx537_0⟩ := Kd.at_int HR0.out 2 p537 q537
                  obtain rfl : ad535 = ad537 := (by injection e537)
                  (try simp only [show (2 : Int).toNat = 2 from rfl, Nat.reduceMul, Nat.reduceEqDiff, Go.Addr.add, ↓reduceIte] at hx537_0)
                  have qi537 : (2 < l0.length) = True := eq_true (by omega)
                  (try rw [show ((2 : Int)).toNat = 2 from rfl] at hx537_0)
                  replace p537 := eq_true p537
                  replace q537 := eq_true q537
                  have p538 : 0 ≤ (3 : Int) := (by omega)
                  have q538 : 3 < (l0.length : Int) := of_decide_eq_true (by first | (with_reducible assumption) | assumption)
                  obtain ⟨ad538, e538, hx538_0⟩ := Kd.at_int HR0.out 3 p538 q538
                  obtain rfl : ad535 = ad538 := (by injection e538)
                  (try simp only [show (3 : Int).toNat = 3 from rfl, Nat.reduceMul, Nat.reduceEqDiff, Go.Addr.add, ↓reduceIte] at hx538_0)
                  have qi538 : (3 < l0.length) = True := eq_true (by omega)
                  (try rw [show ((3 : Int)).toNat = 3 from rfl] at hx538_0)
                  replace p538 := eq_true p538
                  replace q538 := eq_true q538
                  have p539 : 0 ≤ (4 : Int) := (by omega)
                  have q539 : 4 < (l0.length : Int) := of_decide_eq_true (by first | (with_reducible assumption) | assumption)
                  obtain ⟨ad539, e539, hx539_0⟩ := Kd.at_int HR0.out 4 p539 q539
                  obtain rfl : ad535 = ad539 := (by injection e539)
                  (try simp only [show (4 : Int).toNat = 4 from rfl, Nat.reduceMul, Nat.reduceEqDiff, Go.Addr.add, ↓reduceIte] at hx539_0)
                  have qi539 : (4 < l0.length) = True := eq_true (by omega)
                  (try rw [show ((4 : Int)).toNat = 4 from rfl] at hx539_0)
                  replace p539 := eq_true p539
                  replace q539 := eq_true q539
                  have p540 : 0 ≤ (5 : Int) := (by omega)
                  have q540 : 5 < (l0.length : Int) := of_decide_eq_true (by first | (with_reducible assumption) | assumption)
                  obtain ⟨ad540, e540, hx540_0⟩ := Kd.at_int HR0.out 5 p540 q540
                  obtain rfl : ad535 = ad540 := (by injection e540)
                  (try simp only [show (5 : Int).toNat = 5 from rfl, Nat.reduceMul, Nat.reduceEqDiff, Go.Addr.add, ↓reduceIte] at hx540_0)
                  have qi540 : (5 < l0.length) = True := eq_true (by omega)
                  (try rw [show ((5 : Int)).toNat = 5 from rfl] at hx540_0)
                  replace p540 := eq_true p540
                  replace q540 := eq_true q540
                  have p541 : 0 ≤ (6 : Int) := (by omega)
                  have q541 : 6 < (l0.length : Int) := of_decide_eq_true (by first | (with_reducible assumption) | assumption)
                  obtain ⟨ad541, e541, hx541_0⟩ := Kd.at_int HR0.out 6 p541 q541
                  obtain rfl : ad535 = ad541 := (by injection e541)
                  (try simp only [show (6 : Int).toNat = 6 from rfl, Nat.reduceMul, Nat.reduceEqDiff, Go.Addr.add, ↓reduceIte] at hx541_0)
                  have qi541 : (6 < l0.length) = True := eq_true (by omega)
                  (try rw [show ((6 : Int)).toNat = 6 from rfl] at hx541_0)
                  replace p541 := eq_true p541
                  replace q541 := eq_true q541
                  have p542 : 0 ≤ (7 : Int) := (by omega)
                  have q542 : 7 < (l0.length : Int) := of_decide_eq_true (by first | (with_reducible assumption) | assumption)
                  obtain ⟨ad542, e542, hx542_0⟩ := Kd.at_int HR0.out 7 p542 q542
                  obtain rfl : ad535 = ad542 := (by injection e542)
                  (try simp only [show (7 : Int).toNat = 7 from rfl, Nat.reduceMul, Nat.reduceEqDiff, Go.Addr.add, ↓reduceIte] at hx542_0)
                  have qi542 : (7 < l0.length) = True := eq_true (by omega)
                  (try rw [show ((7 : Int)).toNat = 7 from rfl] at hx542_0)
                  replace p542 := eq_true p542
                  replace q542 := eq_true q542
                  go_enter Tryz.func250, Tryz.ntmps250
                  go_wp2
                  repeat (go_quiet (fail); try go_wp2)
                  go_ret
                  exact ⟨by first | rfl | (simp; done) | (simp [*]; done), by repeat (first | exact Drawn0.refl _ | apply Drawn0.step)⟩
                · rw [if_neg c9] at H
                  exact absurd H (by simp)
              · rw [if_neg c8] at H
                exact absurd H (by simp)
            · rw [if_neg c7] at H
              exact absurd H (by simp)
          · rw [if_neg c6] at H
            exact absurd H (by simp)
        · rw [if_neg c5] at H
          exact absurd H (by simp)
      · rw [if_neg c4] at H
        exact absurd H (by simp)
    · rw [if_neg c3] at H
      exact absurd H (by simp)
  · rw [if_neg c2] at H
    exact absurd H (by simp)
end Go.Proofs.YtkioddjjfifadaaGreatDoor.P
namespace Go.Proofs.YtkioddjjfifadaaGreatDoor.P
open Go.RowKit Go.Proofs.YtkioddjjfifadaaGreatDoorW.PrintWords Go.Proofs.YtkioddjjfifadaaGreatDoorW.PrintLast Go.Proofs.YtkioddjjfifadaaGreatDoorW.PrintMore
theorem son_size (l : List Int) : (strOfNums l).size = l.length := by
  unfold strOfNums
  simp [ByteArray.size]
theorem zs_of (l : List Int) (h : l.all isByte = true) : bytesOf (strOfNums l) = l := by
  have hx : ∀ x ∈ l, (((UInt8.ofNat x.toNat).toNat : Nat) : Int) = x := fun x hx => by
    have := List.all_eq_true.1 h x hx
    simp only [isByte, Bool.and_eq_true, decide_eq_true_eq] at this
    rw [UInt8.toNat_ofNat']
    omega
  unfold bytesOf strOfNums
  simp only [List.map_map]
  exact (List.map_congr_left (g := id) fun x hm => hx x hm).trans (List.map_id l)
/-- The bytes of s lie at A, in a slice with room c. -/
structure BS (w : World) (A : Option Addr) (c : Nat) (s : ByteArray) : Prop where
  room : s.size ≤ c
  reads : Kd.C (Kd.int .u8) w A s.size (bytesOf s)
theorem bt_get (s : ByteArray) (k : Nat) (hk : k < s.size) : bt s (k : Int) = ((s.get! k).toNat : Int) := by
  rw [Utf8W.get!_of_lt s k hk]
  unfold bt
  simp [hk]
theorem BS.cell {w w1 : World} {A : Option Addr} {c : Nat} {s : ByteArray} (h : BS w A c s) (k : Nat) (hk : k < s.size) (hb : Below w.heap.size w w1) : ∃ ad, A = some ad ∧ w1.cell? (ad.add k) = some (.int .u8 ((s.get! k).toNat : Int)) := by
  obtain ⟨ad, e, hc⟩ := Kd.at_int h.reads (k : Int) (by omega) (by omega)
  rw [Int.toNat_natCast, rd_bytesOf, bt_get s k hk] at hc
  exact ⟨ad, e, pw_cell_below hb hc⟩
theorem BS.cut {w : World} {A : Option Addr} {c : Nat} {s : ByteArray} (h : BS w A c s) (k : Nat) (hk : k ≤ s.size) :
    ∃ A' c' t, s.extract k s.size = t ∧ t.size + k = s.size ∧ BS w A' c' t ∧ ∀ W : World, (Instr.slice 22 (.slice A s.size c) (some (.int .i64 (k : Int))) none none).run Tryz.prog W = .ok (.slice A' t.size c') W := by
  obtain ⟨i0, hi0, -, hsz, -⟩ := info_parts info5
  obtain ⟨A', h1, h2⟩ := print_cut_of (P := Tryz.prog) (Value.int .u8) (0 : Int) 22 5 .i64 Tryz.underlying22 hi0 hsz A s.size c k hk
  refine ⟨A', c - k, s.extract k s.size, rfl, by rw [Lib.ext_size]; omega, ⟨by rw [Lib.ext_size]; have := h.room; omega, ?_⟩, fun W => by rw [Lib.ext_size]; exact h1 W⟩
  have hb : bytesOf (s.extract k s.size) = (bytesOf s).drop k := by unfold bytesOf; rw [Lib.ext_list, List.map_drop]
  rw [hb, Lib.ext_size]
  exact Kd.C_of_reads (h2 w _ h.room (Kd.reads_of_C h.reads))
def wordOf (t : ByteArray) : Nat := Lib.leNat [t.get! 0, t.get! 1, t.get! 2, t.get! 3, t.get! 4, t.get! 5, t.get! 6, t.get! 7]
set_option maxRecDepth 100000 in
theorem word_f (t : ByteArray) (h8 : 8 ≤ t.size) : utf8_word_byte.f (bytesOf t) = some ((wordOf t : Nat) : Int) := by
  have hl : (bytesOf t).length = t.size := bytesOf_length t
  have e0 : rd (bytesOf t) 0 = ((t.get! 0).toNat : Int) := (rd_bytesOf t 0).trans (bt_get t 0 (by omega))
  have e1 : rd (bytesOf t) 1 = ((t.get! 1).toNat : Int) := (rd_bytesOf t 1).trans (bt_get t 1 (by omega))
  have e2 : rd (bytesOf t) 2 = ((t.get! 2).toNat : Int) := (rd_bytesOf t 2).trans (bt_get t 2 (by omega))
  have e3 : rd (bytesOf t) 3 = ((t.get! 3).toNat : Int) := (rd_bytesOf t 3).trans (bt_get t 3 (by omega))
  have e4 : rd (bytesOf t) 4 = ((t.get! 4).toNat : Int) := (rd_bytesOf t 4).trans (bt_get t 4 (by omega))
  have e5 : rd (bytesOf t) 5 = ((t.get! 5).toNat : Int) := (rd_bytesOf t 5).trans (bt_get t 5 (by omega))
  have e6 : rd (bytesOf t) 6 = ((t.get! 6).toNat : Int) := (rd_bytesOf t 6).trans (bt_get t 6 (by omega))
  have e7 : rd (bytesOf t) 7 = ((t.get! 7).toNat : Int) := (rd_bytesOf t 7).trans (bt_get t 7 (by omega))
  unfold utf8_word_byte.f
  rw [if_pos (by omega), if_pos (by omega), if_pos (by omega), if_pos (by omega), if_pos (by omega), if_pos (by omega), if_pos (by omega), if_pos (by omega), e0, e1, e2, e3, e4, e5, e6, e7]
  unfold wordOf
  generalize t.get! 0 = x0
  generalize t.get! 1 = x1
  generalize t.get! 2 = x2
  generalize t.get! 3 = x3
  generalize t.get! 4 = x4
  generalize t.get! 5 = x5
  generalize t.get! 6 = x6
  generalize t.get! 7 = x7
  have h0 : x0.toNat < 256 := x0.toNat_lt
  have h1 : x1.toNat < 256 := x1.toNat_lt
  have h2 : x2.toNat < 256 := x2.toNat_lt
  have h3 : x3.toNat < 256 := x3.toNat_lt
  have h4 : x4.toNat < 256 := x4.toNat_lt
  have h5 : x5.toNat < 256 := x5.toNat_lt
  have h6 : x6.toNat < 256 := x6.toNat_lt
  have h7 : x7.toNat < 256 := x7.toNat_lt
  have hv : ((Lib.leNat [x0, x1, x2, x3, x4, x5, x6, x7] : Nat) : Int) = (x0.toNat : Int) + (x1.toNat : Int) * 256 + (x2.toNat : Int) * 65536 + (x3.toNat : Int) * 16777216 + (x4.toNat : Int) * 4294967296 + (x5.toNat : Int) * 1099511627776 + (x6.toNat : Int) * 281474976710656 + (x7.toNat : Int) * 72057594037927936 := by
    simp only [Lib.leNat]
    push_cast
    omega
  simp (disch := omega) only [u64_wrap_id, u64_or8, u64_or16, u64_or24, u64_or32, u64_or40, u64_or48, u64_or56]
  rw [hv]
theorem word_calls {w : World} {A : Option Addr} {c : Nat} {t : ByteArray} (h : BS w A c t) (h8 : 8 ≤ t.size) (W : World) (hb : Below w.heap.size w W) :
    Calls Tryz.prog 250 #[.slice A t.size c] W fun e w' => e = .returned (.int .u64 ((wordOf t : Nat) : Int)) ∧ ∃ q, w' = W.drewN q := by
  have hl : (bytesOf t).length = t.size := bytesOf_length t
  have hC : Kd.C (Kd.int .u8) W A (bytesOf t).length (bytesOf t) := by rw [hl]; exact Kd.C_below h.reads hb
  have := utf8_word_byte.calls A c (bytesOf t) _ W hC (by rw [hl]; exact h.room) (word_f t h8)
  rw [hl] at this
  refine this.mono ?_
  rintro e w' ⟨rfl, hd⟩
  exact ⟨rfl, hd.out⟩
end Go.Proofs.YtkioddjjfifadaaGreatDoor.P
