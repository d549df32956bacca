/- What the proof of SignedFinds needs of: Lt0, Lt2, Lt1, Lt3, Lt4, Lx0, Lx1, Lx2, Lt5, Wit, Lh0, Lh1, Opn, Opw, LSignedSelf, LSignedFinds. -/
import Derived.Lib.ItoaNum
import Derived.Lib.RuneBytes
import Derived.Lib.ValidAsc
import Derived.Lib.TrimUEq
import Derived.Lib.ValidLaws
import Derived.Sort.Walk0
import Derived.Lib.ItoaLen
import Derived.Test.YtkioddjjfifadaaGreatDoorRows
import Derived.Lay
import Derived.LaidHandle
import Derived.LaidOnce
import Derived.KernelRfl
import Derived.Lib.LaidU8
import Derived.Stop.LaidErr
import Derived.Carry
import Derived.Deep.Slices
import Derived.Test.YtkioddjjfifadaaGreatDoorSf2
import Derived.Test.YtkioddjjfifadaaGreatDoorSf4
import Derived.Test.YtkioddjjfifadaaGreatDoorSf6
import Derived.Test.YtkioddjjfifadaaGreatDoorSf7
import Derived.Test.YtkioddjjfifadaaGreatDoorSf8
import Derived.Test.YtkioddjjfifadaaGreatDoorSf11
import Derived.Test.YtkioddjjfifadaaGreatDoorSf12
import Derived.Test.YtkioddjjfifadaaGreatDoorSf13
namespace Go.Proofs.YtkioddjjfifadaaGreatDoor.P
open Go.RowKit Go.Proofs.YtkioddjjfifadaaGreatDoorW.PrintWords
theorem ba_mk_append (a b : List UInt8) : (⟨a.toArray⟩ : ByteArray) ++ (⟨b.toArray⟩ : ByteArray) = ⟨(a ++ b).toArray⟩ := by
  apply ByteArray.ext
  simp [ByteArray.data_append]
theorem w64 {n : Int} (h0 : -9223372036854775808 ≤ n) (h1 : n ≤ 9223372036854775807) : wrap64 n = n := by unfold wrap64; omega
theorem one_digit {u : Nat} (h : u < 10) : strOfNums [(wrap64 (48 + (u : Int))) % 256] = ⟨(Lib.decDigits u).toArray⟩ := by
  rw [Lib.decDigits_one h, w64 (by omega) (by omega)]
  unfold strOfNums
  simp only [List.map_cons, List.map_nil]
  have : ((48 + (u : Int)) % 256).toNat = 48 + u := by omega
  rw [this]
theorem dec_len : ∀ (k u : Nat), u < 10 ^ k → 0 < k → (Lib.decDigits u).length ≤ k
  | 0, _, _, h => absurd h (Nat.lt_irrefl 0)
  | k + 1, u, h, _ => by
    by_cases h10 : u < 10
    · rw [Lib.decDigits_one h10]; simp
    · rw [Nat.pow_succ] at h
      have hk : 0 < k := by
        rcases Nat.eq_zero_or_pos k with rfl | hk
        · simp at h; omega
        · exact hk
      rw [Lib.decDigits, dif_neg h10, List.length_append, List.length_singleton]
      have := dec_len k (u / 10) (by omega) hk
      omega
theorem digits_nat : ∀ (k u : Nat), k ≤ 100000 → u ≤ 9223372036854775807 → u < 10 ^ k → 0 < k → chirographref06_digits.f k (u : Int) = some ⟨(Lib.decDigits u).toArray⟩
  | 0, _, _, _, _, h => absurd h (Nat.lt_irrefl 0)
  | k + 1, u, hk1, hu, h, _ => by
    rw [chirographref06_digits.f, if_neg (by omega)]
    by_cases h10 : u < 10
    · rw [if_neg (by omega), one_digit h10]
    · rw [if_pos (by omega)]
      have h' := h
      rw [Nat.pow_succ] at h'
      have hk : 0 < k := by
        rcases Nat.eq_zero_or_pos k with rfl | hk
        · simp at h'; omega
        · exact hk
      have e1 : wrap64 ((u : Int).tdiv 10) = ((u / 10 : Nat) : Int) := by
        rw [Int.tdiv_eq_ediv_of_nonneg (by omega)]
        unfold wrap64
        omega
      have e2 : (u : Int).tmod 10 = ((u % 10 : Nat) : Int) := by
        rw [Int.tmod_eq_emod_of_nonneg (by omega)]
        omega
      have hp : 10 ≤ 10 ^ k := by
        have := Nat.pow_le_pow_right (n := 10) (by omega) hk
        simpa using this
      rw [e1, e2, digits_nat k (u / 10) (by omega) (by omega) (by omega) hk, digits_nat k (u % 10) (by omega) (by omega) (by omega) hk]
      simp only [Option.bind_some]
      have l1 := dec_len k (u / 10) (by omega) hk
      have l2 := dec_len k (u % 10) (by omega) hk
      rw [if_pos (by simp only [ByteArray.size, List.size_toArray]; omega), ba_mk_append]
      conv => rhs; rw [Lib.decDigits, dif_neg h10]
      rw [Lib.decDigits_one (by omega : u % 10 < 10)]
theorem digits_neg : ∀ (k v : Nat), k ≤ 99998 → 1 ≤ v → v ≤ 9223372036854775808 → v < 10 ^ k → chirographref06_digits.f (k + 1) (-(v : Int)) = some ⟨(45 :: Lib.decDigits v).toArray⟩
  | 0, v, _, h1, _, h => by simp at h; omega
  | k + 1, v, hk1, h1, hv, h => by
    rw [chirographref06_digits.f, if_pos (by omega)]
    by_cases h10 : v < 10
    · rw [if_neg (by omega)]
      have e0 : wrap64 (-(-(v : Int))) = (v : Int) := by unfold wrap64; omega
      rw [e0, digits_nat (k + 1) v (by omega) (by omega) h (by omega)]
      simp only [Option.bind_some]
      have l1 := dec_len (k + 1) v h (by omega)
      rw [if_pos (by simp only [ByteArray.size, List.size_toArray]; omega)]
      exact congrArg some (ba_mk_append [45] _)
    · rw [if_pos (by omega)]
      have h' := h
      rw [Nat.pow_succ] at h'
      have e1 : wrap64 ((-(v : Int)).tdiv 10) = -((v / 10 : Nat) : Int) := by
        rw [Int.neg_tdiv, Int.tdiv_eq_ediv_of_nonneg (by omega)]
        unfold wrap64
        omega
      have e2 : wrap64 (-((-(v : Int)).tmod 10)) = ((v % 10 : Nat) : Int) := by
        rw [Int.neg_tmod, Int.tmod_eq_emod_of_nonneg (by omega)]
        unfold wrap64
        omega
      have hp : 10 ≤ 10 ^ (k + 1) := by
        have := Nat.pow_le_pow_right (n := 10) (by omega) (show 1 ≤ k + 1 by omega)
        simpa using this
      rw [e1, e2, digits_neg k (v / 10) (by omega) (by omega) (by omega) (by omega), digits_nat (k + 1) (v % 10) (by omega) (by omega) (by omega) (by omega)]
      simp only [Option.bind_some]
      have l1 := dec_len (k + 1) (v / 10) (by omega) (by omega)
      have l2 := dec_len (k + 1) (v % 10) (by omega) (by omega)
      rw [if_pos (by simp only [ByteArray.size, List.size_toArray, List.length_cons]; omega), ba_mk_append]
      conv => rhs; rw [Lib.decDigits, dif_neg h10]
      rw [Lib.decDigits_one (by omega : v % 10 < 10)]
      rfl
theorem digits_itoa (k : Nat) (h0 : 30 ≤ k) (h1 : k ≤ 99999) (n : Int) (hn0 : -9223372036854775808 ≤ n) (hn1 : n ≤ 9223372036854775807) : chirographref06_digits.f k n = some ⟨(Lib.itoa n).toArray⟩ := by
  have hp : 10 ^ 29 ≤ 10 ^ (k - 1) := Nat.pow_le_pow_right (by omega) (by omega)
  have hp' : 10 ^ 29 ≤ 10 ^ k := Nat.pow_le_pow_right (by omega) (by omega)
  have hc : (10 : Nat) ^ 29 = 100000000000000000000000000000 := by decide
  rw [hc] at hp hp'
  unfold Lib.itoa
  split
  · rename_i hneg
    obtain ⟨v, rfl⟩ : ∃ v : Nat, n = -(v : Int) := ⟨n.natAbs, by omega⟩
    obtain ⟨k', rfl⟩ : ∃ k', k = k' + 1 := ⟨k - 1, by omega⟩
    rw [digits_neg k' v (by omega) (by omega) (by omega) (by simp only [Nat.add_sub_cancel] at hp; omega)]
    simp
  · rename_i hpos
    obtain ⟨u, rfl⟩ : ∃ u : Nat, n = (u : Int) := ⟨n.toNat, by omega⟩
    rw [digits_nat k u (by omega) (by omega) (by omega) (by omega)]
    simp
theorem decimal_loop : ∀ (k u : Nat) (acc : ByteArray), k ≤ 100000 → u ≤ 9223372036854775807 → u < 10 ^ k → 0 < k → acc.size + k ≤ 1000000 → chirographref04_Decimal.l0 k (u : Int) acc = some ((⟨(Lib.decDigits u).toArray⟩ : ByteArray) ++ acc)
  | 0, _, _, _, _, _, h, _ => absurd h (Nat.lt_irrefl 0)
  | k + 1, u, acc, hk1, hu, h, _, ha => by
    rw [chirographref04_Decimal.l0]
    by_cases h10 : u < 10
    · rw [if_neg (by omega)]
      simp only [Option.bind_some]
      rw [one_digit h10]
      have l1 := dec_len (k + 1) u h (by omega)
      rw [if_pos (by show (Lib.decDigits u).toArray.size + acc.size ≤ _; rw [List.size_toArray]; omega)]
    · rw [if_pos (by omega)]
      have h' := h
      rw [Nat.pow_succ] at h'
      have hk : 0 < k := by
        rcases Nat.eq_zero_or_pos k with rfl | hk
        · simp at h'; omega
        · exact hk
      have e1 : wrap64 ((u : Int).tdiv 10) = ((u / 10 : Nat) : Int) := by
        rw [Int.tdiv_eq_ediv_of_nonneg (by omega)]
        unfold wrap64
        omega
      have e2 : (u : Int).tmod 10 = ((u % 10 : Nat) : Int) := by
        rw [Int.tmod_eq_emod_of_nonneg (by omega)]
        omega
      simp only [Option.bind_some]
      rw [e1, e2, one_digit (by omega : u % 10 < 10)]
      have l2 : (Lib.decDigits (u % 10)).length = 1 := by rw [Lib.decDigits_one (by omega : u % 10 < 10)]; rfl
      rw [if_pos (by show (Lib.decDigits (u % 10)).toArray.size + acc.size ≤ _; rw [List.size_toArray]; omega)]
      rw [decimal_loop k (u / 10) _ (by omega) (by omega) (by omega) hk (by rw [ByteArray.size_append]; show (Lib.decDigits (u % 10)).toArray.size + acc.size + k ≤ _; rw [List.size_toArray]; omega), ← ByteArray.append_assoc, ba_mk_append (Lib.decDigits (u / 10)) (Lib.decDigits (u % 10))]
      conv => rhs; rw [Lib.decDigits, dif_neg h10]
      rw [Lib.decDigits_one (by omega : u % 10 < 10)]
theorem decimal_itoa (k : Nat) (h0 : 30 ≤ k) (h1 : k ≤ 100000) (u : Nat) (hu : u ≤ 9223372036854775807) : chirographref04_Decimal.f k (u : Int) = some ⟨(Lib.itoa (u : Int)).toArray⟩ := by
  have hp' : 10 ^ 29 ≤ 10 ^ k := Nat.pow_le_pow_right (by omega) (by omega)
  have hc : (10 : Nat) ^ 29 = 100000000000000000000000000000 := by decide
  rw [hc] at hp'
  unfold chirographref04_Decimal.f Lib.itoa
  rw [decimal_loop k u _ h1 hu (by omega) (by omega) (by show 0 + k ≤ _; omega), if_neg (by omega)]
  simp
  exact ByteArray.append_empty
end Go.Proofs.YtkioddjjfifadaaGreatDoor.P
namespace Go.Proofs.YtkioddjjfifadaaGreatDoor.P
open Go.RowKit Go.Proofs.YtkioddjjfifadaaGreatDoorW.PrintWords
/-- The bytes of s from i on, m of them. -/
def run (s : ByteArray) (i m : Nat) : List Int := (List.range m).map fun j => bt s ((i + j : Nat) : Int)
theorem run_succ (s : ByteArray) (i m : Nat) : run s i (m + 1) = bt s (i : Int) :: run s (i + 1) m := by
  unfold run
  rw [List.range_succ_eq_map, List.map_cons, List.map_map]
  congr 1
  apply List.map_congr_left
  intro j _
  show bt s ((i + (j + 1) : Nat) : Int) = bt s ((i + 1 + j : Nat) : Int)
  rw [show i + (j + 1) = i + 1 + j by omega]
theorem bt_nat (s : ByteArray) (i : Nat) : bt s (i : Int) = (((s.data.toList.getD i 0).toNat : Nat) : Int) := by
  unfold bt
  rw [Int.toNat_natCast]
  split
  · rename_i h
    have h' : i < s.data.toList.length := by rw [data_length]; exact h
    rw [List.getD_eq_getElem?_getD, List.getElem?_eq_getElem h']
    rfl
  · rename_i h
    rw [List.getD_eq_getElem?_getD, List.getElem?_eq_none (by rw [data_length]; omega)]
    rfl
theorem ext_run (s : ByteArray) (i m : Nat) (h : i + m ≤ s.size) : bytesOf (s.extract i (i + m)) = run s i m := by
  unfold bytesOf run
  rw [Lib.extract_data]
  apply List.ext_getElem?
  intro j
  by_cases hj : j < m
  · simp only [List.getElem?_map, List.getElem?_take, List.getElem?_drop]
    rw [if_pos (by omega), List.getElem?_range hj, List.getElem?_eq_getElem (by rw [data_length]; omega)]
    simp only [Option.map_some]
    rw [bt_nat, List.getD_eq_getElem?_getD, List.getElem?_eq_getElem (by rw [data_length]; omega)]
    rfl
  · rw [List.getElem?_eq_none (by simp; omega), List.getElem?_eq_none (by simp; omega)]
/-- What a rune from 128 on is made of: bytes from 128 on, and (but for U+FFFD) its own encoding. -/
theorem dec_high (n b0 b1 b2 b3 : Nat) (h0 : 128 ≤ b0) (g0 : b0 < 256) (g1 : b1 < 256) (g2 : b2 < 256) (g3 : b3 < 256) :
    128 ≤ (Lib.decodeN n b0 b1 b2 b3).1 ∧ (((Lib.decodeN n b0 b1 b2 b3).1 = 65533 ∧ (Lib.decodeN n b0 b1 b2 b3).2 = 1) ∨ ((Lib.decodeN n b0 b1 b2 b3).2 = 2 ∧ 128 ≤ b1 ∧ Lib.encodeRuneZ ((Lib.decodeN n b0 b1 b2 b3).1 : Int) = [(b0 : Int), (b1 : Int)]) ∨
      ((Lib.decodeN n b0 b1 b2 b3).2 = 3 ∧ 128 ≤ b1 ∧ 128 ≤ b2 ∧ Lib.encodeRuneZ ((Lib.decodeN n b0 b1 b2 b3).1 : Int) = [(b0 : Int), (b1 : Int), (b2 : Int)]) ∨
      ((Lib.decodeN n b0 b1 b2 b3).2 = 4 ∧ 128 ≤ b1 ∧ 128 ≤ b2 ∧ 128 ≤ b3 ∧ Lib.encodeRuneZ ((Lib.decodeN n b0 b1 b2 b3).1 : Int) = [(b0 : Int), (b1 : Int), (b2 : Int), (b3 : Int)])) := by
  unfold Lib.decodeN
  rw [if_neg (by omega)]
  by_cases c1 : b0 / 32 = 6 ∧ (1 < n ∧ b1 / 64 = 2)
  · rw [if_pos c1]
    by_cases d : b0 % 32 * 64 + b1 % 64 ≥ 128
    · rw [if_pos d]
      refine ⟨d, Or.inr (Or.inl ⟨rfl, by omega, ?_⟩)⟩
      rw [Lib.encodeRuneZ_two (by show (128 : Int) ≤ ((b0 % 32 * 64 + b1 % 64 : Nat) : Int); omega) (by show ((b0 % 32 * 64 + b1 % 64 : Nat) : Int) ≤ 2047; omega)]
      congr 1
      · show (192 : Int) + ((b0 % 32 * 64 + b1 % 64 : Nat) : Int) / 64 = _; omega
      · congr 1
        show (128 : Int) + ((b0 % 32 * 64 + b1 % 64 : Nat) : Int) % 64 = _; omega
    · rw [if_neg d]
      exact ⟨by decide, Or.inl ⟨rfl, rfl⟩⟩
  rw [if_neg c1]
  by_cases c2 : b0 / 16 = 14 ∧ (1 < n ∧ b1 / 64 = 2) ∧ (2 < n ∧ b2 / 64 = 2)
  · rw [if_pos c2]
    generalize hv : b0 % 16 * 4096 + b1 % 64 * 64 + b2 % 64 = v
    by_cases d : v ≥ 2048 ∧ (v < 55296 ∨ (57344 ≤ v ∧ v ≤ 1114111))
    · rw [if_pos d]
      refine ⟨by show 128 ≤ v; omega, Or.inr (Or.inr (Or.inl ⟨rfl, by omega, by omega, ?_⟩))⟩
      rw [Lib.encodeRuneZ_three (by show ((2048 : Int) ≤ (v : Int) ∧ (v : Int) < 55296) ∨ (57343 < (v : Int) ∧ (v : Int) ≤ 65535); omega)]
      congr 1
      · show (224 : Int) + (v : Int) / 4096 = _; omega
      · congr 1
        · show (128 : Int) + (v : Int) / 64 % 64 = _; omega
        · congr 1
          show (128 : Int) + (v : Int) % 64 = _; omega
    · rw [if_neg d]
      exact ⟨by decide, Or.inl ⟨rfl, rfl⟩⟩
  rw [if_neg c2]
  by_cases c3 : b0 / 8 = 30 ∧ (1 < n ∧ b1 / 64 = 2) ∧ (2 < n ∧ b2 / 64 = 2) ∧ (3 < n ∧ b3 / 64 = 2)
  · rw [if_pos c3]
    generalize hv : b0 % 8 * 262144 + b1 % 64 * 4096 + b2 % 64 * 64 + b3 % 64 = v
    by_cases d : v ≥ 65536 ∧ (v < 55296 ∨ (57344 ≤ v ∧ v ≤ 1114111))
    · rw [if_pos d]
      refine ⟨by show 128 ≤ v; omega, Or.inr (Or.inr (Or.inr ⟨rfl, by omega, by omega, by omega, ?_⟩))⟩
      rw [Lib.encodeRuneZ_four (by show (65536 : Int) ≤ (v : Int); omega) (by show (v : Int) ≤ 1114111; omega)]
      congr 1
      · show (240 : Int) + (v : Int) / 262144 = _; omega
      · congr 1
        · show (128 : Int) + (v : Int) / 4096 % 64 = _; omega
        · congr 1
          · show (128 : Int) + (v : Int) / 64 % 64 = _; omega
          · congr 1
            show (128 : Int) + (v : Int) % 64 = _; omega
    · rw [if_neg d]
      exact ⟨by decide, Or.inl ⟨rfl, rfl⟩⟩
  rw [if_neg c3]
  exact ⟨by decide, Or.inl ⟨rfl, rfl⟩⟩
theorem bt_rng (s : ByteArray) (i : Int) : 0 ≤ bt s i ∧ bt s i ≤ 255 := bt_range s i
theorem w64'' {n : Int} (h0 : -9223372036854775808 ≤ n) (h1 : n ≤ 9223372036854775807) : wrap64 n = n := by unfold wrap64; omega
theorem fs_other (k : Nat) (s : ByteArray) (X : List Int) (i : Nat) (c : Int) (hi : i < s.size) (hs : s.size ≤ 1099511627776) (hX : X.length < 140737488355328) (hc : bt s (i : Int) = c) (h0 : 0 ≤ c) (h1 : c ≤ 255) (h32 : c ≠ 32) :
    chirographref06_Fold.l0 (k + 2) s X (i : Int) = chirographref06_Fold.l0 k s (X ++ [low c]) ((i + 1 : Nat) : Int) := by
  have e1 : wrap64 ((i : Int) + 1) = ((i + 1 : Nat) : Int) := (w64'' (by omega) (by omega)).trans (by omega)
  have E1 := Aside0.mk e1
  clear e1
  show chirographref06_Fold.l0 (k + 1 + 1) s X (i : Int) = _
  rw [chirographref06_Fold.l0, if_pos (by omega), if_pos (by omega), hc]
  by_cases h65 : c ≥ 65
  · rw [if_pos h65, chirographref06_Fold.j1]
    by_cases h90 : c ≤ 90
    · rw [if_pos (decide_eq_true h90), if_neg (by omega), if_pos hX, E1.out]
      have : (c + 32) % 256 = low c := by unfold low; rw [if_pos ⟨h65, h90⟩]; omega
      rw [this]
    · rw [if_neg (by simpa using h90), if_neg h32, if_pos hX, E1.out]
      have : c = low c := by unfold low; rw [if_neg (fun h => h90 h.2)]
      rw [← this]
  · rw [if_neg h65, chirographref06_Fold.j1, if_neg (by simp), if_neg h32, if_pos hX, E1.out]
    have : c = low c := by unfold low; rw [if_neg (fun h => h65 h.1)]
    rw [← this]
def lastB (X : List Int) : Int := rd X ((X.length : Int) - 1)
theorem lastB_snoc (X : List Int) (c : Int) : lastB (X ++ [c]) = c := by
  unfold lastB
  show (X ++ [c]).getD _ 0 = c
  rw [List.length_append, List.length_singleton, show (((X.length + 1 : Nat) : Int) - 1).toNat = X.length by omega, List.getD_eq_getElem?_getD, List.getElem?_append_right (Nat.le_refl _), Nat.sub_self]
  rfl
theorem fs_blank (k : Nat) (s : ByteArray) (X : List Int) (i : Nat) (hi : i < s.size) (hs : s.size ≤ 1099511627776) (hX : X.length < 140737488355328) (hc : bt s (i : Int) = 32) :
    chirographref06_Fold.l0 (k + 2) s X (i : Int) = if X.length = 0 ∨ lastB X = 32 then chirographref06_Fold.l0 k s X ((i + 1 : Nat) : Int) else chirographref06_Fold.l0 k s (X ++ [32]) ((i + 1 : Nat) : Int) := by
  have e1 : wrap64 ((i : Int) + 1) = ((i + 1 : Nat) : Int) := (w64'' (by omega) (by omega)).trans (by omega)
  have E1 := Aside0.mk e1
  clear e1
  show chirographref06_Fold.l0 (k + 1 + 1) s X (i : Int) = _
  rw [chirographref06_Fold.l0, if_pos (by omega), if_pos (by omega), hc, if_neg (by omega), chirographref06_Fold.j1, if_neg (by simp), if_pos rfl]
  by_cases hz : X.length = 0
  · rw [if_pos (by omega), if_pos (Or.inl hz), E1.out]
  · have e2 : wrap64 ((X.length : Int) - 1) = (X.length : Int) - 1 := w64'' (by omega) (by omega)
    rw [if_neg (by omega), e2]
    clear e2
    rw [if_pos (by omega), if_pos (by omega)]
    by_cases hl : lastB X = 32
    · rw [if_pos (show rd X ((X.length : Int) - 1) = 32 from hl), if_pos (Or.inr hl), E1.out]
    · rw [if_neg (show ¬ rd X ((X.length : Int) - 1) = 32 from hl), if_pos hX, if_neg (show ¬ (X.length = 0 ∨ lastB X = 32) from fun h => h.elim hz hl), E1.out]
theorem fs_end (k : Nat) (s : ByteArray) (X : List Int) (i : Nat) (hi : ¬ i < s.size) (hX : X.length < 140737488355328) :
    chirographref06_Fold.l0 (k + 1) s X (i : Int) = if X.length = 0 ∨ ¬ lastB X = 32 then some (strOfNums X) else some (strOfNums (X.take (X.length - 1))) := by
  rw [chirographref06_Fold.l0, if_neg (by omega)]
  by_cases hz : X.length = 0
  · rw [if_neg (by omega), if_pos (Or.inl hz)]
  · have e2 : wrap64 ((X.length : Int) - 1) = (X.length : Int) - 1 := w64'' (by omega) (by omega)
    rw [if_pos (by omega), e2]
    clear e2
    rw [if_pos (by omega), if_pos (by omega)]
    by_cases hl : lastB X = 32
    · rw [if_pos (show rd X ((X.length : Int) - 1) = 32 from hl), if_pos (by omega), if_neg (fun h => h.elim hz (fun h => h hl)), show ((X.length : Int) - 1).toNat = X.length - 1 by omega]
    · rw [if_neg (show ¬ rd X ((X.length : Int) - 1) = 32 from hl), if_pos (Or.inr hl)]
theorem low_high {c : Int} (h : 128 ≤ c) : low c = c := if_neg (by omega)
theorem fs_run (s : ByteArray) (hs : s.size ≤ 1099511627776) : ∀ (m i k : Nat) (X : List Int), i + m ≤ s.size → (∀ j, j < m → 128 ≤ bt s ((i + j : Nat) : Int)) → X.length + m < 140737488355328 →
    chirographref06_Fold.l0 (k + 2 * m) s X (i : Int) = chirographref06_Fold.l0 k s (X ++ run s i m) ((i + m : Nat) : Int)
  | 0, i, k, X, _, _, _ => by simp [run]
  | m + 1, i, k, X, h, hb, hX => by
    have h0 := hb 0 (by omega)
    rw [Nat.add_zero] at h0
    have hr := bt_rng s (i : Int)
    rw [show k + 2 * (m + 1) = k + 2 * m + 2 by omega, fs_other (k + 2 * m) s X i _ (by omega) hs (by omega) rfl hr.1 hr.2 (by omega), low_high h0,
      fs_run s hs m (i + 1) k (X ++ [bt s (i : Int)]) (by omega) (fun j hj => by have := hb (j + 1) (by omega); rwa [show i + (j + 1) = i + 1 + j by omega] at this) (by rw [List.length_append, List.length_singleton]; omega), run_succ, List.append_assoc, show i + 1 + m = i + (m + 1) by omega]
    rfl
def NS (X : List Int) : Prop := X.length = 0 ∨ ¬ lastB X = 32
theorem lastB_run (s : ByteArray) (X : List Int) (i m : Nat) (hm : 0 < m) : lastB (X ++ run s i m) = bt s ((i + (m - 1) : Nat) : Int) := by
  obtain ⟨m', rfl⟩ : ∃ m', m = m' + 1 := ⟨m - 1, by omega⟩
  have : run s i (m' + 1) = run s i m' ++ [bt s ((i + m' : Nat) : Int)] := by
    unfold run
    rw [List.range_succ, List.map_append]
    rfl
  rw [this, ← List.append_assoc, lastB_snoc, Nat.add_sub_cancel]
theorem fold_main (s : ByteArray) (hs : s.size ≤ 1099511627776) : ∀ (f pos k : Nat) (bl : Bool) (out : List Int), pos ≤ s.size → s.size ≤ f + pos → NS out → out.length ≤ 5 * pos → 2 * (s.size - pos) + 2 ≤ k →
    chirographref06_Fold.l0 k s (foldOut bl out) (pos : Int) = some (strOfNums (foldGo s f pos bl out)) := by
  have fin : ∀ (pos k : Nat) (bl : Bool) (out : List Int), ¬ pos < s.size → pos ≤ s.size → NS out → out.length ≤ 5 * pos → 2 ≤ k → chirographref06_Fold.l0 k s (foldOut bl out) (pos : Int) = some (strOfNums out) := by
    intro pos k bl out h1 h2 hn hl hk
    obtain ⟨k', rfl⟩ : ∃ k', k = k' + 1 := ⟨k - 1, by omega⟩
    unfold foldOut
    by_cases hb : bl = true ∧ 0 < out.length
    · rw [if_pos hb, fs_end k' s _ pos h1 (by rw [List.length_append, List.length_singleton]; omega), if_neg (by rw [lastB_snoc, List.length_append, List.length_singleton]; intro h; rcases h with h | h; omega; exact h rfl), List.length_append, List.length_singleton, Nat.add_sub_cancel, List.take_left']
      rfl
    · rw [if_neg hb, fs_end k' s _ pos h1 (by omega), if_pos (show out.length = 0 ∨ ¬ lastB out = 32 from hn)]
  intro f
  induction f with
  | zero =>
    intro pos k bl out h1 h2 hn hl hk
    rw [foldGo]
    exact fin pos k bl out (by omega) h1 hn hl (by omega)
  | succ f ih =>
    intro pos k bl out h1 h2 hn hl hk
    by_cases hp : pos < s.size
    · obtain ⟨n1, n2, n4⟩ := decode_width s pos hp
      rw [foldGo, if_pos hp]
      have hD := Lib.decode_N s pos
      have hfl : (foldOut bl out).length ≤ out.length + 1 := by unfold foldOut; split <;> simp
      have hb0 := bt_nat s pos
      have hb1 := bt_nat s (pos + 1)
      have hb2 := bt_nat s (pos + 2)
      have hb3 := bt_nat s (pos + 3)
      have g0 := UInt8.toNat_lt (s.data.toList.getD pos 0)
      have g1 := UInt8.toNat_lt (s.data.toList.getD (pos + 1) 0)
      have g2 := UInt8.toNat_lt (s.data.toList.getD (pos + 2) 0)
      have g3 := UInt8.toNat_lt (s.data.toList.getD (pos + 3) 0)
      generalize (s.data.toList.getD pos 0).toNat = b0 at *
      generalize (s.data.toList.getD (pos + 1) 0).toNat = b1 at *
      generalize (s.data.toList.getD (pos + 2) 0).toNat = b2 at *
      generalize (s.data.toList.getD (pos + 3) 0).toNat = b3 at *
      by_cases hlow : b0 < 128
      · have hD1 : Utf8.decode s pos = (b0, 1) := by rw [hD]; unfold Lib.decodeN; rw [if_pos hlow]
        rw [hD1]
        dsimp only
        clear hD hD1 n1 n2 n4 hb1 hb2 hb3
        obtain ⟨k', rfl⟩ : ∃ k', k = k' + 2 := ⟨k - 2, by omega⟩
        by_cases h32 : (b0 : Int) = 32
        · rw [if_pos h32, fs_blank k' s _ pos hp hs (by omega) (hb0.trans h32)]
          have hfo : (if (foldOut bl out).length = 0 ∨ lastB (foldOut bl out) = 32 then chirographref06_Fold.l0 k' s (foldOut bl out) ((pos + 1 : Nat) : Int) else chirographref06_Fold.l0 k' s (foldOut bl out ++ [32]) ((pos + 1 : Nat) : Int)) = chirographref06_Fold.l0 k' s (foldOut true out) ((pos + 1 : Nat) : Int) := by
            unfold foldOut
            by_cases hz : out.length = 0
            · have hzz : ∀ b : Bool, ¬ (b = true ∧ 0 < out.length) := fun b h => absurd h.2 (by omega)
              rw [if_neg (hzz bl), if_neg (hzz true), if_pos (Or.inl hz)]
            · rw [if_pos (show true = true ∧ 0 < out.length from ⟨rfl, by omega⟩)]
              cases bl with
              | true => rw [if_pos (show true = true ∧ 0 < out.length from ⟨rfl, by omega⟩), if_pos (Or.inr (lastB_snoc out 32))]
              | false =>
                rw [if_neg (show ¬ (false = true ∧ 0 < out.length) from fun h => by cases h.1), if_neg (fun h => h.elim hz (hn.resolve_left hz))]
          rw [hfo]
          exact ih (pos + 1) k' true out (by omega) (by omega) hn (by omega) (by omega)
        · rw [if_neg h32]
          have hlo : 0 ≤ low (b0 : Int) ∧ low (b0 : Int) ≤ 127 ∧ low (b0 : Int) ≠ 32 := by unfold low; split <;> omega
          have hne : ¬ low (b0 : Int) = 65533 := by omega
          rw [if_neg hne, Lib.encodeRuneZ_one hlo.1 hlo.2.1, fs_other k' s _ pos _ hp hs (by omega) hb0 (by omega) (by omega) h32]
          have := ih (pos + 1) k' false (foldOut bl out ++ [low (b0 : Int)]) (by omega) (by omega) (Or.inr (by rw [lastB_snoc]; exact hlo.2.2)) (by rw [List.length_append, List.length_singleton]; omega) (by omega)
          rw [show foldOut false (foldOut bl out ++ [low (b0 : Int)]) = foldOut bl out ++ [low (b0 : Int)] from if_neg (fun h => by cases h.1)] at this
          exact this
      · obtain ⟨d1, d2⟩ := dec_high (s.data.toList.length - pos) b0 b1 b2 b3 (by omega) g0 g1 g2 g3
        rw [← hD] at d1 d2
        clear hD
        generalize hDD : Utf8.decode s pos = D at *
        rw [if_neg (by omega), low_high (by omega)]
        have hrun : ∀ j, j < D.2 → 128 ≤ bt s ((pos + j : Nat) : Int) := by
          intro j hj
          rcases d2 with ⟨_, e⟩ | ⟨e, q1, _⟩ | ⟨e, q1, q2, _⟩ | ⟨e, q1, q2, q3, _⟩
          all_goals
            rw [e] at hj
            have hjc : j = 0 ∨ j = 1 ∨ j = 2 ∨ j = 3 := by omega
            rcases hjc with rfl | rfl | rfl | rfl <;> first | omega | (rw [Nat.add_zero, hb0]; omega) | (rw [hb1]; omega) | (rw [hb2]; omega) | (rw [hb3]; omega)
        have hext : bytesOf (s.extract pos (pos + D.2)) = run s pos D.2 := ext_run s pos D.2 n2
        have henc : D.1 ≠ 65533 → Lib.encodeRuneZ (D.1 : Int) = run s pos D.2 := by
          intro hne
          rcases d2 with ⟨e, _⟩ | ⟨e, _, e'⟩ | ⟨e, _, _, e'⟩ | ⟨e, _, _, _, e'⟩
          · exact absurd e hne
          · rw [e', e, run_succ, run_succ, hb0, show ((pos + 1 : Nat) : Int) = ((pos + 1 : Nat) : Int) from rfl, hb1]; rfl
          · rw [e', e, run_succ, run_succ, run_succ, hb0, hb1, show pos + 1 + 1 = pos + 2 from rfl, hb2]; rfl
          · rw [e', e, run_succ, run_succ, run_succ, run_succ, hb0, hb1, show pos + 1 + 1 = pos + 2 from rfl, hb2, show pos + 2 + 1 = pos + 3 from rfl, hb3]; rfl
        have hgo : (if (D.1 : Int) = 65533 then foldGo s f (pos + D.2) false (foldOut bl out ++ bytesOf (s.extract pos (pos + D.2))) else foldGo s f (pos + D.2) false (foldOut bl out ++ Lib.encodeRuneZ (D.1 : Int))) = foldGo s f (pos + D.2) false (foldOut bl out ++ run s pos D.2) := by
          by_cases he : (D.1 : Int) = 65533
          · rw [if_pos he, hext]
          · rw [if_neg he, henc (by omega)]
        rw [hgo]
        clear hgo henc hext d2 hb0 hb1 hb2 hb3
        obtain ⟨k', rfl⟩ : ∃ k', k = k' + 2 * D.2 := ⟨k - 2 * D.2, by omega⟩
        rw [fs_run s hs D.2 pos k' _ n2 hrun (by omega)]
        have hrl : (run s pos D.2).length = D.2 := by simp [run]
        have := ih (pos + D.2) k' false (foldOut bl out ++ run s pos D.2) n2 (by omega) (Or.inr (by
          rw [lastB_run s _ pos D.2 (by omega)]
          have := hrun (D.2 - 1) (by omega)
          omega)) (by rw [List.length_append, hrl]; omega) (by omega)
        rw [show foldOut false (foldOut bl out ++ run s pos D.2) = foldOut bl out ++ run s pos D.2 from if_neg (fun h => by cases h.1)] at this
        exact this
    · rw [foldGo, if_neg hp]
      exact fin pos k bl out hp h1 hn hl (by omega)
theorem fold_eq (s r : ByteArray) (k : Nat) (hk : 2 * s.size + 2 ≤ k) (h : text_Fold.f s = some r) : chirographref06_Fold.f k s = some r := by
  unfold text_Fold.f at h
  split at h
  · rename_i hs
    rw [← h]
    have := fold_main s hs s.size 0 k false [] (Nat.zero_le _) (by omega) (Or.inl rfl) (Nat.le_refl _) (by omega)
    rw [show foldOut false [] = ([] : List Int) from rfl] at this
    exact this
  · cases h
end Go.Proofs.YtkioddjjfifadaaGreatDoor.P
namespace Go.Proofs.YtkioddjjfifadaaGreatDoor.P
open Go.RowKit Go.Proofs.YtkioddjjfifadaaGreatDoorW.PrintWords
theorem w64' {n : Int} (h0 : -9223372036854775808 ≤ n) (h1 : n ≤ 9223372036854775807) : wrap64 n = n := by unfold wrap64; omega
theorem wh_step (k : Nat) (l : List Int) (i n v least x b : Int) (hx : x < i + n) (hx0 : 0 ≤ x) (hxl : x < (l.length : Int)) (hb : rd l x = b) (hb0 : 0 ≤ b) (hb1 : b ≤ 255) (hv0 : 0 ≤ v) (hv1 : v ≤ 1000000) (hi : i + n ≤ 1000000000) (hi0 : 0 ≤ i + n) (hlen : l.length ≤ 1000000000) :
    chirographref06_whole.l0 (k + 1) l i n v least x = if b < 128 then some 0 else if b ≥ 192 then some 0 else chirographref06_whole.l0 k l i n (v * 64 + b - 128) least (x + 1) := by
  have e1 : wrap64 (i + n) = i + n := w64' (by omega) (by omega)
  have e2 : wrap64 b = b := by unfold wrap64; omega
  have e3 : wrap64 (v * 64) = v * 64 := by unfold wrap64; omega
  have e4 : wrap64 (v * 64 + b) = v * 64 + b := by unfold wrap64; omega
  have e5 : wrap64 (v * 64 + b - 128) = v * 64 + b - 128 := by unfold wrap64; omega
  have e6 : wrap64 (x + 1) = x + 1 := by unfold wrap64; omega
  rw [chirographref06_whole.l0, e1, if_pos hx, if_pos hx0, if_pos hxl, hb, e2, e3, e4, e5, e6]
def fin (n v least : Int) : Option Int := if v < least then some 0 else if v > 1114111 then some 0 else if v ≥ 55296 then (if v ≤ 57343 then some 0 else some n) else some n
theorem wh_end (k : Nat) (l : List Int) (i n v least : Int) (hi : i + n ≤ 1000000000) (hi0 : 0 ≤ i + n) : chirographref06_whole.l0 (k + 1) l i n v least (i + n) = fin n v least := by
  have e1 : wrap64 (i + n) = i + n := w64' (by omega) (by omega)
  rw [chirographref06_whole.l0, e1, if_neg (by omega)]
  rfl
/-- What whole answers of n bytes that begin b0 b1 b2 b3. -/
def wholeN (n : Nat) (b0 b1 b2 b3 : Int) : Int :=
  if b0 < 128 then 1
  else if 192 ≤ b0 ∧ b0 < 224 then (if n < 2 ∨ b1 < 128 ∨ 192 ≤ b1 ∨ (b0 - 192) * 64 + b1 - 128 < 128 then 0 else 2)
  else if 224 ≤ b0 ∧ b0 < 240 then (if n < 3 ∨ b1 < 128 ∨ 192 ≤ b1 ∨ b2 < 128 ∨ 192 ≤ b2 ∨ ((b0 - 224) * 64 + b1 - 128) * 64 + b2 - 128 < 2048 ∨ (55296 ≤ ((b0 - 224) * 64 + b1 - 128) * 64 + b2 - 128 ∧ ((b0 - 224) * 64 + b1 - 128) * 64 + b2 - 128 ≤ 57343) then 0 else 3)
  else if 240 ≤ b0 ∧ b0 < 248 then (if n < 4 ∨ b1 < 128 ∨ 192 ≤ b1 ∨ b2 < 128 ∨ 192 ≤ b2 ∨ b3 < 128 ∨ 192 ≤ b3 ∨ (((b0 - 240) * 64 + b1 - 128) * 64 + b2 - 128) * 64 + b3 - 128 < 65536 ∨ 1114111 < (((b0 - 240) * 64 + b1 - 128) * 64 + b2 - 128) * 64 + b3 - 128 then 0 else 4)
  else 0
theorem wrap_ij (i : Nat) (j : Int) (hi : i ≤ 1000000) (hj0 : 0 ≤ j) (hj : j ≤ 10) : wrap64 ((i : Int) + j) = (i : Int) + j := w64' (by omega) (by omega)
theorem wrap_byte (b j : Int) (h0 : 0 ≤ b) (h1 : b ≤ 255) (hj0 : 0 ≤ j) (hj : j ≤ 255) : wrap64 (b - j) = b - j := w64' (by omega) (by omega)
theorem wrap_byte0 (b : Int) (h0 : 0 ≤ b) (h1 : b ≤ 255) : wrap64 b = b := w64' (by omega) (by omega)
/-- The loop of whole over one, two, three bytes more. -/
theorem wh_one (k : Nat) (l : List Int) (i : Nat) (n v least b1 : Int) (hn : n = 2) (hlen : (i : Int) + n ≤ l.length) (hl : l.length ≤ 1000000) (e1 : rd l ((i : Int) + 1) = b1) (s0 : 0 ≤ b1) (s1 : b1 ≤ 255) (hv0 : 0 ≤ v) (hv1 : v ≤ 255) :
    chirographref06_whole.l0 (k + 2) l (i : Int) n v least ((i : Int) + 1) = if b1 < 128 then some 0 else if b1 ≥ 192 then some 0 else fin n (v * 64 + b1 - 128) least := by
  subst hn
  rw [wh_step _ l i 2 v least ((i : Int) + 1) b1 (by omega) (by omega) (by omega) e1 s0 s1 hv0 (by omega) (by omega) (by omega) (by omega), show (i : Int) + 1 + 1 = (i : Int) + 2 by omega, wh_end _ l i 2 _ least (by omega) (by omega)]
theorem wh_two (k : Nat) (l : List Int) (i : Nat) (n v least b1 b2 : Int) (hn : n = 3) (hlen : (i : Int) + n ≤ l.length) (hl : l.length ≤ 1000000) (e1 : rd l ((i : Int) + 1) = b1) (s0 : 0 ≤ b1) (s1 : b1 ≤ 255) (e2 : rd l ((i : Int) + 2) = b2) (t0 : 0 ≤ b2) (t1 : b2 ≤ 255) (hv0 : 0 ≤ v) (hv1 : v ≤ 255) :
    chirographref06_whole.l0 (k + 3) l (i : Int) n v least ((i : Int) + 1) = if b1 < 128 then some 0 else if b1 ≥ 192 then some 0 else if b2 < 128 then some 0 else if b2 ≥ 192 then some 0 else fin n ((v * 64 + b1 - 128) * 64 + b2 - 128) least := by
  subst hn
  have E2 := Aside0.mk e2
  clear e2
  rw [wh_step _ l i 3 v least ((i : Int) + 1) b1 (by omega) (by omega) (by omega) e1 s0 s1 hv0 (by omega) (by omega) (by omega) (by omega), show (i : Int) + 1 + 1 = (i : Int) + 2 by omega]
  clear e1
  by_cases h1 : b1 < 128
  · rw [if_pos h1, if_pos h1]
  rw [if_neg h1, if_neg h1]
  by_cases h2 : b1 ≥ 192
  · rw [if_pos h2, if_pos h2]
  rw [if_neg h2, if_neg h2, wh_step _ l i 3 _ least ((i : Int) + 2) b2 (by omega) (by omega) (by omega) E2.out t0 t1 (by omega) (by omega) (by omega) (by omega) (by omega), show (i : Int) + 2 + 1 = (i : Int) + 3 by omega, wh_end _ l i 3 _ least (by omega) (by omega)]
theorem wh_three (k : Nat) (l : List Int) (i : Nat) (n v least b1 b2 b3 : Int) (hn : n = 4) (hlen : (i : Int) + n ≤ l.length) (hl : l.length ≤ 1000000) (e1 : rd l ((i : Int) + 1) = b1) (s0 : 0 ≤ b1) (s1 : b1 ≤ 255) (e2 : rd l ((i : Int) + 2) = b2) (t0 : 0 ≤ b2) (t1 : b2 ≤ 255) (e3 : rd l ((i : Int) + 3) = b3) (u0 : 0 ≤ b3) (u1 : b3 ≤ 255) (hv0 : 0 ≤ v) (hv1 : v ≤ 7) :
    chirographref06_whole.l0 (k + 4) l (i : Int) n v least ((i : Int) + 1) = if b1 < 128 then some 0 else if b1 ≥ 192 then some 0 else if b2 < 128 then some 0 else if b2 ≥ 192 then some 0 else if b3 < 128 then some 0 else if b3 ≥ 192 then some 0 else fin n (((v * 64 + b1 - 128) * 64 + b2 - 128) * 64 + b3 - 128) least := by
  subst hn
  have E2 := Aside0.mk e2
  have E3 := Aside0.mk e3
  clear e2 e3
  rw [wh_step _ l i 4 v least ((i : Int) + 1) b1 (by omega) (by omega) (by omega) e1 s0 s1 hv0 (by omega) (by omega) (by omega) (by omega), show (i : Int) + 1 + 1 = (i : Int) + 2 by omega]
  clear e1
  by_cases h1 : b1 < 128
  · rw [if_pos h1, if_pos h1]
  rw [if_neg h1, if_neg h1]
  by_cases h2 : b1 ≥ 192
  · rw [if_pos h2, if_pos h2]
  rw [if_neg h2, if_neg h2, wh_step _ l i 4 _ least ((i : Int) + 2) b2 (by omega) (by omega) (by omega) E2.out t0 t1 (by omega) (by omega) (by omega) (by omega) (by omega), show (i : Int) + 2 + 1 = (i : Int) + 3 by omega]
  by_cases h3 : b2 < 128
  · rw [if_pos h3, if_pos h3]
  rw [if_neg h3, if_neg h3]
  by_cases h4 : b2 ≥ 192
  · rw [if_pos h4, if_pos h4]
  rw [if_neg h4, if_neg h4, wh_step _ l i 4 _ least ((i : Int) + 3) b3 (by omega) (by omega) (by omega) E3.out u0 u1 (by omega) (by omega) (by omega) (by omega) (by omega), show (i : Int) + 3 + 1 = (i : Int) + 4 by omega, wh_end _ l i 4 _ least (by omega) (by omega)]
set_option maxHeartbeats 2000000 in
theorem whole_N (k : Nat) (l : List Int) (i : Nat) (hi : i < l.length) (hlen : l.length ≤ 1000000) (hb : l.all isByte = true) :
    chirographref06_whole.f (k + 10) l (i : Int) = some (wholeN (l.length - i) (rd l i) (rd l ((i : Int) + 1)) (rd l ((i : Int) + 2)) (rd l ((i : Int) + 3))) := by
  obtain ⟨p0, p1⟩ := rd_byte l hb (i : Int) (by omega) (by omega)
  have R1 : (i : Int) + 1 < l.length → 0 ≤ rd l ((i : Int) + 1) ∧ rd l ((i : Int) + 1) ≤ 255 := fun h => rd_byte l hb _ (by omega) h
  have R2 : (i : Int) + 2 < l.length → 0 ≤ rd l ((i : Int) + 2) ∧ rd l ((i : Int) + 2) ≤ 255 := fun h => rd_byte l hb _ (by omega) h
  have R3 : (i : Int) + 3 < l.length → 0 ≤ rd l ((i : Int) + 3) ∧ rd l ((i : Int) + 3) ≤ 255 := fun h => rd_byte l hb _ (by omega) h
  have q0 : (0 : Int) ≤ (i : Int) := by omega
  have q1 : (i : Int) < (l.length : Int) := by omega
  have w1 := wrap_ij i 1 (by omega) (by omega) (by omega)
  have w2 := wrap_ij i 2 (by omega) (by omega) (by omega)
  have w3 := wrap_ij i 3 (by omega) (by omega) (by omega)
  have w4 := wrap_ij i 4 (by omega) (by omega) (by omega)
  have W1 := Aside0.mk w1; have W2 := Aside0.mk w2; have W3 := Aside0.mk w3; have W4 := Aside0.mk w4
  have Q1 := Aside0.mk R1; have Q2 := Aside0.mk R2; have Q3 := Aside0.mk R3
  clear w1 w2 w3 w4 R1 R2 R3
  have E0 : Aside0 (∃ b, rd l (i : Int) = b) := ⟨_, rfl⟩
  have W0 := Aside0.mk (wrap_byte0 _ p0 p1)
  have V2 := Aside0.mk (wrap_byte _ 192 p0 p1 (by omega) (by omega))
  have V3 := Aside0.mk (wrap_byte _ 224 p0 p1 (by omega) (by omega))
  have V4 := Aside0.mk (wrap_byte _ 240 p0 p1 (by omega) (by omega))
  unfold chirographref06_whole.f
  rw [if_pos q0, if_pos q1, W0.out]
  clear W0 E0
  generalize hb0 : rd l (i : Int) = b0 at *
  generalize hb1 : rd l ((i : Int) + 1) = b1 at *
  generalize hb2 : rd l ((i : Int) + 2) = b2 at *
  generalize hb3 : rd l ((i : Int) + 3) = b3 at *
  have E1 := Aside0.mk hb1
  have E2 := Aside0.mk hb2
  have E3 := Aside0.mk hb3
  clear hb0 hb1 hb2 hb3 q0 q1 hb
  unfold wholeN
  by_cases c0 : b0 < 128
  · rw [if_pos c0, if_pos c0]
  rw [if_neg c0, if_neg c0]
  by_cases c1 : b0 ≥ 192
  · rw [if_pos c1]
    by_cases c2 : b0 < 224
    · rw [if_pos ⟨c1, c2⟩, chirographref06_whole.j0, if_pos (decide_eq_true c2), V2.out, chirographref06_whole.j2, W2.out, W1.out]
      clear V2 V3 V4 W1 W2 W3 W4
      by_cases hn : (i : Int) + 2 > l.length
      · rw [if_pos hn, if_pos (Or.inl (by omega))]
      · obtain ⟨s0, s1⟩ := Q1.out (by omega)
        rw [if_neg hn, wh_one (k + 6) l i 2 _ 128 b1 rfl (by omega) hlen E1.out s0 s1 (by omega) (by omega)]
        unfold fin
        clear E1 E2 E3 Q1 Q2 Q3
        repeat' split
        all_goals first | rfl | (exfalso; omega)
    · rw [if_neg (by omega), chirographref06_whole.j0, if_neg (by simpa using c2)]
      by_cases c3 : b0 ≥ 224
      · rw [if_pos c3, chirographref06_whole.j1]
        by_cases c4 : b0 < 240
        · rw [if_pos (decide_eq_true c4), if_pos ⟨c3, c4⟩, V3.out, chirographref06_whole.j2, W3.out, W1.out]
          clear V2 V3 V4 W1 W2 W3 W4
          by_cases hn : (i : Int) + 3 > l.length
          · rw [if_pos hn, if_pos (Or.inl (by omega))]
          · obtain ⟨s0, s1⟩ := Q1.out (by omega)
            obtain ⟨t0, t1⟩ := Q2.out (by omega)
            rw [if_neg hn, wh_two (k + 4) l i 3 _ 2048 b1 b2 rfl (by omega) hlen E1.out s0 s1 E2.out t0 t1 (by omega) (by omega)]
            unfold fin
            clear E1 E2 E3 Q1 Q2 Q3
            repeat' split
            all_goals first | rfl | (exfalso; omega)
        · rw [if_neg (by simpa using c4), if_pos (show b0 ≥ 240 by omega), if_neg (show ¬ (224 ≤ b0 ∧ b0 < 240) by omega)]
          by_cases c5 : b0 < 248
          · rw [if_pos c5, if_pos ⟨by omega, c5⟩, V4.out, chirographref06_whole.j2, W4.out, W1.out]
            clear V2 V3 V4 W1 W2 W3 W4
            by_cases hn : (i : Int) + 4 > l.length
            · rw [if_pos hn, if_pos (Or.inl (by omega))]
            · obtain ⟨s0, s1⟩ := Q1.out (by omega)
              obtain ⟨t0, t1⟩ := Q2.out (by omega)
              obtain ⟨u0, u1⟩ := Q3.out (by omega)
              rw [if_neg hn, wh_three (k + 3) l i 4 _ 65536 b1 b2 b3 rfl (by omega) hlen E1.out s0 s1 E2.out t0 t1 E3.out u0 u1 (by omega) (by omega)]
              unfold fin
              clear E1 E2 E3 Q1 Q2 Q3
              repeat' split
              all_goals first | rfl | (exfalso; omega)
          · rw [if_neg c5, if_neg (by omega)]
      · rw [if_neg c3, chirographref06_whole.j1, if_neg (by simp), if_neg (by omega), if_neg (by omega), if_neg (by omega)]
  · rw [if_neg c1, if_neg (by omega), if_neg (by omega), if_neg (by omega), chirographref06_whole.j0, if_neg (by simp), if_neg (by omega), chirographref06_whole.j1, if_neg (by simp), if_neg (by omega)]
/-- No rune: the decoder's answer at what is no character. -/
def bad (D : Nat × Nat) : Prop := D.1 = 65533 ∧ D.2 = 1
instance (D : Nat × Nat) : Decidable (bad D) := by unfold bad; infer_instance
theorem bad_bad : bad (65533, 1) := ⟨rfl, rfl⟩
theorem not_bad {v n : Nat} (h : n ≠ 1) : ¬ bad (v, n) := fun hb => h hb.2
theorem wholeN_decode (n b0 b1 b2 b3 : Nat) (hn : 1 ≤ n) (h0 : b0 < 256) (h1 : b1 < 256) (h2 : b2 < 256) (h3 : b3 < 256) :
    wholeN n (b0 : Int) (b1 : Int) (b2 : Int) (b3 : Int) = if bad (Lib.decodeN n b0 b1 b2 b3) then 0 else (((Lib.decodeN n b0 b1 b2 b3).2 : Nat) : Int) := by
  unfold wholeN Lib.decodeN
  by_cases c0 : b0 < 128
  · rw [if_pos (show (b0 : Int) < 128 by omega), if_pos c0, if_neg (fun hb : bad (b0, 1) => by have := hb.1; simp at this; omega)]
    rfl
  rw [if_neg (show ¬ (b0 : Int) < 128 by omega), if_neg c0]
  by_cases c1 : 192 ≤ b0 ∧ b0 < 224
  · rw [if_pos (show (192 : Int) ≤ b0 ∧ (b0 : Int) < 224 by omega)]
    by_cases d1 : 1 < n ∧ b1 / 64 = 2
    · rw [if_pos (show b0 / 32 = 6 ∧ (1 < n ∧ b1 / 64 = 2) from ⟨by omega, d1⟩)]
      by_cases d2 : b0 % 32 * 64 + b1 % 64 ≥ 128
      · rw [if_pos d2, if_neg (not_bad (by omega)), if_neg (by omega)]
        rfl
      · rw [if_neg d2, if_pos bad_bad, if_pos (by omega)]
    · rw [if_neg (show ¬ (b0 / 32 = 6 ∧ (1 < n ∧ b1 / 64 = 2)) from fun h => d1 h.2), if_neg (show ¬ (b0 / 16 = 14 ∧ (1 < n ∧ b1 / 64 = 2) ∧ (2 < n ∧ b2 / 64 = 2)) from fun h => d1 h.2.1), if_neg (show ¬ (b0 / 8 = 30 ∧ (1 < n ∧ b1 / 64 = 2) ∧ (2 < n ∧ b2 / 64 = 2) ∧ (3 < n ∧ b3 / 64 = 2)) from fun h => d1 h.2.1), if_pos bad_bad, if_pos (by omega)]
  rw [if_neg (show ¬ ((192 : Int) ≤ b0 ∧ (b0 : Int) < 224) by omega), if_neg (show ¬ (b0 / 32 = 6 ∧ (1 < n ∧ b1 / 64 = 2)) from fun h => c1 (by omega))]
  by_cases c2 : 224 ≤ b0 ∧ b0 < 240
  · rw [if_pos (show (224 : Int) ≤ b0 ∧ (b0 : Int) < 240 by omega)]
    by_cases d1 : (1 < n ∧ b1 / 64 = 2) ∧ (2 < n ∧ b2 / 64 = 2)
    · rw [if_pos (show b0 / 16 = 14 ∧ (1 < n ∧ b1 / 64 = 2) ∧ (2 < n ∧ b2 / 64 = 2) from ⟨by omega, d1⟩)]
      by_cases d2 : b0 % 16 * 4096 + b1 % 64 * 64 + b2 % 64 ≥ 2048 ∧ (b0 % 16 * 4096 + b1 % 64 * 64 + b2 % 64 < 55296 ∨ (57344 ≤ b0 % 16 * 4096 + b1 % 64 * 64 + b2 % 64 ∧ b0 % 16 * 4096 + b1 % 64 * 64 + b2 % 64 ≤ 1114111))
      · rw [if_pos d2, if_neg (not_bad (by omega)), if_neg (by omega)]
        rfl
      · rw [if_neg d2, if_pos bad_bad, if_pos (by omega)]
    · rw [if_neg (show ¬ (b0 / 16 = 14 ∧ (1 < n ∧ b1 / 64 = 2) ∧ (2 < n ∧ b2 / 64 = 2)) from fun h => d1 h.2), if_neg (show ¬ (b0 / 8 = 30 ∧ (1 < n ∧ b1 / 64 = 2) ∧ (2 < n ∧ b2 / 64 = 2) ∧ (3 < n ∧ b3 / 64 = 2)) from fun h => d1 ⟨h.2.1, h.2.2.1⟩), if_pos bad_bad, if_pos (by omega)]
  rw [if_neg (show ¬ ((224 : Int) ≤ b0 ∧ (b0 : Int) < 240) by omega), if_neg (show ¬ (b0 / 16 = 14 ∧ (1 < n ∧ b1 / 64 = 2) ∧ (2 < n ∧ b2 / 64 = 2)) from fun h => c2 (by omega))]
  by_cases c3 : 240 ≤ b0 ∧ b0 < 248
  · rw [if_pos (show (240 : Int) ≤ b0 ∧ (b0 : Int) < 248 by omega)]
    by_cases d1 : (1 < n ∧ b1 / 64 = 2) ∧ (2 < n ∧ b2 / 64 = 2) ∧ (3 < n ∧ b3 / 64 = 2)
    · rw [if_pos (show b0 / 8 = 30 ∧ (1 < n ∧ b1 / 64 = 2) ∧ (2 < n ∧ b2 / 64 = 2) ∧ (3 < n ∧ b3 / 64 = 2) from ⟨by omega, d1⟩)]
      by_cases d2 : b0 % 8 * 262144 + b1 % 64 * 4096 + b2 % 64 * 64 + b3 % 64 ≥ 65536 ∧ (b0 % 8 * 262144 + b1 % 64 * 4096 + b2 % 64 * 64 + b3 % 64 < 55296 ∨ (57344 ≤ b0 % 8 * 262144 + b1 % 64 * 4096 + b2 % 64 * 64 + b3 % 64 ∧ b0 % 8 * 262144 + b1 % 64 * 4096 + b2 % 64 * 64 + b3 % 64 ≤ 1114111))
      · rw [if_pos d2, if_neg (not_bad (by omega)), if_neg (by omega)]
        rfl
      · rw [if_neg d2, if_pos bad_bad, if_pos (by omega)]
    · rw [if_neg (show ¬ (b0 / 8 = 30 ∧ (1 < n ∧ b1 / 64 = 2) ∧ (2 < n ∧ b2 / 64 = 2) ∧ (3 < n ∧ b3 / 64 = 2)) from fun h => d1 h.2), if_pos bad_bad, if_pos (by omega)]
  rw [if_neg (show ¬ ((240 : Int) ≤ b0 ∧ (b0 : Int) < 248) by omega), if_neg (show ¬ (b0 / 8 = 30 ∧ (1 < n ∧ b1 / 64 = 2) ∧ (2 < n ∧ b2 / 64 = 2) ∧ (3 < n ∧ b3 / 64 = 2)) from fun h => c3 (by omega)), if_pos bad_bad]
/-- The bytes of a row of numbers. -/
theorem sn_get (l : List Int) (hb : l.all isByte = true) (i : Nat) (h : i < l.length) : ((((strOfNums l).data.toList.getD i 0).toNat : Nat) : Int) = rd l (i : Int) := by
  have hr := rd_byte l hb (i : Int) (by omega) (by omega)
  have e1 : rd l (i : Int) = l[i]'h := by
    show l.getD (i : Int).toNat 0 = _
    rw [Int.toNat_natCast, List.getD_eq_getElem?_getD, List.getElem?_eq_getElem h]
    rfl
  rw [e1] at hr ⊢
  unfold strOfNums
  simp only [List.getD_eq_getElem?_getD, List.getElem?_map, List.getElem?_eq_getElem h, Option.map_some, Option.getD_some, UInt8.toNat_ofNat']
  omega
theorem sn_len (l : List Int) : (strOfNums l).data.toList.length = l.length := by
  unfold strOfNums
  simp
theorem sn_get' (l : List Int) (hb : l.all isByte = true) (i : Nat) : ((((strOfNums l).data.toList.getD i 0).toNat : Nat) : Int) = rd l (i : Int) := by
  by_cases h : i < l.length
  · exact sn_get l hb i h
  · have e1 : rd l (i : Int) = 0 := by
      show l.getD (i : Int).toNat 0 = _
      rw [Int.toNat_natCast, List.getD_eq_getElem?_getD, List.getElem?_eq_none (by omega)]
      rfl
    rw [e1, List.getD_eq_getElem?_getD, List.getElem?_eq_none (by rw [sn_len]; omega)]
    rfl
theorem wholeN_le (n : Nat) (b0 b1 b2 b3 : Int) : 0 ≤ wholeN n b0 b1 b2 b3 ∧ wholeN n b0 b1 b2 b3 ≤ 4 := by
  unfold wholeN
  repeat' split
  all_goals omega
theorem utf8_loop (l : List Int) (hb : l.all isByte = true) (hlen : l.length ≤ 1000000) : ∀ (k i : Nat), i ≤ l.length + 3 → l.length - i < k →
    chirographref06_utf8.l0 (k + 10) l (i : Int) = some (Lib.validD ((strOfNums l).data.toList.drop i))
  | 0, _, _, h => absurd h (Nat.not_lt_zero _)
  | k + 1, i, hi, hk => by
    show chirographref06_utf8.l0 (k + 10 + 1) l (i : Int) = _
    rw [chirographref06_utf8.l0]
    by_cases hlt : i < l.length
    · rw [if_pos (by omega), whole_N k l i hlt hlen hb]
      have hne : (strOfNums l).data.toList.drop i ≠ [] := fun h => by
        have := congrArg List.length h
        rw [List.length_drop, sn_len] at this
        simp at this
        omega
      have hD : Lib.decodeL ((strOfNums l).data.toList.drop i) = Lib.decodeN (l.length - i) ((strOfNums l).data.toList.getD i 0).toNat ((strOfNums l).data.toList.getD (i + 1) 0).toNat ((strOfNums l).data.toList.getD (i + 2) 0).toNat ((strOfNums l).data.toList.getD (i + 3) 0).toNat := by
        rw [Lib.decodeL_N, List.length_drop, sn_len]
        simp only [List.getD_eq_getElem?_getD, List.getElem?_drop, Nat.add_zero]
      have hW := wholeN_decode (l.length - i) ((strOfNums l).data.toList.getD i 0).toNat ((strOfNums l).data.toList.getD (i + 1) 0).toNat ((strOfNums l).data.toList.getD (i + 2) 0).toNat ((strOfNums l).data.toList.getD (i + 3) 0).toNat (by omega) (UInt8.toNat_lt _) (UInt8.toNat_lt _) (UInt8.toNat_lt _) (UInt8.toNat_lt _)
      rw [← hD, sn_get' l hb, sn_get' l hb, sn_get' l hb, sn_get' l hb] at hW
      have hle := wholeN_le (l.length - i) (rd l i) (rd l ((i : Int) + 1)) (rd l ((i : Int) + 2)) (rd l ((i : Int) + 3))
      have hW' : wholeN (l.length - i) (rd l i) (rd l ((i : Int) + 1)) (rd l ((i : Int) + 2)) (rd l ((i : Int) + 3)) = if bad (Lib.decodeL ((strOfNums l).data.toList.drop i)) then 0 else (((Lib.decodeL ((strOfNums l).data.toList.drop i)).2 : Nat) : Int) := hW
      clear hD hW
      generalize wholeN (l.length - i) (rd l i) (rd l ((i : Int) + 1)) (rd l ((i : Int) + 2)) (rd l ((i : Int) + 3)) = t at *
      rw [Lib.validD_step _ hne]
      have hw1 := Lib.decodeL_width ((strOfNums l).data.toList.drop i)
      simp only [Option.bind_some]
      by_cases hbad : bad (Lib.decodeL ((strOfNums l).data.toList.drop i))
      · rw [if_pos hbad] at hW'
        have hb2 : (Lib.decodeL ((strOfNums l).data.toList.drop i)).1 = 65533 ∧ (Lib.decodeL ((strOfNums l).data.toList.drop i)).2 = 1 := hbad
        rw [if_pos hW', if_pos hb2]
      · rw [if_neg hbad] at hW'
        have hb2 : ¬ ((Lib.decodeL ((strOfNums l).data.toList.drop i)).1 = 65533 ∧ (Lib.decodeL ((strOfNums l).data.toList.drop i)).2 = 1) := hbad
        rw [if_neg (by omega), if_neg hb2, List.drop_drop]
        clear hb2 hbad
        generalize (Lib.decodeL ((strOfNums l).data.toList.drop i)).2 = m at *
        subst hW'
        rw [show wrap64 ((i : Int) + (m : Int)) = ((i + m : Nat) : Int) from (w64' (by omega) (by omega)).trans (by omega)]
        exact utf8_loop l hb hlen k (i + m) (by omega) (by omega)
    · rw [if_neg (by omega), List.drop_eq_nil_of_le (by rw [sn_len]; omega), Lib.validD_nil]
theorem utf8_eq (l : List Int) (hb : l.all isByte = true) (hlen : l.length ≤ 1000000) (k : Nat) (hk : l.length + 20 < k) : chirographref06_utf8.f k l = some (Lib.validD (strOfNums l).data.toList) := by
  obtain ⟨k', rfl⟩ : ∃ k', k = k' + 10 := ⟨k - 10, by omega⟩
  unfold chirographref06_utf8.f
  exact (utf8_loop l hb hlen k' 0 (by omega) (by omega)).trans (by rw [List.drop_zero])
end Go.Proofs.YtkioddjjfifadaaGreatDoor.P
namespace Go.Proofs.YtkioddjjfifadaaGreatDoor.P
open Go.RowKit Go.Proofs.YtkioddjjfifadaaGreatDoorW.PrintWords
theorem fits_18 : ∀ b : Fin 256, text_fits.f 18 ((b.val : Nat) : Int) = some (decide (48 ≤ b.val ∧ b.val ≤ 57 ∨ b.val = 32)) := by decide +kernel
theorem fits_22 : ∀ b : Fin 256, text_fits.f 22 ((b.val : Nat) : Int) = some (decide (b.val < 128)) := by decide +kernel
theorem fits_26 : ∀ b : Fin 256, text_fits.f 26 ((b.val : Nat) : Int) = some (decide (32 ≤ b.val ∧ b.val ≤ 126)) := by decide +kernel
theorem fits_19 : ∀ b : Fin 256, chirographref06_printable.f 20 ((b.val : Nat) : Int) = text_fits.f 19 ((b.val : Nat) : Int) := by decide +kernel
theorem printable_fits (k : Nat) (c : Int) (t : Bool) (h0 : 0 ≤ c) (h1 : c ≤ 255) (hk : 20 ≤ k) (h : text_fits.f 19 c = some t) : chirographref06_printable.f k c = some t := by
  obtain ⟨n, rfl⟩ : ∃ n : Nat, c = (n : Int) := ⟨c.toNat, by omega⟩
  have := fits_19 ⟨n, by omega⟩
  rw [h] at this
  exact at_rounds (g := fun k => chirographref06_printable.f k (n : Int)) (fun k => chirographref06_printable.mono _ k) hk this
theorem l1_step (k : Nat) (a : Int) (l : List Int) (i : Nat) (c : Int) (t : Bool) (hi : i < l.length) (hl : l.length ≤ 1000000) (hc : rd l (i : Int) = c) (h0 : 0 ≤ c) (h1 : c ≤ 255) (ha : a = 18 ∨ a = 19 ∨ a = 22 ∨ a = 26) (ht : text_fits.f a c = some t) :
    chirographref06_Text.l1 (k + 30) a l (i : Int) = if t = true then chirographref06_Text.l1 (k + 26) a l ((i + 1 : Nat) : Int) else some ((⟨#[]⟩ : ByteArray), 60) := by
  have E1 : Aside0 (wrap64 ((i : Int) + 1) = ((i + 1 : Nat) : Int)) := ⟨(w64' (by omega) (by omega)).trans (by omega)⟩
  obtain ⟨n, hn⟩ : ∃ n : Nat, c = (n : Int) := ⟨c.toNat, by omega⟩
  have hj4 : chirographref06_Text.l1 (k + 30) a l (i : Int) = chirographref06_Text.j4 (k + 29) a l (i : Int) c (decide (48 ≤ n ∧ n ≤ 57 ∨ n = 32)) := by
    show chirographref06_Text.l1 (k + 29 + 1) a l (i : Int) = _
    rw [chirographref06_Text.l1, if_pos (by omega), if_pos (by omega), hc]
    by_cases c1 : c ≥ 48
    · rw [if_pos c1]
      by_cases c2 : c ≤ 57
      · rw [if_pos c2, decide_eq_true (by omega)]
      · rw [if_neg c2]
        have : (c == 32) = decide (48 ≤ n ∧ n ≤ 57 ∨ n = 32) := by
          rw [Bool.eq_iff_iff]
          simp only [beq_iff_eq, decide_eq_true_eq]
          omega
        rw [this]
    · rw [if_neg c1]
      have : (c == 32) = decide (48 ≤ n ∧ n ≤ 57 ∨ n = 32) := by
        rw [Bool.eq_iff_iff]
        simp only [beq_iff_eq, decide_eq_true_eq]
        omega
      rw [this]
  rw [hj4]
  show chirographref06_Text.j4 (k + 28 + 1) a l (i : Int) c _ = _
  rw [chirographref06_Text.j4]
  have hj5 : ∀ x, chirographref06_Text.j5 (k + 28) a l (i : Int) c x = chirographref06_Text.j6 (k + 27) a l (i : Int) c (if a = 22 then decide (c < 128) else x) := by
    intro x
    show chirographref06_Text.j5 (k + 27 + 1) a l (i : Int) c x = _
    rw [chirographref06_Text.j5]
    split <;> rfl
  have hj6 : ∀ x, chirographref06_Text.j6 (k + 27) a l (i : Int) c x = if (if a = 26 then decide (32 ≤ c ∧ c ≤ 126) else x) = true then chirographref06_Text.l1 (k + 26) a l ((i + 1 : Nat) : Int) else some ((⟨#[]⟩ : ByteArray), 60) := by
    intro x
    show chirographref06_Text.j6 (k + 26 + 1) a l (i : Int) c x = _
    rw [chirographref06_Text.j6, E1.out]
    by_cases h26 : a = 26
    · rw [if_pos h26, if_pos h26]
      by_cases g1 : c ≥ 32
      · rw [if_pos g1]
        by_cases g2 : c ≤ 126
        · rw [if_pos g2, if_pos (decide_eq_true ⟨g1, g2⟩)]
        · rw [if_neg g2, if_neg (by simp; omega)]
      · rw [if_neg g1, if_neg (by simp; omega)]
    · rw [if_neg h26, if_neg h26]
  rcases ha with rfl | rfl | rfl | rfl
  · rw [if_neg (show ¬ (18 : Int) = 19 by decide), hj5, hj6, if_neg (show ¬ (18 : Int) = 26 by decide), if_neg (show ¬ (18 : Int) = 22 by decide)]
    have := fits_18 ⟨n, by omega⟩
    rw [hn] at ht
    rw [ht] at this
    rw [Option.some.inj this]
  · rw [if_pos rfl, printable_fits _ c t h0 h1 (by omega) ht, Option.bind_some, hj5, hj6, if_neg (show ¬ (19 : Int) = 26 by decide), if_neg (show ¬ (19 : Int) = 22 by decide)]
  · rw [if_neg (show ¬ (22 : Int) = 19 by decide), hj5, hj6, if_neg (show ¬ (22 : Int) = 26 by decide), if_pos (show (22 : Int) = 22 by rfl)]
    have := fits_22 ⟨n, by omega⟩
    rw [hn] at ht
    rw [ht] at this
    have e : t = decide (c < 128) := by
      rw [Option.some.inj this, Bool.eq_iff_iff]
      simp only [decide_eq_true_eq]
      omega
    rw [e]
  · rw [if_neg (show ¬ (26 : Int) = 19 by decide), hj5, hj6, if_pos (show (26 : Int) = 26 by rfl)]
    have := fits_26 ⟨n, by omega⟩
    rw [hn] at ht
    rw [ht] at this
    have e : t = decide (32 ≤ c ∧ c ≤ 126) := by
      rw [Option.some.inj this, Bool.eq_iff_iff]
      simp only [decide_eq_true_eq]
      omega
    rw [e]
theorem l1_end (k : Nat) (a : Int) (l : List Int) (i : Nat) (hi : ¬ i < l.length) : chirographref06_Text.l1 (k + 1) a l (i : Int) = some (strOfNums l, 0) := by
  rw [chirographref06_Text.l1, if_neg (by omega)]
theorem l1_loop (a : Int) (l : List Int) (hb : l.all isByte = true) (hl : l.length ≤ 1000000) (ha : a = 18 ∨ a = 19 ∨ a = 22 ∨ a = 26) : ∀ (k i K : Nat), l.length - i < k → 4 * (l.length - i) + 30 ≤ K → i ≤ l.length → ∀ r, text_Text.l0 k a l l (l.length : Int) (i : Int) = some r → chirographref06_Text.l1 K a l (i : Int) = some r
  | 0, _, _, h, _, _, _, _ => absurd h (Nat.not_lt_zero _)
  | k + 1, i, K, h, hK, hil, r, hr => by
    rw [text_Text.l0] at hr
    by_cases hi : i < l.length
    · rw [if_pos (by omega), if_pos (by omega), if_pos (by omega)] at hr
      obtain ⟨p0, p1⟩ := rd_byte l hb (i : Int) (by omega) (by omega)
      obtain ⟨t, ht, hr⟩ := Option.bind_eq_some_iff.mp hr
      obtain ⟨K', rfl⟩ : ∃ K', K = K' + 30 := ⟨K - 30, by omega⟩
      rw [l1_step K' a l i _ t hi hl rfl p0 p1 ha ht]
      cases t with
      | true =>
        rw [if_pos rfl] at hr ⊢
        rw [show wrap64 ((i : Int) + 1) = ((i + 1 : Nat) : Int) from (w64' (by omega) (by omega)).trans (by omega)] at hr
        exact l1_loop a l hb hl ha k (i + 1) (K' + 26) (by omega) (by omega) (by omega) r hr
      | false =>
        rw [if_neg (by simp)] at hr ⊢
        exact hr
    · rw [if_neg (by omega)] at hr
      obtain ⟨K', rfl⟩ : ∃ K', K = K' + 1 := ⟨K - 1, by omega⟩
      rw [l1_end K' a l i hi]
      exact hr
theorem bmp_j1 (k : Nat) (l acc : List Int) (i : Nat) (v : Int) (b : Bool) (hi : i + 2 ≤ 1000000) (hv0 : 0 ≤ v) (hv1 : v ≤ 65535) (hb : b = decide (55296 ≤ v ∧ v ≤ 57343)) (ha : acc.length + 3 < 140737488355328) :
    chirographref06_Text.j1 (k + 1) l acc (i : Int) v b = if b = true then some ((⟨#[]⟩ : ByteArray), 60) else chirographref06_Text.l0 k l (acc ++ Lib.encodeRuneZ v) ((i + 2 : Nat) : Int) := by
  have E2 : Aside0 (wrap64 ((i : Int) + 2) = ((i + 2 : Nat) : Int)) := ⟨(w64' (by omega) (by omega)).trans (by omega)⟩
  rw [chirographref06_Text.j1]
  cases b with
  | true => rw [if_pos rfl, if_pos rfl]
  | false =>
    have hns : ¬ (55296 ≤ v ∧ v ≤ 57343) := by simpa using hb.symm
    rw [if_neg (show ¬ false = true by simp), if_neg (show ¬ false = true by simp), E2.out]
    by_cases c1 : v < 128
    · rw [if_pos c1, if_pos (by omega), Lib.encodeRuneZ_one hv0 (by omega), show v % 256 = v by omega]
    · rw [if_neg c1]
      by_cases c2 : v < 2048
      · have e1 : wrap64 (192 + wrap64 (v.tdiv 64)) % 256 = 192 + v / 64 := by
          rw [Int.tdiv_eq_ediv_of_nonneg hv0, w64' (n := v / 64) (by omega) (by omega), w64' (by omega) (by omega)]
          omega
        have e2 : wrap64 (128 + v.tmod 64) % 256 = 128 + v % 64 := by
          rw [Int.tmod_eq_emod_of_nonneg hv0, w64' (by omega) (by omega)]
          omega
        rw [if_pos c2, e1, e2, Option.bind_some, if_pos (by simp only [List.length_cons, List.length_nil]; omega), Lib.encodeRuneZ_two (by omega) (by omega)]
      · have e1 : wrap64 (224 + wrap64 (v.tdiv 4096)) % 256 = 224 + v / 4096 := by
          rw [Int.tdiv_eq_ediv_of_nonneg hv0, w64' (n := v / 4096) (by omega) (by omega), w64' (by omega) (by omega)]
          omega
        have e2 : wrap64 (128 + (wrap64 (v.tdiv 64)).tmod 64) % 256 = 128 + v / 64 % 64 := by
          rw [Int.tdiv_eq_ediv_of_nonneg hv0, w64' (n := v / 64) (by omega) (by omega), Int.tmod_eq_emod_of_nonneg (by omega), w64' (by omega) (by omega)]
          omega
        have e3 : wrap64 (128 + v.tmod 64) % 256 = 128 + v % 64 := by
          rw [Int.tmod_eq_emod_of_nonneg hv0, w64' (by omega) (by omega)]
          omega
        rw [if_neg c2, e1, e2, e3, Option.bind_some, if_pos (by simp only [List.length_cons, List.length_nil]; omega), Lib.encodeRuneZ_three (by omega)]
theorem bmp_loop (l : List Int) (hb : l.all isByte = true) (hl : l.length ≤ 900000) (heven : l.length % 2 = 0) : ∀ (m i k : Nat) (acc : List Int), i % 2 = 0 → i ≤ l.length → l.length - i ≤ 2 * m → 2 * m + 1 ≤ k → acc.length ≤ 2 * i →
    chirographref06_Text.l0 k l acc (i : Int) = (match wideL (l.drop i) with | none => some ((⟨#[]⟩ : ByteArray), 60) | some x => some (strOfNums (acc ++ x), 0)) := by
  have fin : ∀ (i k : Nat) (acc : List Int), ¬ i < l.length → 1 ≤ k → chirographref06_Text.l0 k l acc (i : Int) = (match wideL (l.drop i) with | none => some ((⟨#[]⟩ : ByteArray), 60) | some x => some (strOfNums (acc ++ x), 0)) := by
    intro i k acc hi hk
    obtain ⟨k', rfl⟩ : ∃ k', k = k' + 1 := ⟨k - 1, by omega⟩
    rw [chirographref06_Text.l0, if_neg (by omega), List.drop_eq_nil_of_le (by omega)]
    simp [wideL]
  intro m
  induction m with
  | zero =>
    intro i k acc h1 h2 h3 h4 h5
    exact fin i k acc (by omega) (by omega)
  | succ m ih =>
    intro i k acc h1 h2 h3 h4 h5
    by_cases hi : i < l.length
    · have hi1 : i + 1 < l.length := by omega
      obtain ⟨k', rfl⟩ : ∃ k', k = k' + 2 := ⟨k - 2, by omega⟩
      obtain ⟨a0, a1⟩ := rd_byte l hb (i : Int) (by omega) (by omega)
      obtain ⟨b0, b1⟩ := rd_byte l hb ((i : Int) + 1) (by omega) (by omega)
      have E1 : Aside0 (wrap64 ((i : Int) + 1) = (i : Int) + 1) := ⟨w64' (by omega) (by omega)⟩
      rw [drop_two l i hi1, wideL]
      show chirographref06_Text.l0 (k' + 1 + 1) l acc (i : Int) = _
      rw [chirographref06_Text.l0, if_pos (by omega), if_pos (by omega), E1.out]
      rw [if_pos (by omega), if_pos (by omega)]
      generalize rd l (i : Int) = x at *
      generalize rd l ((i : Int) + 1) = y at *
      rw [w64' (n := x) (by omega) (by omega), w64' (n := y) (by omega) (by omega), w64' (n := x * 256) (by omega) (by omega), w64' (n := x * 256 + y) (by omega) (by omega)]
      have hv : ∀ b, b = decide (55296 ≤ x * 256 + y ∧ x * 256 + y ≤ 57343) → chirographref06_Text.j1 (k' + 1) l acc (i : Int) (x * 256 + y) b = (match (if 55296 ≤ x * 256 + y ∧ x * 256 + y < 57344 then none else (wideL (l.drop (i + 2))).map (Lib.encodeRuneZ (x * 256 + y) ++ ·)) with | none => some ((⟨#[]⟩ : ByteArray), 60) | some x => some (strOfNums (acc ++ x), 0)) := by
        intro b hbb
        rw [bmp_j1 k' l acc i _ b (by omega) (by omega) (by omega) hbb (by omega)]
        by_cases hs : 55296 ≤ x * 256 + y ∧ x * 256 + y ≤ 57343
        · rw [if_pos (hbb.trans (decide_eq_true hs)), if_pos (by omega)]
        · have hbf : b = false := hbb.trans (decide_eq_false hs)
          have hel := (Lib.encodeRuneZ_length (x * 256 + y)).2
          rw [if_neg (by rw [hbf]; simp), if_neg (show ¬ (55296 ≤ x * 256 + y ∧ x * 256 + y < 57344) from fun h => hs ⟨h.1, by omega⟩), ih (i + 2) k' _ (by omega) (by omega) (by omega) (by omega) (by rw [List.length_append]; omega)]
          cases wideL (l.drop (i + 2)) with
          | none => rfl
          | some z => simp only [Option.map_some, List.append_assoc]
      by_cases c1 : x * 256 + y ≥ 55296
      · rw [if_pos c1]
        exact hv _ (by rw [Bool.eq_iff_iff]; simp only [decide_eq_true_eq]; omega)
      · rw [if_neg c1]
        exact hv _ (by symm; rw [decide_eq_false_iff_not]; omega)
    · exact fin i k acc hi (by omega)
theorem text_eq (a : Int) (l : List Int) (hb : l.all isByte = true) (hl : l.length ≤ 900000) (k K : Nat) (hk : l.length + 1 < k) (hK : 4 * l.length + 40 ≤ K) (r : ByteArray × Int) (h : text_Text.f k a l = some r) : chirographref06_Text.f K a l = some r := by
  unfold text_Text.f at h
  unfold chirographref06_Text.f
  by_cases h30 : a = 30
  · subst h30
    rw [if_pos rfl] at h
    rw [if_neg (show ¬ (30 : Int) = 12 by decide), if_pos (show (30 : Int) = 30 by rfl)]
    unfold text_wide.f at h
    rw [if_pos ⟨hb, by omega⟩] at h
    by_cases hodd : l.length % 2 = 1
    · rw [if_pos hodd, Option.bind_some] at h
      rw [if_pos (by omega)]
      exact h
    · rw [if_neg hodd] at h
      rw [if_neg (by omega), show (0 : Int) = ((0 : Nat) : Int) from rfl, bmp_loop l hb hl (by omega) (l.length) 0 K [] rfl (Nat.zero_le _) (by omega) (by omega) (Nat.le_refl _), List.drop_zero]
      rw [← h]
      cases wideL l with
      | none => rfl
      | some x => rfl
  · rw [if_neg h30] at h
    by_cases h12 : a = 12
    · rw [if_pos h12] at h ⊢
      unfold utf8_Valid.f at h
      rw [if_pos ⟨hb, by omega⟩, Option.bind_some] at h
      rw [utf8_eq l hb (by omega) K (by omega), Option.bind_some]
      exact h
    · rw [if_neg h12] at h ⊢
      rw [if_neg h30]
      obtain ⟨k', rfl⟩ : ∃ k', k = k' + 1 := ⟨k - 1, by omega⟩
      obtain ⟨K', rfl⟩ : ∃ K', K = K' + 1 := ⟨K - 1, by omega⟩
      have key : ∀ b, (b = true → a = 18 ∨ a = 19 ∨ a = 22 ∨ a = 26) → text_Text.j0 (k' + 1) a l b = some r → chirographref06_Text.j2 (K' + 1) a l b = some r := by
        intro b hba hr
        rw [text_Text.j0] at hr
        rw [chirographref06_Text.j2]
        cases b with
        | false => exact hr
        | true =>
          rw [if_pos rfl] at hr ⊢
          exact l1_loop a l hb (by omega) (hba rfl) k' 0 K' (by omega) (by omega) (Nat.zero_le _) r hr
      by_cases h18 : a = 18
      · rw [if_pos h18] at h ⊢
        exact key _ (fun _ => Or.inl h18) h
      rw [if_neg h18] at h ⊢
      by_cases h19 : a = 19
      · rw [if_pos h19] at h ⊢
        exact key _ (fun _ => Or.inr (Or.inl h19)) h
      rw [if_neg h19] at h ⊢
      by_cases h22 : a = 22
      · rw [if_pos h22] at h ⊢
        exact key _ (fun _ => Or.inr (Or.inr (Or.inl h22))) h
      rw [if_neg h22] at h ⊢
      exact key _ (fun e => Or.inr (Or.inr (Or.inr (by simpa using e)))) h
end Go.Proofs.YtkioddjjfifadaaGreatDoor.P
namespace Go.Proofs.YtkioddjjfifadaaGreatDoor.P
open Go.RowKit Go.Proofs.YtkioddjjfifadaaGreatDoorW.PrintWords
def un (y : List Int) : List UInt8 := (strOfNums y).data.toList
theorem ltL_un (a b : List Int) : ltL a b = decide (un a < un b) := by
  unfold ltL un
  rw [bytesLess_eq, Lib.toList_data, Lib.toList_data]
theorem un_bytesOf (b : ByteArray) : un (bytesOf b) = b.data.toList := by
  unfold un strOfNums bytesOf
  simp only [List.map_map]
  refine (List.map_congr_left (g := id) fun x _ => ?_).trans (List.map_id _)
  show UInt8.ofNat ((x.toNat : Int).toNat) = x
  rw [Int.toNat_natCast]
  exact UInt8.ofNat_toNat
/-- Insert from the right. -/
def insR : List (List Int) → List Int → List (List Int)
  | [], x => [x]
  | a :: A, x => if ltL x a = true then insR A x ++ [a] else A.reverse ++ [a, x]
theorem getD_mid {α : Type} (A B : List α) (x d : α) (k : Nat) (h : k = A.length) : (A ++ x :: B).getD k d = x := by
  subst h
  rw [List.getD_eq_getElem?_getD, List.getElem?_append_right (Nat.le_refl _), Nat.sub_self]
  rfl
theorem set_mid {α : Type} (A B : List α) (x y : α) (k : Nat) (h : k = A.length) : (A ++ x :: B).set k y = A ++ y :: B := by
  subst h
  rw [List.set_append_right _ _ (Nat.le_refl _), Nat.sub_self]
  rfl
theorem bub_insR : ∀ (A : List (List Int)) (x : List Int) (B : List (List Int)), bub A.length (A.reverse ++ x :: B) = insR A x ++ B
  | [], x, B => rfl
  | a :: A, x, B => by
    have e1 : ((a :: A).reverse ++ x :: B).getD (A.length + 1) [] = x := getD_mid _ _ _ _ _ (by simp)
    have e2 : ((a :: A).reverse ++ x :: B).getD A.length [] = a := by
      rw [List.reverse_cons, List.append_assoc]
      exact getD_mid _ _ _ _ _ (by simp)
    have e3 : (((a :: A).reverse ++ x :: B).set (A.length + 1) a).set A.length x = A.reverse ++ x :: (a :: B) := by
      rw [set_mid _ _ _ _ _ (by simp), List.reverse_cons, List.append_assoc]
      exact set_mid _ _ _ _ _ (by simp)
    show bub (A.length + 1) _ = _
    rw [bub, e1, e2, e3]
    unfold insR
    by_cases h : ltL x a = true
    · rw [if_pos h, if_pos h, bub_insR A x (a :: B), List.append_assoc]
      rfl
    · rw [if_neg h, if_neg h, List.reverse_cons, List.append_assoc, List.append_assoc]
      rfl
theorem insL_insR (out : List (List Int)) (x : List Int) : insL out x = insR out.reverse x := by
  have := bub_insR out.reverse x []
  rw [List.length_reverse, List.reverse_reverse, List.append_nil] at this
  exact this
abbrev leU (a b : List Int) : Prop := un a ≤ un b
theorem insR_perm : ∀ (A : List (List Int)) (x : List Int), (insR A x).Perm (x :: A)
  | [], x => List.Perm.refl _
  | a :: A, x => by
    unfold insR
    split
    · refine (List.perm_append_comm).trans ?_
      exact ((insR_perm A x).cons a).trans (List.Perm.swap x a A)
    · have h1 : (A.reverse ++ [a, x]).Perm ([a, x] ++ A.reverse) := List.perm_append_comm
      refine h1.trans ?_
      refine (List.Perm.swap x a _).trans ?_
      exact ((List.reverse_perm A).cons a).cons x
theorem insR_sorted : ∀ (A : List (List Int)) (x : List Int), A.reverse.Pairwise leU → (insR A x).Pairwise leU
  | [], x, _ => List.pairwise_singleton _ _
  | a :: A, x, h => by
    rw [List.reverse_cons, List.pairwise_append] at h
    obtain ⟨h1, _, h3⟩ := h
    have h3' : ∀ u ∈ A.reverse, leU u a := fun u hu => h3 u hu a (List.mem_singleton.2 rfl)
    unfold insR
    split
    · rename_i hlt
      rw [ltL_un, decide_eq_true_eq] at hlt
      rw [List.pairwise_append]
      refine ⟨insR_sorted A x h1, List.pairwise_singleton _ _, fun u hu v hv => ?_⟩
      rw [List.mem_singleton.1 hv]
      have hm := (insR_perm A x).mem_iff.1 hu
      rcases List.mem_cons.1 hm with rfl | hm
      · exact List.le_of_lt hlt
      · exact h3' u (List.mem_reverse.2 hm)
    · rename_i hlt
      rw [ltL_un, decide_eq_true_eq, List.not_lt] at hlt
      rw [List.pairwise_append]
      refine ⟨h1, ?_, fun u hu v hv => ?_⟩
      · rw [List.pairwise_cons]
        exact ⟨fun v hv => by rw [List.mem_singleton.1 hv]; exact hlt, List.pairwise_singleton _ _⟩
      · rcases List.mem_cons.1 hv with rfl | hv
        · exact h3' u hu
        · rw [List.mem_singleton.1 hv]
          exact List.le_trans (h3' u hu) hlt
theorem foldl_ins (l : List (List Int)) : ∀ (out : List (List Int)), out.Pairwise leU → (l.foldl insL out).Pairwise leU ∧ (l.foldl insL out).Perm (out ++ l) := by
  induction l with
  | nil => intro out h; exact ⟨h, by rw [List.append_nil]; exact List.Perm.refl _⟩
  | cons x l ih =>
    intro out h
    have hs : (insL out x).Pairwise leU := by rw [insL_insR]; exact insR_sorted _ _ (by rw [List.reverse_reverse]; exact h)
    obtain ⟨h1, h2⟩ := ih (insL out x) hs
    refine ⟨h1, h2.trans ?_⟩
    have hp : (insL out x).Perm (x :: out) := by rw [insL_insR]; exact (insR_perm _ _).trans ((List.reverse_perm out).cons x)
    refine (hp.append_right l).trans ?_
    exact (List.perm_middle).symm
theorem sortedL_un (ys : List (List Int)) : (sortedL ys).map un = (ys.map un).mergeSort fun x y => decide (x ≤ y) := by
  obtain ⟨h1, h2⟩ := foldl_ins ys [] List.Pairwise.nil
  have tr : ∀ a b c : List UInt8, decide (a ≤ b) = true → decide (b ≤ c) = true → decide (a ≤ c) = true := fun a b c h1 h2 => by simp only [decide_eq_true_eq] at *; exact List.le_trans h1 h2
  have tot : ∀ a b : List UInt8, (decide (a ≤ b) || decide (b ≤ a)) = true := fun a b => by simp only [Bool.or_eq_true, decide_eq_true_eq]; exact List.le_total a b
  refine List.Perm.eq_of_pairwise (le := fun a b => decide (a ≤ b) = true) (fun a b _ _ h1 h2 => ?_) ?_ (List.pairwise_mergeSort tr tot _) ?_
  · simp only [decide_eq_true_eq] at h1 h2
    exact List.le_antisymm h1 h2
  · rw [List.pairwise_map]
    exact h1.imp fun h => by simpa using h
  · exact (h2.map un).trans (List.mergeSort_perm _ _).symm
end Go.Proofs.YtkioddjjfifadaaGreatDoor.P
namespace Go.Proofs.YtkioddjjfifadaaGreatDoor.P
open Go.RowKit Go.Proofs.YtkioddjjfifadaaGreatDoorW.PrintWords Go.Proofs.YtkioddjjfifadaaGreatDoorW.PrintLast Go.Proofs.YtkioddjjfifadaaGreatDoorW.PrintMore
theorem strOfNums_size (l : List Int) : (strOfNums l).size = l.length := by
  unfold strOfNums
  simp [ByteArray.size]
theorem wrap_up' {n : Nat} {i : Int} (hn : n ≤ 4611686018427387904) (h0 : 0 ≤ i) (h1 : i < n) : wrap64 (i + 1) = i + 1 := by unfold wrap64; omega
theorem fits_total (a b : Int) : ∃ r, text_fits.f a b = some r := by
  unfold text_fits.f strings_IndexByte.f
  simp only [Option.bind_some]
  repeat' split
  all_goals exact ⟨_, rfl⟩
theorem wideL_len : ∀ (l r : List Int), wideL l = some r → r.length ≤ 2 * l.length
  | [], r, h => by
    obtain rfl := Option.some.inj h
    simp
  | [_], r, h => by
    obtain rfl := Option.some.inj h
    simp
  | a :: b :: l, r, h => by
    rw [wideL] at h
    split at h
    · cases h
    · obtain ⟨t, ht, rfl⟩ := Option.map_eq_some_iff.1 h
      have := wideL_len l t ht
      have := encodeRuneZ_len (a * 256 + b)
      simp only [List.length_append, List.length_cons]
      omega
theorem foldOut_len (bl : Bool) (out : List Int) : (foldOut bl out).length ≤ out.length + 1 := by
  unfold foldOut
  split
  · simp
  · omega
theorem foldGo_len (s : ByteArray) : ∀ (f pos : Nat) (bl : Bool) (out : List Int), pos ≤ s.size → out.length ≤ 5 * pos → (foldGo s f pos bl out).length ≤ 5 * s.size
  | 0, pos, bl, out, hp, ho => by
    rw [foldGo]
    omega
  | f + 1, pos, bl, out, hp, ho => by
    rw [foldGo]
    split
    · rename_i h
      obtain ⟨n1, n2, n4⟩ := decode_width s pos h
      have hf := foldOut_len bl out
      split
      · exact foldGo_len s f _ _ _ n2 (by omega)
      · split
        · refine foldGo_len s f _ _ _ n2 ?_
          rw [List.length_append, bytesOf_length, ext_size s pos _ n2]
          omega
        · refine foldGo_len s f _ _ _ n2 ?_
          rw [List.length_append]
          have := encodeRuneZ_len (low ((Utf8.decode s pos).1 : Int))
          omega
    · omega
theorem fold_total (s : ByteArray) (h : s.size ≤ 1099511627776) : ∃ r, text_Fold.f s = some r ∧ r.size ≤ 5 * s.size := by
  unfold text_Fold.f
  rw [if_pos h]
  refine ⟨_, rfl, ?_⟩
  rw [strOfNums_size]
  exact foldGo_len s _ 0 _ _ (Nat.zero_le _) (Nat.zero_le _)
theorem text_loop (a : Int) (l : List Int) (hl : l.length ≤ 1000000) : ∀ (k : Nat) (i : Int), 0 ≤ i → (l.length : Int) - i < k → 0 < k → ∃ r, text_Text.l0 k a l l (l.length : Int) i = some r ∧ r.1.size ≤ l.length
  | 0, i, _, _, h3 => by omega
  | k + 1, i, h0, h2, _ => by
    rw [text_Text.l0]
    by_cases hi : i < (l.length : Int)
    · rw [if_pos hi, if_pos h0, if_pos hi]
      obtain ⟨r, hr⟩ := fits_total a (rd l i)
      rw [hr, Option.bind_some]
      split
      · rw [wrap_up' (n := l.length) (by omega) h0 hi]
        exact text_loop a l hl k (i + 1) (by omega) (by omega) (by omega)
      · exact ⟨_, rfl, Nat.zero_le _⟩
    · rw [if_neg hi]
      exact ⟨_, rfl, by rw [strOfNums_size]; exact Nat.le_refl _⟩
theorem text_total (k : Nat) (a : Int) (l : List Int) (hb : l.all isByte = true) (hl : l.length ≤ 1000000) (hk : l.length + 1 < k) : ∃ r, text_Text.f k a l = some r ∧ r.1.size ≤ 2 * l.length := by
  unfold text_Text.f
  split
  · unfold text_wide.f
    rw [if_pos ⟨hb, by omega⟩]
    split
    · exact ⟨_, rfl, Nat.zero_le _⟩
    · cases hw : wideL l with
      | none => exact ⟨_, rfl, Nat.zero_le _⟩
      | some x => exact ⟨_, rfl, by show (strOfNums x).size ≤ _; rw [strOfNums_size]; exact wideL_len l x hw⟩
  · split
    · unfold utf8_Valid.f
      rw [if_pos ⟨hb, by omega⟩, Option.bind_some]
      split
      · exact ⟨_, rfl, by show (strOfNums l).size ≤ _; rw [strOfNums_size]; omega⟩
      · exact ⟨_, rfl, Nat.zero_le _⟩
    · obtain ⟨k1, rfl⟩ : ∃ k1, k = k1 + 1 := ⟨k - 1, by omega⟩
      have hj : ∀ b, ∃ r, text_Text.j0 (k1 + 1) a l b = some r ∧ r.1.size ≤ 2 * l.length := fun b => by
        rw [text_Text.j0]
        split
        · obtain ⟨r, h1, h2⟩ := text_loop a l hl k1 0 (by omega) (by omega) (by omega)
          exact ⟨r, h1, by omega⟩
        · exact ⟨_, rfl, Nat.zero_le _⟩
      repeat' split
      all_goals exact hj _
theorem itoa_total (n : Int) (h0 : -9223372036854775808 ≤ n) (h1 : n ≤ 9223372036854775807) : ∃ r, strconv_Itoa.f n = some r ∧ r.size ≤ 21 := by
  unfold strconv_Itoa.f
  rw [if_pos ⟨h0, h1⟩]
  refine ⟨_, rfl, ?_⟩
  have := Lib.itoa_length_le n h0 h1
  simpa [ByteArray.size] using this
theorem key_total (k : Nat) (a : Int) (l : List Int) (h0 : -9223372036854775808 ≤ a) (h1 : a ≤ 9223372036854775807) (hb : l.all isByte = true) (hl : l.length ≤ 2000) (hk : l.length + 1 < k) : ∃ r, text_Key.f k a l = some r ∧ r.size ≤ 30000 := by
  unfold text_Key.f
  obtain ⟨r, hr, hs⟩ := text_total k a l hb (by omega) hk
  rw [hr, Option.bind_some]
  split
  · obtain ⟨q, hq, hqs⟩ := fold_total r.1 (by omega)
    rw [hq, Option.bind_some, if_pos (by omega)]
    refine ⟨_, rfl, ?_⟩
    rw [ByteArray.size_append]
    have : (⟨#[61]⟩ : ByteArray).size = 1 := rfl
    omega
  · obtain ⟨q, hq, hqs⟩ := itoa_total a h0 h1
    have z1 : (⟨#[35]⟩ : ByteArray).size = 1 := rfl
    have z2 : (⟨#[58]⟩ : ByteArray).size = 1 := rfl
    have z3 := strOfNums_size l
    rw [hq, Option.bind_some, if_pos (by omega), if_pos (by rw [ByteArray.size_append]; omega), if_pos (by rw [ByteArray.size_append, ByteArray.size_append]; omega)]
    refine ⟨_, rfl, ?_⟩
    rw [ByteArray.size_append, ByteArray.size_append, ByteArray.size_append]
    omega
/-- A part that is not huge. -/
def GoodP (p : S64) : Prop := p.f0.size ≤ 2000 ∧ p.f2.length ≤ 2000 ∧ p.f2.all isByte = true ∧ -9223372036854775808 ≤ p.f1 ∧ p.f1 ≤ 9223372036854775807
end Go.Proofs.YtkioddjjfifadaaGreatDoor.P
namespace Go.Proofs.YtkioddjjfifadaaGreatDoor.P
open Go.RowKit Go.Proofs.YtkioddjjfifadaaGreatDoorW.PrintWords Go.Proofs.YtkioddjjfifadaaGreatDoorW.PrintLast Go.Proofs.YtkioddjjfifadaaGreatDoorW.PrintMore
theorem join_len (B : Nat) : ∀ (xs : List (List UInt8)), (∀ x ∈ xs, x.length ≤ B) → (Lib.join xs []).length ≤ xs.length * B
  | [], _ => by simp [Lib.join]
  | [x], h => by
    have := h x List.mem_cons_self
    simp [Lib.join, List.intercalate]
    omega
  | x :: y :: r, h => by
    have h1 := join_len B (y :: r) (fun z hz => h z (List.mem_cons_of_mem _ hz))
    have h2 := h x List.mem_cons_self
    have e : Lib.join (x :: y :: r) [] = x ++ Lib.join (y :: r) [] := by simp [Lib.join, List.intercalate]
    rw [e, List.length_append, List.length_cons, Nat.add_mul]
    omega
theorem sortB_mem {xs : List ByteArray} {b : ByteArray} (h : b ∈ sortB xs) : ∃ a ∈ xs, b.size = a.size := by
  unfold sortB at h
  obtain ⟨l, hl, rfl⟩ := List.mem_map.1 h
  obtain ⟨a, ha, rfl⟩ := List.mem_map.1 (List.mem_mergeSort.1 hl)
  exact ⟨a, ha, by show (a.data.toList.toArray).size = a.data.size; rw [List.size_toArray, Array.length_toList]⟩
theorem getD_mem {α : Type} (l : List α) (d : α) (i : Int) (h0 : 0 ≤ i) (h1 : i < (l.length : Int)) : l.getD i.toNat d ∈ l := by
  rw [List.getD_eq_getElem?_getD, List.getElem?_eq_getElem (by omega)]
  exact List.getElem_mem _
theorem mark_loop (l : List S64) (hl : l.length ≤ 200) (hg : ∀ p ∈ l, GoodP p) : ∀ (k : Nat) (acc : List ByteArray) (i : Int), 0 ≤ i → (l.length : Int) - i + 2010 < k → (acc.length : Int) ≤ i → acc.length ≤ 200 → (∀ b ∈ acc, b.size ≤ 40000) → i ≤ (l.length : Int) →
    ∃ r, name_mark.l0 k acc l (l.length : Int) i = some r ∧ r.size ≤ 8000001
  | 0, acc, i, _, h2, _, _, _, hle => by omega
  | k + 1, acc, i, h0, h2, h3, h4, h5, hle => by
    rw [name_mark.l0]
    by_cases hi : i < (l.length : Int)
    · rw [if_pos hi, if_pos h0, if_pos hi]
      have hm : rd_T64 l i ∈ l := getD_mem l z64 i h0 hi
      obtain ⟨g1, g2, g3, g4, g5⟩ := hg _ hm
      generalize rd_T64 l i = p at *
      obtain ⟨x, hx, hxs⟩ := key_total k p.f1 p.f2 g4 g5 g3 g2 (by omega)
      obtain ⟨y, hy, hys⟩ := itoa_total (x.size : Int) (by omega) (by omega)
      have z1 : (⟨#[61]⟩ : ByteArray).size = 1 := rfl
      have z2 : (⟨#[58]⟩ : ByteArray).size = 1 := rfl
      have z3 : (⟨#[59]⟩ : ByteArray).size = 1 := rfl
      rw [hx, Option.bind_some, if_pos (by omega), hy, Option.bind_some, if_pos (by simp only [ByteArray.size_append]; omega), if_pos (by simp only [ByteArray.size_append]; omega), if_pos (by simp only [ByteArray.size_append]; omega), if_pos (by simp only [ByteArray.size_append]; omega), if_pos (by omega), wrap_up' (n := l.length) (by omega) h0 hi]
      refine mark_loop l hl hg k _ (i + 1) (by omega) (by omega) (by simp; omega) (by simp; omega) ?_ (by omega)
      intro b hb
      rcases List.mem_append.1 hb with hb | hb
      · exact h5 b hb
      · rw [List.mem_singleton.1 hb]
        simp only [ByteArray.size_append]
        omega
    · rw [if_neg hi]
      unfold slices_Sort.f strings_Join.f
      rw [if_pos (by omega), Option.bind_some]
      have hj := join_len 40000 ((sortB acc).map (·.data.toList)) (fun z hz => by
        obtain ⟨b, hb, rfl⟩ := List.mem_map.1 hz
        obtain ⟨a, ha, he⟩ := sortB_mem hb
        have := h5 a ha
        show b.data.toList.length ≤ _
        rw [Array.length_toList]
        show b.size ≤ _
        omega)
      rw [List.length_map, sortB_len] at hj
      have hj2 : acc.length * 40000 ≤ 8000000 := by omega
      have hs0 : (⟨#[]⟩ : ByteArray).data.toList = [] := rfl
      rw [hs0, if_pos ⟨by rw [sortB_len]; omega, by omega⟩, Option.bind_some]
      have hsz : (⟨(Lib.join ((sortB acc).map (·.data.toList)) []).toArray⟩ : ByteArray).size = (Lib.join ((sortB acc).map (·.data.toList)) []).length := by simp [ByteArray.size]
      have z4 : (⟨#[47]⟩ : ByteArray).size = 1 := rfl
      rw [if_pos (by rw [hsz]; omega)]
      refine ⟨_, rfl, ?_⟩
      rw [ByteArray.size_append, hsz, z4]
      omega
theorem mark_total (k : Nat) (l : List S64) (hl : l.length ≤ 200) (hg : ∀ p ∈ l, GoodP p) (hk : l.length + 2010 < k) : ∃ r, name_mark.f k l = some r ∧ r.size ≤ 8000001 := by
  unfold name_mark.f
  exact mark_loop l hl hg k [] 0 (by omega) (by omega) (by simp) (by simp) (fun _ h => by cases h) (by omega)
theorem keyL_total (k : Nat) (hk : 2210 < k) : ∀ (n : List (List S64)), (∀ s ∈ n, s.length ≤ 200 ∧ ∀ p ∈ s, GoodP p) → ∃ r, keyL k n = some r ∧ r.length ≤ n.length * 8000001
  | [], _ => ⟨[], rfl, by simp⟩
  | s :: n, h => by
    obtain ⟨h1, h2⟩ := h s List.mem_cons_self
    obtain ⟨m, hm, hms⟩ := mark_total k s h1 h2 (by omega)
    obtain ⟨t, ht, hts⟩ := keyL_total k hk n (fun z hz => h z (List.mem_cons_of_mem _ hz))
    rw [keyL, hm, Option.bind_some, ht, Option.bind_some]
    refine ⟨_, rfl, ?_⟩
    have : m.data.toList.length = m.size := by rw [Array.length_toList]; rfl
    rw [List.length_append, List.length_cons, Nat.add_mul]
    omega
theorem nameKey_total (k : Nat) (hk : 2210 < k) (n : List (List S64)) (hn : n.length ≤ 200) (h : ∀ s ∈ n, s.length ≤ 200 ∧ ∀ p ∈ s, GoodP p) : ∃ r, name_Key.f k n = some r := by
  unfold name_Key.f
  obtain ⟨r, hr, hs⟩ := keyL_total k hk n h
  rw [hr, Option.bind_some, if_pos ⟨by omega, by omega⟩]
  exact ⟨_, rfl⟩
end Go.Proofs.YtkioddjjfifadaaGreatDoor.P
namespace Go.Proofs.YtkioddjjfifadaaGreatDoor.P
open Go.RowKit Go.Proofs.YtkioddjjfifadaaGreatDoorW.PrintWords Go.Proofs.YtkioddjjfifadaaGreatDoorW.PrintLast Go.Proofs.YtkioddjjfifadaaGreatDoorW.PrintMore
def Small (p : S64) : Prop := p.f0.size ≤ 2000 ∧ p.f2.length ≤ 2000
theorem drop_at' {α : Type} (l : List α) (d : α) (i : Int) (h0 : 0 ≤ i) (h1 : i < (l.length : Int)) : l.drop i.toNat = l.getD i.toNat d :: l.drop (i + 1).toNat := by
  have hi : i.toNat < l.length := by omega
  rw [show (i + 1).toNat = i.toNat + 1 by omega, List.drop_eq_getElem_cons hi]
  simp [List.getD, List.getElem?_eq_getElem hi]
theorem huge_loop (n : List (List S64)) (hn : n.length ≤ 200) (hb : ∀ s ∈ n, ∀ p ∈ s, p.f0.size ≤ 4611686018427387904 ∧ p.f2.length ≤ 4611686018427387904) : ∀ (k : Nat),
    (∀ (s i : Int), 0 ≤ i → 0 ≤ s → s ≤ 2000 → ((n.length : Int) - i) * 203 + 1 < k → 0 < k → ∃ b, chirographref07_Huge.l0 k n 2000 s i = some b ∧ (b = false → ∀ t ∈ n.drop i.toNat, t.length ≤ 200 ∧ ∀ p ∈ t, Small p)) ∧
    (∀ (s i j : Int), 0 ≤ i → i < (n.length : Int) → 0 ≤ j → 0 ≤ s → s ≤ 2000 → (rd_L5 n i).length ≤ 200 → ((n.length : Int) - i - 1) * 203 + (((rd_L5 n i).length : Int) - j) + 2 < k → j ≤ ((rd_L5 n i).length : Int) → 0 < k →
      ∃ b, chirographref07_Huge.l1 k n 2000 s i j = some b ∧ (b = false → (∀ p ∈ (rd_L5 n i).drop j.toNat, Small p) ∧ ∀ t ∈ n.drop (i + 1).toNat, t.length ≤ 200 ∧ ∀ p ∈ t, Small p))
  | 0 => ⟨fun s i _ _ _ _ h => absurd h (Nat.lt_irrefl 0), fun s i j _ _ _ _ _ _ _ _ h => absurd h (Nat.lt_irrefl 0)⟩
  | k + 1 => by
    obtain ⟨ih0, ih1⟩ := huge_loop n hn hb k
    refine ⟨fun s i h0 hs0 hs1 hk _ => ?_, fun s i j h0 hi hj hs0 hs1 hlen hk hjl _ => ?_⟩
    · rw [chirographref07_Huge.l0]
      by_cases hi : i < (n.length : Int)
      · rw [if_pos hi, if_pos h0]
        by_cases hl : ((rd_L5 n i).length : Int) > 200
        · rw [if_pos hl]
          exact ⟨true, rfl, fun h => by cases h⟩
        · rw [if_neg hl]
          obtain ⟨b, h1, h2⟩ := ih1 s i 0 h0 hi (by omega) hs0 hs1 (by omega) (by omega) (by omega) (by omega)
          refine ⟨b, h1, fun hbf => ?_⟩
          obtain ⟨h3, h4⟩ := h2 hbf
          rw [drop_at' n [] i h0 hi]
          intro t ht
          rcases List.mem_cons.1 ht with rfl | ht
          · exact ⟨by have : (rd_L5 n i).length ≤ 200 := by omega
                      exact this, by rw [show (0 : Int).toNat = 0 from rfl, List.drop_zero] at h3; exact h3⟩
          · exact h4 t ht
      · rw [if_neg hi]
        refine ⟨false, rfl, fun _ => ?_⟩
        rw [List.drop_eq_nil_of_le (by omega)]
        intro t ht
        cases ht
    · rw [chirographref07_Huge.l1, if_pos h0, if_pos hi]
      by_cases hj1 : j < ((rd_L5 n i).length : Int)
      · rw [if_pos hj1, if_pos hj]
        have hm1 : rd_L5 n i ∈ n := getD_mem n [] i h0 hi
        have hm2 : rd_T64 (rd_L5 n i) j ∈ rd_L5 n i := getD_mem (rd_L5 n i) z64 j hj hj1
        obtain ⟨b1, b2⟩ := hb _ hm1 _ hm2
        have hd := drop_at' (rd_L5 n i) z64 j hj hj1
        have hrd : (rd_L5 n i).getD j.toNat z64 = rd_T64 (rd_L5 n i) j := rfl
        rw [hrd] at hd
        generalize rd_T64 (rd_L5 n i) j = p at *
        have w1 : wrap64 (2000 - s) = 2000 - s := by unfold wrap64; omega
        rw [w1]
        by_cases ha : (p.f2.length : Int) > 2000 - s
        · rw [if_pos ha]
          exact ⟨true, rfl, fun h => by cases h⟩
        · rw [if_neg ha]
          have w2 : wrap64 (s + (p.f2.length : Int)) = s + (p.f2.length : Int) := by unfold wrap64; omega
          rw [w2]
          have w3 : wrap64 (2000 - (s + (p.f2.length : Int))) = 2000 - (s + (p.f2.length : Int)) := by unfold wrap64; omega
          rw [w3]
          by_cases hc : (p.f0.size : Int) > 2000 - (s + (p.f2.length : Int))
          · rw [if_pos hc]
            exact ⟨true, rfl, fun h => by cases h⟩
          · rw [if_neg hc]
            have w4 : wrap64 (s + (p.f2.length : Int) + (p.f0.size : Int)) = s + (p.f2.length : Int) + (p.f0.size : Int) := by unfold wrap64; omega
            have w5 : wrap64 (j + 1) = j + 1 := by unfold wrap64; omega
            rw [w4, w5]
            obtain ⟨b, h1, h2⟩ := ih1 (s + (p.f2.length : Int) + (p.f0.size : Int)) i (j + 1) h0 hi (by omega) (by omega) (by omega) hlen (by omega) (by omega) (by omega)
            refine ⟨b, h1, fun hbf => ?_⟩
            obtain ⟨h3, h4⟩ := h2 hbf
            refine ⟨?_, h4⟩
            rw [hd]
            intro q hq
            rcases List.mem_cons.1 hq with rfl | hq
            · exact ⟨by omega, by omega⟩
            · exact h3 q hq
      · rw [if_neg hj1]
        have w5 : wrap64 (i + 1) = i + 1 := by unfold wrap64; omega
        rw [w5]
        obtain ⟨b, h1, h2⟩ := ih0 s (i + 1) (by omega) hs0 hs1 (by omega) (by omega)
        refine ⟨b, h1, fun hbf => ⟨?_, h2 hbf⟩⟩
        rw [List.drop_eq_nil_of_le (by omega)]
        intro q hq
        cases hq
theorem huge_total (k : Nat) (hk : 50000 < k) (n : List (List S64)) (hb : ∀ s ∈ n, ∀ p ∈ s, p.f0.size ≤ 4611686018427387904 ∧ p.f2.length ≤ 4611686018427387904) : ∃ b, chirographref07_Huge.f k n 2000 = some b ∧ (b = false → n.length ≤ 200 ∧ ∀ s ∈ n, s.length ≤ 200 ∧ ∀ p ∈ s, Small p) := by
  unfold chirographref07_Huge.f
  by_cases h : (n.length : Int) > 200
  · rw [if_pos h]
    exact ⟨true, rfl, fun h => by cases h⟩
  · rw [if_neg h]
    obtain ⟨b, h1, h2⟩ := (huge_loop n (by omega) hb k).1 0 0 (by omega) (by omega) (by omega) (by omega) (by omega)
    exact ⟨b, h1, fun hbf => ⟨by omega, by simpa using h2 hbf⟩⟩
/-- What an argument's part is. -/
def PartOk (p : S64) : Prop := p.f0.size ≤ 4611686018427387904 ∧ p.f2.length ≤ 4611686018427387904 ∧ p.f2.all isByte = true ∧ -9223372036854775808 ≤ p.f1 ∧ p.f1 ≤ 9223372036854775807
end Go.Proofs.YtkioddjjfifadaaGreatDoor.P
namespace Go.Proofs.YtkioddjjfifadaaGreatDoor.P
open Go.RowKit Go.Proofs.YtkioddjjfifadaaGreatDoorW.PrintWords
theorem key06_eq (k K : Nat) (a : Int) (l : List Int) (h0 : -9223372036854775808 ≤ a) (h1 : a ≤ 9223372036854775807) (hb : l.all isByte = true) (hl : l.length ≤ 2000) (hk : l.length + 1 < k) (hK0 : 20000 ≤ K) (hK1 : K ≤ 99999) (r : ByteArray) (h : text_Key.f k a l = some r) : chirographref06_Key.f K a l = some r := by
  unfold text_Key.f at h
  unfold chirographref06_Key.f
  obtain ⟨bt, hbt, h⟩ := Option.bind_eq_some_iff.mp h
  obtain ⟨r', hr', hsz⟩ := text_total k a l hb (by omega) hk
  rw [hbt] at hr'
  obtain rfl := Option.some.inj hr'
  rw [text_eq a l hb (by omega) k K hk (by omega) bt hbt, Option.bind_some]
  by_cases hz : bt.2 = 0
  · rw [if_pos hz] at h ⊢
    obtain ⟨t, ht, h⟩ := Option.bind_eq_some_iff.mp h
    rw [fold_eq bt.1 t K (by omega) ht, Option.bind_some]
    exact h
  · rw [if_neg hz] at h ⊢
    obtain ⟨t, ht, h⟩ := Option.bind_eq_some_iff.mp h
    unfold strconv_Itoa.f at ht
    rw [if_pos ⟨h0, h1⟩] at ht
    rw [digits_itoa K (by omega) hK1 a h0 h1, ht, Option.bind_some]
    exact h
theorem item_eq (k K : Nat) (p : S64) (hg : GoodP p) (hk : 2010 < k) (hK0 : 20000 ≤ K) (hK1 : K ≤ 99999) (key d : ByteArray) (h1 : text_Key.f k p.f1 p.f2 = some key) (h2 : strconv_Itoa.f (key.size : Int) = some d) :
    itemR K p = some (((((p.f0 ++ (⟨#[61]⟩ : ByteArray)) ++ d) ++ (⟨#[58]⟩ : ByteArray)) ++ key) ++ (⟨#[59]⟩ : ByteArray)) := by
  obtain ⟨g1, g2, g3, g4, g5⟩ := hg
  obtain ⟨x, hx, hxs⟩ := key_total k p.f1 p.f2 g4 g5 g3 g2 (by omega)
  rw [h1] at hx
  obtain rfl := Option.some.inj hx
  obtain ⟨y, hy, hys⟩ := itoa_total (key.size : Int) (by omega) (by omega)
  rw [h2] at hy
  obtain rfl := Option.some.inj hy
  unfold itemR
  rw [key06_eq k K p.f1 p.f2 g4 g5 g3 g2 (by omega) hK0 hK1 key h1, Option.bind_some]
  unfold strconv_Itoa.f at h2
  rw [if_pos (by omega)] at h2
  rw [decimal_itoa K (by omega) (by omega) key.size (by omega), h2, Option.bind_some, if_pos ⟨by omega, by omega, by omega⟩]
theorem mark_inv (K : Nat) (hK0 : 20000 ≤ K) (hK1 : K ≤ 99999) (l : List S64) (hl : l.length ≤ 200) (hg : ∀ p ∈ l, GoodP p) (r : ByteArray) : ∀ (k : Nat) (acc : List ByteArray) (i : Nat), i ≤ l.length → (l.length - i) + 2010 < k → name_mark.l0 k acc l (l.length : Int) (i : Int) = some r →
    ∃ xs : List ByteArray, itemsR K (l.drop i) = some (xs.map bytesOf) ∧ r = (⟨(Lib.join ((sortB (acc ++ xs)).map (·.data.toList)) []).toArray⟩ : ByteArray) ++ (⟨#[47]⟩ : ByteArray)
  | 0, _, _, _, h, _ => absurd h (Nat.not_lt_zero _)
  | k + 1, acc, i, hil, hk, h => by
    rw [name_mark.l0] at h
    by_cases hi : i < l.length
    · rw [if_pos (by omega), if_pos (by omega), if_pos (by omega)] at h
      have hm : rd_T64 l (i : Int) ∈ l := getD_mem l z64 (i : Int) (by omega) (by omega)
      have hgp := hg _ hm
      have hd : l.drop i = rd_T64 l (i : Int) :: l.drop (i + 1) := by
        rw [List.drop_eq_getElem_cons hi]
        show _ = l.getD (i : Int).toNat z64 :: _
        rw [Int.toNat_natCast, List.getD_eq_getElem?_getD, List.getElem?_eq_getElem hi]
        rfl
      rw [hd]
      generalize rd_T64 l (i : Int) = p at *
      obtain ⟨key, hkey, h⟩ := Option.bind_eq_some_iff.mp h
      split at h
      case isFalse => cases h
      obtain ⟨d, hdec, h⟩ := Option.bind_eq_some_iff.mp h
      split at h
      case isFalse => cases h
      split at h
      case isFalse => cases h
      split at h
      case isFalse => cases h
      split at h
      case isFalse => cases h
      split at h
      case isFalse => cases h
      have hit := item_eq k K p hgp (by omega) hK0 hK1 key d hkey hdec
      rw [show wrap64 ((i : Int) + 1) = ((i + 1 : Nat) : Int) from (w64' (by omega) (by omega)).trans (by omega)] at h
      generalize ((((p.f0 ++ (⟨#[61]⟩ : ByteArray)) ++ d) ++ (⟨#[58]⟩ : ByteArray)) ++ key) ++ (⟨#[59]⟩ : ByteArray) = it at *
      obtain ⟨xs, h1, h3⟩ := mark_inv K hK0 hK1 l hl hg r k (acc ++ [it]) (i + 1) (by omega) (by omega) h
      refine ⟨it :: xs, ?_, ?_⟩
      · rw [itemsR, hit, Option.bind_some, h1, Option.bind_some]
        rfl
      · rw [List.append_assoc] at h3
        exact h3
    · rw [if_neg (by omega)] at h
      refine ⟨[], ?_, ?_⟩
      · rw [List.drop_eq_nil_of_le (by omega)]
        rfl
      · rw [List.append_nil]
        obtain ⟨y, hy, h⟩ := Option.bind_eq_some_iff.mp h
        obtain ⟨j, hj, h⟩ := Option.bind_eq_some_iff.mp h
        unfold slices_Sort.f at hy
        split at hy
        case isFalse => cases hy
        obtain rfl := Option.some.inj hy
        unfold strings_Join.f at hj
        split at hj
        case isFalse => cases hj
        obtain rfl := Option.some.inj hj
        split at h
        case isFalse => cases h
        exact (Option.some.inj h).symm
theorem itemsR_len (K : Nat) : ∀ (l : List S64) (xs : List (List Int)), itemsR K l = some xs → xs.length = l.length
  | [], xs, h => by
    obtain rfl := Option.some.inj h
    rfl
  | p :: l, xs, h => by
    rw [itemsR] at h
    obtain ⟨s, _, h⟩ := Option.bind_eq_some_iff.mp h
    obtain ⟨t, ht, h⟩ := Option.bind_eq_some_iff.mp h
    obtain rfl := Option.some.inj h
    simp [itemsR_len K l t ht]
theorem catB_un : ∀ (ys : List (List Int)), catB ys = ⟨((ys.map un).flatten).toArray⟩
  | [] => rfl
  | y :: ys => by
    rw [catB, catB_un ys, List.map_cons, List.flatten_cons, ← ba_mk_append]
    rfl
theorem join_flat (xs : List (List UInt8)) : Lib.join xs [] = xs.flatten := by
  cases xs with
  | nil => rfl
  | cons x r =>
    rw [Lib.join_cons]
    unfold Lib.joinTail
    simp
theorem set_eq (k K : Nat) (hK0 : 20000 ≤ K) (hK1 : K ≤ 99999) (l : List S64) (hl : l.length ≤ 200) (hg : ∀ p ∈ l, GoodP p) (hk : l.length + 2010 < k) (r : ByteArray) (h : name_mark.f k l = some r) : setR K l = some r := by
  unfold name_mark.f at h
  obtain ⟨xs, h1, h3⟩ := mark_inv K hK0 hK1 l hl hg r k [] 0 (Nat.zero_le _) (by omega) h
  rw [List.drop_zero] at h1
  rw [List.nil_append] at h3
  have hlen := itemsR_len K l _ h1
  unfold setR
  rw [h1, Option.bind_some]
  unfold chirographref07_sorted.f
  rw [if_pos (by omega), Option.bind_some, h3, catB_un, sortedL_un]
  unfold sortB
  rw [join_flat, List.map_map, List.map_map]
  have e1 : xs.map (un ∘ bytesOf) = xs.map fun b => b.data.toList := List.map_congr_left fun b _ => un_bytesOf b
  have e2 : ∀ L : List (List UInt8), L.map ((fun x : ByteArray => x.data.toList) ∘ fun l => (⟨l.toArray⟩ : ByteArray)) = L := fun L => (List.map_congr_left (g := id) fun x _ => rfl).trans (List.map_id _)
  rw [e1, e2]
theorem keyR_eq (k K : Nat) (hK0 : 20000 ≤ K) (hK1 : K ≤ 99999) (hk : 2210 < k) : ∀ (n : List (List S64)) (r : List UInt8), (∀ s ∈ n, s.length ≤ 200 ∧ ∀ p ∈ s, GoodP p) → keyL k n = some r → keyR K n = some ⟨r.toArray⟩
  | [], r, _, h => by
    obtain rfl := Option.some.inj h
    rfl
  | s :: n, r, hg, h => by
    rw [keyL] at h
    obtain ⟨m, hm, h⟩ := Option.bind_eq_some_iff.mp h
    obtain ⟨t, ht, h⟩ := Option.bind_eq_some_iff.mp h
    obtain rfl := Option.some.inj h
    obtain ⟨g1, g2⟩ := hg s (List.mem_cons_self ..)
    rw [keyR, set_eq k K hK0 hK1 s g1 g2 (by omega) m hm, Option.bind_some, keyR_eq k K hK0 hK1 hk n t (fun s' hs' => hg s' (List.mem_cons_of_mem _ hs')) ht, Option.bind_some, ← ba_mk_append]
/-- The document's key of a name is the program's. -/
theorem rkey_eq (k K : Nat) (hK0 : 20000 ≤ K) (hK1 : K ≤ 99999) (hk : 2210 < k) (n : List (List S64)) (r : ByteArray) (hg : ∀ s ∈ n, s.length ≤ 200 ∧ ∀ p ∈ s, GoodP p) (h : name_Key.f k n = some r) : chirographref07_Key.f K n = some r := by
  unfold name_Key.f at h
  obtain ⟨q, hq, h⟩ := Option.bind_eq_some_iff.mp h
  split at h
  case isFalse => cases h
  rename_i hl
  obtain rfl := Option.some.inj h
  unfold chirographref07_Key.f
  rw [keyR_eq k K hK0 hK1 hk n q hg hq, Option.bind_some, if_pos]
  exact ⟨by show q.toArray.size ≤ _; rw [List.size_toArray]; exact hl.1, hl.2, fun s hs => by have := (hg s hs).1; omega⟩
end Go.Proofs.YtkioddjjfifadaaGreatDoor.P
namespace Go.Proofs.YtkioddjjfifadaaGreatDoor
def laidL : List (String × DataW Unit) := [("math/bits.deBruijn32tab", Rows.laid_math_bits_deBruijn32tab), ("math/bits.deBruijn64tab", Rows.laid_math_bits_deBruijn64tab), ("internal/strconv.uint64pow10", Rows.laid_internal_strconv_uint64pow10), ("unicode/utf8.acceptRanges", Rows.laid_unicode_utf8_acceptRanges), ("errors.errorType", Rows.laid_errors_errorType), ("unicode/utf8.first", Rows.laid_unicode_utf8_first)]
def laidD : List (String × DataW Unit) := [("math/bits.deBruijn32tab", Rows.laid_math_bits_deBruijn32tab), ("math/bits.deBruijn64tab", Rows.laid_math_bits_deBruijn64tab), ("internal/strconv.uint64pow10", Rows.laid_internal_strconv_uint64pow10), ("unicode/utf8.acceptRanges", Rows.laid_unicode_utf8_acceptRanges), ("unicode/utf8.first", Rows.laid_unicode_utf8_first)]
noncomputable def laidW0 (os : Os) : World :=
  let w0 := World.holding Tryz.prog os ⟨#[], #[], []⟩
  { w0 with heap := w0.heap.modify 0 fun
      | .cells _ t frozen => .cells #[.iface 336 (.agg #[.pointer (some ⟨7, 132, none⟩)])] t frozen
      | o => o }
noncomputable def laidWorld (os : Os) : World := (laidW0 os).layVars Tryz.prog laidD
theorem own : ownKnob Tryz.prog.godebug = none := by kernel_rfl
theorem laidL_parts : (laidL.filter fun x => x.2.handleName?.isNone) = laidD := rfl
theorem laidD_all : (laidD.filter fun x => (laidD.map (·.1)).contains x.1) = laidD := by
  exact List.filter_eq_self.2 fun x hx => List.contains_iff_mem.2 (List.mem_map.2 ⟨x, hx, rfl⟩)
theorem laidD_none : (laidD.filter fun x => !(laidD.map (·.1)).contains x.1) = [] :=
  List.filter_eq_nil_iff.2 fun x hx => by rw [List.contains_iff_mem.2 (List.mem_map.2 ⟨x, hx, rfl⟩)]; simp
set_option maxRecDepth 100000 in
theorem laidWorld_met (os : Os) (args : Array Value) : laidMetH Tryz.prog laidL ((laidWorld os).forCall (fun _ _ => 0) ⟨#[], args, []⟩).memory := by
  have hd : laidMet Tryz.prog laidD ((laidWorld os).forCall (fun _ _ => 0) ⟨#[], args, []⟩).memory := by
    refine laidMet_layVars (w0 := laidW0 os) (laidD.map (·.1)) [] ?_ ?_ ?_ ?_
    · rw [laidD_all]; rfl
    · rw [laidD_all]; kernel_rfl
    · rw [laidD_all]; kernel_rfl
    · rw [laidD_none]; exact LaidIn.none
  exact laidMetH_of_parts (laidL_parts ▸ hd) (by kernel_rfl)
theorem laidWorld_os (os : Os) : (laidWorld os).os = os := (World.layVars_os _ _ _).trans rfl
end Go.Proofs.YtkioddjjfifadaaGreatDoor
namespace Go.Proofs.YtkioddjjfifadaaGreatDoor.P
open Go.Proofs.YtkioddjjfifadaaGreatDoor
theorem lh_et : Tryz.prog.globalNamed "errors.errorType" = some 0 := by kernel_rfl
theorem lh_rt : (Tryz.prog.cutTypes.find? (·.1 == "internal/reflectlite.rtype")).map (·.2) = some 336 := by kernel_rfl
theorem lh_one : ((List.range 458).filter fun t => Tryz.prog.rowNamed t [101, 114, 114, 111, 114]) = [132] := by kernel_rfl
theorem lh_size : Tryz.prog.types.size = 458 := by kernel_rfl
theorem lh_parts {W : World} (h : laidMetH Tryz.prog laidL W) : laidMet Tryz.prog laidD W ∧ handlesMet Tryz.prog [("errors.errorType", Rows.laid_errors_errorType)] W := h
theorem hd_of_laid {W : World} (h : laidMetH Tryz.prog laidL W) : Hd W := by
  obtain ⟨name, u, ty, e1, e2, e3, e4, e5⟩ := (lh_parts h).2 _ (List.mem_singleton.2 rfl)
  have en : name = [101, 114, 114, 111, 114] := (Option.some.inj e1).symm
  subst en
  obtain rfl := Option.some.inj (lh_rt.symm.trans e2)
  have hm : ty ∈ (List.range 458).filter fun t => Tryz.prog.rowNamed t [101, 114, 114, 111, 114] := List.mem_filter.2 ⟨List.mem_range.2 (by rw [← lh_size]; exact e3), e4⟩
  rw [lh_one] at hm
  obtain rfl := List.mem_singleton.1 hm
  have hh : typeHandle Tryz.prog 132 = .pointer (some ⟨7, 132, none⟩) := by kernel_rfl
  rw [hh] at e5
  have := World.var?_cell lh_et e5 0
  simpa using this
end Go.Proofs.YtkioddjjfifadaaGreatDoor.P
namespace Go.Proofs.YtkioddjjfifadaaGreatDoor.P
open Go.Proofs.YtkioddjjfifadaaGreatDoor Go.Lib
theorem u8extra : U8Extra Tryz.prog Tryz.lays197_ren := {
  n3 := by kernel_rfl
  n4 := by kernel_rfl
  y3 := by kernel_rfl
  y4 := by kernel_rfl
  c5 := by kernel_rfl
  c119 := by kernel_rfl
  c138 := by kernel_rfl }
theorem first_eq : (Rows.laid_unicode_utf8_first : DataW Unit) = firstData := by kernel_rfl
theorem accept_eq : (Rows.laid_unicode_utf8_acceptRanges : DataW Unit) = acceptData := by kernel_rfl
theorem pow_eq : (Rows.laid_internal_strconv_uint64pow10 : DataW Unit) = tabData .u64 pow10Tab := by kernel_rfl
theorem tb_of_laid {W : World} (h : laidMetH Tryz.prog laidL W) : Tb W := by
  have hd := (lh_parts h).1
  have h1 : VarReads Tryz.prog W "unicode/utf8.first" firstData := by
    rw [← first_eq]
    exact laidMet.reads hd (by unfold laidD; simp)
  have h2 : VarReads Tryz.prog W "unicode/utf8.acceptRanges" acceptData := by
    rw [← accept_eq]
    exact laidMet.reads hd (by unfold laidD; simp)
  have h3 : laidMet Tryz.prog (("internal/strconv.uint64pow10", tabData .u64 pow10Tab) :: [("unicode/utf8.acceptRanges", Rows.laid_unicode_utf8_acceptRanges), ("unicode/utf8.first", Rows.laid_unicode_utf8_first)]) W := by
    rw [← pow_eq]
    exact laidMet.tail (laidMet.tail hd)
  have hu : Utf8Tabs 2 3 W := utf8Tabs_of_reads (ρ := Tryz.lays197_ren) { Tryz.lays197 with } u8extra h1 h2
  refine ⟨tabIs_of_head (g := 4) (t := 419) (e := 278) (n := 20) (by kernel_rfl) (by kernel_rfl) (by kernel_rfl) (by kernel_rfl) (by kernel_rfl) (by kernel_rfl) h3, hu, ?_⟩
  obtain ⟨g, t, cs, fuel, p, hg, _, hv, _⟩ := laidMet.reads (n := "math/bits.deBruijn64tab") (d := Rows.laid_math_bits_deBruijn64tab) hd (by unfold laidD; simp)
  unfold World.var? at hv
  rw [show Tryz.prog.globalNamed "math/bits.deBruijn64tab" = some 6 by kernel_rfl, Option.bind_some] at hv
  rcases Nat.lt_or_ge 6 W.heap.size with h6 | h6
  · exact h6
  · rw [Array.getElem?_eq_none h6] at hv
    cases hv
end Go.Proofs.YtkioddjjfifadaaGreatDoor.P
namespace Go.Proofs.YtkioddjjfifadaaGreatDoor.P
open Go.Deep Go.RowKit Go.ChangeShapes Go.WideShapes Go.WideElems Go.Proofs.YtkioddjjfifadaaGreatDoorW.PrintWords
def Opens {α : Type} (P : Program) (d : Kd α) (t : TypeId) (Q : α → Prop) : Prop :=
  ∀ (H : Type) (enc : TypeId × Value → H) (w : World) (base : Nat) (spare : Nat → Bool) (held : Bool) (fuel : Nat) (cs : List Value) (x : DataW H × List MemPlace),
    DataW.trod enc P w base spare held fuel t cs = some x → ∃ v, d.K w v cs ∧ Q v
variable {P : Program}
theorem opens_int {t : TypeId} {k : IntKind} (ht : P.underlying t = some (.int k)) : Opens P (Kd.int k) t (fun n => (Lit.int k n).wf = true) := by
  intro H enc w base spare held fuel cs x h
  obtain ⟨n, rfl, _, hw⟩ := DataW.trod_int ht h
  exact ⟨n, rfl, hw⟩
theorem addr_add_add (a : Addr) (m n : Nat) : (a.add m).add n = a.add (m + n) := by
  unfold Addr.add
  by_cases hm : m = 0
  · simp [hm]
  · by_cases hn : n = 0
    · simp [hn]
    · simp [hm, hn, Nat.add_assoc]
section
variable {H : Type} {enc : TypeId × Value → H} {w : World} {base : Nat} {spare : Nat → Bool} {held : Bool}
theorem trodAll_stays (hl : laidOutB P = true) {W W' : World} (hb : Below W.heap.size W W') : ∀ {ts : List TypeId} {vs : List Value} {ds : List (DataW H)} {ps : List MemPlace}, (ts.all fun t => P.readableRec t && decide (t < P.types.size)) = true →
    DataW.TrodAll enc P W 0 (fun _ => true) true ts vs ds ps → (∀ x ∈ ps, x.block < W.heap.size) → DataW.TrodAll enc P W' 0 (fun b => decide (b < W.heap.size)) true ts vs ds ps
  | [], _, _, _, _, h, _ => by
    obtain ⟨rfl, rfl, rfl⟩ := trodAll_nil h
    rfl
  | t :: ts, _, _, _, ht, h, hlt => by
    obtain ⟨v, vs1, d, ds1, a, b, rfl, rfl, rfl, h1, h2⟩ := trodAll_cons h
    rw [List.all_cons, Bool.and_eq_true, Bool.and_eq_true] at ht
    exact ⟨a, b, Below.trod hl ht.1.1 (of_decide_eq_true ht.1.2) h1 hb (fun x hx => hlt x (List.mem_append_left _ hx)), trodAll_stays hl hb ht.2 h2 (fun x hx => hlt x (List.mem_append_right _ hx)), rfl⟩
end
end Go.Proofs.YtkioddjjfifadaaGreatDoor.P
namespace Go.Proofs.YtkioddjjfifadaaGreatDoor.P
open Go.Deep Go.RowKit Go.ChangeShapes Go.WideShapes Go.WideElems Go.Proofs.YtkioddjjfifadaaGreatDoorW.PrintWords
def OpensW {α : Type} (P : Program) (d : Kd α) (t : TypeId) (Q : α → Prop) : Prop :=
  ∀ (H : Type) (enc : TypeId × Value → H) (w : World) (base : Nat) (spare : Nat → Bool) (held : Bool) (fuel : Nat) (cs : List Value) (x : DataW H × List MemPlace),
    DataW.trod enc P w base spare held fuel t cs = some x → (∀ n ∈ x.1.weights P t, n ≤ reachBytes) → ∃ v, d.K w v cs ∧ Q v
variable {P : Program}
theorem Opens.toW {α : Type} {d : Kd α} {t : TypeId} {Q : α → Prop} (h : Opens P d t Q) : OpensW P d t Q := fun H enc w base spare held fuel cs x hx _ => h H enc w base spare held fuel cs x hx
theorem opensW_string {t : TypeId} (ht : P.underlying t = some .string) : OpensW P Kd.string t (fun s => s.size ≤ reachBytes) := by
  intro H enc w base spare held fuel cs x h hw
  obtain ⟨n, rfl, rfl, hs⟩ := DataW.trod_string ht h
  refine ⟨n, rfl, hw _ ?_⟩
  simp [DataW.weights]
theorem weightsAll_mem {H : Type} {e : TypeId} {n : Nat} : ∀ {l : List (DataW H)} {d : DataW H}, d ∈ l → n ∈ d.weights P e → n ∈ DataW.weightsAll P e l
  | [], _, h, _ => by cases h
  | a :: l, d, h, hn => by
    unfold DataW.weightsAll
    rcases List.mem_cons.1 h with rfl | h
    · exact List.mem_append_left _ hn
    · exact List.mem_append_right _ (weightsAll_mem h hn)
theorem weightsEach_mem {H : Type} {n : Nat} : ∀ {ts : List TypeId} {ds : List (DataW H)} (i : Nat) {t : TypeId} {d : DataW H}, ts[i]? = some t → ds[i]? = some d → n ∈ d.weights P t → n ∈ DataW.weightsEach P ts ds
  | [], _, i, _, _, h, _, _ => by simp at h
  | _ :: _, [], i, _, _, _, h, _ => by simp at h
  | t :: ts, d :: ds, 0, t', d', h1, h2, hn => by
    obtain rfl : t = t' := by simpa using h1
    obtain rfl : d = d' := by simpa using h2
    unfold DataW.weightsEach
    exact List.mem_append_left _ hn
  | t :: ts, d :: ds, i + 1, t', d', h1, h2, hn => by
    unfold DataW.weightsEach
    exact List.mem_append_right _ (weightsEach_mem i (by simpa using h1) (by simpa using h2) hn)
theorem opensW_slice {α : Type} {d : Kd α} {t e : TypeId} {Q : α → Prop} (ht : P.underlying t = some (.slice e)) (hc : P.cellsOf e = d.sz) (hd : OpensW P d e Q) :
    OpensW P (Kd.slice e d) t (fun xs => xs.length * P.bytesOf e ≤ reachBytes ∧ ∀ x ∈ xs, Q x) := by
  intro H enc w base spare held fuel cs x h hw
  rcases open_slice ht h with ⟨rfl, _⟩ | ⟨a, len, cap, m, n, D, Pl, rfl, hb, hl, hm, hmm, rfl, hx⟩
  · exact ⟨[], ⟨none, 0, rfl, Nat.le_refl _, ⟨rfl, by simp, fun h => absurd h (Nat.lt_irrefl 0)⟩⟩, by simp, fun _ h => by cases h⟩
  · have hlm : len ≤ m := by rw [hmm]; split <;> omega
    unfold DataW.weights at hw
    rw [ht] at hw
    simp only [List.mem_cons, List.mem_append] at hw
    have hw0 : len * P.bytesOf e ≤ reachBytes := by
      have := hw _ (Or.inl rfl)
      simp only [List.length_map, List.length_range] at this
      exact Nat.le_trans (Nat.mul_le_mul_right _ (by omega)) this
    have hwj : ∀ j, j < len → ∀ n ∈ (D j).weights P e, n ≤ reachBytes := fun j hj n hn =>
      hw n (Or.inr (Or.inl (weightsAll_mem (List.mem_map.2 ⟨j, List.mem_range.2 hj, rfl⟩) hn)))
    have key : ∀ k, k ≤ len → ∃ xs : List α, xs.length = k ∧ (∀ y ∈ xs, Q y) ∧ ∀ j p, xs[j]? = some p → ∃ c, c.length = d.sz ∧ d.K w p c ∧ ∀ i u, c[i]? = some u → w.cell? (a.add (j * d.sz + i)) = some u := by
      intro k
      induction k with
      | zero => exact fun _ => ⟨[], rfl, (fun _ h => by cases h), (fun j p h => by simp at h)⟩
      | succ k ih =>
        intro hk
        obtain ⟨xs, hxl, hxq, hxr⟩ := ih (by omega)
        obtain ⟨cs', h1, h2⟩ := hx k (by omega)
        obtain ⟨y, hy, hQ⟩ := hd H enc w base spare held n cs' _ h2 (hwj k (by omega))
        obtain ⟨_, hlen, hcell⟩ := World.cells?_some h1
        refine ⟨xs ++ [y], by simp [hxl], ?_, ?_⟩
        · intro z hz
          rcases List.mem_append.1 hz with hz | hz
          · exact hxq z hz
          · rw [List.mem_singleton.1 hz]; exact hQ
        · intro j p hp
          by_cases hj : j < k
          · rw [List.getElem?_append_left (by omega)] at hp
            exact hxr j p hp
          · have hjk : j = k := by
              have := (List.getElem?_eq_some_iff.1 hp).1
              simp [hxl] at this
              omega
            subst hjk
            rw [List.getElem?_append_right (by omega), hxl, Nat.sub_self] at hp
            obtain rfl : y = p := by simpa using hp
            refine ⟨cs', by rw [hlen, hc], hy, fun i u hi => ?_⟩
            have hi' : i < P.cellsOf e := by have := (List.getElem?_eq_some_iff.1 hi).1; omega
            have := hcell i hi'
            rw [hi, hc] at this
            rw [← this, addr_add_add]
    obtain ⟨xs, hxl, hxq, hxr⟩ := key len (Nat.le_refl _)
    have hmax : maxLen ≤ 9223372036854775807 := by decide
    refine ⟨xs, ⟨some a, cap, by rw [hxl], by omega, hxl ▸ rfl, by omega, fun _ => ⟨a, rfl, hxr⟩⟩, by rw [hxl]; exact hw0, hxq⟩
def OpensFW {α : Type} (P : Program) (d : Kd α) (fs : List Field) (o : Nat) (Q : α → Prop) : Prop :=
  ∀ (H : Type) (enc : TypeId × Value → H) (w : World) (base : Nat) (spare : Nat → Bool) (held : Bool) (fuel : Nat) (cs : List Value), cs.length = o + d.sz →
    (∀ (i : Nat) (f : Field), fs[i]? = some f → ∃ y, DataW.trod enc P w base spare held fuel f.type ((cs.drop f.offset).take (P.cellsOf f.type)) = some y ∧ ∀ n ∈ y.1.weights P f.type, n ≤ reachBytes) → ∃ v, d.K w v (cs.drop o) ∧ Q v
theorem opensFW_one {α : Type} {d : Kd α} {f : Field} {o : Nat} {Q : α → Prop} (ho : f.offset = o) (hc : P.cellsOf f.type = d.sz) (hd : OpensW P d f.type Q) : OpensFW P d [f] o Q := by
  intro H enc w base spare held fuel cs hl hf
  obtain ⟨y, hy, hw⟩ := hf 0 f rfl
  rw [ho, hc, List.take_of_length_le (by simp [hl])] at hy
  exact hd H enc w base spare held fuel _ _ hy hw
theorem opensFW_cons {α β : Type} {d1 : Kd α} {d2 : Kd β} {f : Field} {fs : List Field} {o : Nat} {Q1 : α → Prop} {Q2 : β → Prop} (ho : f.offset = o) (hc : P.cellsOf f.type = d1.sz) (hd : OpensW P d1 f.type Q1) (hr : OpensFW P d2 fs (o + d1.sz) Q2) :
    OpensFW P (Kd.pair d1 d2) (f :: fs) o (fun x => Q1 x.1 ∧ Q2 x.2) := by
  intro H enc w base spare held fuel cs hl hf
  obtain ⟨y, hy, hw⟩ := hf 0 f rfl
  rw [ho, hc] at hy
  obtain ⟨a, ha, hQ1⟩ := hd H enc w base spare held fuel _ _ hy hw
  obtain ⟨b, hb, hQ2⟩ := hr H enc w base spare held fuel cs (by rw [hl]; simp [Kd.pair]; omega) (fun i g hg => hf (i + 1) g (by simpa using hg))
  refine ⟨(a, b), ⟨_, _, ?_, ha, hb⟩, hQ1, hQ2⟩
  rw [← List.drop_drop, List.take_append_drop]
theorem opensW_struct {α : Type} {d : Kd α} {t : TypeId} {fs : Array Field} {Q : α → Prop} (ht : P.underlying t = some (.struct fs)) (hc : P.cellsOf t = d.sz) (hf : OpensFW P d fs.toList 0 Q) : OpensW P d t Q := by
  intro H enc w base spare held fuel cs x h hw
  obtain ⟨xs, n, _, rfl, hl, hlen, hg⟩ := DataW.trod_struct ht h
  unfold DataW.weights at hw
  rw [ht] at hw
  obtain ⟨v, hv, hQ⟩ := hf H enc w base spare held n cs (by rw [hl, hc, Nat.zero_add]) (fun i f hi => by
    have hi' : fs[i]? = some f := by simpa using hi
    have hlt := (Array.getElem?_eq_some_iff.1 hi').1
    refine ⟨xs[i]'(by omega), by rw [hg i f hi']; simp, fun m hm => hw m (weightsEach_mem i (t := f.type) (d := (xs[i]'(by omega)).1) ?_ ?_ hm)⟩
    · simp [hi']
    · have : i < xs.length := by omega
      simp [List.getElem?_eq_getElem this])
  exact ⟨v, by simpa using hv, hQ⟩
theorem opensW_iso {α β : Type} {d : Kd α} {t : TypeId} {Q : α → Prop} (g : β → α) (inv : α → β) (hg : ∀ a, g (inv a) = a) (h : OpensW P d t Q) : OpensW P (Kd.iso d g) t (fun x => Q (g x)) := by
  intro H enc w base spare held fuel cs x hx hw
  obtain ⟨v, hv, hQ⟩ := h H enc w base spare held fuel cs x hx hw
  exact ⟨inv v, by show d.K w (g (inv v)) cs; rw [hg]; exact hv, by show Q (g (inv v)); rw [hg]; exact hQ⟩
section
variable {H : Type} {enc : TypeId × Value → H} {w : World} {base : Nat} {spare : Nat → Bool} {held : Bool}
theorem open_struct_argW {α : Type} {d : Kd α} {t : TypeId} {Q : α → Prop} {fs : Array Field} {r : Reach} {b0 : Nat} {v : Value} {x : DataW H} {ps : List MemPlace} (ho : OpensW P d t Q) (ht : P.underlying t = some (.struct fs)) (hval : Value.okWide P w r b0 t v)
    (hd : DataW.Trod enc P w base spare held t v x ps) (hw : ∀ n ∈ x.weights P t, n ≤ reachBytes) : ∃ cs y, v = .agg (cs : List Value).toArray ∧ d.K w y cs ∧ Q y := by
  obtain ⟨cs, rfl, _⟩ := okWide_struct ht hval
  obtain ⟨fuel, hf⟩ := hd
  obtain ⟨y, hy, hQ⟩ := ho H enc w base spare held fuel _ _ hf hw
  exact ⟨cs.toList, y, by simp, hy, hQ⟩
theorem open_slice_argW {α : Type} {d : Kd α} {t e : TypeId} {Q : List α → Prop} {r : Reach} {b0 : Nat} {v : Value} {x : DataW H} {ps : List MemPlace} (ho : OpensW P (Kd.slice e d) t Q) (ht : P.underlying t = some (.slice e)) (hval : Value.okWide P w r b0 t v)
    (hd : DataW.Trod enc P w base spare held t v x ps) (hw : ∀ n ∈ x.weights P t, n ≤ reachBytes) : ∃ A c ys, v = .slice A (ys : List α).length c ∧ ys.length ≤ c ∧ d.C w A ys.length ys ∧ Q ys := by
  obtain ⟨a, n, c, rfl⟩ := okWide_slice ht hval
  obtain ⟨fuel, hf⟩ := hd
  obtain ⟨ys, ⟨A, c', he, hl, hc⟩, hQ⟩ := ho H enc w base spare held fuel _ _ hf hw
  refine ⟨A, c', ys, ?_, hl, hc, hQ⟩
  simpa [Value.cells] using he
end
end Go.Proofs.YtkioddjjfifadaaGreatDoor.P
namespace Go.Proofs.YtkioddjjfifadaaGreatDoor.P
open Go.Deep Go.RowKit Go.ChangeShapes Go.WideShapes Go.WideElems Go.Proofs.YtkioddjjfifadaaGreatDoorW.PrintWords
abbrev QB (x : List Int) : Prop := x.length * Tryz.prog.bytesOf 5 ≤ reachBytes ∧ ∀ y ∈ x, (Lit.int .u8 y).wf = true
abbrev Q64W (x : S64) : Prop := x.f0.size ≤ reachBytes ∧ (Lit.int .i64 x.f1).wf = true ∧ QB x.f2
abbrev QNm (n : List (List S64)) : Prop := n.length * Tryz.prog.bytesOf 62 ≤ reachBytes ∧ ∀ s ∈ n, s.length * Tryz.prog.bytesOf 64 ≤ reachBytes ∧ ∀ p ∈ s, Q64W p
abbrev QWh (x : Wh) : Prop := QNm x.iss ∧ QB x.ser ∧ QB x.ski
theorem o_bytesW {t : TypeId} (ht : Tryz.prog.underlying t = some (.slice 5)) : OpensW Tryz.prog (Kd.slice 5 (Kd.int .u8)) t QB := opensW_slice ht (by kernel_rfl) (opens_int (by kernel_rfl)).toW
theorem o_64W : OpensW Tryz.prog k64 64 Q64W :=
  opensW_iso (fun x : S64 => (x.f0, x.f1, x.f2)) (fun p => ⟨p.1, p.2.1, p.2.2⟩) (fun _ => rfl) (opensW_struct Tryz.underlying64 (by kernel_rfl)
    (opensFW_cons rfl (by kernel_rfl) (opensW_string (by kernel_rfl)) (opensFW_cons rfl (by kernel_rfl) (opens_int (by kernel_rfl)).toW (opensFW_one rfl (by kernel_rfl) (o_bytesW (by kernel_rfl))))))
theorem o_nameW {t : TypeId} (ht : Tryz.prog.underlying t = some (.slice 62)) : OpensW Tryz.prog (Kd.slice 62 (Kd.slice 64 k64)) t QNm := opensW_slice ht (by kernel_rfl) (opensW_slice (by kernel_rfl) (by kernel_rfl) o_64W)
theorem o_92 : OpensW Tryz.prog kWh 92 QWh :=
  opensW_iso (fun x : Wh => (x.iss, x.ser, x.ski)) (fun p => ⟨p.1, p.2.1, p.2.2⟩) (fun _ => rfl) (opensW_struct Tryz.underlying92 (by kernel_rfl)
    (opensFW_cons rfl (by kernel_rfl) (o_nameW (by kernel_rfl)) (opensFW_cons rfl (by kernel_rfl) (o_bytesW (by kernel_rfl)) (opensFW_one rfl (by kernel_rfl) (o_bytesW (by kernel_rfl))))))
theorem o_93 : OpensW Tryz.prog (Kd.slice 92 kWh) 93 (fun xs => xs.length * Tryz.prog.bytesOf 92 ≤ reachBytes ∧ ∀ x ∈ xs, QWh x) := opensW_slice Tryz.underlying93 (by kernel_rfl) o_92
theorem bytes5' : Tryz.prog.bytesOf 5 = 1 := by kernel_rfl
theorem wf_u8 {x : Int} (h : (Lit.int .u8 x).wf = true) : 0 ≤ x ∧ x ≤ 255 := by simpa [Lit.wf, IntKind.min, IntKind.max, IntKind.signed, IntKind.bits] using h
theorem wf_i64 {x : Int} (h : (Lit.int .i64 x).wf = true) : -9223372036854775808 ≤ x ∧ x ≤ 9223372036854775807 := by simpa [Lit.wf, IntKind.min, IntKind.max, IntKind.signed, IntKind.bits] using h
theorem part_ok {x : S64} (h : Q64W x) : PartOk x := by
  obtain ⟨h0, h1, h2, h3⟩ := h
  rw [bytes5', Nat.mul_one] at h2
  have hr : reachBytes = 140737488351232 := by decide
  rw [hr] at h0 h2
  refine ⟨by omega, by omega, List.all_eq_true.2 fun y hy => ?_, wf_i64 h1⟩
  have := wf_u8 (h3 y hy)
  simp only [isByte, Bool.and_eq_true, decide_eq_true_eq]
  exact this
end Go.Proofs.YtkioddjjfifadaaGreatDoor.P
namespace Go.Proofs.YtkioddjjfifadaaGreatDoor.P
open Go.Deep Go.RowKit Go.ChangeShapes Go.WideShapes Go.WideElems Go.Proofs.YtkioddjjfifadaaGreatDoorW.PrintWords
theorem sb_loop (a b : List Int) (hlen : a.length = b.length) (hl : a.length ≤ 140737488355328) : ∀ (k i : Nat), i ≤ a.length → a.length - i < k → chirographref01_SameBytes.l0 k a b (i : Int) = some (decide (a.drop i = b.drop i))
  | 0, _, _, h => absurd h (Nat.not_lt_zero _)
  | k + 1, i, hi, hk => by
    rw [chirographref01_SameBytes.l0]
    by_cases hlt : i < a.length
    · have ha : a.drop i = rd a (i : Int) :: a.drop (i + 1) := by
        rw [List.drop_eq_getElem_cons hlt]
        show _ = a.getD (i : Int).toNat 0 :: _
        rw [Int.toNat_natCast, List.getD_eq_getElem?_getD, List.getElem?_eq_getElem hlt]
        rfl
      have hltb : i < b.length := by omega
      have hb : b.drop i = rd b (i : Int) :: b.drop (i + 1) := by
        rw [List.drop_eq_getElem_cons hltb]
        show _ = b.getD (i : Int).toNat 0 :: _
        rw [Int.toNat_natCast, List.getD_eq_getElem?_getD, List.getElem?_eq_getElem hltb]
        rfl
      rw [if_pos (by omega), if_pos (by omega), if_pos (by omega), ha, hb]
      generalize rd a (i : Int) = p
      generalize rd b (i : Int) = q
      by_cases hpq : p = q
      · subst hpq
        rw [if_pos rfl, show wrap64 ((i : Int) + 1) = ((i + 1 : Nat) : Int) from (w64' (by omega) (by omega)).trans (by omega), sb_loop a b hlen hl k (i + 1) (by omega) (by omega)]
        congr 1
        rw [Bool.eq_iff_iff]
        simp
      · rw [if_neg hpq]
        congr 1
        symm
        rw [decide_eq_false_iff_not]
        intro h
        exact hpq (List.cons.inj h).1
    · rw [if_neg (by omega), List.drop_eq_nil_of_le (by omega), List.drop_eq_nil_of_le (by omega)]
      rfl
theorem sb_eq (a b : List Int) (ha : a.all isByte = true) (hb : b.all isByte = true) (hl : a.length ≤ 140737488355328) (k : Nat) (hk : a.length < k) : chirographref01_SameBytes.f k a b = some ((strOfNums a).toList == (strOfNums b).toList) := by
  have hiff : ((strOfNums a).toList = (strOfNums b).toList) ↔ a = b := by
    constructor
    · intro h
      rw [Lib.toList_data, Lib.toList_data] at h
      have h2 : bytesOf (strOfNums a) = bytesOf (strOfNums b) := by unfold bytesOf; rw [h]
      rwa [zs_of a ha, zs_of b hb] at h2
    · rintro rfl
      rfl
  unfold chirographref01_SameBytes.f
  by_cases hlen : a.length = b.length
  · rw [if_pos (by omega), show (0 : Int) = ((0 : Nat) : Int) from rfl, sb_loop a b hlen hl k 0 (Nat.zero_le _) (by omega), List.drop_zero, List.drop_zero]
    congr 1
    rw [Bool.eq_iff_iff, decide_eq_true_eq, beq_iff_eq]
    exact hiff.symm
  · rw [if_neg (by omega)]
    congr 1
    symm
    rw [beq_eq_false_iff_ne]
    intro h
    exact hlen (congrArg List.length (hiff.1 h))
theorem qb_byte {x : List Int} (h : QB x) : x.all isByte = true := List.all_eq_true.2 fun y hy => by
  have := wf_u8 (h.2 y hy)
  simp only [isByte, Bool.and_eq_true, decide_eq_true_eq]
  exact this
theorem qb_len {x : List Int} (h : QB x) : x.length ≤ 140737488355328 := by
  have h1 := h.1
  rw [bytes5', Nat.mul_one] at h1
  have hr : reachBytes = 140737488351232 := by decide
  omega
theorem qb_same {a b : List Int} (ha : QB a) (hb : QB b) : chirographref01_SameBytes.f 140737488355529 a b = some ((strOfNums a).toList == (strOfNums b).toList) :=
  sb_eq a b (qb_byte ha) (qb_byte hb) (qb_len ha) _ (by have := qb_len ha; omega)
theorem name_preF {n : List (List S64)} (h : QNm n) : ∃ b, chirographref07_Huge.f 100000 n 2000 = some b ∧ (b = false → ∃ r, name_Key.f 100000 n = some r ∧ chirographref07_Key.f 90000 n = some r) := by
  have hp : ∀ s ∈ n, ∀ p ∈ s, PartOk p := fun s hs p hp => part_ok ((h.2 s hs).2 p hp)
  obtain ⟨b, h1, h2⟩ := huge_total 100000 (by omega) n (fun s hs p hp' => ⟨(hp s hs p hp').1, (hp s hs p hp').2.1⟩)
  refine ⟨b, h1, fun hbf => ?_⟩
  obtain ⟨h3, h4⟩ := h2 hbf
  have hg : ∀ s ∈ n, s.length ≤ 200 ∧ ∀ p ∈ s, GoodP p := fun s hs => ⟨(h4 s hs).1, fun p hp' => ⟨((h4 s hs).2 p hp').1, ((h4 s hs).2 p hp').2, (hp s hs p hp').2.2.1, (hp s hs p hp').2.2.2.1, (hp s hs p hp').2.2.2.2⟩⟩
  obtain ⟨r, hr⟩ := nameKey_total 100000 (by omega) n h3 hg
  exact ⟨r, hr, rkey_eq 100000 90000 (by omega) (by omega) (by omega) n r hg hr⟩
end Go.Proofs.YtkioddjjfifadaaGreatDoor.P
