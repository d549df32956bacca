/- text.Key, name.mark, name.Key have an answer at whatever is not huge; plain Lean. -/
import Derived.Test.YtkioddjjfifadaaGreatDoorHm1
import Derived.Test.YtkioddjjfifadaaGreatDoorPxf39
import Derived.Lib.ItoaLen
/- text.Key, name.mark, name.Key have an answer at whatever is not huge; plain Lean. -/
namespace Go.Proofs.YtkioddjjfifadaaGreatDoor.P
open Go.RowKit Go.Proofs.YtkioddjjfifadaaGreatDoorW.PrintWords Go.Proofs.YtkioddjjfifadaaGreatDoorW.PrintLast Go.Proofs.YtkioddjjfifadaaGreatDoorW.PrintMore
theorem strOfNums_size (l : List Int) : (strOfNums l).size = l.length := by
  unfold strOfNums
  simp [ByteArray.size]
theorem wrap_up' {n : Nat} {i : Int} (hn : n ≤ 4611686018427387904) (h0 : 0 ≤ i) (h1 : i < n) : wrap64 (i + 1) = i + 1 := by unfold wrap64; omega
theorem fits_total (a b : Int) : ∃ r, text_fits.f a b = some r := by
  unfold text_fits.f strings_IndexByte.f
  simp only [Option.bind_some]
  repeat' split
  all_goals exact ⟨_, rfl⟩
theorem wideL_len : ∀ (l r : List Int), wideL l = some r → r.length ≤ 2 * l.length
  | [], r, h => by
    obtain rfl := Option.some.inj h
    simp
  | [_], r, h => by
    obtain rfl := Option.some.inj h
    simp
  | a :: b :: l, r, h => by
    rw [wideL] at h
    split at h
    · cases h
    · obtain ⟨t, ht, rfl⟩ := Option.map_eq_some_iff.1 h
      have := wideL_len l t ht
      have := encodeRuneZ_len (a * 256 + b)
      simp only [List.length_append, List.length_cons]
      omega
theorem foldOut_len (bl : Bool) (out : List Int) : (foldOut bl out).length ≤ out.length + 1 := by
  unfold foldOut
  split
  · simp
  · omega
theorem foldGo_len (s : ByteArray) : ∀ (f pos : Nat) (bl : Bool) (out : List Int), pos ≤ s.size → out.length ≤ 5 * pos → (foldGo s f pos bl out).length ≤ 5 * s.size
  | 0, pos, bl, out, hp, ho => by
    rw [foldGo]
    omega
  | f + 1, pos, bl, out, hp, ho => by
    rw [foldGo]
    split
    · rename_i h
      obtain ⟨n1, n2, n4⟩ := decode_width s pos h
      have hf := foldOut_len bl out
      split
      · exact foldGo_len s f _ _ _ n2 (by omega)
      · split
        · refine foldGo_len s f _ _ _ n2 ?_
          rw [List.length_append, bytesOf_length, ext_size s pos _ n2]
          omega
        · refine foldGo_len s f _ _ _ n2 ?_
          rw [List.length_append]
          have := encodeRuneZ_len (low ((Utf8.decode s pos).1 : Int))
          omega
    · omega
theorem fold_total (s : ByteArray) (h : s.size ≤ 1099511627776) : ∃ r, text_Fold.f s = some r ∧ r.size ≤ 5 * s.size := by
  unfold text_Fold.f
  rw [if_pos h]
  refine ⟨_, rfl, ?_⟩
  rw [strOfNums_size]
  exact foldGo_len s _ 0 _ _ (Nat.zero_le _) (Nat.zero_le _)
theorem text_loop (a : Int) (l : List Int) (hl : l.length ≤ 1000000) : ∀ (k : Nat) (i : Int), 0 ≤ i → (l.length : Int) - i < k → 0 < k → ∃ r, text_Text.l0 k a l l (l.length : Int) i = some r ∧ r.1.size ≤ l.length
  | 0, i, _, _, h3 => by omega
  | k + 1, i, h0, h2, _ => by
    rw [text_Text.l0]
    by_cases hi : i < (l.length : Int)
    · rw [if_pos hi, if_pos h0, if_pos hi]
      obtain ⟨r, hr⟩ := fits_total a (rd l i)
      rw [hr, Option.bind_some]
      split
      · rw [wrap_up' (n := l.length) (by omega) h0 hi]
        exact text_loop a l hl k (i + 1) (by omega) (by omega) (by omega)
      · exact ⟨_, rfl, Nat.zero_le _⟩
    · rw [if_neg hi]
      exact ⟨_, rfl, by rw [strOfNums_size]; exact Nat.le_refl _⟩
theorem text_total (k : Nat) (a : Int) (l : List Int) (hb : l.all isByte = true) (hl : l.length ≤ 1000000) (hk : l.length + 1 < k) : ∃ r, text_Text.f k a l = some r ∧ r.1.size ≤ 2 * l.length := by
  unfold text_Text.f
  split
  · unfold text_wide.f
    rw [if_pos ⟨hb, by omega⟩]
    split
    · exact ⟨_, rfl, Nat.zero_le _⟩
    · cases hw : wideL l with
      | none => exact ⟨_, rfl, Nat.zero_le _⟩
      | some x => exact ⟨_, rfl, by show (strOfNums x).size ≤ _; rw [strOfNums_size]; exact wideL_len l x hw⟩
  · split
    · unfold utf8_Valid.f
      rw [if_pos ⟨hb, by omega⟩, Option.bind_some]
      split
      · exact ⟨_, rfl, by show (strOfNums l).size ≤ _; rw [strOfNums_size]; omega⟩
      · exact ⟨_, rfl, Nat.zero_le _⟩
    · obtain ⟨k1, rfl⟩ : ∃ k1, k = k1 + 1 := ⟨k - 1, by omega⟩
      have hj : ∀ b, ∃ r, text_Text.j0 (k1 + 1) a l b = some r ∧ r.1.size ≤ 2 * l.length := fun b => by
        rw [text_Text.j0]
        split
        · obtain ⟨r, h1, h2⟩ := text_loop a l hl k1 0 (by omega) (by omega) (by omega)
          exact ⟨r, h1, by omega⟩
        · exact ⟨_, rfl, Nat.zero_le _⟩
      repeat' split
      all_goals exact hj _
theorem itoa_total (n : Int) (h0 : -9223372036854775808 ≤ n) (h1 : n ≤ 9223372036854775807) : ∃ r, strconv_Itoa.f n = some r ∧ r.size ≤ 21 := by
  unfold strconv_Itoa.f
  rw [if_pos ⟨h0, h1⟩]
  refine ⟨_, rfl, ?_⟩
  have := Lib.itoa_length_le n h0 h1
  simpa [ByteArray.size] using this
theorem key_total (k : Nat) (a : Int) (l : List Int) (h0 : -9223372036854775808 ≤ a) (h1 : a ≤ 9223372036854775807) (hb : l.all isByte = true) (hl : l.length ≤ 2000) (hk : l.length + 1 < k) : ∃ r, text_Key.f k a l = some r ∧ r.size ≤ 30000 := by
  unfold text_Key.f
  obtain ⟨r, hr, hs⟩ := text_total k a l hb (by omega) hk
  rw [hr, Option.bind_some]
  split
  · obtain ⟨q, hq, hqs⟩ := fold_total r.1 (by omega)
    rw [hq, Option.bind_some, if_pos (by omega)]
    refine ⟨_, rfl, ?_⟩
    rw [ByteArray.size_append]
    have : (⟨#[61]⟩ : ByteArray).size = 1 := rfl
    omega
  · obtain ⟨q, hq, hqs⟩ := itoa_total a h0 h1
    have z1 : (⟨#[35]⟩ : ByteArray).size = 1 := rfl
    have z2 : (⟨#[58]⟩ : ByteArray).size = 1 := rfl
    have z3 := strOfNums_size l
    rw [hq, Option.bind_some, if_pos (by omega), if_pos (by rw [ByteArray.size_append]; omega), if_pos (by rw [ByteArray.size_append, ByteArray.size_append]; omega)]
    refine ⟨_, rfl, ?_⟩
    rw [ByteArray.size_append, ByteArray.size_append, ByteArray.size_append]
    omega
/-- A part that is not huge. -/
def GoodP (p : S64) : Prop := p.f0.size ≤ 2000 ∧ p.f2.length ≤ 2000 ∧ p.f2.all isByte = true ∧ -9223372036854775808 ≤ p.f1 ∧ p.f1 ≤ 9223372036854775807
end Go.Proofs.YtkioddjjfifadaaGreatDoor.P

/- name.mark and name.Key have an answer at whatever is not huge; chirographref07.Huge has one; plain Lean. -/
namespace Go.Proofs.YtkioddjjfifadaaGreatDoor.P
open Go.RowKit Go.Proofs.YtkioddjjfifadaaGreatDoorW.PrintWords Go.Proofs.YtkioddjjfifadaaGreatDoorW.PrintLast Go.Proofs.YtkioddjjfifadaaGreatDoorW.PrintMore
theorem join_len (B : Nat) : ∀ (xs : List (List UInt8)), (∀ x ∈ xs, x.length ≤ B) → (Lib.join xs []).length ≤ xs.length * B
  | [], _ => by simp [Lib.join]
  | [x], h => by
    have := h x List.mem_cons_self
    simp [Lib.join, List.intercalate]
    omega
  | x :: y :: r, h => by
    have h1 := join_len B (y :: r) (fun z hz => h z (List.mem_cons_of_mem _ hz))
    have h2 := h x List.mem_cons_self
    have e : Lib.join (x :: y :: r) [] = x ++ Lib.join (y :: r) [] := by simp [Lib.join, List.intercalate]
    rw [e, List.length_append, List.length_cons, Nat.add_mul]
    omega
theorem sortB_mem {xs : List ByteArray} {b : ByteArray} (h : b ∈ sortB xs) : ∃ a ∈ xs, b.size = a.size := by
  unfold sortB at h
  obtain ⟨l, hl, rfl⟩ := List.mem_map.1 h
  obtain ⟨a, ha, rfl⟩ := List.mem_map.1 (List.mem_mergeSort.1 hl)
  exact ⟨a, ha, by show (a.data.toList.toArray).size = a.data.size; rw [List.size_toArray, Array.length_toList]⟩
theorem getD_mem {α : Type} (l : List α) (d : α) (i : Int) (h0 : 0 ≤ i) (h1 : i < (l.length : Int)) : l.getD i.toNat d ∈ l := by
  rw [List.getD_eq_getElem?_getD, List.getElem?_eq_getElem (by omega)]
  exact List.getElem_mem _
theorem mark_loop (l : List S64) (hl : l.length ≤ 200) (hg : ∀ p ∈ l, GoodP p) : ∀ (k : Nat) (acc : List ByteArray) (i : Int), 0 ≤ i → (l.length : Int) - i + 2010 < k → (acc.length : Int) ≤ i → acc.length ≤ 200 → (∀ b ∈ acc, b.size ≤ 40000) → i ≤ (l.length : Int) →
    ∃ r, name_mark.l0 k acc l (l.length : Int) i = some r ∧ r.size ≤ 8000001
  | 0, acc, i, _, h2, _, _, _, hle => by omega
  | k + 1, acc, i, h0, h2, h3, h4, h5, hle => by
    rw [name_mark.l0]
    by_cases hi : i < (l.length : Int)
    · rw [if_pos hi, if_pos h0, if_pos hi]
      have hm : rd_T64 l i ∈ l := getD_mem l z64 i h0 hi
      obtain ⟨g1, g2, g3, g4, g5⟩ := hg _ hm
      generalize rd_T64 l i = p at *
      obtain ⟨x, hx, hxs⟩ := key_total k p.f1 p.f2 g4 g5 g3 g2 (by omega)
      obtain ⟨y, hy, hys⟩ := itoa_total (x.size : Int) (by omega) (by omega)
      have z1 : (⟨#[61]⟩ : ByteArray).size = 1 := rfl
      have z2 : (⟨#[58]⟩ : ByteArray).size = 1 := rfl
      have z3 : (⟨#[59]⟩ : ByteArray).size = 1 := rfl
      rw [hx, Option.bind_some, if_pos (by omega), hy, Option.bind_some, if_pos (by simp only [ByteArray.size_append]; omega), if_pos (by simp only [ByteArray.size_append]; omega), if_pos (by simp only [ByteArray.size_append]; omega), if_pos (by simp only [ByteArray.size_append]; omega), if_pos (by omega), wrap_up' (n := l.length) (by omega) h0 hi]
      refine mark_loop l hl hg k _ (i + 1) (by omega) (by omega) (by simp; omega) (by simp; omega) ?_ (by omega)
      intro b hb
      rcases List.mem_append.1 hb with hb | hb
      · exact h5 b hb
      · rw [List.mem_singleton.1 hb]
        simp only [ByteArray.size_append]
        omega
    · rw [if_neg hi]
      unfold slices_Sort.f strings_Join.f
      rw [if_pos (by omega), Option.bind_some]
      have hj := join_len 40000 ((sortB acc).map (·.data.toList)) (fun z hz => by
        obtain ⟨b, hb, rfl⟩ := List.mem_map.1 hz
        obtain ⟨a, ha, he⟩ := sortB_mem hb
        have := h5 a ha
        show b.data.toList.length ≤ _
        rw [Array.length_toList]
        show b.size ≤ _
        omega)
      rw [List.length_map, sortB_len] at hj
      have hj2 : acc.length * 40000 ≤ 8000000 := by omega
      have hs0 : (⟨#[]⟩ : ByteArray).data.toList = [] := rfl
      rw [hs0, if_pos ⟨by rw [sortB_len]; omega, by omega⟩, Option.bind_some]
      have hsz : (⟨(Lib.join ((sortB acc).map (·.data.toList)) []).toArray⟩ : ByteArray).size = (Lib.join ((sortB acc).map (·.data.toList)) []).length := by simp [ByteArray.size]
      have z4 : (⟨#[47]⟩ : ByteArray).size = 1 := rfl
      rw [if_pos (by rw [hsz]; omega)]
      refine ⟨_, rfl, ?_⟩
      rw [ByteArray.size_append, hsz, z4]
      omega
theorem mark_total (k : Nat) (l : List S64) (hl : l.length ≤ 200) (hg : ∀ p ∈ l, GoodP p) (hk : l.length + 2010 < k) : ∃ r, name_mark.f k l = some r ∧ r.size ≤ 8000001 := by
  unfold name_mark.f
  exact mark_loop l hl hg k [] 0 (by omega) (by omega) (by simp) (by simp) (fun _ h => by cases h) (by omega)
theorem keyL_total (k : Nat) (hk : 2210 < k) : ∀ (n : List (List S64)), (∀ s ∈ n, s.length ≤ 200 ∧ ∀ p ∈ s, GoodP p) → ∃ r, keyL k n = some r ∧ r.length ≤ n.length * 8000001
  | [], _ => ⟨[], rfl, by simp⟩
  | s :: n, h => by
    obtain ⟨h1, h2⟩ := h s List.mem_cons_self
    obtain ⟨m, hm, hms⟩ := mark_total k s h1 h2 (by omega)
    obtain ⟨t, ht, hts⟩ := keyL_total k hk n (fun z hz => h z (List.mem_cons_of_mem _ hz))
    rw [keyL, hm, Option.bind_some, ht, Option.bind_some]
    refine ⟨_, rfl, ?_⟩
    have : m.data.toList.length = m.size := by rw [Array.length_toList]; rfl
    rw [List.length_append, List.length_cons, Nat.add_mul]
    omega
theorem nameKey_total (k : Nat) (hk : 2210 < k) (n : List (List S64)) (hn : n.length ≤ 200) (h : ∀ s ∈ n, s.length ≤ 200 ∧ ∀ p ∈ s, GoodP p) : ∃ r, name_Key.f k n = some r := by
  unfold name_Key.f
  obtain ⟨r, hr, hs⟩ := keyL_total k hk n h
  rw [hr, Option.bind_some, if_pos ⟨by omega, by omega⟩]
  exact ⟨_, rfl⟩
end Go.Proofs.YtkioddjjfifadaaGreatDoor.P

/- chirographref07.Huge has an answer at every name; what is not huge is small; plain Lean. -/
namespace Go.Proofs.YtkioddjjfifadaaGreatDoor.P
open Go.RowKit Go.Proofs.YtkioddjjfifadaaGreatDoorW.PrintWords Go.Proofs.YtkioddjjfifadaaGreatDoorW.PrintLast Go.Proofs.YtkioddjjfifadaaGreatDoorW.PrintMore
def Small (p : S64) : Prop := p.f0.size ≤ 2000 ∧ p.f2.length ≤ 2000
theorem drop_at' {α : Type} (l : List α) (d : α) (i : Int) (h0 : 0 ≤ i) (h1 : i < (l.length : Int)) : l.drop i.toNat = l.getD i.toNat d :: l.drop (i + 1).toNat := by
  have hi : i.toNat < l.length := by omega
  rw [show (i + 1).toNat = i.toNat + 1 by omega, List.drop_eq_getElem_cons hi]
  simp [List.getD, List.getElem?_eq_getElem hi]
theorem huge_loop (n : List (List S64)) (hn : n.length ≤ 200) (hb : ∀ s ∈ n, ∀ p ∈ s, p.f0.size ≤ 4611686018427387904 ∧ p.f2.length ≤ 4611686018427387904) : ∀ (k : Nat),
    (∀ (s i : Int), 0 ≤ i → 0 ≤ s → s ≤ 2000 → ((n.length : Int) - i) * 203 + 1 < k → 0 < k → ∃ b, chirographref07_Huge.l0 k n 2000 s i = some b ∧ (b = false → ∀ t ∈ n.drop i.toNat, t.length ≤ 200 ∧ ∀ p ∈ t, Small p)) ∧
    (∀ (s i j : Int), 0 ≤ i → i < (n.length : Int) → 0 ≤ j → 0 ≤ s → s ≤ 2000 → (rd_L5 n i).length ≤ 200 → ((n.length : Int) - i - 1) * 203 + (((rd_L5 n i).length : Int) - j) + 2 < k → j ≤ ((rd_L5 n i).length : Int) → 0 < k →
      ∃ b, chirographref07_Huge.l1 k n 2000 s i j = some b ∧ (b = false → (∀ p ∈ (rd_L5 n i).drop j.toNat, Small p) ∧ ∀ t ∈ n.drop (i + 1).toNat, t.length ≤ 200 ∧ ∀ p ∈ t, Small p))
  | 0 => ⟨fun s i _ _ _ _ h => absurd h (Nat.lt_irrefl 0), fun s i j _ _ _ _ _ _ _ _ h => absurd h (Nat.lt_irrefl 0)⟩
  | k + 1 => by
    obtain ⟨ih0, ih1⟩ := huge_loop n hn hb k
    refine ⟨fun s i h0 hs0 hs1 hk _ => ?_, fun s i j h0 hi hj hs0 hs1 hlen hk hjl _ => ?_⟩
    · rw [chirographref07_Huge.l0]
      by_cases hi : i < (n.length : Int)
      · rw [if_pos hi, if_pos h0]
        by_cases hl : ((rd_L5 n i).length : Int) > 200
        · rw [if_pos hl]
          exact ⟨true, rfl, fun h => by cases h⟩
        · rw [if_neg hl]
          obtain ⟨b, h1, h2⟩ := ih1 s i 0 h0 hi (by omega) hs0 hs1 (by omega) (by omega) (by omega) (by omega)
          refine ⟨b, h1, fun hbf => ?_⟩
          obtain ⟨h3, h4⟩ := h2 hbf
          rw [drop_at' n [] i h0 hi]
          intro t ht
          rcases List.mem_cons.1 ht with rfl | ht
          · exact ⟨by have : (rd_L5 n i).length ≤ 200 := by omega
                      exact this, by rw [show (0 : Int).toNat = 0 from rfl, List.drop_zero] at h3; exact h3⟩
          · exact h4 t ht
      · rw [if_neg hi]
        refine ⟨false, rfl, fun _ => ?_⟩
        rw [List.drop_eq_nil_of_le (by omega)]
        intro t ht
        cases ht
    · rw [chirographref07_Huge.l1, if_pos h0, if_pos hi]
      by_cases hj1 : j < ((rd_L5 n i).length : Int)
      · rw [if_pos hj1, if_pos hj]
        have hm1 : rd_L5 n i ∈ n := getD_mem n [] i h0 hi
        have hm2 : rd_T64 (rd_L5 n i) j ∈ rd_L5 n i := getD_mem (rd_L5 n i) z64 j hj hj1
        obtain ⟨b1, b2⟩ := hb _ hm1 _ hm2
        have hd := drop_at' (rd_L5 n i) z64 j hj hj1
        have hrd : (rd_L5 n i).getD j.toNat z64 = rd_T64 (rd_L5 n i) j := rfl
        rw [hrd] at hd
        generalize rd_T64 (rd_L5 n i) j = p at *
        have w1 : wrap64 (2000 - s) = 2000 - s := by unfold wrap64; omega
        rw [w1]
        by_cases ha : (p.f2.length : Int) > 2000 - s
        · rw [if_pos ha]
          exact ⟨true, rfl, fun h => by cases h⟩
        · rw [if_neg ha]
          have w2 : wrap64 (s + (p.f2.length : Int)) = s + (p.f2.length : Int) := by unfold wrap64; omega
          rw [w2]
          have w3 : wrap64 (2000 - (s + (p.f2.length : Int))) = 2000 - (s + (p.f2.length : Int)) := by unfold wrap64; omega
          rw [w3]
          by_cases hc : (p.f0.size : Int) > 2000 - (s + (p.f2.length : Int))
          · rw [if_pos hc]
            exact ⟨true, rfl, fun h => by cases h⟩
          · rw [if_neg hc]
            have w4 : wrap64 (s + (p.f2.length : Int) + (p.f0.size : Int)) = s + (p.f2.length : Int) + (p.f0.size : Int) := by unfold wrap64; omega
            have w5 : wrap64 (j + 1) = j + 1 := by unfold wrap64; omega
            rw [w4, w5]
            obtain ⟨b, h1, h2⟩ := ih1 (s + (p.f2.length : Int) + (p.f0.size : Int)) i (j + 1) h0 hi (by omega) (by omega) (by omega) hlen (by omega) (by omega) (by omega)
            refine ⟨b, h1, fun hbf => ?_⟩
            obtain ⟨h3, h4⟩ := h2 hbf
            refine ⟨?_, h4⟩
            rw [hd]
            intro q hq
            rcases List.mem_cons.1 hq with rfl | hq
            · exact ⟨by omega, by omega⟩
            · exact h3 q hq
      · rw [if_neg hj1]
        have w5 : wrap64 (i + 1) = i + 1 := by unfold wrap64; omega
        rw [w5]
        obtain ⟨b, h1, h2⟩ := ih0 s (i + 1) (by omega) hs0 hs1 (by omega) (by omega)
        refine ⟨b, h1, fun hbf => ⟨?_, h2 hbf⟩⟩
        rw [List.drop_eq_nil_of_le (by omega)]
        intro q hq
        cases hq
theorem huge_total (k : Nat) (hk : 50000 < k) (n : List (List S64)) (hb : ∀ s ∈ n, ∀ p ∈ s, p.f0.size ≤ 4611686018427387904 ∧ p.f2.length ≤ 4611686018427387904) : ∃ b, chirographref07_Huge.f k n 2000 = some b ∧ (b = false → n.length ≤ 200 ∧ ∀ s ∈ n, s.length ≤ 200 ∧ ∀ p ∈ s, Small p) := by
  unfold chirographref07_Huge.f
  by_cases h : (n.length : Int) > 200
  · rw [if_pos h]
    exact ⟨true, rfl, fun h => by cases h⟩
  · rw [if_neg h]
    obtain ⟨b, h1, h2⟩ := (huge_loop n (by omega) hb k).1 0 0 (by omega) (by omega) (by omega) (by omega) (by omega)
    exact ⟨b, h1, fun hbf => ⟨by omega, by simpa using h2 hbf⟩⟩
/-- What an argument's part is. -/
def PartOk (p : S64) : Prop := p.f0.size ≤ 4611686018427387904 ∧ p.f2.length ≤ 4611686018427387904 ∧ p.f2.all isByte = true ∧ -9223372036854775808 ≤ p.f1 ∧ p.f1 ≤ 9223372036854775807
theorem self_pre (n : List (List S64)) (h : ∀ s ∈ n, ∀ p ∈ s, PartOk p) : ∃ b, chirographref07_Huge.f 100000 n 2000 = some b ∧ (b = false → ∃ r, name_Key.f 100000 n = some r) := by
  obtain ⟨b, h1, h2⟩ := huge_total 100000 (by omega) n (fun s hs p hp => ⟨(h s hs p hp).1, (h s hs p hp).2.1⟩)
  refine ⟨b, h1, fun hbf => ?_⟩
  obtain ⟨h3, h4⟩ := h2 hbf
  exact nameKey_total 100000 (by omega) n h3 (fun s hs => ⟨(h4 s hs).1, fun p hp => ⟨((h4 s hs).2 p hp).1, ((h4 s hs).2 p hp).2, (h s hs p hp).2.2.1, (h s hs p hp).2.2.2.1, (h s hs p hp).2.2.2.2⟩⟩)
end Go.Proofs.YtkioddjjfifadaaGreatDoor.P
