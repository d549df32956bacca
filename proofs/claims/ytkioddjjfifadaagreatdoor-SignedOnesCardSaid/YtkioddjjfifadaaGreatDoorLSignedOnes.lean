/- The law SignedOnes: the plain law. -/
import Derived.Test.YtkioddjjfifadaaGreatDoorPxf14
namespace Go.Proofs.YtkioddjjfifadaaGreatDoor.P
open Go.RowKit Go.Proofs.YtkioddjjfifadaaGreatDoorW.PrintWords Go.Proofs.YtkioddjjfifadaaGreatDoorW.PrintLast Go.Proofs.YtkioddjjfifadaaGreatDoorW.PrintMore

theorem drop_at {α : Type} (l : List α) (d : α) (i : Int) (h0 : 0 ≤ i) (h1 : i < (l.length : Int)) : l.drop i.toNat = l.getD i.toNat d :: l.drop (i + 1).toNat := by
  have hi : i.toNat < l.length := by omega
  rw [show (i + 1).toNat = i.toNat + 1 by omega, List.drop_eq_getElem_cons hi]
  simp [List.getD, List.getElem?_eq_getElem hi]
theorem drop_end {α : Type} (l : List α) (i : Int) (h1 : ¬ i < (l.length : Int)) : l.drop i.toNat = [] := List.drop_eq_nil_of_le (by omega)
theorem wrap_up {n : Nat} {i : Int} (hn : n ≤ 4611686018427387904) (h0 : 0 ≤ i) (h1 : i < n) : wrap64 (i + 1) = i + 1 := by unfold wrap64; omega
theorem sameSelf (b : List Int) (hb : b.length ≤ 4611686018427387904) : ∀ (k : Nat) (i : Int), 0 ≤ i → (b.length : Int) - i < k → 0 < k → chirographref01_SameBytes.l0 k b b i = some true
  | 0, i, _, _, h3 => by omega
  | k + 1, i, h0, h2, _ => by
    rw [chirographref01_SameBytes.l0]
    by_cases hi : i < (b.length : Int)
    · rw [if_pos hi, if_pos h0, if_pos hi, if_pos rfl, wrap_up hb h0 hi]
      exact sameSelf b hb k (i + 1) (by omega) (by omega) (by omega)
    · rw [if_neg hi]
theorem sameSelf_f (b : List Int) (hb : b.length ≤ 4611686018427387904) (k : Nat) (hk : b.length < k) : chirographref01_SameBytes.f k b b = some true := by
  unfold chirographref01_SameBytes.f
  rw [if_pos rfl]
  exact sameSelf b hb k 0 (by omega) (by omega) (by omega)
theorem spoilAny (n : Nat) (hn : n ≤ 4611686018427387904) : ∀ (k : Nat) (b : List Int) (i : Int), b.length = n → 0 ≤ i → (n : Int) - i < k → 0 < k → ∃ c, chirographref01_Spoil.l0 k b i = some c
  | 0, b, i, _, _, _, h3 => by omega
  | k + 1, b, i, hb, h0, h2, _ => by
    rw [chirographref01_Spoil.l0]
    by_cases hi : i < (b.length : Int)
    · rw [if_pos hi, if_pos h0, wrap_up (n := n) hn h0 (by omega)]
      exact spoilAny n hn k _ (i + 1) (by simp [hb]) (by omega) (by omega) (by omega)
    · rw [if_neg hi]
      exact ⟨_, rfl⟩
theorem huge_val (l : List S163) (k : Nat) (hk : 201 < k) : ∃ b, chirographlaw17_huge.f k l = some b ∧ (b = false → l.length ≤ 200) := by
  unfold chirographlaw17_huge.f
  by_cases h : (l.length : Int) > 200
  · rw [if_pos h]
    exact ⟨true, rfl, fun h => by cases h⟩
  · rw [if_neg h]
    have key : ∀ (k : Nat) (i : Int), 0 ≤ i → (l.length : Int) - i < k → 0 < k → ∃ b, chirographlaw17_huge.l0 k l i = some b := by
      intro k
      induction k with
      | zero => intro i _ _ h3; omega
      | succ k ih =>
        intro i h0 h2 _
        rw [chirographlaw17_huge.l0]
        by_cases hi : i < (l.length : Int)
        · rw [if_pos hi, if_pos h0]
          split
          · exact ⟨_, rfl⟩
          · rw [wrap_up (n := l.length) (by omega) h0 hi]
            exact ih (i + 1) (by omega) (by omega) (by omega)
        · rw [if_neg hi]
          exact ⟨_, rfl⟩
    obtain ⟨b, hb⟩ := key k 0 (by omega) (by omega) (by omega)
    exact ⟨b, hb, fun _ => by omega⟩
/-- The attributes of a kind. -/
abbrev ofKind (s : ByteArray) (x : S163) : Bool := decide (x.f0.toList = s.toList)
def finS (h : List S163) : Option (List Int × Int) :=
  if (h.length : Int) = 0 then (some (([] : List Int), 5)) else (if (h.length : Int) > 1 then (some (([] : List Int), 121)) else (if 0 < (h.length : Int) then (if (((rd_T163 h 0).f1).length : Int) = 1 then (if 0 < (((rd_T163 h 0).f1).length : Int) then ((bytes_Clone.f (rd_L1 ((rd_T163 h 0).f1) 0)).bind fun t => (some (t, 0))) else (none)) else (some (([] : List Int), 121))) else (none)))
theorem one_loop (l : List S163) (s : ByteArray) (hl : l.length ≤ 200) : ∀ (k : Nat) (i : Int) (acc : List S163), 0 ≤ i → (l.length : Int) - i < k → 0 < k → acc.length ≤ i.toNat →
    signed_One.l0 k s acc l (l.length : Int) i = finS (acc ++ (l.drop i.toNat).filter (ofKind s))
  | 0, i, _, _, _, h3, _ => by omega
  | k + 1, i, acc, h0, h2, _, ha => by
    rw [signed_One.l0]
    by_cases hi : i < (l.length : Int)
    · rw [if_pos hi, if_pos h0, if_pos hi, drop_at l z163 i h0 hi, wrap_up (n := l.length) (by omega) h0 hi]
      have hr : rd_T163 l i = l.getD i.toNat z163 := rfl
      rw [hr]
      generalize l.getD i.toNat z163 = x
      by_cases hx : x.f0.toList = s.toList
      · rw [if_pos hx, if_pos (by omega), one_loop l s hl k (i + 1) _ (by omega) (by omega) (by omega) (by rw [List.length_append]; simp; omega), List.filter_cons_of_pos (by simpa [ofKind] using hx), List.append_assoc]
        rfl
      · rw [if_neg hx, one_loop l s hl k (i + 1) _ (by omega) (by omega) (by omega) (by omega), List.filter_cons_of_neg (by simpa [ofKind] using hx)]
    · rw [if_neg hi, drop_end l i hi, List.filter_nil, List.append_nil]
      rfl
def finR (l : List S163) (n a : Int) : Option (List Int × Int) :=
  if n = 0 then (some (([] : List Int), 5)) else (if n > 1 then (some (([] : List Int), 121)) else (if 0 ≤ a then (if a < (l.length : Int) then (if (((rd_T163 l a).f1).length : Int) = 1 then (if 0 < (((rd_T163 l a).f1).length : Int) then (some (rd_L1 ((rd_T163 l a).f1) 0, 0)) else (none)) else (some (([] : List Int), 121))) else (none)) else (none)))
theorem ref_loop (l : List S163) (s : ByteArray) (hl : l.length ≤ 200) : ∀ (k : Nat) (i n a : Int), 0 ≤ i → (l.length : Int) - i < k → 0 < k → 0 ≤ n → n ≤ i → ∃ a', chirographref17_One.l0 k l s n a i = finR l (n + ((l.drop i.toNat).filter (ofKind s)).length) a' ∧
      (((l.drop i.toNat).filter (ofKind s)) = [] → a' = a) ∧ (((l.drop i.toNat).filter (ofKind s)) ≠ [] → 0 ≤ a' ∧ a' < (l.length : Int) ∧ rd_T163 l a' ∈ (l.drop i.toNat).filter (ofKind s))
  | 0, i, _, _, _, _, h3, _, _ => by omega
  | k + 1, i, n, a, h0, h2, _, hn, hni => by
    rw [chirographref17_One.l0]
    by_cases hi : i < (l.length : Int)
    · rw [if_pos hi, if_pos h0, drop_at l z163 i h0 hi, wrap_up (n := l.length) (by omega) h0 hi, wrap_up (n := 1000) (i := n) (by omega) hn (by omega)]
      have hr : rd_T163 l i = l.getD i.toNat z163 := rfl
      rw [← hr]
      by_cases hx : (rd_T163 l i).f0.toList = s.toList
      · rw [if_pos hx, List.filter_cons_of_pos (by simpa [ofKind] using hx)]
        obtain ⟨a', h4, h5, h6⟩ := ref_loop l s hl k (i + 1) (n + 1) i (by omega) (by omega) (by omega) (by omega) (by omega)
        refine ⟨a', ?_, fun h => (by cases h), fun _ => ?_⟩
        · rw [h4, List.length_cons]
          congr 1
          omega
        · by_cases he : (l.drop (i + 1).toNat).filter (ofKind s) = []
          · rw [h5 he]
            exact ⟨h0, hi, List.mem_cons_self⟩
          · obtain ⟨h7, h8, h9⟩ := h6 he
            exact ⟨h7, h8, List.mem_cons_of_mem _ h9⟩
      · rw [if_neg hx, List.filter_cons_of_neg (by simpa [ofKind] using hx)]
        exact ref_loop l s hl k (i + 1) n a (by omega) (by omega) (by omega) (by omega) (by omega)
    · rw [if_neg hi, drop_end l i hi]
      refine ⟨a, ?_, fun _ => rfl, fun h => absurd rfl h⟩
      rw [List.filter_nil]
      show _ = finR l (n + 0) a
      rw [Int.add_zero]
      rfl
theorem both_one (l : List S163) (s : ByteArray) (hl : l.length ≤ 200) (hv : ∀ x ∈ l, ∀ v ∈ x.f1, v.length < 140737488355328) :
    ∃ b e, b.length < 140737488355328 ∧ ∀ k, l.length < k → signed_One.f k l s = some (b, e) ∧ chirographref17_One.f k l s = some (b, e) := by
  have hS : ∀ k, l.length < k → signed_One.f k l s = finS (l.filter (ofKind s)) := fun k hk => by
    unfold signed_One.f
    rw [one_loop l s hl k 0 [] (by omega) (by omega) (by omega) (by simp)]
    simp
  have hR : ∀ k, l.length < k → ∃ a', chirographref17_One.f k l s = finR l ((l.filter (ofKind s)).length) a' ∧ (l.filter (ofKind s) ≠ [] → 0 ≤ a' ∧ a' < (l.length : Int) ∧ rd_T163 l a' ∈ l.filter (ofKind s)) := fun k hk => by
    obtain ⟨a', h4, h5, h6⟩ := ref_loop l s hl k 0 0 0 (by omega) (by omega) (by omega) (by omega) (by omega)
    refine ⟨a', ?_, ?_⟩
    · unfold chirographref17_One.f
      rw [h4]
      simp
    · simpa using h6
  generalize hH : l.filter (ofKind s) = H at *
  match H with
  | [] =>
    refine ⟨[], 5, by simp, fun k hk => ⟨(hS k hk).trans rfl, ?_⟩⟩
    obtain ⟨a', h, _⟩ := hR k hk
    exact h.trans rfl
  | x :: y :: r =>
    refine ⟨[], 121, by simp, fun k hk => ⟨(hS k hk).trans ?_, ?_⟩⟩
    · unfold finS
      rw [if_neg (by simp; omega), if_pos (by simp; omega)]
    · obtain ⟨a', h, _⟩ := hR k hk
      rw [h]
      unfold finR
      rw [if_neg (by simp; omega), if_pos (by simp; omega)]
  | [x] =>
    have hx : x ∈ l := ((List.mem_filter (p := ofKind s)).1 (by rw [hH]; exact List.mem_singleton.2 rfl)).1
    have hr0 : rd_T163 [x] 0 = x := rfl
    have hra : ∀ k, l.length < k → ∃ a', chirographref17_One.f k l s = finR l 1 a' ∧ 0 ≤ a' ∧ a' < (l.length : Int) ∧ rd_T163 l a' = x := fun k hk => by
      obtain ⟨a', h1, h2⟩ := hR k hk
      obtain ⟨h3, h4, h5⟩ := h2 (by simp)
      exact ⟨a', h1, h3, h4, List.mem_singleton.1 h5⟩
    by_cases h1 : x.f1.length = 1
    · obtain ⟨v, hvx⟩ : ∃ v, x.f1 = [v] := List.length_eq_one_iff.1 h1
      have hvl : v.length < 140737488355328 := hv x hx v (by rw [hvx]; exact List.mem_singleton.2 rfl)
      have hcl : bytes_Clone.f v = some v := by
        unfold bytes_Clone.f
        rw [if_pos hvl]
      refine ⟨v, 0, hvl, fun k hk => ⟨(hS k hk).trans ?_, ?_⟩⟩
      · unfold finS
        rw [hr0, hvx, if_neg (by simp), if_neg (by simp), if_pos (by simp), if_pos (by simp), if_pos (by simp)]
        show (bytes_Clone.f v).bind _ = _
        rw [hcl]
        rfl
      · obtain ⟨a', h2, h3, h4, h5⟩ := hra k hk
        rw [h2]
        unfold finR
        rw [h5, hvx, if_neg (by omega), if_neg (by omega), if_pos h3, if_pos h4, if_pos (by simp), if_pos (by simp)]
        rfl
    · refine ⟨[], 121, by simp, fun k hk => ⟨(hS k hk).trans ?_, ?_⟩⟩
      · unfold finS
        rw [hr0, if_neg (by simp), if_neg (by simp), if_pos (by simp), if_neg (by omega)]
      · obtain ⟨a', h2, h3, h4, h5⟩ := hra k hk
        rw [h2]
        unfold finR
        rw [h5, if_neg (by omega), if_neg (by omega), if_pos h3, if_pos h4, if_neg (by omega)]
theorem SignedOnes_plain (l : List S163) (s : ByteArray) (hv : ∀ x ∈ l, ∀ v ∈ x.f1, v.length < 140737488355328) : chirographlaw17_SignedOnes.f 140737488355530 l s = some true := by
  unfold chirographlaw17_SignedOnes.f
  obtain ⟨b, hb, hbl⟩ := huge_val l 140737488355530 (by omega)
  rw [hb, Option.bind_some]
  cases b with
  | true => rfl
  | false =>
    have hl := hbl rfl
    obtain ⟨v, e, hvl, hone⟩ := both_one l s hl hv
    obtain ⟨h1, h2⟩ := hone 140737488355530 (by omega)
    obtain ⟨h3, _⟩ := hone 140737488355529 (by omega)
    obtain ⟨c, hc⟩ := spoilAny v.length (by omega) 140737488355529 v 0 rfl (by omega) (by omega) (by omega)
    rw [if_neg (by decide), h1, Option.bind_some, h2, Option.bind_some]
    show (chirographlaw17_num.f e).bind _ = _
    unfold chirographlaw17_num.f
    rw [Option.bind_some, if_pos rfl, sameSelf_f v (by omega) _ (by omega), Option.bind_some]
    show chirographlaw17_SignedOnes.j0 (140737488355529 + 1) l s v v false = _
    rw [chirographlaw17_SignedOnes.j0, if_neg (by decide)]
    unfold chirographref01_Spoil.f
    rw [hc, Option.bind_some, h3, Option.bind_some]
    show (chirographref01_SameBytes.f 140737488355529 v v).bind _ = _
    rw [sameSelf_f v (by omega) _ (by omega), Option.bind_some, if_pos rfl]
    rfl
end Go.Proofs.YtkioddjjfifadaaGreatDoor.P
