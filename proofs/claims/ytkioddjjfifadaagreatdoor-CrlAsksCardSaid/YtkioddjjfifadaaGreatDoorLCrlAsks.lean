/- The law CrlAsks: the plain law. -/
import Derived.Test.YtkioddjjfifadaaGreatDoorPxf4
import Derived.Test.YtkioddjjfifadaaGreatDoorOpc
import Derived.Lib.Strings
namespace Go.Proofs.YtkioddjjfifadaaGreatDoor.P
open Go.RowKit Go.Proofs.YtkioddjjfifadaaGreatDoorW.PrintWords Go.Proofs.YtkioddjjfifadaaGreatDoorW.PrintLast Go.Proofs.YtkioddjjfifadaaGreatDoorW.PrintMore

theorem fresh_val (l0_0 l0_1 : List Int) (l0_2 : List (List S64)) (a3 a4 : Int) (a5 : Bool) (a6 a7 a8 a9 : Int) (l10 : List Int) (l11 : List S30) (l12 : List Int) (a13 : Bool) (a1 : Int) :
    crl_Fresh.f l0_0 l0_1 l0_2 a3 a4 a5 a6 a7 a8 a9 l10 l11 l12 a13 a1 = some (decide (a3 ≤ a1) && (a5 || decide (a1 ≤ a4))) := by
  unfold crl_Fresh.f
  by_cases h : a3 ≤ a1 <;> cases a5 <;> simp [h]
theorem counts_val (l : List Int) (f r t : Int) (s : List Int) (b : Bool) (k : Nat) (hb : slices_Contains_int_int.f k s r = some b) : crl_Counts.f k l f r t s = some (decide (f ≤ t) || !b) := by
  unfold crl_Counts.f
  by_cases h : f ≤ t <;> simp [h, hb]
theorem live_val : chirographlaw13_live.f = some true := rfl

theorem drop_at {α : Type} (l : List α) (d : α) (i : Int) (h0 : 0 ≤ i) (h1 : i < (l.length : Int)) : l.drop i.toNat = l.getD i.toNat d :: l.drop (i + 1).toNat := by
  have hi : i.toNat < l.length := by omega
  rw [show (i + 1).toNat = i.toNat + 1 by omega, List.drop_eq_getElem_cons hi]
  simp [List.getD, List.getElem?_eq_getElem hi]
theorem drop_rd (l : List Int) (i : Int) (h0 : 0 ≤ i) (h1 : i < (l.length : Int)) : l.drop i.toNat = rd l i :: l.drop (i + 1).toNat := drop_at l 0 i h0 h1
theorem drop_end {α : Type} (l : List α) (i : Int) (h1 : ¬ i < (l.length : Int)) : l.drop i.toNat = [] := List.drop_eq_nil_of_le (by omega)
theorem wrap_next {n : Nat} {i : Int} (hn : (n : Int) ≤ 1000000) (h0 : 0 ≤ i) (h1 : i < n) : wrap64 (i + 1) = i + 1 := by unfold wrap64; omega

theorem index_mem (l : List Int) (x : Int) (hl : l.length ≤ 2000) : ∀ (k : Nat) (i : Int), 0 ≤ i → (l.length : Int) - i < k → 0 < k → ∃ r, slices_Index_int_int.l0 k l x (l.length : Int) i = some r ∧ (r ≥ 0 ↔ x ∈ l.drop i.toNat)
  | 0, i, _, _, h3 => by omega
  | k + 1, i, h0, h2, _ => by
    rw [slices_Index_int_int.l0]
    by_cases hi : i < (l.length : Int)
    · rw [if_pos hi, if_pos h0, if_pos hi, drop_rd l i h0 hi]
      split
      · rename_i he
        exact ⟨_, rfl, by rw [he]; simp; omega⟩
      · rename_i he
        rw [wrap_next (by omega) h0 hi]
        obtain ⟨r, h4, h5⟩ := index_mem l x hl k (i + 1) (by omega) (by omega) (by omega)
        refine ⟨r, h4, h5.trans ?_⟩
        simp [he]
    · rw [if_neg hi, drop_end l i hi]
      exact ⟨_, rfl, by simp⟩
theorem contains_mem (l : List Int) (x : Int) (hl : l.length ≤ 2000) (k : Nat) (hk : l.length < k) : slices_Contains_int_int.f k l x = some (decide (x ∈ l)) := by
  obtain ⟨r, hr, hm⟩ := index_mem l x hl k 0 (by omega) (by omega) (by omega)
  unfold slices_Contains_int_int.f slices_Index_int_int.f
  rw [hr]
  simp only [Option.bind_some, Int.toNat_zero, List.drop_zero] at hm ⊢
  rw [decide_eq_decide.2 hm]
theorem refCounts (s : List Int) (t f r : Int) (g : List Int) (hl : s.length ≤ 2000) : ∀ (k : Nat) (i : Int), 0 ≤ i → (s.length : Int) - i < k → 0 < k → chirographref13_Counts.l0 k t s i g f r = some (decide (f ≤ t ∨ r ∉ s.drop i.toNat))
  | 0, i, _, _, h3 => by omega
  | k + 1, i, h0, h2, _ => by
    rw [chirographref13_Counts.l0]
    by_cases hi : i < (s.length : Int)
    · rw [if_pos hi, if_pos h0, drop_rd s i h0 hi, wrap_next (by omega) h0 hi, refCounts s t f r g hl k (i + 1) (by omega) (by omega) (by omega)]
      by_cases he : rd s i = r
      · rw [if_pos he, he]
        by_cases hf : f > t
        · rw [if_pos hf]; simp; omega
        · rw [if_neg hf]; simp [show f ≤ t by omega]
      · rw [if_neg he]
        simp [Ne.symm he]
    · rw [if_neg hi, drop_end s i hi]; simp
theorem sameBytes (a b : List Int) (hl : a.length ≤ 100000) (hab : a.length = b.length) : ∀ (k : Nat) (i : Int), 0 ≤ i → (a.length : Int) - i < k → 0 < k → chirographref01_SameBytes.l0 k a b i = some (decide (a.drop i.toNat = b.drop i.toNat))
  | 0, i, _, _, h3 => by omega
  | k + 1, i, h0, h2, _ => by
    rw [chirographref01_SameBytes.l0]
    by_cases hi : i < (a.length : Int)
    · rw [if_pos hi, if_pos h0, if_pos (by omega), drop_rd a i h0 hi, drop_rd b i h0 (by omega), wrap_next (by omega) h0 hi, sameBytes a b hl hab k (i + 1) (by omega) (by omega) (by omega)]
      by_cases he : rd a i = rd b i
      · rw [if_pos he]; simp [he]
      · rw [if_neg he]; simp [he]
    · rw [if_neg hi, drop_end a i hi, drop_end b i (by omega)]; simp
theorem sameBytes_f (a b : List Int) (hl : b.length ≤ 100000) (k : Nat) (hk : b.length < k) : chirographref01_SameBytes.f k a b = some (decide (a = b)) := by
  unfold chirographref01_SameBytes.f
  by_cases h : a.length = b.length
  · rw [if_pos (by omega), sameBytes a b (by omega) h k 0 (by omega) (by omega) (by omega)]; simp
  · rw [if_neg (by omega)]
    have : a ≠ b := fun e => h (by rw [e])
    simp [this]
theorem byte_range {x : Int} (h : Byte x) : 0 ≤ x ∧ x ≤ 255 := by simpa [Byte, Lit.wf, IntKind.min, IntKind.max, IntKind.signed, IntKind.bits] using h
theorem map_inj : ∀ (a b : List Int), (∀ x ∈ a, Byte x) → (∀ x ∈ b, Byte x) → (a.map fun n => UInt8.ofNat n.toNat) = (b.map fun n => UInt8.ofNat n.toNat) → a = b
  | [], [], _, _, _ => rfl
  | [], _ :: _, _, _, h => by simp at h
  | _ :: _, [], _, _, h => by simp at h
  | x :: a, y :: b, ha, hb, h => by
    simp only [List.map_cons, List.cons.injEq] at h
    have hx := byte_range (ha x (List.mem_cons_self))
    have hy := byte_range (hb y (List.mem_cons_self))
    have h1 := congrArg UInt8.toNat h.1
    simp at h1
    rw [map_inj a b (fun z hz => ha z (List.mem_cons_of_mem _ hz)) (fun z hz => hb z (List.mem_cons_of_mem _ hz)) h.2, show x = y by omega]
theorem bytes_inj (a b : List Int) (ha : ∀ x ∈ a, Byte x) (hb : ∀ x ∈ b, Byte x) (h : (strOfNums a).toList = (strOfNums b).toList) : a = b := by
  rw [Go.Lib.toList_data, Go.Lib.toList_data] at h
  exact map_inj a b ha hb h
theorem bytesEq (a b : List Int) (ha : ∀ x ∈ a, Byte x) (hb : ∀ x ∈ b, Byte x) : bytes_Equal.f a b = some (decide (a = b)) := by
  unfold bytes_Equal.f
  by_cases h : a = b
  · subst h; simp
  · have : ¬ (strOfNums a).toList = (strOfNums b).toList := fun e => h (bytes_inj a b ha hb e)
    simp [h, this]
theorem clone_f (a : List Int) (h : a.length ≤ 100000) : bytes_Clone.f a = some a := by
  unfold bytes_Clone.f
  rw [if_pos (by omega)]
def answer : Option S30 → List Int × Int × Int × Bool
  | some g => (g.f0, g.f1, g.f2, true)
  | none => ([], 0, 0, false)
theorem find_crl (l : List S30) (s : List Int) (hs : s.length ≤ 8192) (hb : ∀ x ∈ s, Byte x) (hl : l.length ≤ 2000) (hq : ∀ g ∈ l, ∀ x ∈ g.f0, Byte x) :
    ∀ (k : Nat) (i : Int), 0 ≤ i → (l.length : Int) - i < k → 0 < k → crl_Find.l0 k s l (l.length : Int) i = some (answer ((l.drop i.toNat).find? (fun g => decide (g.f0 = s))))
  | 0, i, _, _, h3 => by omega
  | k + 1, i, h0, h2, _ => by
    rw [crl_Find.l0]
    by_cases hi : i < (l.length : Int)
    · have hm : rd_T30 l i ∈ l := by
        unfold rd_T30
        have hi' : i.toNat < l.length := by omega
        simp [List.getD, List.getElem?_eq_getElem hi']
      have hd : l.drop i.toNat = rd_T30 l i :: l.drop (i + 1).toNat := drop_at l z30 i h0 hi
      rw [if_pos hi, if_pos h0, if_pos hi, hd, bytesEq _ _ (hq _ hm) hb, List.find?_cons]
      by_cases he : (rd_T30 l i).f0 = s
      · simp only [he, decide_true, Option.bind_some, if_true, clone_f s (by omega)]
        simp [answer, he]
      · rw [wrap_next (by omega) h0 hi]
        simp only [he, decide_false, Option.bind_some]
        rw [if_neg (by simp), find_crl l s hs hb hl hq k (i + 1) (by omega) (by omega) (by omega)]
    · rw [if_neg hi, drop_end l i hi]; rfl
theorem find_ref (l0_0 : List Int) (l0_1 : List Int) (l0_2 : List (List (S64))) (a0_3 : Int) (a0_4 : Int) (a0_5 : Bool) (a0_6 : Int) (a0_7 : Int) (a0_8 : Int) (a0_9 : Int) (l0_10 : List Int) (l : List S30) (l0_12 : List Int) (a0_13 : Bool) (s : List Int) (hs : s.length ≤ 8192) (hl : l.length ≤ 2000) :
    ∀ (k : Nat) (i : Int), 0 ≤ i → i ≤ (l.length : Int) → (l.length : Int) - i + 8193 < k → chirographref13_Find.l0 k s i l0_0 l0_1 l0_2 a0_3 a0_4 a0_5 a0_6 a0_7 a0_8 a0_9 l0_10 l l0_12 a0_13 = some (answer ((l.drop i.toNat).find? (fun g => decide (g.f0 = s))))
  | 0, i, _, _, h2 => by omega
  | k + 1, i, h0, _, h2 => by
    rw [chirographref13_Find.l0]
    by_cases hi : i < (l.length : Int)
    · have hd : l.drop i.toNat = rd_T30 l i :: l.drop (i + 1).toNat := drop_at l z30 i h0 hi
      rw [if_pos hi, if_pos h0, hd, sameBytes_f _ _ (by omega) k (by omega), List.find?_cons]
      by_cases he : (rd_T30 l i).f0 = s
      · simp only [he, decide_true, Option.bind_some, if_true]
        simp [answer, he]
      · rw [wrap_next (by omega) h0 hi]
        simp only [he, decide_false, Option.bind_some]
        rw [if_neg (by simp), find_ref l0_0 l0_1 l0_2 a0_3 a0_4 a0_5 a0_6 a0_7 a0_8 a0_9 l0_10 l l0_12 a0_13 s hs hl k (i + 1) (by omega) (by omega) (by omega)]
    · rw [if_neg hi, drop_end l i hi]; rfl
theorem sameGone_self (g : S30) (k : Nat) (hg : g.f0.length ≤ 8192) (hk : 8195 < k) : chirographref13_SameGone.f k [g] [g] = some true := by
  obtain ⟨k, rfl⟩ : ∃ m, k = m + 2 := ⟨k - 2, by omega⟩
  have h0 : rd_T30 [g] 0 = g := rfl
  have hw : wrap64 (0 + 1) = 1 := by unfold wrap64; omega
  unfold chirographref13_SameGone.f
  rw [if_pos rfl, chirographref13_SameGone.l0, if_pos (by simp), if_pos (by omega), if_pos (by simp), h0, sameBytes_f _ _ (by omega) (k + 1) (by omega)]
  simp only [decide_true, Option.bind_some, if_true, hw]
  rw [chirographref13_SameGone.l0, if_neg (by simp)]
theorem refFresh_some (l0_0 l0_1 : List Int) (l0_2 : List (List S64)) (a3 a4 : Int) (a5 : Bool) (a6 a7 a8 a9 : Int) (l10 : List Int) (l11 : List S30) (l12 : List Int) (a13 : Bool) (a1 : Int) :
    chirographref13_Fresh.f l0_0 l0_1 l0_2 a3 a4 a5 a6 a7 a8 a9 l10 l11 l12 a13 a1 = some (decide (a3 ≤ a1) && (a5 || decide (a1 ≤ a4))) := by
  unfold chirographref13_Fresh.f
  by_cases h : a3 ≤ a1
  · rw [if_pos (by omega)]; cases a5 <;> simp [h]
  · rw [if_neg (by omega)]; simp [h]
theorem refCounts_some (g : List Int) (f r t : Int) (s : List Int) (k : Nat) (hs : s.length ≤ 2000) (hk : s.length < k) : chirographref13_Counts.f k g f r t s = some (decide (f ≤ t) || !decide (r ∈ s)) := by
  unfold chirographref13_Counts.f
  rw [refCounts s t f r g hs k 0 (by omega) (by omega) (by omega)]
  simp
theorem answer_len (l : List S30) (s : List Int) (hs : s.length ≤ 8192) : (answer (l.find? (fun g => decide (g.f0 = s)))).1.length ≤ 8192 := by
  cases h : l.find? (fun g => decide (g.f0 = s)) with
  | none => simp [answer]
  | some g =>
    have := List.find?_some h
    simp only [decide_eq_true_eq] at this
    simp [answer, this, hs]
theorem CrlAsks_plain (l0_0 : List Int) (l0_1 : List Int) (l0_2 : List (List (S64))) (a3 : Int) (a4 : Int) (a5 : Bool) (a6 : Int) (a7 : Int) (a8 : Int) (a9 : Int) (l10 : List Int) (l : List S30) (l12 : List Int) (a13 : Bool) (t : Int) (s : List Int) (rs : List Int)
    (hb : ∀ x ∈ s, Byte x) (hq : ∀ g ∈ l, ∀ x ∈ g.f0, Byte x) :
    chirographlaw13_CrlAsks.f 20001 l0_0 l0_1 l0_2 a3 a4 a5 a6 a7 a8 a9 l10 l l12 a13 t s rs = some true := by
  unfold chirographlaw13_CrlAsks.f
  by_cases h1 : (l.length : Int) > 2000
  · rw [if_pos h1, chirographlaw13_CrlAsks.j0, if_pos rfl]; rfl
  rw [if_neg h1]
  by_cases h2 : (rs.length : Int) > 2000
  · rw [if_pos h2, chirographlaw13_CrlAsks.j0, if_pos rfl]; rfl
  rw [if_neg h2, chirographlaw13_CrlAsks.j0]
  by_cases h3 : (s.length : Int) > 8192
  · rw [decide_eq_true h3, if_pos rfl]; rfl
  rw [decide_eq_false h3, if_neg (by simp)]
  unfold crl_Find.f chirographref13_Find.f
  rw [find_crl l s (by omega) hb (by omega) hq 20000 0 (by omega) (by omega) (by omega), find_ref l0_0 l0_1 l0_2 a3 a4 a5 a6 a7 a8 a9 l10 l l12 a13 s (by omega) (by omega) 20000 0 (by omega) (by omega) (by omega)]
  have hA := answer_len (l.drop (0 : Int).toNat) s (by omega)
  generalize answer ((l.drop (0 : Int).toNat).find? (fun g => decide (g.f0 = s))) = A at hA ⊢
  simp only [Option.bind_some]
  rw [sameGone_self _ 20000 hA (by omega)]
  simp only [Option.bind_some, if_true, beq_self_eq_true]
  rw [fresh_val, refFresh_some, refCounts_some _ _ _ _ _ 20000 (by omega) (by omega), counts_val _ _ _ _ _ _ 20000 (contains_mem rs A.2.2.1 (by omega) 20000 (by omega))]
  simp only [Option.bind_some, if_true, beq_self_eq_true, live_val]
end Go.Proofs.YtkioddjjfifadaaGreatDoor.P
