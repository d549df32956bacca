/- The law CrlTimes: the plain law. -/
import Derived.Test.YtkioddjjfifadaaGreatDoorPxf3
namespace Go.Proofs.YtkioddjjfifadaaGreatDoor.P
open Go.RowKit Go.Proofs.YtkioddjjfifadaaGreatDoorW.PrintWords Go.Proofs.YtkioddjjfifadaaGreatDoorW.PrintLast Go.Proofs.YtkioddjjfifadaaGreatDoorW.PrintMore

theorem index_some (l : List Int) (x : Int) (hl : l.length ≤ 2000) : ∀ (k : Nat) (i : Int), 0 ≤ i → i ≤ (l.length : Int) → (l.length : Int) - i < k → ∃ r, slices_Index_int_int.l0 k l x (l.length : Int) i = some r
  | 0, i, _, h1, h2 => by omega
  | k + 1, i, h0, h1, h2 => by
    rw [slices_Index_int_int.l0]
    by_cases hi : i < (l.length : Int)
    · rw [if_pos hi, if_pos h0, if_pos hi]
      split
      · exact ⟨_, rfl⟩
      · have hw : wrap64 (i + 1) = i + 1 := by unfold wrap64; omega
        rw [hw]
        exact index_some l x hl k (i + 1) (by omega) (by omega) (by omega)
    · rw [if_neg hi]
      exact ⟨_, rfl⟩
theorem contains_some (l : List Int) (x : Int) (hl : l.length ≤ 2000) (k : Nat) (hk : l.length < k) : ∃ b, slices_Contains_int_int.f k l x = some b := by
  obtain ⟨r, hr⟩ := index_some l x hl k 0 (by omega) (by omega) (by omega)
  refine ⟨decide (r ≥ 0), ?_⟩
  unfold slices_Contains_int_int.f slices_Index_int_int.f
  rw [hr]
  rfl
theorem contains_nil (k : Nat) (x : Int) : slices_Contains_int_int.f (k + 1) [] x = some false := by
  unfold slices_Contains_int_int.f slices_Index_int_int.f
  rw [slices_Index_int_int.l0]
  simp
theorem fresh_some (l0_0 l0_1 : List Int) (l0_2 : List (List S64)) (a3 a4 : Int) (a5 : Bool) (a6 a7 a8 a9 : Int) (l10 : List Int) (l11 : List S30) (l12 : List Int) (a13 : Bool) (a1 : Int) :
    crl_Fresh.f l0_0 l0_1 l0_2 a3 a4 a5 a6 a7 a8 a9 l10 l11 l12 a13 a1 = some (decide (a3 ≤ a1) && (a5 || decide (a1 ≤ a4))) := by
  unfold crl_Fresh.f
  by_cases h : a3 ≤ a1 <;> cases a5 <;> simp [h]
theorem counts_some (l : List Int) (f r t : Int) (s : List Int) (b : Bool) (k : Nat) (hb : slices_Contains_int_int.f k s r = some b) : crl_Counts.f k l f r t s = some (decide (f ≤ t) || !b) := by
  unfold crl_Counts.f
  by_cases h : f ≤ t <;> simp [h, hb]
theorem live_some : chirographlaw13_live.f = some true := rfl

set_option maxHeartbeats 1000000 in
theorem CrlTimes_plain (l0_0 l0_1 : List Int) (l0_2 : List (List S64)) (a3 a4 : Int) (a5 : Bool) (a6 a7 a8 a9 : Int) (l10 : List Int) (l11 : List S30) (l12 : List Int) (a13 : Bool) (g0 : List Int) (g1 g2 : Int) (s : List Int) (x3 x4 x5 : Int) :
    chirographlaw13_CrlTimes.f 2003 l0_0 l0_1 l0_2 a3 a4 a5 a6 a7 a8 a9 l10 l11 l12 a13 g0 g1 g2 s x3 x4 x5 = some true := by
  unfold chirographlaw13_CrlTimes.f
  by_cases h1 : (s.length : Int) > 2000
  · rw [if_pos h1, chirographlaw13_CrlTimes.j0, if_pos rfl]; rfl
  rw [if_neg h1]
  by_cases h2 : x3 > x5
  · rw [if_pos h2, chirographlaw13_CrlTimes.j0, if_pos rfl]; rfl
  rw [if_neg h2]
  obtain ⟨b, hb⟩ := contains_some s g2 (by omega) 2002 (by omega)
  have hn := contains_nil 2000 g2
  rw [chirographlaw13_CrlTimes.j0, counts_some _ _ _ _ _ b _ hb, counts_some _ _ _ _ _ b _ hb]
  by_cases h3 : x5 > x4
  · rw [decide_eq_true h3, if_pos rfl]; rfl
  rw [decide_eq_false h3, if_neg (by simp)]
  simp only [chirographlaw13_CrlTimes.j1, fresh_some, counts_some _ _ _ _ _ false _ hn, live_some, Option.bind_some, Bool.not_false, Bool.or_true, if_true]
  have key : ∀ p q r u w : Bool, (p = true → q = true) → (r = true → u = true → w = true) → (if (p || !b) = true then (if (!(q || !b)) = true then some false else (if r = true then if u = true then if w = true then some true else some false else some true else some true)) else (if false = true then some false else (if r = true then if u = true then if w = true then some true else some false else some true else some true))) = some true := by
    cases b <;> decide
  refine key _ _ _ _ _ (fun h => ?_) (fun h i => ?_)
  · simp only [decide_eq_true_eq] at h ⊢; omega
  · cases a5 <;> simp only [Bool.and_eq_true, Bool.or_eq_true, decide_eq_true_eq, Bool.false_eq_true, false_or, true_or, and_true] at h i ⊢ <;> omega
end Go.Proofs.YtkioddjjfifadaaGreatDoor.P
