/- What the condition of the rows on the laid variables gives a walk: the handle of the type error, the tables. -/
import Derived.Test.YtkioddjjfifadaaGreatDoorWit
import Derived.Test.YtkioddjjfifadaaGreatDoorHaS
import Derived.Test.YtkioddjjfifadaaGreatDoorHt0
import Derived.Lib.LaidU8
import Derived.Stop.LaidErr
/- What the rows' condition on the laid variables gives a walk: the handle of the type 'error'. -/
namespace Go.Proofs.YtkioddjjfifadaaGreatDoor.P
open Go.Proofs.YtkioddjjfifadaaGreatDoor
theorem lh_et : Tryz.prog.globalNamed "errors.errorType" = some 0 := by kernel_rfl
theorem lh_rt : (Tryz.prog.cutTypes.find? (·.1 == "internal/reflectlite.rtype")).map (·.2) = some 336 := by kernel_rfl
theorem lh_one : ((List.range 458).filter fun t => Tryz.prog.rowNamed t [101, 114, 114, 111, 114]) = [132] := by kernel_rfl
theorem lh_size : Tryz.prog.types.size = 458 := by kernel_rfl
theorem lh_parts {W : World} (h : laidMetH Tryz.prog laidL W) : laidMet Tryz.prog laidD W ∧ handlesMet Tryz.prog [("errors.errorType", Rows.laid_errors_errorType)] W := h
theorem hd_of_laid {W : World} (h : laidMetH Tryz.prog laidL W) : Hd W := by
  obtain ⟨name, u, ty, e1, e2, e3, e4, e5⟩ := (lh_parts h).2 _ (List.mem_singleton.2 rfl)
  have en : name = [101, 114, 114, 111, 114] := (Option.some.inj e1).symm
  subst en
  obtain rfl := Option.some.inj (lh_rt.symm.trans e2)
  have hm : ty ∈ (List.range 458).filter fun t => Tryz.prog.rowNamed t [101, 114, 114, 111, 114] := List.mem_filter.2 ⟨List.mem_range.2 (by rw [← lh_size]; exact e3), e4⟩
  rw [lh_one] at hm
  obtain rfl := List.mem_singleton.1 hm
  have hh : typeHandle Tryz.prog 132 = .pointer (some ⟨7, 132, none⟩) := by kernel_rfl
  rw [hh] at e5
  have := World.var?_cell lh_et e5 0
  simpa using this
end Go.Proofs.YtkioddjjfifadaaGreatDoor.P

/- What the rows' condition on the laid variables gives a walk: the library's tables. -/
namespace Go.Proofs.YtkioddjjfifadaaGreatDoor.P
open Go.Proofs.YtkioddjjfifadaaGreatDoor Go.Lib
theorem u8extra : U8Extra Tryz.prog Tryz.lays197_ren := {
  n3 := by kernel_rfl
  n4 := by kernel_rfl
  y3 := by kernel_rfl
  y4 := by kernel_rfl
  c5 := by kernel_rfl
  c119 := by kernel_rfl
  c138 := by kernel_rfl }
theorem first_eq : (Rows.laid_unicode_utf8_first : DataW Unit) = firstData := by kernel_rfl
theorem accept_eq : (Rows.laid_unicode_utf8_acceptRanges : DataW Unit) = acceptData := by kernel_rfl
theorem pow_eq : (Rows.laid_internal_strconv_uint64pow10 : DataW Unit) = tabData .u64 pow10Tab := by kernel_rfl
theorem tb_of_laid {W : World} (h : laidMetH Tryz.prog laidL W) : Tb W := by
  have hd := (lh_parts h).1
  have h1 : VarReads Tryz.prog W "unicode/utf8.first" firstData := by
    rw [← first_eq]
    exact laidMet.reads hd (by unfold laidD; simp)
  have h2 : VarReads Tryz.prog W "unicode/utf8.acceptRanges" acceptData := by
    rw [← accept_eq]
    exact laidMet.reads hd (by unfold laidD; simp)
  have h3 : laidMet Tryz.prog (("internal/strconv.uint64pow10", tabData .u64 pow10Tab) :: [("unicode/utf8.acceptRanges", Rows.laid_unicode_utf8_acceptRanges), ("unicode/utf8.first", Rows.laid_unicode_utf8_first)]) W := by
    rw [← pow_eq]
    exact laidMet.tail (laidMet.tail hd)
  have hu : Utf8Tabs 2 3 W := utf8Tabs_of_reads (ρ := Tryz.lays197_ren) { Tryz.lays197 with } u8extra h1 h2
  refine ⟨tabIs_of_head (g := 4) (t := 419) (e := 278) (n := 20) (by kernel_rfl) (by kernel_rfl) (by kernel_rfl) (by kernel_rfl) (by kernel_rfl) (by kernel_rfl) h3, hu, ?_⟩
  obtain ⟨g, t, cs, fuel, p, hg, _, hv, _⟩ := laidMet.reads (n := "math/bits.deBruijn64tab") (d := Rows.laid_math_bits_deBruijn64tab) hd (by unfold laidD; simp)
  unfold World.var? at hv
  rw [show Tryz.prog.globalNamed "math/bits.deBruijn64tab" = some 6 by kernel_rfl, Option.bind_some] at hv
  rcases Nat.lt_or_ge 6 W.heap.size with h6 | h6
  · exact h6
  · rw [Array.getElem?_eq_none h6] at hv
    cases hv
end Go.Proofs.YtkioddjjfifadaaGreatDoor.P
