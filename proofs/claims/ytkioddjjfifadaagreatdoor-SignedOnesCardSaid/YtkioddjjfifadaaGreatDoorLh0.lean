/- What the rows' condition on the laid variables gives a walk: the handle of the type 'error'. -/
import Derived.Test.YtkioddjjfifadaaGreatDoorWit
import Derived.Test.YtkioddjjfifadaaGreatDoorHaS
namespace Go.Proofs.YtkioddjjfifadaaGreatDoor.P
open Go.Proofs.YtkioddjjfifadaaGreatDoor
theorem lh_et : Tryz.prog.globalNamed "errors.errorType" = some 0 := by kernel_rfl
theorem lh_rt : (Tryz.prog.cutTypes.find? (·.1 == "internal/reflectlite.rtype")).map (·.2) = some 336 := by kernel_rfl
theorem lh_one : ((List.range 458).filter fun t => Tryz.prog.rowNamed t [101, 114, 114, 111, 114]) = [132] := by kernel_rfl
theorem lh_size : Tryz.prog.types.size = 458 := by kernel_rfl
theorem lh_parts {W : World} (h : laidMetH Tryz.prog laidL W) : laidMet Tryz.prog laidD W ∧ handlesMet Tryz.prog [("errors.errorType", Rows.laid_errors_errorType)] W := h
theorem hd_of_laid {W : World} (h : laidMetH Tryz.prog laidL W) : Hd W := by
  obtain ⟨name, u, ty, e1, e2, e3, e4, e5⟩ := (lh_parts h).2 _ (List.mem_singleton.2 rfl)
  have en : name = [101, 114, 114, 111, 114] := (Option.some.inj e1).symm
  subst en
  obtain rfl := Option.some.inj (lh_rt.symm.trans e2)
  have hm : ty ∈ (List.range 458).filter fun t => Tryz.prog.rowNamed t [101, 114, 114, 111, 114] := List.mem_filter.2 ⟨List.mem_range.2 (by rw [← lh_size]; exact e3), e4⟩
  rw [lh_one] at hm
  obtain rfl := List.mem_singleton.1 hm
  have hh : typeHandle Tryz.prog 132 = .pointer (some ⟨7, 132, none⟩) := by kernel_rfl
  rw [hh] at e5
  have := World.var?_cell lh_et e5 0
  simpa using this
end Go.Proofs.YtkioddjjfifadaaGreatDoor.P
