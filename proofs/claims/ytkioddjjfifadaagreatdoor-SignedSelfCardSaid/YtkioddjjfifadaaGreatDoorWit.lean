/- A world that meets what the rows lay; what the condition gives. -/
import Derived.Test.YtkioddjjfifadaaGreatDoorRows
import Derived.Lay
import Derived.LaidHandle
import Derived.LaidOnce
import Derived.KernelRfl
namespace Go.Proofs.YtkioddjjfifadaaGreatDoor

def laidL : List (String × DataW Unit) := [("math/bits.deBruijn32tab", Rows.laid_math_bits_deBruijn32tab), ("math/bits.deBruijn64tab", Rows.laid_math_bits_deBruijn64tab), ("internal/strconv.uint64pow10", Rows.laid_internal_strconv_uint64pow10), ("unicode/utf8.acceptRanges", Rows.laid_unicode_utf8_acceptRanges), ("errors.errorType", Rows.laid_errors_errorType), ("unicode/utf8.first", Rows.laid_unicode_utf8_first)]
def laidD : List (String × DataW Unit) := [("math/bits.deBruijn32tab", Rows.laid_math_bits_deBruijn32tab), ("math/bits.deBruijn64tab", Rows.laid_math_bits_deBruijn64tab), ("internal/strconv.uint64pow10", Rows.laid_internal_strconv_uint64pow10), ("unicode/utf8.acceptRanges", Rows.laid_unicode_utf8_acceptRanges), ("unicode/utf8.first", Rows.laid_unicode_utf8_first)]
noncomputable def laidW0 (os : Os) : World :=
  let w0 := World.holding Tryz.prog os ⟨#[], #[], []⟩
  { w0 with heap := w0.heap.modify 0 fun
      | .cells _ t frozen => .cells #[.iface 336 (.agg #[.pointer (some ⟨7, 132, none⟩)])] t frozen
      | o => o }
noncomputable def laidWorld (os : Os) : World := (laidW0 os).layVars Tryz.prog laidD
theorem own : ownKnob Tryz.prog.godebug = none := by kernel_rfl
theorem laidL_parts : (laidL.filter fun x => x.2.handleName?.isNone) = laidD := rfl
theorem laidD_all : (laidD.filter fun x => (laidD.map (·.1)).contains x.1) = laidD := by
  exact List.filter_eq_self.2 fun x hx => List.contains_iff_mem.2 (List.mem_map.2 ⟨x, hx, rfl⟩)
theorem laidD_none : (laidD.filter fun x => !(laidD.map (·.1)).contains x.1) = [] :=
  List.filter_eq_nil_iff.2 fun x hx => by rw [List.contains_iff_mem.2 (List.mem_map.2 ⟨x, hx, rfl⟩)]; simp
set_option maxRecDepth 100000 in
theorem laidWorld_met (os : Os) (args : Array Value) : laidMetH Tryz.prog laidL ((laidWorld os).forCall (fun _ _ => 0) ⟨#[], args, []⟩).memory := by
  have hd : laidMet Tryz.prog laidD ((laidWorld os).forCall (fun _ _ => 0) ⟨#[], args, []⟩).memory := by
    refine laidMet_layVars (w0 := laidW0 os) (laidD.map (·.1)) [] ?_ ?_ ?_ ?_
    · rw [laidD_all]; rfl
    · rw [laidD_all]; kernel_rfl
    · rw [laidD_all]; kernel_rfl
    · rw [laidD_none]; exact LaidIn.none
  exact laidMetH_of_parts (laidL_parts ▸ hd) (by kernel_rfl)
theorem laidWorld_os (os : Os) : (laidWorld os).os = os := (World.layVars_os _ _ _).trans rfl
end Go.Proofs.YtkioddjjfifadaaGreatDoor
