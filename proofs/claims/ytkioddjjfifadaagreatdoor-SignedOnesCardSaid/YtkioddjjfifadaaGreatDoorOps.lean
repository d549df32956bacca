/- The arguments of law17: opened. -/
import Derived.Test.YtkioddjjfifadaaGreatDoorOpw
namespace Go.Proofs.YtkioddjjfifadaaGreatDoor.P
open Go.Deep Go.RowKit Go.ChangeShapes Go.WideShapes Go.WideElems Go.Proofs.YtkioddjjfifadaaGreatDoorW.PrintWords
abbrev QAttr (x : S163) : Prop := x.f0.size ≤ maxLen ∧ (x.f1.length * Tryz.prog.bytesOf 22 ≤ reachBytes ∧ ∀ v ∈ x.f1, v.length * Tryz.prog.bytesOf 5 ≤ reachBytes ∧ ∀ y ∈ v, (Lit.int .u8 y).wf = true)
theorem o_163 : OpensW Tryz.prog k163 163 QAttr :=
  opensW_iso (fun x : S163 => (x.f0, x.f1)) (fun p => ⟨p.1, p.2⟩) (fun _ => rfl) (opensW_struct Tryz.underlying163 (by kernel_rfl)
    (opensFW_cons rfl (by kernel_rfl) (opens_string (by kernel_rfl)).toW (opensFW_one rfl (by kernel_rfl) (opensW_slice (by kernel_rfl) (by kernel_rfl) (opensW_slice (by kernel_rfl) (by kernel_rfl) (opens_int (by kernel_rfl)).toW)))))
theorem o_78 : OpensW Tryz.prog (Kd.slice 163 k163) 78 (fun xs => xs.length * Tryz.prog.bytesOf 163 ≤ reachBytes ∧ ∀ x ∈ xs, QAttr x) := opensW_slice Tryz.underlying78 (by kernel_rfl) o_163
theorem bytes5 : Tryz.prog.bytesOf 5 = 1 := by kernel_rfl
theorem attrs_small {l : List S163} {n : Nat} (h : l.length * n ≤ reachBytes ∧ ∀ x ∈ l, QAttr x) : ∀ x ∈ l, ∀ v ∈ x.f1, v.length < 140737488355328 := fun x hx v hv => by
  have h1 := ((h.2 x hx).2.2 v hv).1
  rw [bytes5, Nat.mul_one] at h1
  exact Nat.lt_of_le_of_lt h1 (by decide)
end Go.Proofs.YtkioddjjfifadaaGreatDoor.P
