/- The arguments of SignedSelf, opened; what the walk asks of them. -/
import Derived.Test.YtkioddjjfifadaaGreatDoorHx0
import Derived.Test.YtkioddjjfifadaaGreatDoorLx0
import Derived.Test.YtkioddjjfifadaaGreatDoorLh1
import Derived.Test.YtkioddjjfifadaaGreatDoorOpn
namespace Go.Proofs.YtkioddjjfifadaaGreatDoor.P
open Go.Deep Go.RowKit Go.ChangeShapes Go.WideShapes Go.WideElems Go.Proofs.YtkioddjjfifadaaGreatDoorW.PrintWords
abbrev QB (x : List Int) : Prop := x.length * Tryz.prog.bytesOf 5 ≤ reachBytes ∧ ∀ y ∈ x, (Lit.int .u8 y).wf = true
abbrev Q64W (x : S64) : Prop := x.f0.size ≤ reachBytes ∧ (Lit.int .i64 x.f1).wf = true ∧ QB x.f2
abbrev QNm (n : List (List S64)) : Prop := n.length * Tryz.prog.bytesOf 62 ≤ reachBytes ∧ ∀ s ∈ n, s.length * Tryz.prog.bytesOf 64 ≤ reachBytes ∧ ∀ p ∈ s, Q64W p
abbrev QWh (x : Wh) : Prop := QNm x.iss ∧ QB x.ser ∧ QB x.ski
theorem o_bytesW {t : TypeId} (ht : Tryz.prog.underlying t = some (.slice 5)) : OpensW Tryz.prog (Kd.slice 5 (Kd.int .u8)) t QB := opensW_slice ht (by kernel_rfl) (opens_int (by kernel_rfl)).toW
theorem o_64W : OpensW Tryz.prog k64 64 Q64W :=
  opensW_iso (fun x : S64 => (x.f0, x.f1, x.f2)) (fun p => ⟨p.1, p.2.1, p.2.2⟩) (fun _ => rfl) (opensW_struct Tryz.underlying64 (by kernel_rfl)
    (opensFW_cons rfl (by kernel_rfl) (opensW_string (by kernel_rfl)) (opensFW_cons rfl (by kernel_rfl) (opens_int (by kernel_rfl)).toW (opensFW_one rfl (by kernel_rfl) (o_bytesW (by kernel_rfl))))))
theorem o_nameW {t : TypeId} (ht : Tryz.prog.underlying t = some (.slice 62)) : OpensW Tryz.prog (Kd.slice 62 (Kd.slice 64 k64)) t QNm := opensW_slice ht (by kernel_rfl) (opensW_slice (by kernel_rfl) (by kernel_rfl) o_64W)
theorem o_92 : OpensW Tryz.prog kWh 92 QWh :=
  opensW_iso (fun x : Wh => (x.iss, x.ser, x.ski)) (fun p => ⟨p.1, p.2.1, p.2.2⟩) (fun _ => rfl) (opensW_struct Tryz.underlying92 (by kernel_rfl)
    (opensFW_cons rfl (by kernel_rfl) (o_nameW (by kernel_rfl)) (opensFW_cons rfl (by kernel_rfl) (o_bytesW (by kernel_rfl)) (opensFW_one rfl (by kernel_rfl) (o_bytesW (by kernel_rfl))))))
theorem o_93 : OpensW Tryz.prog (Kd.slice 92 kWh) 93 (fun xs => xs.length * Tryz.prog.bytesOf 92 ≤ reachBytes ∧ ∀ x ∈ xs, QWh x) := opensW_slice Tryz.underlying93 (by kernel_rfl) o_92
theorem bytes5' : Tryz.prog.bytesOf 5 = 1 := by kernel_rfl
theorem wf_u8 {x : Int} (h : (Lit.int .u8 x).wf = true) : 0 ≤ x ∧ x ≤ 255 := by simpa [Lit.wf, IntKind.min, IntKind.max, IntKind.signed, IntKind.bits] using h
theorem wf_i64 {x : Int} (h : (Lit.int .i64 x).wf = true) : -9223372036854775808 ≤ x ∧ x ≤ 9223372036854775807 := by simpa [Lit.wf, IntKind.min, IntKind.max, IntKind.signed, IntKind.bits] using h
theorem part_ok {x : S64} (h : Q64W x) : PartOk x := by
  obtain ⟨h0, h1, h2, h3⟩ := h
  rw [bytes5', Nat.mul_one] at h2
  have hr : reachBytes = 140737488351232 := by decide
  rw [hr] at h0 h2
  refine ⟨by omega, by omega, List.all_eq_true.2 fun y hy => ?_, wf_i64 h1⟩
  have := wf_u8 (h3 y hy)
  simp only [isByte, Bool.and_eq_true, decide_eq_true_eq]
  exact this
theorem name_pre {n : List (List S64)} (h : QNm n) : ∃ b, chirographref07_Huge.f 100000 n 2000 = some b ∧ (b = false → ∃ r, name_Key.f 100000 n = some r) :=
  self_pre n fun s hs p hp => part_ok ((h.2 s hs).2 p hp)
end Go.Proofs.YtkioddjjfifadaaGreatDoor.P
