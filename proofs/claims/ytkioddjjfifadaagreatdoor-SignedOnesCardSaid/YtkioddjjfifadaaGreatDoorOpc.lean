/- The arguments of law13: opened. -/
import Derived.Test.YtkioddjjfifadaaGreatDoorOpn
namespace Go.Proofs.YtkioddjjfifadaaGreatDoor.P
open Go.Deep Go.RowKit Go.ChangeShapes Go.WideShapes Go.WideElems Go.Proofs.YtkioddjjfifadaaGreatDoorW.PrintWords
abbrev Byte (n : Int) : Prop := (Lit.int .u8 n).wf = true
theorem o_i64 {t : TypeId} (ht : Tryz.prog.underlying t = some (.int .i64)) : Opens Tryz.prog (Kd.int .i64) t (fun _ => True) := (opens_int ht).imp (fun _ _ => trivial)
theorem o_bytes {t : TypeId} (ht : Tryz.prog.underlying t = some (.slice 5)) : Opens Tryz.prog (Kd.slice 5 (Kd.int .u8)) t (fun xs => xs.length ≤ maxLen ∧ ∀ x ∈ xs, Byte x) := opens_slice ht (by kernel_rfl) (opens_int Tryz.underlying5)
theorem o_64 : Opens Tryz.prog k64 64 (fun x => x.f0.size ≤ maxLen ∧ True ∧ x.f2.length ≤ maxLen ∧ ∀ y ∈ x.f2, Byte y) :=
  (opens_iso (fun x : S64 => (x.f0, x.f1, x.f2)) (fun p => ⟨p.1, p.2.1, p.2.2⟩) (fun _ => rfl) (opens_struct Tryz.underlying64 (by kernel_rfl)
    (opensF_cons rfl (by kernel_rfl) (opens_string (by kernel_rfl)) (opensF_cons rfl (by kernel_rfl) (o_i64 (by kernel_rfl)) (opensF_one rfl (by kernel_rfl) (o_bytes (by kernel_rfl)))))) )
theorem o_30 : Opens Tryz.prog k30 30 (fun x => (x.f0.length ≤ maxLen ∧ ∀ y ∈ x.f0, Byte y) ∧ True ∧ True) :=
  (opens_iso (fun x : S30 => (x.f0, x.f1, x.f2)) (fun p => ⟨p.1, p.2.1, p.2.2⟩) (fun _ => rfl) (opens_struct Tryz.underlying30 (by kernel_rfl)
    (opensF_cons rfl (by kernel_rfl) (o_bytes (by kernel_rfl)) (opensF_cons rfl (by kernel_rfl) (o_i64 (by kernel_rfl)) (opensF_one rfl (by kernel_rfl) (o_i64 (by kernel_rfl)))))) )
theorem o_25 : Opens Tryz.prog k25 25 (fun _ => True) :=
  (opens_iso (fun x : S25 => (x.f0, x.f1, x.f2, x.f3)) (fun p => ⟨p.1, p.2.1, p.2.2.1, p.2.2.2⟩) (fun _ => rfl) (opens_struct Tryz.underlying25 (by kernel_rfl)
    (opensF_cons rfl (by kernel_rfl) (o_i64 (by kernel_rfl)) (opensF_cons rfl (by kernel_rfl) (o_i64 (by kernel_rfl)) (opensF_cons rfl (by kernel_rfl) (o_i64 (by kernel_rfl)) (opensF_one rfl (by kernel_rfl) (o_i64 (by kernel_rfl)))))))).imp (fun _ _ => trivial)
theorem o_25' {t : TypeId} (h : t = 25) : Opens Tryz.prog k25 t (fun _ => True) := h ▸ o_25
abbrev kc28 : Kd (List Int × List Int × List (List S64) × Int × Int × Bool × S25 × List Int × List S30 × List Int × Bool) := Kd.pair (Kd.slice 5 (Kd.int .u8)) (Kd.pair (Kd.slice 5 (Kd.int .u8)) (Kd.pair (Kd.slice 62 (Kd.slice 64 k64)) (Kd.pair (Kd.int .i64) (Kd.pair (Kd.int .i64) (Kd.pair Kd.bool (Kd.pair k25 (Kd.pair (Kd.slice 5 (Kd.int .u8)) (Kd.pair (Kd.slice 30 k30) (Kd.pair (Kd.slice 5 (Kd.int .u8)) Kd.bool)))))))))
abbrev Bytes (xs : List Int) : Prop := xs.length ≤ maxLen ∧ ∀ x ∈ xs, Byte x
abbrev Q64 (x : S64) : Prop := x.f0.size ≤ maxLen ∧ True ∧ Bytes x.f2
abbrev Q30 (x : S30) : Prop := Bytes x.f0 ∧ True ∧ True
abbrev Q28 (x : List Int × List Int × List (List S64) × Int × Int × Bool × S25 × List Int × List S30 × List Int × Bool) : Prop :=
  Bytes x.1 ∧ Bytes x.2.1 ∧ (x.2.2.1.length ≤ maxLen ∧ ∀ r ∈ x.2.2.1, r.length ≤ maxLen ∧ ∀ y ∈ r, Q64 y) ∧ True ∧ True ∧ True ∧ True ∧ Bytes x.2.2.2.2.2.2.2.1 ∧ (x.2.2.2.2.2.2.2.2.1.length ≤ maxLen ∧ ∀ y ∈ x.2.2.2.2.2.2.2.2.1, Q30 y) ∧ Bytes x.2.2.2.2.2.2.2.2.2.1 ∧ True
theorem o_28 : Opens Tryz.prog kc28 28 Q28 :=
  opens_struct Tryz.underlying28 (by kernel_rfl)
    (opensF_cons rfl (by kernel_rfl) (o_bytes (by kernel_rfl)) (opensF_cons rfl (by kernel_rfl) (o_bytes (by kernel_rfl)) (opensF_cons rfl (by kernel_rfl) (opens_slice (by kernel_rfl) (by kernel_rfl) (opens_slice (by kernel_rfl) (by kernel_rfl) o_64))
    (opensF_cons rfl (by kernel_rfl) (o_i64 (by kernel_rfl)) (opensF_cons rfl (by kernel_rfl) (o_i64 (by kernel_rfl)) (opensF_cons rfl (by kernel_rfl) (opens_bool (by kernel_rfl)) (opensF_cons rfl (by kernel_rfl) (o_25' rfl)
    (opensF_cons rfl (by kernel_rfl) (o_bytes (by kernel_rfl)) (opensF_cons rfl (by kernel_rfl) (opens_slice (by kernel_rfl) (by kernel_rfl) o_30) (opensF_cons rfl (by kernel_rfl) (o_bytes (by kernel_rfl)) (opensF_one rfl (by kernel_rfl) (opens_bool (by kernel_rfl)))))))))))))
theorem open28 {w : World} {l0 l1 : List Int} {l2 : List (List S64)} {a3 a4 : Int} {a5 : Bool} {s : S25} {l10 : List Int} {l11 : List S30} {l12 : List Int} {a13 : Bool} {cs : List Value} (h : kc28.K w (l0, l1, l2, a3, a4, a5, s, l10, l11, l12, a13) cs) :
    ∃ A0 c0 A1 c1 A2 c2 A10 c10 A11 c11 A12 c12, cs = [.slice A0 l0.length c0, .slice A1 l1.length c1, .slice A2 l2.length c2, .int .i64 a3, .int .i64 a4, .bool a5, .int .i64 s.f0, .int .i64 s.f1, .int .i64 s.f2, .int .i64 s.f3, .slice A10 l10.length c10, .slice A11 l11.length c11, .slice A12 l12.length c12, .bool a13] ∧
      (l0.length ≤ c0 ∧ Kd.C (Kd.int .u8) w A0 l0.length l0) ∧ (l1.length ≤ c1 ∧ Kd.C (Kd.int .u8) w A1 l1.length l1) ∧ (l2.length ≤ c2 ∧ Kd.C (Kd.slice 64 k64) w A2 l2.length l2) ∧
      (l10.length ≤ c10 ∧ Kd.C (Kd.int .u8) w A10 l10.length l10) ∧ (l11.length ≤ c11 ∧ Kd.C k30 w A11 l11.length l11) ∧ (l12.length ≤ c12 ∧ Kd.C (Kd.int .u8) w A12 l12.length l12) := by
  obtain ⟨_, _, rfl, ⟨A0, c0, rfl, p0⟩, _, _, rfl, ⟨A1, c1, rfl, p1⟩, _, _, rfl, ⟨A2, c2, rfl, p2⟩, _, _, rfl, rfl, _, _, rfl, rfl, _, _, rfl, rfl, _, _, rfl, h25, _, _, rfl, ⟨A10, c10, rfl, p10⟩, _, _, rfl, ⟨A11, c11, rfl, p11⟩, _, _, rfl, ⟨A12, c12, rfl, p12⟩, rfl⟩ := h
  obtain ⟨_, _, rfl, rfl, _, _, rfl, rfl, _, _, rfl, rfl, rfl⟩ := h25
  exact ⟨A0, c0, A1, c1, A2, c2, A10, c10, A11, c11, A12, c12, rfl, p0, p1, p2, p10, p11, p12⟩
theorem open30 {w : World} {x : S30} {cs : List Value} (h : k30.K w x cs) : ∃ A0 c0, cs = [.slice A0 x.f0.length c0, .int .i64 x.f1, .int .i64 x.f2] ∧ x.f0.length ≤ c0 ∧ Kd.C (Kd.int .u8) w A0 x.f0.length x.f0 := by
  obtain ⟨_, _, rfl, ⟨A0, c0, rfl, p0⟩, _, _, rfl, rfl, rfl⟩ := h
  exact ⟨A0, c0, rfl, p0⟩
end Go.Proofs.YtkioddjjfifadaaGreatDoor.P
