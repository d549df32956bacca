/- The reading of an argument in the kinds of the print; the arguments of law13 opened. -/
import Derived.Test.YtkioddjjfifadaaGreatDoorPx0
import Derived.Carry
import Derived.Lay
import Derived.Deep.Slices
/- What the reading of an argument ('DataW.trod') says in the print's kinds: 'Opens P d t Q'; the arguments read again behind what changes nothing that was there; a world that meets what is laid. -/
namespace Go.Proofs.YtkioddjjfifadaaGreatDoor.P
open Go.Deep Go.RowKit Go.ChangeShapes Go.WideShapes Go.WideElems Go.Proofs.YtkioddjjfifadaaGreatDoorW.PrintWords

def Opens {α : Type} (P : Program) (d : Kd α) (t : TypeId) (Q : α → Prop) : Prop :=
  ∀ (H : Type) (enc : TypeId × Value → H) (w : World) (base : Nat) (spare : Nat → Bool) (held : Bool) (fuel : Nat) (cs : List Value) (x : DataW H × List MemPlace),
    DataW.trod enc P w base spare held fuel t cs = some x → ∃ v, d.K w v cs ∧ Q v
variable {P : Program}
theorem opens_int {t : TypeId} {k : IntKind} (ht : P.underlying t = some (.int k)) : Opens P (Kd.int k) t (fun n => (Lit.int k n).wf = true) := by
  intro H enc w base spare held fuel cs x h
  obtain ⟨n, rfl, _, hw⟩ := DataW.trod_int ht h
  exact ⟨n, rfl, hw⟩
theorem opens_bool {t : TypeId} (ht : P.underlying t = some .bool) : Opens P Kd.bool t (fun _ => True) := by
  intro H enc w base spare held fuel cs x h
  obtain ⟨n, rfl, _⟩ := DataW.trod_bool ht h
  exact ⟨n, rfl, trivial⟩
theorem opens_string {t : TypeId} (ht : P.underlying t = some .string) : Opens P Kd.string t (fun s => s.size ≤ maxLen) := by
  intro H enc w base spare held fuel cs x h
  obtain ⟨n, rfl, _, hs⟩ := DataW.trod_string ht h
  exact ⟨n, rfl, hs⟩
theorem Opens.imp {α : Type} {d : Kd α} {t : TypeId} {Q Q' : α → Prop} (h : Opens P d t Q) (hq : ∀ x, Q x → Q' x) : Opens P d t Q' := by
  intro H enc w base spare held fuel cs x hx
  obtain ⟨v, hv, hQ⟩ := h H enc w base spare held fuel cs x hx
  exact ⟨v, hv, hq v hQ⟩
theorem addr_add_add (a : Addr) (m n : Nat) : (a.add m).add n = a.add (m + n) := by
  unfold Addr.add
  by_cases hm : m = 0
  · simp [hm]
  · by_cases hn : n = 0
    · simp [hn]
    · simp [hm, hn, Nat.add_assoc]
theorem opens_slice {α : Type} {d : Kd α} {t e : TypeId} {Q : α → Prop} (ht : P.underlying t = some (.slice e)) (hc : P.cellsOf e = d.sz) (hd : Opens P d e Q) :
    Opens P (Kd.slice e d) t (fun xs => xs.length ≤ maxLen ∧ ∀ x ∈ xs, Q x) := by
  intro H enc w base spare held fuel cs x h
  rcases open_slice ht h with ⟨rfl, _⟩ | ⟨a, len, cap, m, n, D, Pl, rfl, hb, hl, hm, hmm, _, hx⟩
  · exact ⟨[], ⟨none, 0, rfl, Nat.le_refl _, ⟨rfl, by simp, fun h => absurd h (Nat.lt_irrefl 0)⟩⟩, Nat.zero_le _, fun _ h => by cases h⟩
  · have hlm : len ≤ m := by rw [hmm]; split <;> omega
    have key : ∀ k, k ≤ len → ∃ xs : List α, xs.length = k ∧ (∀ y ∈ xs, Q y) ∧ ∀ j p, xs[j]? = some p → ∃ c, c.length = d.sz ∧ d.K w p c ∧ ∀ i u, c[i]? = some u → w.cell? (a.add (j * d.sz + i)) = some u := by
      intro k
      induction k with
      | zero => exact fun _ => ⟨[], rfl, (fun _ h => by cases h), (fun j p h => by simp at h)⟩
      | succ k ih =>
        intro hk
        obtain ⟨xs, hxl, hxq, hxr⟩ := ih (by omega)
        obtain ⟨cs', h1, h2⟩ := hx k (by omega)
        obtain ⟨y, hy, hQ⟩ := hd H enc w base spare held n cs' _ h2
        obtain ⟨_, hlen, hcell⟩ := World.cells?_some h1
        refine ⟨xs ++ [y], by simp [hxl], ?_, ?_⟩
        · intro z hz
          rcases List.mem_append.1 hz with hz | hz
          · exact hxq z hz
          · rw [List.mem_singleton.1 hz]; exact hQ
        · intro j p hp
          by_cases hj : j < k
          · rw [List.getElem?_append_left (by omega)] at hp
            exact hxr j p hp
          · have hjk : j = k := by
              have := (List.getElem?_eq_some_iff.1 hp).1
              simp [hxl] at this
              omega
            subst hjk
            rw [List.getElem?_append_right (by omega), hxl, Nat.sub_self] at hp
            obtain rfl : y = p := by simpa using hp
            refine ⟨cs', by rw [hlen, hc], hy, fun i u hi => ?_⟩
            have hi' : i < P.cellsOf e := by have := (List.getElem?_eq_some_iff.1 hi).1; omega
            have := hcell i hi'
            rw [hi, hc] at this
            rw [← this, addr_add_add]
    obtain ⟨xs, hxl, hxq, hxr⟩ := key len (Nat.le_refl _)
    have hmax : maxLen ≤ 9223372036854775807 := by decide
    refine ⟨xs, ⟨some a, cap, by rw [hxl], by omega, hxl ▸ rfl, by omega, fun _ => ⟨a, rfl, hxr⟩⟩, by omega, hxq⟩
def OpensF {α : Type} (P : Program) (d : Kd α) (fs : List Field) (o : Nat) (Q : α → Prop) : Prop :=
  ∀ (H : Type) (enc : TypeId × Value → H) (w : World) (base : Nat) (spare : Nat → Bool) (held : Bool) (fuel : Nat) (cs : List Value), cs.length = o + d.sz →
    (∀ (i : Nat) (f : Field), fs[i]? = some f → ∃ y, DataW.trod enc P w base spare held fuel f.type ((cs.drop f.offset).take (P.cellsOf f.type)) = some y) → ∃ v, d.K w v (cs.drop o) ∧ Q v
theorem opensF_one {α : Type} {d : Kd α} {f : Field} {o : Nat} {Q : α → Prop} (ho : f.offset = o) (hc : P.cellsOf f.type = d.sz) (hd : Opens P d f.type Q) : OpensF P d [f] o Q := by
  intro H enc w base spare held fuel cs hl hf
  obtain ⟨y, hy⟩ := hf 0 f rfl
  rw [ho, hc, List.take_of_length_le (by simp [hl])] at hy
  exact hd H enc w base spare held fuel _ _ hy
theorem opensF_cons {α β : Type} {d1 : Kd α} {d2 : Kd β} {f : Field} {fs : List Field} {o : Nat} {Q1 : α → Prop} {Q2 : β → Prop} (ho : f.offset = o) (hc : P.cellsOf f.type = d1.sz) (hd : Opens P d1 f.type Q1) (hr : OpensF P d2 fs (o + d1.sz) Q2) :
    OpensF P (Kd.pair d1 d2) (f :: fs) o (fun x => Q1 x.1 ∧ Q2 x.2) := by
  intro H enc w base spare held fuel cs hl hf
  obtain ⟨y, hy⟩ := hf 0 f rfl
  rw [ho, hc] at hy
  obtain ⟨a, ha, hQ1⟩ := hd H enc w base spare held fuel _ _ hy
  obtain ⟨b, hb, hQ2⟩ := hr H enc w base spare held fuel cs (by rw [hl]; simp [Kd.pair]; omega) (fun i g hg => hf (i + 1) g (by simpa using hg))
  refine ⟨(a, b), ⟨_, _, ?_, ha, hb⟩, hQ1, hQ2⟩
  rw [← List.drop_drop, List.take_append_drop]
theorem opens_struct {α : Type} {d : Kd α} {t : TypeId} {fs : Array Field} {Q : α → Prop} (ht : P.underlying t = some (.struct fs)) (hc : P.cellsOf t = d.sz) (hf : OpensF P d fs.toList 0 Q) : Opens P d t Q := by
  intro H enc w base spare held fuel cs x h
  obtain ⟨xs, n, _, _, hl, hlen, hg⟩ := DataW.trod_struct ht h
  obtain ⟨v, hv, hQ⟩ := hf H enc w base spare held n cs (by rw [hl, hc, Nat.zero_add]) (fun i f hi => by
    have hi' : fs[i]? = some f := by simpa using hi
    have := (Array.getElem?_eq_some_iff.1 hi').1
    exact ⟨xs[i]'(by omega), by rw [hg i f hi']; simp⟩)
  exact ⟨v, by simpa using hv, hQ⟩
theorem opens_iso {α β : Type} {d : Kd α} {t : TypeId} {Q : α → Prop} (g : β → α) (inv : α → β) (hg : ∀ a, g (inv a) = a) (h : Opens P d t Q) : Opens P (Kd.iso d g) t (fun x => Q (g x)) := by
  intro H enc w base spare held fuel cs x hx
  obtain ⟨v, hv, hQ⟩ := h H enc w base spare held fuel cs x hx
  exact ⟨inv v, by show d.K w (g (inv v)) cs; rw [hg]; exact hv, by show Q (g (inv v)); rw [hg]; exact hQ⟩
section
variable {H : Type} {enc : TypeId × Value → H} {w : World} {base : Nat} {spare : Nat → Bool} {held : Bool}
theorem open_struct_arg {α : Type} {d : Kd α} {t : TypeId} {Q : α → Prop} {fs : Array Field} {r : Reach} {b0 : Nat} {v : Value} {x : DataW H} {ps : List MemPlace} (ho : Opens P d t Q) (ht : P.underlying t = some (.struct fs)) (hval : Value.okWide P w r b0 t v)
    (hd : DataW.Trod enc P w base spare held t v x ps) : ∃ cs y, v = .agg (cs : List Value).toArray ∧ d.K w y cs ∧ Q y := by
  obtain ⟨cs, rfl, _⟩ := okWide_struct ht hval
  obtain ⟨fuel, hf⟩ := hd
  obtain ⟨y, hy, hQ⟩ := ho H enc w base spare held fuel _ _ hf
  exact ⟨cs.toList, y, by simp, hy, hQ⟩
theorem open_slice_arg {α : Type} {d : Kd α} {t e : TypeId} {Q : List α → Prop} {r : Reach} {b0 : Nat} {v : Value} {x : DataW H} {ps : List MemPlace} (ho : Opens P (Kd.slice e d) t Q) (ht : P.underlying t = some (.slice e)) (hval : Value.okWide P w r b0 t v)
    (hd : DataW.Trod enc P w base spare held t v x ps) : ∃ A c ys, v = .slice A (ys : List α).length c ∧ ys.length ≤ c ∧ d.C w A ys.length ys ∧ Q ys := by
  obtain ⟨a, n, c, rfl⟩ := okWide_slice ht hval
  obtain ⟨fuel, hf⟩ := hd
  obtain ⟨ys, ⟨A, c', he, hl, hc⟩, hQ⟩ := ho H enc w base spare held fuel _ _ hf
  refine ⟨A, c', ys, ?_, hl, hc, hQ⟩
  simpa [Value.cells] using he
theorem trodAll_stays (hl : laidOutB P = true) {W W' : World} (hb : Below W.heap.size W W') : ∀ {ts : List TypeId} {vs : List Value} {ds : List (DataW H)} {ps : List MemPlace}, (ts.all fun t => P.readableRec t && decide (t < P.types.size)) = true →
    DataW.TrodAll enc P W 0 (fun _ => true) true ts vs ds ps → (∀ x ∈ ps, x.block < W.heap.size) → DataW.TrodAll enc P W' 0 (fun b => decide (b < W.heap.size)) true ts vs ds ps
  | [], _, _, _, _, h, _ => by
    obtain ⟨rfl, rfl, rfl⟩ := trodAll_nil h
    rfl
  | t :: ts, _, _, _, ht, h, hlt => by
    obtain ⟨v, vs1, d, ds1, a, b, rfl, rfl, rfl, h1, h2⟩ := trodAll_cons h
    rw [List.all_cons, Bool.and_eq_true, Bool.and_eq_true] at ht
    exact ⟨a, b, Below.trod hl ht.1.1 (of_decide_eq_true ht.1.2) h1 hb (fun x hx => hlt x (List.mem_append_left _ hx)), trodAll_stays hl hb ht.2 h2 (fun x hx => hlt x (List.mem_append_right _ hx)), rfl⟩
end
end Go.Proofs.YtkioddjjfifadaaGreatDoor.P

/- The arguments of law13: opened. -/
namespace Go.Proofs.YtkioddjjfifadaaGreatDoor.P
open Go.Deep Go.RowKit Go.ChangeShapes Go.WideShapes Go.WideElems Go.Proofs.YtkioddjjfifadaaGreatDoorW.PrintWords
abbrev Byte (n : Int) : Prop := (Lit.int .u8 n).wf = true
theorem o_i64 {t : TypeId} (ht : Tryz.prog.underlying t = some (.int .i64)) : Opens Tryz.prog (Kd.int .i64) t (fun _ => True) := (opens_int ht).imp (fun _ _ => trivial)
theorem o_bytes {t : TypeId} (ht : Tryz.prog.underlying t = some (.slice 5)) : Opens Tryz.prog (Kd.slice 5 (Kd.int .u8)) t (fun xs => xs.length ≤ maxLen ∧ ∀ x ∈ xs, Byte x) := opens_slice ht (by kernel_rfl) (opens_int Tryz.underlying5)
theorem o_64 : Opens Tryz.prog k64 64 (fun x => x.f0.size ≤ maxLen ∧ True ∧ x.f2.length ≤ maxLen ∧ ∀ y ∈ x.f2, Byte y) :=
  (opens_iso (fun x : S64 => (x.f0, x.f1, x.f2)) (fun p => ⟨p.1, p.2.1, p.2.2⟩) (fun _ => rfl) (opens_struct Tryz.underlying64 (by kernel_rfl)
    (opensF_cons rfl (by kernel_rfl) (opens_string (by kernel_rfl)) (opensF_cons rfl (by kernel_rfl) (o_i64 (by kernel_rfl)) (opensF_one rfl (by kernel_rfl) (o_bytes (by kernel_rfl)))))) )
theorem o_30 : Opens Tryz.prog k30 30 (fun x => (x.f0.length ≤ maxLen ∧ ∀ y ∈ x.f0, Byte y) ∧ True ∧ True) :=
  (opens_iso (fun x : S30 => (x.f0, x.f1, x.f2)) (fun p => ⟨p.1, p.2.1, p.2.2⟩) (fun _ => rfl) (opens_struct Tryz.underlying30 (by kernel_rfl)
    (opensF_cons rfl (by kernel_rfl) (o_bytes (by kernel_rfl)) (opensF_cons rfl (by kernel_rfl) (o_i64 (by kernel_rfl)) (opensF_one rfl (by kernel_rfl) (o_i64 (by kernel_rfl)))))) )
theorem o_25 : Opens Tryz.prog k25 25 (fun _ => True) :=
  (opens_iso (fun x : S25 => (x.f0, x.f1, x.f2, x.f3)) (fun p => ⟨p.1, p.2.1, p.2.2.1, p.2.2.2⟩) (fun _ => rfl) (opens_struct Tryz.underlying25 (by kernel_rfl)
    (opensF_cons rfl (by kernel_rfl) (o_i64 (by kernel_rfl)) (opensF_cons rfl (by kernel_rfl) (o_i64 (by kernel_rfl)) (opensF_cons rfl (by kernel_rfl) (o_i64 (by kernel_rfl)) (opensF_one rfl (by kernel_rfl) (o_i64 (by kernel_rfl)))))))).imp (fun _ _ => trivial)
theorem o_25' {t : TypeId} (h : t = 25) : Opens Tryz.prog k25 t (fun _ => True) := h ▸ o_25
abbrev kc28 : Kd (List Int × List Int × List (List S64) × Int × Int × Bool × S25 × List Int × List S30 × List Int × Bool) := Kd.pair (Kd.slice 5 (Kd.int .u8)) (Kd.pair (Kd.slice 5 (Kd.int .u8)) (Kd.pair (Kd.slice 62 (Kd.slice 64 k64)) (Kd.pair (Kd.int .i64) (Kd.pair (Kd.int .i64) (Kd.pair Kd.bool (Kd.pair k25 (Kd.pair (Kd.slice 5 (Kd.int .u8)) (Kd.pair (Kd.slice 30 k30) (Kd.pair (Kd.slice 5 (Kd.int .u8)) Kd.bool)))))))))
abbrev Bytes (xs : List Int) : Prop := xs.length ≤ maxLen ∧ ∀ x ∈ xs, Byte x
abbrev Q64 (x : S64) : Prop := x.f0.size ≤ maxLen ∧ True ∧ Bytes x.f2
abbrev Q30 (x : S30) : Prop := Bytes x.f0 ∧ True ∧ True
abbrev Q28 (x : List Int × List Int × List (List S64) × Int × Int × Bool × S25 × List Int × List S30 × List Int × Bool) : Prop :=
  Bytes x.1 ∧ Bytes x.2.1 ∧ (x.2.2.1.length ≤ maxLen ∧ ∀ r ∈ x.2.2.1, r.length ≤ maxLen ∧ ∀ y ∈ r, Q64 y) ∧ True ∧ True ∧ True ∧ True ∧ Bytes x.2.2.2.2.2.2.2.1 ∧ (x.2.2.2.2.2.2.2.2.1.length ≤ maxLen ∧ ∀ y ∈ x.2.2.2.2.2.2.2.2.1, Q30 y) ∧ Bytes x.2.2.2.2.2.2.2.2.2.1 ∧ True
theorem o_28 : Opens Tryz.prog kc28 28 Q28 :=
  opens_struct Tryz.underlying28 (by kernel_rfl)
    (opensF_cons rfl (by kernel_rfl) (o_bytes (by kernel_rfl)) (opensF_cons rfl (by kernel_rfl) (o_bytes (by kernel_rfl)) (opensF_cons rfl (by kernel_rfl) (opens_slice (by kernel_rfl) (by kernel_rfl) (opens_slice (by kernel_rfl) (by kernel_rfl) o_64))
    (opensF_cons rfl (by kernel_rfl) (o_i64 (by kernel_rfl)) (opensF_cons rfl (by kernel_rfl) (o_i64 (by kernel_rfl)) (opensF_cons rfl (by kernel_rfl) (opens_bool (by kernel_rfl)) (opensF_cons rfl (by kernel_rfl) (o_25' rfl)
    (opensF_cons rfl (by kernel_rfl) (o_bytes (by kernel_rfl)) (opensF_cons rfl (by kernel_rfl) (opens_slice (by kernel_rfl) (by kernel_rfl) o_30) (opensF_cons rfl (by kernel_rfl) (o_bytes (by kernel_rfl)) (opensF_one rfl (by kernel_rfl) (opens_bool (by kernel_rfl)))))))))))))
theorem open28 {w : World} {l0 l1 : List Int} {l2 : List (List S64)} {a3 a4 : Int} {a5 : Bool} {s : S25} {l10 : List Int} {l11 : List S30} {l12 : List Int} {a13 : Bool} {cs : List Value} (h : kc28.K w (l0, l1, l2, a3, a4, a5, s, l10, l11, l12, a13) cs) :
    ∃ A0 c0 A1 c1 A2 c2 A10 c10 A11 c11 A12 c12, cs = [.slice A0 l0.length c0, .slice A1 l1.length c1, .slice A2 l2.length c2, .int .i64 a3, .int .i64 a4, .bool a5, .int .i64 s.f0, .int .i64 s.f1, .int .i64 s.f2, .int .i64 s.f3, .slice A10 l10.length c10, .slice A11 l11.length c11, .slice A12 l12.length c12, .bool a13] ∧
      (l0.length ≤ c0 ∧ Kd.C (Kd.int .u8) w A0 l0.length l0) ∧ (l1.length ≤ c1 ∧ Kd.C (Kd.int .u8) w A1 l1.length l1) ∧ (l2.length ≤ c2 ∧ Kd.C (Kd.slice 64 k64) w A2 l2.length l2) ∧
      (l10.length ≤ c10 ∧ Kd.C (Kd.int .u8) w A10 l10.length l10) ∧ (l11.length ≤ c11 ∧ Kd.C k30 w A11 l11.length l11) ∧ (l12.length ≤ c12 ∧ Kd.C (Kd.int .u8) w A12 l12.length l12) := by
  obtain ⟨_, _, rfl, ⟨A0, c0, rfl, p0⟩, _, _, rfl, ⟨A1, c1, rfl, p1⟩, _, _, rfl, ⟨A2, c2, rfl, p2⟩, _, _, rfl, rfl, _, _, rfl, rfl, _, _, rfl, rfl, _, _, rfl, h25, _, _, rfl, ⟨A10, c10, rfl, p10⟩, _, _, rfl, ⟨A11, c11, rfl, p11⟩, _, _, rfl, ⟨A12, c12, rfl, p12⟩, rfl⟩ := h
  obtain ⟨_, _, rfl, rfl, _, _, rfl, rfl, _, _, rfl, rfl, rfl⟩ := h25
  exact ⟨A0, c0, A1, c1, A2, c2, A10, c10, A11, c11, A12, c12, rfl, p0, p1, p2, p10, p11, p12⟩
theorem open30 {w : World} {x : S30} {cs : List Value} (h : k30.K w x cs) : ∃ A0 c0, cs = [.slice A0 x.f0.length c0, .int .i64 x.f1, .int .i64 x.f2] ∧ x.f0.length ≤ c0 ∧ Kd.C (Kd.int .u8) w A0 x.f0.length x.f0 := by
  obtain ⟨_, _, rfl, ⟨A0, c0, rfl, p0⟩, _, _, rfl, rfl, rfl⟩ := h
  exact ⟨A0, c0, rfl, p0⟩
end Go.Proofs.YtkioddjjfifadaaGreatDoor.P

/- What the reading of an argument says in the print's kinds, with the claim's own reach: no slice and no string that is met takes more than 'reachBytes'. -/
namespace Go.Proofs.YtkioddjjfifadaaGreatDoor.P
open Go.Deep Go.RowKit Go.ChangeShapes Go.WideShapes Go.WideElems Go.Proofs.YtkioddjjfifadaaGreatDoorW.PrintWords

def OpensW {α : Type} (P : Program) (d : Kd α) (t : TypeId) (Q : α → Prop) : Prop :=
  ∀ (H : Type) (enc : TypeId × Value → H) (w : World) (base : Nat) (spare : Nat → Bool) (held : Bool) (fuel : Nat) (cs : List Value) (x : DataW H × List MemPlace),
    DataW.trod enc P w base spare held fuel t cs = some x → (∀ n ∈ x.1.weights P t, n ≤ reachBytes) → ∃ v, d.K w v cs ∧ Q v
variable {P : Program}
theorem Opens.toW {α : Type} {d : Kd α} {t : TypeId} {Q : α → Prop} (h : Opens P d t Q) : OpensW P d t Q := fun H enc w base spare held fuel cs x hx _ => h H enc w base spare held fuel cs x hx
theorem OpensW.imp {α : Type} {d : Kd α} {t : TypeId} {Q Q' : α → Prop} (h : OpensW P d t Q) (hq : ∀ x, Q x → Q' x) : OpensW P d t Q' := by
  intro H enc w base spare held fuel cs x hx hw
  obtain ⟨v, hv, hQ⟩ := h H enc w base spare held fuel cs x hx hw
  exact ⟨v, hv, hq v hQ⟩
theorem opensW_string {t : TypeId} (ht : P.underlying t = some .string) : OpensW P Kd.string t (fun s => s.size ≤ reachBytes) := by
  intro H enc w base spare held fuel cs x h hw
  obtain ⟨n, rfl, rfl, hs⟩ := DataW.trod_string ht h
  refine ⟨n, rfl, hw _ ?_⟩
  simp [DataW.weights]
theorem weightsAll_mem {H : Type} {e : TypeId} {n : Nat} : ∀ {l : List (DataW H)} {d : DataW H}, d ∈ l → n ∈ d.weights P e → n ∈ DataW.weightsAll P e l
  | [], _, h, _ => by cases h
  | a :: l, d, h, hn => by
    unfold DataW.weightsAll
    rcases List.mem_cons.1 h with rfl | h
    · exact List.mem_append_left _ hn
    · exact List.mem_append_right _ (weightsAll_mem h hn)
theorem weightsEach_mem {H : Type} {n : Nat} : ∀ {ts : List TypeId} {ds : List (DataW H)} (i : Nat) {t : TypeId} {d : DataW H}, ts[i]? = some t → ds[i]? = some d → n ∈ d.weights P t → n ∈ DataW.weightsEach P ts ds
  | [], _, i, _, _, h, _, _ => by simp at h
  | _ :: _, [], i, _, _, _, h, _ => by simp at h
  | t :: ts, d :: ds, 0, t', d', h1, h2, hn => by
    obtain rfl : t = t' := by simpa using h1
    obtain rfl : d = d' := by simpa using h2
    unfold DataW.weightsEach
    exact List.mem_append_left _ hn
  | t :: ts, d :: ds, i + 1, t', d', h1, h2, hn => by
    unfold DataW.weightsEach
    exact List.mem_append_right _ (weightsEach_mem i (by simpa using h1) (by simpa using h2) hn)
theorem opensW_slice {α : Type} {d : Kd α} {t e : TypeId} {Q : α → Prop} (ht : P.underlying t = some (.slice e)) (hc : P.cellsOf e = d.sz) (hd : OpensW P d e Q) :
    OpensW P (Kd.slice e d) t (fun xs => xs.length * P.bytesOf e ≤ reachBytes ∧ ∀ x ∈ xs, Q x) := by
  intro H enc w base spare held fuel cs x h hw
  rcases open_slice ht h with ⟨rfl, _⟩ | ⟨a, len, cap, m, n, D, Pl, rfl, hb, hl, hm, hmm, rfl, hx⟩
  · exact ⟨[], ⟨none, 0, rfl, Nat.le_refl _, ⟨rfl, by simp, fun h => absurd h (Nat.lt_irrefl 0)⟩⟩, by simp, fun _ h => by cases h⟩
  · have hlm : len ≤ m := by rw [hmm]; split <;> omega
    unfold DataW.weights at hw
    rw [ht] at hw
    simp only [List.mem_cons, List.mem_append] at hw
    have hw0 : len * P.bytesOf e ≤ reachBytes := by
      have := hw _ (Or.inl rfl)
      simp only [List.length_map, List.length_range] at this
      exact Nat.le_trans (Nat.mul_le_mul_right _ (by omega)) this
    have hwj : ∀ j, j < len → ∀ n ∈ (D j).weights P e, n ≤ reachBytes := fun j hj n hn =>
      hw n (Or.inr (Or.inl (weightsAll_mem (List.mem_map.2 ⟨j, List.mem_range.2 hj, rfl⟩) hn)))
    have key : ∀ k, k ≤ len → ∃ xs : List α, xs.length = k ∧ (∀ y ∈ xs, Q y) ∧ ∀ j p, xs[j]? = some p → ∃ c, c.length = d.sz ∧ d.K w p c ∧ ∀ i u, c[i]? = some u → w.cell? (a.add (j * d.sz + i)) = some u := by
      intro k
      induction k with
      | zero => exact fun _ => ⟨[], rfl, (fun _ h => by cases h), (fun j p h => by simp at h)⟩
      | succ k ih =>
        intro hk
        obtain ⟨xs, hxl, hxq, hxr⟩ := ih (by omega)
        obtain ⟨cs', h1, h2⟩ := hx k (by omega)
        obtain ⟨y, hy, hQ⟩ := hd H enc w base spare held n cs' _ h2 (hwj k (by omega))
        obtain ⟨_, hlen, hcell⟩ := World.cells?_some h1
        refine ⟨xs ++ [y], by simp [hxl], ?_, ?_⟩
        · intro z hz
          rcases List.mem_append.1 hz with hz | hz
          · exact hxq z hz
          · rw [List.mem_singleton.1 hz]; exact hQ
        · intro j p hp
          by_cases hj : j < k
          · rw [List.getElem?_append_left (by omega)] at hp
            exact hxr j p hp
          · have hjk : j = k := by
              have := (List.getElem?_eq_some_iff.1 hp).1
              simp [hxl] at this
              omega
            subst hjk
            rw [List.getElem?_append_right (by omega), hxl, Nat.sub_self] at hp
            obtain rfl : y = p := by simpa using hp
            refine ⟨cs', by rw [hlen, hc], hy, fun i u hi => ?_⟩
            have hi' : i < P.cellsOf e := by have := (List.getElem?_eq_some_iff.1 hi).1; omega
            have := hcell i hi'
            rw [hi, hc] at this
            rw [← this, addr_add_add]
    obtain ⟨xs, hxl, hxq, hxr⟩ := key len (Nat.le_refl _)
    have hmax : maxLen ≤ 9223372036854775807 := by decide
    refine ⟨xs, ⟨some a, cap, by rw [hxl], by omega, hxl ▸ rfl, by omega, fun _ => ⟨a, rfl, hxr⟩⟩, by rw [hxl]; exact hw0, hxq⟩
def OpensFW {α : Type} (P : Program) (d : Kd α) (fs : List Field) (o : Nat) (Q : α → Prop) : Prop :=
  ∀ (H : Type) (enc : TypeId × Value → H) (w : World) (base : Nat) (spare : Nat → Bool) (held : Bool) (fuel : Nat) (cs : List Value), cs.length = o + d.sz →
    (∀ (i : Nat) (f : Field), fs[i]? = some f → ∃ y, DataW.trod enc P w base spare held fuel f.type ((cs.drop f.offset).take (P.cellsOf f.type)) = some y ∧ ∀ n ∈ y.1.weights P f.type, n ≤ reachBytes) → ∃ v, d.K w v (cs.drop o) ∧ Q v
theorem opensFW_one {α : Type} {d : Kd α} {f : Field} {o : Nat} {Q : α → Prop} (ho : f.offset = o) (hc : P.cellsOf f.type = d.sz) (hd : OpensW P d f.type Q) : OpensFW P d [f] o Q := by
  intro H enc w base spare held fuel cs hl hf
  obtain ⟨y, hy, hw⟩ := hf 0 f rfl
  rw [ho, hc, List.take_of_length_le (by simp [hl])] at hy
  exact hd H enc w base spare held fuel _ _ hy hw
theorem opensFW_cons {α β : Type} {d1 : Kd α} {d2 : Kd β} {f : Field} {fs : List Field} {o : Nat} {Q1 : α → Prop} {Q2 : β → Prop} (ho : f.offset = o) (hc : P.cellsOf f.type = d1.sz) (hd : OpensW P d1 f.type Q1) (hr : OpensFW P d2 fs (o + d1.sz) Q2) :
    OpensFW P (Kd.pair d1 d2) (f :: fs) o (fun x => Q1 x.1 ∧ Q2 x.2) := by
  intro H enc w base spare held fuel cs hl hf
  obtain ⟨y, hy, hw⟩ := hf 0 f rfl
  rw [ho, hc] at hy
  obtain ⟨a, ha, hQ1⟩ := hd H enc w base spare held fuel _ _ hy hw
  obtain ⟨b, hb, hQ2⟩ := hr H enc w base spare held fuel cs (by rw [hl]; simp [Kd.pair]; omega) (fun i g hg => hf (i + 1) g (by simpa using hg))
  refine ⟨(a, b), ⟨_, _, ?_, ha, hb⟩, hQ1, hQ2⟩
  rw [← List.drop_drop, List.take_append_drop]
theorem opensW_struct {α : Type} {d : Kd α} {t : TypeId} {fs : Array Field} {Q : α → Prop} (ht : P.underlying t = some (.struct fs)) (hc : P.cellsOf t = d.sz) (hf : OpensFW P d fs.toList 0 Q) : OpensW P d t Q := by
  intro H enc w base spare held fuel cs x h hw
  obtain ⟨xs, n, _, rfl, hl, hlen, hg⟩ := DataW.trod_struct ht h
  unfold DataW.weights at hw
  rw [ht] at hw
  obtain ⟨v, hv, hQ⟩ := hf H enc w base spare held n cs (by rw [hl, hc, Nat.zero_add]) (fun i f hi => by
    have hi' : fs[i]? = some f := by simpa using hi
    have hlt := (Array.getElem?_eq_some_iff.1 hi').1
    refine ⟨xs[i]'(by omega), by rw [hg i f hi']; simp, fun m hm => hw m (weightsEach_mem i (t := f.type) (d := (xs[i]'(by omega)).1) ?_ ?_ hm)⟩
    · simp [hi']
    · have : i < xs.length := by omega
      simp [List.getElem?_eq_getElem this])
  exact ⟨v, by simpa using hv, hQ⟩
theorem opensW_iso {α β : Type} {d : Kd α} {t : TypeId} {Q : α → Prop} (g : β → α) (inv : α → β) (hg : ∀ a, g (inv a) = a) (h : OpensW P d t Q) : OpensW P (Kd.iso d g) t (fun x => Q (g x)) := by
  intro H enc w base spare held fuel cs x hx hw
  obtain ⟨v, hv, hQ⟩ := h H enc w base spare held fuel cs x hx hw
  exact ⟨inv v, by show d.K w (g (inv v)) cs; rw [hg]; exact hv, by show Q (g (inv v)); rw [hg]; exact hQ⟩
section
variable {H : Type} {enc : TypeId × Value → H} {w : World} {base : Nat} {spare : Nat → Bool} {held : Bool}
theorem open_struct_argW {α : Type} {d : Kd α} {t : TypeId} {Q : α → Prop} {fs : Array Field} {r : Reach} {b0 : Nat} {v : Value} {x : DataW H} {ps : List MemPlace} (ho : OpensW P d t Q) (ht : P.underlying t = some (.struct fs)) (hval : Value.okWide P w r b0 t v)
    (hd : DataW.Trod enc P w base spare held t v x ps) (hw : ∀ n ∈ x.weights P t, n ≤ reachBytes) : ∃ cs y, v = .agg (cs : List Value).toArray ∧ d.K w y cs ∧ Q y := by
  obtain ⟨cs, rfl, _⟩ := okWide_struct ht hval
  obtain ⟨fuel, hf⟩ := hd
  obtain ⟨y, hy, hQ⟩ := ho H enc w base spare held fuel _ _ hf hw
  exact ⟨cs.toList, y, by simp, hy, hQ⟩
theorem open_slice_argW {α : Type} {d : Kd α} {t e : TypeId} {Q : List α → Prop} {r : Reach} {b0 : Nat} {v : Value} {x : DataW H} {ps : List MemPlace} (ho : OpensW P (Kd.slice e d) t Q) (ht : P.underlying t = some (.slice e)) (hval : Value.okWide P w r b0 t v)
    (hd : DataW.Trod enc P w base spare held t v x ps) (hw : ∀ n ∈ x.weights P t, n ≤ reachBytes) : ∃ A c ys, v = .slice A (ys : List α).length c ∧ ys.length ≤ c ∧ d.C w A ys.length ys ∧ Q ys := by
  obtain ⟨a, n, c, rfl⟩ := okWide_slice ht hval
  obtain ⟨fuel, hf⟩ := hd
  obtain ⟨ys, ⟨A, c', he, hl, hc⟩, hQ⟩ := ho H enc w base spare held fuel _ _ hf hw
  refine ⟨A, c', ys, ?_, hl, hc, hQ⟩
  simpa [Value.cells] using he
end
end Go.Proofs.YtkioddjjfifadaaGreatDoor.P
