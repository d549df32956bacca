/- What the proof of NameBuilds needs of: Opw, Lh0, Lh1, Lq0. -/
import Derived.Lib.LaidU8
import Derived.Stop.LaidErr
import Derived.Test.YtkioddjjfifadaaGreatDoorNb2
import Derived.Test.YtkioddjjfifadaaGreatDoorNb6
import Derived.Test.YtkioddjjfifadaaGreatDoorNb10
set_option linter.unusedVariables false
set_option linter.unusedSimpArgs false
namespace Go.Proofs.YtkioddjjfifadaaGreatDoor.P
open Go.Deep Go.RowKit Go.ChangeShapes Go.WideShapes Go.WideElems Go.Proofs.YtkioddjjfifadaaGreatDoorW.PrintWords
def OpensW {α : Type} (P : Program) (d : Kd α) (t : TypeId) (Q : α → Prop) : Prop :=
  ∀ (H : Type) (enc : TypeId × Value → H) (w : World) (base : Nat) (spare : Nat → Bool) (held : Bool) (fuel : Nat) (cs : List Value) (x : DataW H × List MemPlace),
    DataW.trod enc P w base spare held fuel t cs = some x → (∀ n ∈ x.1.weights P t, n ≤ reachBytes) → ∃ v, d.K w v cs ∧ Q v
variable {P : Program}
theorem Opens.toW {α : Type} {d : Kd α} {t : TypeId} {Q : α → Prop} (h : Opens P d t Q) : OpensW P d t Q := fun H enc w base spare held fuel cs x hx _ => h H enc w base spare held fuel cs x hx
theorem opensW_string {t : TypeId} (ht : P.underlying t = some .string) : OpensW P Kd.string t (fun s => s.size ≤ reachBytes) := by
  intro H enc w base spare held fuel cs x h hw
  obtain ⟨n, rfl, rfl, hs⟩ := DataW.trod_string ht h
  refine ⟨n, rfl, hw _ ?_⟩
  simp [DataW.weights]
theorem weightsAll_mem {H : Type} {e : TypeId} {n : Nat} : ∀ {l : List (DataW H)} {d : DataW H}, d ∈ l → n ∈ d.weights P e → n ∈ DataW.weightsAll P e l
  | [], _, h, _ => by cases h
  | a :: l, d, h, hn => by
    unfold DataW.weightsAll
    rcases List.mem_cons.1 h with rfl | h
    · exact List.mem_append_left _ hn
    · exact List.mem_append_right _ (weightsAll_mem h hn)
theorem weightsEach_mem {H : Type} {n : Nat} : ∀ {ts : List TypeId} {ds : List (DataW H)} (i : Nat) {t : TypeId} {d : DataW H}, ts[i]? = some t → ds[i]? = some d → n ∈ d.weights P t → n ∈ DataW.weightsEach P ts ds
  | [], _, i, _, _, h, _, _ => by simp at h
  | _ :: _, [], i, _, _, _, h, _ => by simp at h
  | t :: ts, d :: ds, 0, t', d', h1, h2, hn => by
    obtain rfl : t = t' := by simpa using h1
    obtain rfl : d = d' := by simpa using h2
    unfold DataW.weightsEach
    exact List.mem_append_left _ hn
  | t :: ts, d :: ds, i + 1, t', d', h1, h2, hn => by
    unfold DataW.weightsEach
    exact List.mem_append_right _ (weightsEach_mem i (by simpa using h1) (by simpa using h2) hn)
theorem opensW_slice {α : Type} {d : Kd α} {t e : TypeId} {Q : α → Prop} (ht : P.underlying t = some (.slice e)) (hc : P.cellsOf e = d.sz) (hd : OpensW P d e Q) :
    OpensW P (Kd.slice e d) t (fun xs => xs.length * P.bytesOf e ≤ reachBytes ∧ ∀ x ∈ xs, Q x) := by
  intro H enc w base spare held fuel cs x h hw
  rcases open_slice ht h with ⟨rfl, _⟩ | ⟨a, len, cap, m, n, D, Pl, rfl, hb, hl, hm, hmm, rfl, hx⟩
  · exact ⟨[], ⟨none, 0, rfl, Nat.le_refl _, ⟨rfl, by simp, fun h => absurd h (Nat.lt_irrefl 0)⟩⟩, by simp, fun _ h => by cases h⟩
  have hlm : len ≤ m := by rw [hmm]; split <;> omega
  unfold DataW.weights at hw
  rw [ht] at hw
  simp only [List.mem_cons, List.mem_append] at hw
  have hw0 : len * P.bytesOf e ≤ reachBytes := by
    have := hw _ (Or.inl rfl)
    simp only [List.length_map, List.length_range] at this
    exact Nat.le_trans (Nat.mul_le_mul_right _ (by omega)) this
  have hwj : ∀ j, j < len → ∀ n ∈ (D j).weights P e, n ≤ reachBytes := fun j hj n hn =>
    hw n (Or.inr (Or.inl (weightsAll_mem (List.mem_map.2 ⟨j, List.mem_range.2 hj, rfl⟩) hn)))
  have key : ∀ k, k ≤ len → ∃ xs : List α, xs.length = k ∧ (∀ y ∈ xs, Q y) ∧ ∀ j p, xs[j]? = some p → ∃ c, c.length = d.sz ∧ d.K w p c ∧ ∀ i u, c[i]? = some u → w.cell? (a.add (j * d.sz + i)) = some u := by
    intro k
    induction k with
    | zero => exact fun _ => ⟨[], rfl, (fun _ h => by cases h), (fun j p h => by simp at h)⟩
    | succ k ih =>
      intro hk
      obtain ⟨xs, hxl, hxq, hxr⟩ := ih (by omega)
      obtain ⟨cs', h1, h2⟩ := hx k (by omega)
      obtain ⟨y, hy, hQ⟩ := hd H enc w base spare held n cs' _ h2 (hwj k (by omega))
      obtain ⟨_, hlen, hcell⟩ := World.cells?_some h1
      refine ⟨xs ++ [y], by simp [hxl], ?_, ?_⟩
      · intro z hz
        rcases List.mem_append.1 hz with hz | hz
        rotate_left
        · rw [List.mem_singleton.1 hz]; exact hQ
        exact hxq z hz
      intro j p hp
      by_cases hj : j < k
      · rw [List.getElem?_append_left (by omega)] at hp
        exact hxr j p hp
      have hjk : j = k := by
        have := (List.getElem?_eq_some_iff.1 hp).1
        simp [hxl] at this
        omega
      subst hjk
      rw [List.getElem?_append_right (by omega), hxl, Nat.sub_self] at hp
      obtain rfl : y = p := by simpa using hp
      refine ⟨cs', by rw [hlen, hc], hy, fun i u hi => ?_⟩
      have hi' : i < P.cellsOf e := by have := (List.getElem?_eq_some_iff.1 hi).1; omega
      have := hcell i hi'
      rw [hi, hc] at this
      rw [← this, addr_add_add]
  obtain ⟨xs, hxl, hxq, hxr⟩ := key len (Nat.le_refl _)
  have hmax : maxLen ≤ 9223372036854775807 := by decide
  refine ⟨xs, ⟨some a, cap, by rw [hxl], by omega, hxl ▸ rfl, by omega, fun _ => ⟨a, rfl, hxr⟩⟩, by rw [hxl]; exact hw0, hxq⟩
def OpensFW {α : Type} (P : Program) (d : Kd α) (fs : List Field) (o : Nat) (Q : α → Prop) : Prop :=
  ∀ (H : Type) (enc : TypeId × Value → H) (w : World) (base : Nat) (spare : Nat → Bool) (held : Bool) (fuel : Nat) (cs : List Value), cs.length = o + d.sz →
    (∀ (i : Nat) (f : Field), fs[i]? = some f → ∃ y, DataW.trod enc P w base spare held fuel f.type ((cs.drop f.offset).take (P.cellsOf f.type)) = some y ∧ ∀ n ∈ y.1.weights P f.type, n ≤ reachBytes) → ∃ v, d.K w v (cs.drop o) ∧ Q v
theorem opensFW_one {α : Type} {d : Kd α} {f : Field} {o : Nat} {Q : α → Prop} (ho : f.offset = o) (hc : P.cellsOf f.type = d.sz) (hd : OpensW P d f.type Q) : OpensFW P d [f] o Q := by
  intro H enc w base spare held fuel cs hl hf
  obtain ⟨y, hy, hw⟩ := hf 0 f rfl
  rw [ho, hc, List.take_of_length_le (by simp [hl])] at hy
  exact hd H enc w base spare held fuel _ _ hy hw
theorem opensFW_cons {α β : Type} {d1 : Kd α} {d2 : Kd β} {f : Field} {fs : List Field} {o : Nat} {Q1 : α → Prop} {Q2 : β → Prop} (ho : f.offset = o) (hc : P.cellsOf f.type = d1.sz) (hd : OpensW P d1 f.type Q1) (hr : OpensFW P d2 fs (o + d1.sz) Q2) :
    OpensFW P (Kd.pair d1 d2) (f :: fs) o (fun x => Q1 x.1 ∧ Q2 x.2) := by
  intro H enc w base spare held fuel cs hl hf
  obtain ⟨y, hy, hw⟩ := hf 0 f rfl
  rw [ho, hc] at hy
  obtain ⟨a, ha, hQ1⟩ := hd H enc w base spare held fuel _ _ hy hw
  obtain ⟨b, hb, hQ2⟩ := hr H enc w base spare held fuel cs (by rw [hl]; simp [Kd.pair]; omega) (fun i g hg => hf (i + 1) g (by simpa using hg))
  refine ⟨(a, b), ⟨_, _, ?_, ha, hb⟩, hQ1, hQ2⟩
  rw [← List.drop_drop, List.take_append_drop]
theorem opensW_struct {α : Type} {d : Kd α} {t : TypeId} {fs : Array Field} {Q : α → Prop} (ht : P.underlying t = some (.struct fs)) (hc : P.cellsOf t = d.sz) (hf : OpensFW P d fs.toList 0 Q) : OpensW P d t Q := by
  intro H enc w base spare held fuel cs x h hw
  obtain ⟨xs, n, _, rfl, hl, hlen, hg⟩ := DataW.trod_struct ht h
  unfold DataW.weights at hw
  rw [ht] at hw
  obtain ⟨v, hv, hQ⟩ := hf H enc w base spare held n cs (by rw [hl, hc, Nat.zero_add]) (fun i f hi => by
    have hi' : fs[i]? = some f := by simpa using hi
    have hlt := (Array.getElem?_eq_some_iff.1 hi').1
    refine ⟨xs[i]'(by omega), by rw [hg i f hi']; simp, fun m hm => hw m (weightsEach_mem i (t := f.type) (d := (xs[i]'(by omega)).1) ?_ ?_ hm)⟩
    · simp [hi']
    · have : i < xs.length := by omega
      simp [List.getElem?_eq_getElem this])
  exact ⟨v, by simpa using hv, hQ⟩
theorem opensW_iso {α β : Type} {d : Kd α} {t : TypeId} {Q : α → Prop} (g : β → α) (inv : α → β) (hg : ∀ a, g (inv a) = a) (h : OpensW P d t Q) : OpensW P (Kd.iso d g) t (fun x => Q (g x)) := by
  intro H enc w base spare held fuel cs x hx hw
  obtain ⟨v, hv, hQ⟩ := h H enc w base spare held fuel cs x hx hw
  exact ⟨inv v, by show d.K w (g (inv v)) cs; rw [hg]; exact hv, by show Q (g (inv v)); rw [hg]; exact hQ⟩
section
variable {H : Type} {enc : TypeId × Value → H} {w : World} {base : Nat} {spare : Nat → Bool} {held : Bool}
theorem open_slice_argW {α : Type} {d : Kd α} {t e : TypeId} {Q : List α → Prop} {r : Reach} {b0 : Nat} {v : Value} {x : DataW H} {ps : List MemPlace} (ho : OpensW P (Kd.slice e d) t Q) (ht : P.underlying t = some (.slice e)) (hval : Value.okWide P w r b0 t v)
    (hd : DataW.Trod enc P w base spare held t v x ps) (hw : ∀ n ∈ x.weights P t, n ≤ reachBytes) : ∃ A c ys, v = .slice A (ys : List α).length c ∧ ys.length ≤ c ∧ d.C w A ys.length ys ∧ Q ys := by
  obtain ⟨a, n, c, rfl⟩ := okWide_slice ht hval
  obtain ⟨fuel, hf⟩ := hd
  obtain ⟨ys, ⟨A, c', he, hl, hc⟩, hQ⟩ := ho H enc w base spare held fuel _ _ hf hw
  refine ⟨A, c', ys, ?_, hl, hc, hQ⟩
  simpa [Value.cells] using he
end
end Go.Proofs.YtkioddjjfifadaaGreatDoor.P
namespace Go.Proofs.YtkioddjjfifadaaGreatDoor.P
open Go.Proofs.YtkioddjjfifadaaGreatDoor
theorem lh_et : Tryz.prog.globalNamed "errors.errorType" = some 0 := by kernel_rfl
theorem lh_rt : (Tryz.prog.cutTypes.find? (·.1 == "internal/reflectlite.rtype")).map (·.2) = some 336 := by kernel_rfl
theorem lh_one : ((List.range 458).filter fun t => Tryz.prog.rowNamed t [101, 114, 114, 111, 114]) = [132] := by kernel_rfl
theorem lh_size : Tryz.prog.types.size = 458 := by kernel_rfl
theorem lh_parts {W : World} (h : laidMetH Tryz.prog laidL W) : laidMet Tryz.prog laidD W ∧ handlesMet Tryz.prog [("errors.errorType", Rows.laid_errors_errorType)] W := h
theorem hd_of_laid {W : World} (h : laidMetH Tryz.prog laidL W) : Hd W := by
  obtain ⟨name, u, ty, e1, e2, e3, e4, e5⟩ := (lh_parts h).2 _ (List.mem_singleton.2 rfl)
  have en : name = [101, 114, 114, 111, 114] := (Option.some.inj e1).symm
  subst en
  obtain rfl := Option.some.inj (lh_rt.symm.trans e2)
  have hm : ty ∈ (List.range 458).filter fun t => Tryz.prog.rowNamed t [101, 114, 114, 111, 114] := List.mem_filter.2 ⟨List.mem_range.2 (by rw [← lh_size]; exact e3), e4⟩
  rw [lh_one] at hm
  obtain rfl := List.mem_singleton.1 hm
  have hh : typeHandle Tryz.prog 132 = .pointer (some ⟨7, 132, none⟩) := by kernel_rfl
  rw [hh] at e5
  have := World.var?_cell lh_et e5 0
  simpa using this
end Go.Proofs.YtkioddjjfifadaaGreatDoor.P
namespace Go.Proofs.YtkioddjjfifadaaGreatDoor.P
open Go.Proofs.YtkioddjjfifadaaGreatDoor Go.Lib
theorem u8extra : U8Extra Tryz.prog Tryz.lays197_ren := {
  n3 := by kernel_rfl
  n4 := by kernel_rfl
  y3 := by kernel_rfl
  y4 := by kernel_rfl
  c5 := by kernel_rfl
  c119 := by kernel_rfl
  c138 := by kernel_rfl }
theorem first_eq : (Rows.laid_unicode_utf8_first : DataW Unit) = firstData := by kernel_rfl
theorem accept_eq : (Rows.laid_unicode_utf8_acceptRanges : DataW Unit) = acceptData := by kernel_rfl
theorem pow_eq : (Rows.laid_internal_strconv_uint64pow10 : DataW Unit) = tabData .u64 pow10Tab := by kernel_rfl
theorem tb_of_laid {W : World} (h : laidMetH Tryz.prog laidL W) : Tb W := by
  have hd := (lh_parts h).1
  have h1 : VarReads Tryz.prog W "unicode/utf8.first" firstData := by
    rw [← first_eq]
    exact laidMet.reads hd (by unfold laidD; simp)
  have h2 : VarReads Tryz.prog W "unicode/utf8.acceptRanges" acceptData := by
    rw [← accept_eq]
    exact laidMet.reads hd (by unfold laidD; simp)
  have h3 : laidMet Tryz.prog (("internal/strconv.uint64pow10", tabData .u64 pow10Tab) :: [("unicode/utf8.acceptRanges", Rows.laid_unicode_utf8_acceptRanges), ("unicode/utf8.first", Rows.laid_unicode_utf8_first)]) W := by
    rw [← pow_eq]
    exact laidMet.tail (laidMet.tail hd)
  have hu : Utf8Tabs 2 3 W := utf8Tabs_of_reads (ρ := Tryz.lays197_ren) { Tryz.lays197 with } u8extra h1 h2
  refine ⟨tabIs_of_head (g := 4) (t := 419) (e := 278) (n := 20) (by kernel_rfl) (by kernel_rfl) (by kernel_rfl) (by kernel_rfl) (by kernel_rfl) (by kernel_rfl) h3, hu, ?_⟩
  obtain ⟨g, t, cs, fuel, p, hg, _, hv, _⟩ := laidMet.reads (n := "math/bits.deBruijn64tab") (d := Rows.laid_math_bits_deBruijn64tab) hd (by unfold laidD; simp)
  unfold World.var? at hv
  rw [show Tryz.prog.globalNamed "math/bits.deBruijn64tab" = some 6 by kernel_rfl, Option.bind_some] at hv
  rcases Nat.lt_or_ge 6 W.heap.size with h6 | h6
  · exact h6
  rw [Array.getElem?_eq_none h6] at hv
  cases hv
end Go.Proofs.YtkioddjjfifadaaGreatDoor.P
namespace Go.Proofs.YtkioddjjfifadaaGreatDoor.P
open Go.Deep Go.RowKit Go.ChangeShapes Go.WideShapes Go.WideElems Go.Proofs.YtkioddjjfifadaaGreatDoorW.PrintWords
abbrev QB (x : List Int) : Prop := x.length * Tryz.prog.bytesOf 5 ≤ reachBytes ∧ ∀ y ∈ x, (Lit.int .u8 y).wf = true
abbrev Q64W (x : S64) : Prop := x.f0.size ≤ reachBytes ∧ (Lit.int .i64 x.f1).wf = true ∧ QB x.f2
abbrev QNm (n : List (List S64)) : Prop := n.length * Tryz.prog.bytesOf 62 ≤ reachBytes ∧ ∀ s ∈ n, s.length * Tryz.prog.bytesOf 64 ≤ reachBytes ∧ ∀ p ∈ s, Q64W p
theorem o_bytesW {t : TypeId} (ht : Tryz.prog.underlying t = some (.slice 5)) : OpensW Tryz.prog (Kd.slice 5 (Kd.int .u8)) t QB := opensW_slice ht (by kernel_rfl) (opens_int (by kernel_rfl)).toW
theorem o_64W : OpensW Tryz.prog k64 64 Q64W :=
  opensW_iso (fun x : S64 => (x.f0, x.f1, x.f2)) (fun p => ⟨p.1, p.2.1, p.2.2⟩) (fun _ => rfl) (opensW_struct Tryz.underlying64 (by kernel_rfl)
    (opensFW_cons rfl (by kernel_rfl) (opensW_string (by kernel_rfl)) (opensFW_cons rfl (by kernel_rfl) (opens_int (by kernel_rfl)).toW (opensFW_one rfl (by kernel_rfl) (o_bytesW (by kernel_rfl))))))
theorem o_nameW {t : TypeId} (ht : Tryz.prog.underlying t = some (.slice 62)) : OpensW Tryz.prog (Kd.slice 62 (Kd.slice 64 k64)) t QNm := opensW_slice ht (by kernel_rfl) (opensW_slice (by kernel_rfl) (by kernel_rfl) o_64W)
theorem bytes5' : Tryz.prog.bytesOf 5 = 1 := by kernel_rfl
theorem wf_u8 {x : Int} (h : (Lit.int .u8 x).wf = true) : 0 ≤ x ∧ x ≤ 255 := by simpa [Lit.wf, IntKind.min, IntKind.max, IntKind.signed, IntKind.bits] using h
theorem wf_i64 {x : Int} (h : (Lit.int .i64 x).wf = true) : -9223372036854775808 ≤ x ∧ x ≤ 9223372036854775807 := by simpa [Lit.wf, IntKind.min, IntKind.max, IntKind.signed, IntKind.bits] using h
theorem part_ok {x : S64} (h : Q64W x) : PartOk x := by
  obtain ⟨h0, h1, h2, h3⟩ := h
  rw [bytes5', Nat.mul_one] at h2
  have hr : reachBytes = 140737488351232 := by decide
  rw [hr] at h0 h2
  refine ⟨by omega, by omega, List.all_eq_true.2 fun y hy => ?_, wf_i64 h1⟩
  have := wf_u8 (h3 y hy)
  simp only [isByte, Bool.and_eq_true, decide_eq_true_eq]
  exact this
end Go.Proofs.YtkioddjjfifadaaGreatDoor.P
