/- What the proof of NameTurns needs of: WLast, WApart, WFoot, WKept, WShare, WN, WMore, Up0, WTab, WRepsOne, Px0, Pxf40, Hcp, Hsw, Lr3, Pxf46, Pxf47, Htw. -/
import Derived.OrdersHeld
import Derived.Deep.RegionHeld3
import Derived.Laws.BitsLemmas
import Derived.RowKit
import Derived.Test.YtkioddjjfifadaaGreatDoorProg
import Derived.Below
import Derived.Deep.Draws
import Derived.Deep.AppendLies
import Derived.Maps.AppendAt
import Derived.OwnWalk
import Derived.Laws.BytesArg
import Derived.Laws.MakeOwn
import Derived.Laws.OwnMore
import Derived.Deep.OwnRows
import Derived.Tactics
import Derived.Lib.ConvBytes
import Derived.Laws.Slices
import Derived.WalkKit
import Derived.KernelRfl
import Derived.RowKit3
import Derived.Deep.LoopGhost
import Derived.Deep.QuietTactic
import Derived.BigQuiet
import Derived.WideLaws
import Derived.Deep.DeepCutAuto
import Derived.Deep.CutBlock
import Derived.Laws.Rows
import Derived.Lib.AppendStr
import Derived.ArgAppend
import Derived.Laws.IdiomCopy
import Derived.Laws.StructEq
import Derived.BigRegion
import Derived.Test.YtkioddjjfifadaaGreatDoorNt1
namespace Go.Proofs.YtkioddjjfifadaaGreatDoorW.PrintLast
section
variable {P : Program} {ops : Array Oper} {Q : Exit → Act → World → Prop} {md : Region.Mode} {S : World → Prop} {ds : List Nat}
def Region.reachB (md : Region.Mode) (ops : Array Oper) (i : Nat) : Nat → Nat → Bool
  | 0, _ => false
  | fuel + 1, d => match ops[d]? with
    | some o => o.after.any fun e => Region.binds md e && (e.on == i || Region.reachB md ops i fuel e.on)
    | none => false
def Region.closedB (md : Region.Mode) (ops : Array Oper) (listed : Array Bool) : Bool :=
  (List.range ops.size).all fun j => !listed.getD j false || match ops[j]? with
    | some o => o.after.all fun e => !Region.binds md e || listed.getD e.on false
    | none => true
def Region.lastB (md : Region.Mode) (ops : Array Oper) (listed : Array Bool) (ds : List Nat) (i : Nat) : Bool :=
  ds.all fun d => listed.getD d true || Region.reachB md ops i ops.size d
def ListedClosed (md : Region.Mode) (ops : Array Oper) (listed : Array Bool) : Prop :=
  ∀ j oj, ops[j]? = some oj → listed.getD j false = true → ∀ e ∈ oj.after, Region.binds md e = true → listed.getD e.on false = true
theorem Region.closedB_spec {listed : Array Bool} (h : Region.closedB md ops listed = true) : ListedClosed md ops listed := by
  intro j oj hj hl e he hb
  have hlt : j < ops.size := (Array.getElem?_eq_some_iff.1 hj).1
  have h1 := List.all_eq_true.1 h j (List.mem_range.2 hlt)
  simp only [hl, hj, Bool.not_true, Bool.false_or] at h1
  have h2 := Array.all_eq_true_iff_forall_mem.1 h1 e he
  simpa [hb] using h2
theorem ListedClosed.set {listed : Array Bool} {i : Nat} (h : ListedClosed md ops listed) (hi : i ∈ Region.ready md ops listed) : ListedClosed md ops (listed.setIfInBounds i true) := by
  obtain ⟨_, oi, hoi, hall⟩ := mem_ready.1 hi
  intro j oj hj hl e he hb
  by_cases hij : i = j
  rotate_left
  · rw [getD_set_ne false hij] at hl
    exact getD_set_true (h j oj hj hl e he hb)
  subst hij
  have : oj = oi := Option.some.inj (hj.symm.trans hoi)
  subst this
  exact getD_set_true (hall e he hb)
theorem Region.reach_listed {listed : Array Bool} {i : Nat} (hc : ListedClosed md ops listed) : ∀ (fuel d : Nat), Region.reachB md ops i fuel d = true → listed.getD d false = true → listed.getD i false = true
  | 0, _, h, _ => by simp [Region.reachB] at h
  | fuel + 1, d, h, hl => by
    unfold Region.reachB at h
    cases ho : ops[d]? with
    | none => rw [ho] at h; simp at h
    | some o =>
      rw [ho] at h
      obtain ⟨e, he, h1⟩ := Array.any_eq_true'.1 h
      simp only [Bool.and_eq_true, Bool.or_eq_true, beq_iff_eq] at h1
      have hle := hc d o ho hl e he h1.1
      rcases h1.2 with h2 | h2
      · rw [← h2]; exact hle
      · exact Region.reach_listed hc fuel e.on h2 hle
theorem Region.reach_not_ready {listed : Array Bool} {i d fuel : Nat} (hc : ListedClosed md ops listed) (hr : Region.reachB md ops i fuel d = true) (hun : listed.getD i true = false) : d ∉ Region.ready md ops listed := by
  intro hd
  obtain ⟨_, o, ho, hall⟩ := mem_ready.1 hd
  have hi : listed.getD i false = true := by
    cases fuel with
    | zero => simp [Region.reachB] at hr
    | succ n =>
      unfold Region.reachB at hr
      rw [ho] at hr
      obtain ⟨e, he, h1⟩ := Array.any_eq_true'.1 hr
      simp only [Bool.and_eq_true, Bool.or_eq_true, beq_iff_eq] at h1
      have hle := hall e he h1.1
      rcases h1.2 with h2 | h2
      rotate_left
      · exact Region.reach_listed hc n e.on h2 hle
      rw [← h2]; exact hle
  rcases Nat.lt_or_ge i listed.size with h' | h'
  rotate_left
  · simp [Array.getElem?_eq_none h'] at hun
  simp [h'] at hun hi
  rw [hun] at hi
  cases hi
def wpAnyLast (P : Program) (md : Region.Mode) (ops : Array Oper) (Q : Exit → Act → World → Prop) (S : World → Prop) (ds : List Nat) : Nat → Array Bool → Act → World → Prop
  | 0, listed, a, w => Region.ready md ops listed = [] ∧ Q .normal a w
  | fuel + 1, listed, a, w =>
    (Region.ready md ops listed = [] → Q .normal a w) ∧
    ∀ i ∈ Region.ready md ops listed, wpOp P ops Q i (fun a' w' => (i ∉ ds → S w → S w') ∧ wpAnyLast P md ops Q S ds fuel (listed.setIfInBounds i true) a' w') a w
theorem wpAny_of_last : ∀ (fuel : Nat) (listed : Array Bool) (a : Act) (w : World), wpAnyLast P md ops Q S ds fuel listed a w → wpAny P md ops Q fuel listed a w
  | 0, _, _, _, h => h
  | fuel + 1, _, _, _, h => ⟨h.1, fun i hi => wpOp_mono (fun a' w' h' => wpAny_of_last fuel _ a' w' h'.2) (h.2 i hi)⟩
theorem wpAnyLast_first {i : Nat} {oi : Oper} {v : Value} (hi : ops[i]? = some oi) (hsel : ∀ (j : Nat) (o : Oper) cs b, ops[j]? = some o → o.op ≠ .select cs b)
    (hQ : ∀ c a w, Q (.panic c) (a.put oi.dst v) w → Q (.panic c) a w) (n : Nat) :
    ∀ (fuel : Nat) (listed : Array Bool) (a : Act) (w : World),
      (∀ j oj, ops[j]? = some oj → j ≠ i → listed.getD j true = false → (∀ e ∈ oj.after, Region.binds md e = true → e.on ≠ i) → oi.apart ops oj = true) →
      ListedClosed md ops listed → (∀ d ∈ ds, listed.getD d true = false → Region.reachB md ops i n d = true) →
      i ∈ Region.ready md ops listed → YieldsIf P ops S oi v a → S w →
      wpAnyLast P md ops Q S ds fuel (listed.setIfInBounds i true) (a.put oi.dst v) w → wpAnyLast P md ops Q S ds (fuel + 1) listed a w := by
  intro fuel
  induction fuel with
  | zero =>
    intro listed a w _ _ _ hr hy hS H
    refine ⟨fun h => (by rw [h] at hr; cases hr), fun j hj => ?_⟩
    by_cases hji : j = i
    · subst hji; exact hy.wpOp hi hS ⟨fun _ h => h, H⟩
    have := ready_mono hj hji
    rw [H.1] at this
    cases this
  | succ fuel ih =>
    intro listed a w hfree hc hd hr hy hS H
    refine ⟨fun h => (by rw [h] at hr; cases hr), fun j hj => ?_⟩
    by_cases hji : j = i
    · subst hji; exact hy.wpOp hi hS ⟨fun _ h => h, H⟩
    have h1 := H.2 j (ready_mono hj hji)
    obtain ⟨hjun, oj, hoj, hall⟩ := mem_ready.1 hj
    have hiun := (mem_ready.1 hr).1
    have hnot : ∀ e ∈ oj.after, Region.binds md e = true → e.on ≠ i := fun e he hb heq => by
      have h1 := hall e he hb
      rw [heq] at h1
      rcases Nat.lt_or_ge i listed.size with h' | h'
      · simp [h'] at hiun h1; rw [hiun] at h1; cases h1
      · simp [Array.getElem?_eq_none h'] at h1
    have hjd : j ∉ ds := fun hm => Region.reach_not_ready hc (hd j hm hjun) hiun hj
    have h2 := wpOp_putIf hoj (hfree j oj hoj hji hjun hnot) (fun cs b => hsel i oi cs b hi) (fun cs b => hsel j oj cs b hoj) hQ hy h1
    have hfree' : ∀ k ok, ops[k]? = some ok → k ≠ i → (listed.setIfInBounds j true).getD k true = false →
        (∀ e ∈ ok.after, Region.binds md e = true → e.on ≠ i) → oi.apart ops ok = true := fun k ok hk hki hun hno => by
      refine hfree k ok hk hki ?_ hno
      by_cases hjk : j = k
      · subst hjk; exact hjun
      · rw [getD_set_ne true hjk] at hun; exact hun
    have hd' : ∀ d ∈ ds, (listed.setIfInBounds j true).getD d true = false → Region.reachB md ops i n d = true := fun d hm hun => by
      refine hd d hm ?_
      by_cases hjk : j = d
      · subst hjk; exact hjun
      · rw [getD_set_ne true hjk] at hun; exact hun
    refine wpOp_mono (fun a' w' h3 => ⟨h3.2.1, ih (listed.setIfInBounds j true) a' w' hfree' (hc.set hj) hd' (ready_mono hr (Ne.symm hji)) h3.1 (h3.2.1 hjd hS) ?_⟩) h2
    rw [Array.setIfInBounds_comm _ _ hji]
    exact h3.2.2
theorem wpAnyLast_any {i : Nat} {oi : Oper} {v : Value} (hi : ops[i]? = some oi) (hsel : ∀ (j : Nat) (o : Oper) cs b, ops[j]? = some o → o.op ≠ .select cs b)
    (hQ : ∀ c a w, Q (.panic c) (a.put oi.dst v) w → Q (.panic c) a w) :
    ∀ (fuel : Nat) (listed : Array Bool) (a : Act) (w : World),
      (∀ j oj, ops[j]? = some oj → j ≠ i → listed.getD j true = false → (∀ e ∈ oj.after, Region.binds md e = true → e.on ≠ i) → oi.apart ops oj = true) →
      i ∈ Region.ready md ops listed → Yields P ops oi v a →
      wpAnyLast P md ops Q S ds fuel (listed.setIfInBounds i true) (a.put oi.dst v) w → wpAnyLast P md ops Q S ds (fuel + 1) listed a w := by
  intro fuel
  induction fuel with
  | zero =>
    intro listed a w _ hr hy H
    refine ⟨fun h => (by rw [h] at hr; cases hr), fun j hj => ?_⟩
    by_cases hji : j = i
    · subst hji; exact (hy.yieldsIf (S := fun _ => True)).wpOp hi trivial ⟨fun _ h => h, H⟩
    have := ready_mono hj hji
    rw [H.1] at this
    cases this
  | succ fuel ih =>
    intro listed a w hfree hr hy H
    refine ⟨fun h => (by rw [h] at hr; cases hr), fun j hj => ?_⟩
    by_cases hji : j = i
    · subst hji; exact (hy.yieldsIf (S := fun _ => True)).wpOp hi trivial ⟨fun _ h => h, H⟩
    have h1 := H.2 j (ready_mono hj hji)
    obtain ⟨hjun, oj, hoj, hall⟩ := mem_ready.1 hj
    have hiun := (mem_ready.1 hr).1
    have hnot : ∀ e ∈ oj.after, Region.binds md e = true → e.on ≠ i := fun e he hb heq => by
      have h1 := hall e he hb
      rw [heq] at h1
      rcases Nat.lt_or_ge i listed.size with h' | h'
      · simp [h'] at hiun h1; rw [hiun] at h1; cases h1
      · simp [Array.getElem?_eq_none h'] at h1
    have h2 := wpOp_put hoj (hfree j oj hoj hji hjun hnot) (fun cs b => hsel i oi cs b hi) (fun cs b => hsel j oj cs b hoj) hQ hy h1
    have hfree' : ∀ k ok, ops[k]? = some ok → k ≠ i → (listed.setIfInBounds j true).getD k true = false →
        (∀ e ∈ ok.after, Region.binds md e = true → e.on ≠ i) → oi.apart ops ok = true := fun k ok hk hki hun hno => by
      refine hfree k ok hk hki ?_ hno
      by_cases hjk : j = k
      · subst hjk; exact hjun
      · rw [getD_set_ne true hjk] at hun; exact hun
    refine wpOp_mono (fun a' w' h3 => ⟨h3.2.1, ih (listed.setIfInBounds j true) a' w' hfree' (ready_mono hr (Ne.symm hji)) h3.1 ?_⟩) h2
    rw [Array.setIfInBounds_comm _ _ hji]
    exact h3.2.2
theorem wpAnyLast_take {i : Nat} {oi : Oper} {v : Value} {fuel : Nat} {listed : Array Bool} {a : Act} {w : World} (hi : ops[i]? = some oi)
    (hs : Region.noSelect ops = true) (hf : Region.free md ops listed i = true) (hr : (Region.ready md ops listed).contains i = true)
    (hc : Region.closedB md ops listed = true) (hl : Region.lastB md ops listed ds i = true)
    (hQ : ∀ c a w, Q (.panic c) (a.put oi.dst v) w → Q (.panic c) a w) (hy : YieldsIf P ops S oi v a) (hS : S w)
    (h : wpAnyLast P md ops Q S ds fuel (listed.setIfInBounds i true) (a.put oi.dst v) w) : wpAnyLast P md ops Q S ds (fuel + 1) listed a w :=
  wpAnyLast_first hi (Region.noSelect_spec hs) hQ ops.size fuel listed a w (Region.free_spec hi hf) (Region.closedB_spec hc)
    (fun d hm hun => by have := List.all_eq_true.1 hl d hm; rw [hun] at this; simpa using this) (by simpa using hr) hy hS h
theorem wpAnyLast_all {rs : List Nat} {fuel : Nat} {listed : Array Bool} {a : Act} {w : World} (hr : Region.ready md ops listed = rs) (hne : rs ≠ [])
    (h : ∀ i ∈ rs, wpOp P ops Q i (fun a' w' => (i ∉ ds → S w → S w') ∧ wpAnyLast P md ops Q S ds fuel (listed.setIfInBounds i true) a' w') a w) : wpAnyLast P md ops Q S ds (fuel + 1) listed a w :=
  ⟨fun h0 => absurd (hr ▸ h0) hne, hr ▸ h⟩
theorem wpAnyLast_done {listed : Array Bool} {a : Act} {w : World} (hr : Region.ready md ops listed = []) (h : Q .normal a w) :
    ∀ fuel, wpAnyLast P md ops Q S ds fuel listed a w
  | 0 => ⟨hr, h⟩
  | _ + 1 => ⟨fun _ => h, by rw [hr]; simp⟩
theorem wp_region_last {id : Nat} {a : Act} {w : World} (hm : P.follows .mixedOrders = true)
    (h : wpAnyLast P .any ops Q S ds ops.size (Array.replicate ops.size false) a { w with drawn := w.drawn + 1 }) : (Code.region id ops true).wp P Q a w :=
  wp_region_any hm (wpAny_of_last _ _ _ _ h)
end
section
variable {P : Program} {ops : Array Oper} {Q : Exit → Act → World → Prop} {md : Region.Mode} {S : World → Prop} {ds : List Nat}
def AllReadyL (P : Program) (md : Region.Mode) (ops : Array Oper) (Q : Exit → Act → World → Prop) (S : World → Prop) (ds : List Nat) (fuel : Nat) (listed : Array Bool) (a : Act) (w : World) (rs : List Nat) : Prop :=
  ∀ i ∈ rs, wpOp P ops Q i (fun a' w' => (i ∉ ds → S w → S w') ∧ wpAnyLast P md ops Q S ds fuel (listed.setIfInBounds i true) a' w') a w
theorem AllReadyL.nil {fuel : Nat} {listed : Array Bool} {a : Act} {w : World} : AllReadyL P md ops Q S ds fuel listed a w [] := fun _ h => by cases h
theorem AllReadyL.cons {fuel : Nat} {listed : Array Bool} {a : Act} {w : World} {i : Nat} {o : Oper} {rs : List Nat} (ho : ops[i]? = some o) (hd : i ∉ ds)
    (h : ∀ K' : Act → World → Prop, Shut (∀ a w, S w → (S w → wpAnyLast P md ops Q S ds fuel (listed.setIfInBounds i true) a w) → K' a w) → if Region.wanted o (yielded ops a.tmps) = true then Oper.wp P o a w K' Q else K' (a.put o.dst undef) w)
    (hs : AllReadyL P md ops Q S ds fuel listed a w rs) : AllReadyL P md ops Q S ds fuel listed a w (i :: rs) := fun j hj => by
  rcases List.mem_cons.1 hj with rfl | hj
  · exact wpOp_step ho (fun K' hK => h K' (fun a w hS hW => hK a w ⟨fun _ _ => hS, hW hS⟩))
  · exact hs j hj
theorem wpAnyLast_ready {rs : List Nat} {fuel : Nat} {listed : Array Bool} {a : Act} {w : World} (hr : Region.ready md ops listed = rs) (hne : rs ≠ [])
    (h : AllReadyL P md ops Q S ds fuel listed a w rs) : wpAnyLast P md ops Q S ds (fuel + 1) listed a w := wpAnyLast_all hr hne h
theorem start_ {id n : Nat} {a : Act} {w : World} (l : Array Bool) (hm : P.follows .mixedOrders = true) (hn : ops.size = n) (hl : Array.replicate n false = l) (hS : S w.drew)
    (h : S w.drew → wpAnyLast P .any ops Q S ds n l a w.drew) : (Code.region id ops true).wp P Q a w := by
  subst hn
  subst hl
  exact wp_region_last hm (h hS)
def takeB (md : Region.Mode) (ops : Array Oper) (ds : List Nat) (l l' : Array Bool) (i : Nat) : Bool :=
  Region.noSelect ops && Region.free md ops l i && (Region.ready md ops l).contains i && Region.closedB md ops l && Region.lastB md ops l ds i && (l.setIfInBounds i true == l')
theorem take_ {i : Nat} {N : Option Tmp} {oi : Oper} {v : Value} {fuel : Nat} {l : Array Bool} {a : Act} {w : World} (l' : Array Bool) (hi : ops[i]? = some oi) (hN : oi.dst = N) (hc : takeB md ops ds l l' i = true)
    (hQ : ∀ c a w, Q (.panic c) (a.put oi.dst v) w → Q (.panic c) a w) (hy : YieldsIf P ops S oi v a) (hS : S w) {a' : Act} (ha : a.put N v = a')
    (h : wpAnyLast P md ops Q S ds fuel l' a' w) : wpAnyLast P md ops Q S ds (fuel + 1) l a w := by
  subst ha
  subst hN
  simp only [takeB, Bool.and_eq_true, beq_iff_eq] at hc
  obtain ⟨⟨⟨⟨⟨h1, h2⟩, h3⟩, h4⟩, h5⟩, h6⟩ := hc
  subst h6
  exact wpAnyLast_take hi h1 h2 h3 h4 h5 hQ hy hS h
def anyB (md : Region.Mode) (ops : Array Oper) (l l' : Array Bool) (i : Nat) : Bool :=
  Region.noSelect ops && Region.free md ops l i && (Region.ready md ops l).contains i && (l.setIfInBounds i true == l')
theorem pure_ {i : Nat} {N : Option Tmp} {oi : Oper} {v : Value} {fuel : Nat} {l : Array Bool} {a : Act} {w : World} (l' : Array Bool) (hi : ops[i]? = some oi) (hN : oi.dst = N) (hc : anyB md ops l l' i = true)
    (hQ : ∀ c a w, Q (.panic c) (a.put oi.dst v) w → Q (.panic c) a w) (hy : Yields P ops oi v a) {a' : Act} (ha : a.put N v = a')
    (h : wpAnyLast P md ops Q S ds fuel l' a' w) : wpAnyLast P md ops Q S ds (fuel + 1) l a w := by
  subst ha
  subst hN
  simp only [anyB, Bool.and_eq_true, beq_iff_eq] at hc
  obtain ⟨⟨⟨h1, h2⟩, h3⟩, h6⟩ := hc
  subst h6
  exact wpAnyLast_any hi (Region.noSelect_spec h1) hQ fuel l a w (Region.free_spec hi h2) (by simpa using h3) hy h
def readyB (md : Region.Mode) (ops : Array Oper) (l l' : Array Bool) (i : Nat) : Bool := (Region.ready md ops l == [i]) && (l.setIfInBounds i true == l')
theorem one_ {i : Nat} {N : Option Tmp} {oi : Oper} {fuel : Nat} {l : Array Bool} {a : Act} {w : World} (l' : Array Bool) (hi : ops[i]? = some oi) (hN : oi.dst = N) (hc : readyB md ops l l' i = true) (hd : i ∉ ds)
    (h : ∀ K : Act → World → Prop, Shut (∀ a' w', S w' → (S w' → wpAnyLast P md ops Q S ds fuel l' a' w') → K a' w') → if Region.wanted oi (yielded ops a.tmps) = true then Oper.wp P oi a w K Q else K (a.put N undef) w) :
    wpAnyLast P md ops Q S ds (fuel + 1) l a w := by
  subst hN
  simp only [readyB, Bool.and_eq_true, beq_iff_eq] at hc
  obtain ⟨h1, h2⟩ := hc
  subst h2
  exact wpAnyLast_ready h1 (by simp) (AllReadyL.cons hi hd (fun K hK => h K hK) AllReadyL.nil)
theorem done_ {l : Array Bool} {a : Act} {w : World} {n : Nat} (hr : (Region.ready md ops l == []) = true) (h : Q .normal a w) : wpAnyLast P md ops Q S ds n l a w := wpAnyLast_done (by simpa using hr) h n
theorem norm_ {fuel : Nat} {l : Array Bool} {a a' : Act} {w : World} (ha : a = a') (h : wpAnyLast P md ops Q S ds fuel l a' w) : wpAnyLast P md ops Q S ds fuel l a w := by
  subst ha
  exact h
theorem call_ {oi : Oper} {N : Option Tmp} {a : Act} {w : World} {K : Act → World → Prop} (f : FuncId) (args : Array Value) (hw : Region.wanted oi (yielded ops a.tmps) = true) (hN : oi.dst = N) (hrun : (execOp a.eval oi).run P w = .ok (.enter f args) w)
    (h : Calls P f args w fun e w' => ∃ v, e = .returned v ∧ K (a.put N v) w') : if Region.wanted oi (yielded ops a.tmps) = true then Oper.wp P oi a w K Q else K (a.put N undef) w := by
  rw [if_pos hw]
  subst hN
  unfold Oper.wp
  rw [hrun, Oper.upon_enter]
  refine h.mono fun e w'' hh => ?_
  obtain ⟨v, rfl, hk⟩ := hh
  exact hk
theorem enters_ {f : FuncId} {fn : Func} (hf : P.funcs[f]? = some fn) (hname : (fn.name == "runtime.NumGoroutine") = false) (hb : fn.body.isSome = true) (args : Array Value) (w : World) : (callFunc f args).run P w = .ok (.enter f args) w := by
  have h1 : fn.name ≠ "runtime.NumGoroutine" := by simpa using hname
  obtain ⟨c, hc⟩ := Option.isSome_iff_exists.1 hb
  simp [callFunc, hf, h1, hc]
theorem goes_ {oi : Oper} {N : Option Tmp} {a : Act} {w : World} {K : Act → World → Prop} {f : FuncId} {fn : Func} {as0 : Array Operand} {ts : Array TypeId} (hf : P.funcs[f]? = some fn) (hname : (fn.name == "runtime.NumGoroutine") = false) (hb : fn.body.isSome = true) (args : Array Value)
    (hw : Region.wanted oi (yielded ops a.tmps) = true) (hN : oi.dst = N) (hop : oi.op = .call { callee := .value (.func f), args := as0, argTypes := ts }) (hargs : as0.map a.eval = args)
    (h : Calls P f args w fun e w' => ∃ v, e = .returned v ∧ K (a.put N v) w') : if Region.wanted oi (yielded ops a.tmps) = true then Oper.wp P oi a w K Q else K (a.put N undef) w := by
  refine call_ f args hw hN ?_ h
  have he := enters_ hf hname hb args w
  unfold execOp
  simp [hop, resolve, Deferred.ofValue, invoke, Act.eval, hargs, he]
theorem goesL_ {rest : List Oper} {oi : Oper} {a : Act} {w : World} (N : Option Tmp) (hd : oi.dst = N) (hg : oi.guard = none) {f : FuncId} {fn : Func} {as0 : Array Operand} {ts : Array TypeId} (hf : P.funcs[f]? = some fn) (hname : (fn.name == "runtime.NumGoroutine") = false) (hb : fn.body.isSome = true) (args : Array Value)
    (hop : oi.op = .call { callee := .value (.func f), args := as0, argTypes := ts }) (hargs : as0.map a.eval = args)
    (h : Calls P f args w fun e w' => ∃ v, e = .returned v ∧ wpList P ops Q rest (a.put N v) w') : wpList P ops Q (oi :: rest) a w := by
  refine wpList_plain hg fun K hK => ?_
  have he := enters_ hf hname hb args w
  have hrun : (execOp a.eval oi).run P w = .ok (.enter f args) w := by
    unfold execOp
    simp [hop, resolve, Deferred.ofValue, invoke, Act.eval, hargs, he]
  unfold Oper.wp
  rw [hrun, Oper.upon_enter]
  refine h.mono fun e w'' hh => ?_
  obtain ⟨v, rfl, hk⟩ := hh
  subst hd
  exact hK _ _ hk
theorem value_ {oi : Oper} {N : Option Tmp} {a : Act} {w w1 : World} {v : Value} {K : Act → World → Prop} (hw : Region.wanted oi (yielded ops a.tmps) = true) (hN : oi.dst = N) (hrun : (execOp a.eval oi).run P w = .ok (.value v) w1)
    (h : K (a.put N v) w1) : if Region.wanted oi (yielded ops a.tmps) = true then Oper.wp P oi a w K Q else K (a.put N undef) w := by
  rw [if_pos hw]
  subst hN
  unfold Oper.wp
  rw [hrun]
  exact h
theorem i64_w (n : Int) : IntKind.i64.wrap n = Go.RowKit.wrap64 n := by unfold Go.RowKit.wrap64; exact IntKind.wrap_i64 n
theorem i32_w (n : Int) : IntKind.i32.wrap n = Go.RowKit.wrap32 n := by unfold Go.RowKit.wrap32; exact IntKind.wrap_i32 n
end
end Go.Proofs.YtkioddjjfifadaaGreatDoorW.PrintLast
namespace Go.Proofs.YtkioddjjfifadaaGreatDoorW.PrintWords
open Go.RowKit
namespace Kd
def tag {α : Type} (f : Nat → Nat) (d : Kd α) : Kd (α × Nat) where
  sz := d.sz
  E := d.E
  K := fun w x cs => d.K w x.1 cs
  M := fun w base ok x cs => d.M w base (fun k => ok k ∧ f k = x.2) x.1 cs
  K_len := fun h => d.K_len h
  K_one := fun h => d.K_one h
  K_below := fun hb h => d.K_below hb h
  K_of_M := fun h => d.K_of_M h
  M_mono := fun hok h => d.M_mono (fun k hk => ⟨hok k hk.1, hk.2⟩) h
  M_bound := fun h => d.M_mono (fun _ hk => ⟨⟨hk.1.1, hk.2⟩, hk.1.2⟩) (d.M_bound h)
  M_move := fun hm h => d.M_move (fun k hk => hm k hk.1) h
  M_lower := fun hb h => d.M_lower hb h
def bare {α : Type} (d : Kd α) : Kd α where
  sz := d.sz
  E := d.E
  K := d.K
  M := fun w base _ x cs => d.M w base (fun _ => False) x cs
  K_len := fun h => d.K_len h
  K_one := fun h => d.K_one h
  K_below := fun hb h => d.K_below hb h
  K_of_M := fun h => d.K_of_M h
  M_mono := fun _ h => h
  M_bound := fun h => h
  M_move := fun _ h => d.M_move (fun _ hk => hk.elim) h
  M_lower := fun hb h => d.M_lower hb h
def raw (sz : Nat) : Kd (List Value) where
  sz := sz
  E := []
  K := fun _ x cs => cs = x ∧ cs.length = sz ∧ ∀ u ∈ cs, u.oneCell' = true
  M := fun _ _ _ x cs => cs = x ∧ cs.length = sz ∧ ∀ u ∈ cs, u.oneCell' = true
  K_len := fun h => h.2.1
  K_one := fun h => h.2.2
  K_below := fun _ h => h
  K_of_M := fun h => h
  M_mono := fun _ h => h
  M_bound := fun h => h
  M_move := fun _ h => h
  M_lower := fun _ h => h
def S {α : Type} (d : Kd α) (e : Nat) (w : World) (base : Nat) (ok : Nat → Prop) (v : Value) (xs : List α) : Prop := ∃ f, (tag f d).R e w base ok v xs.zipIdx
section
variable {α β : Type} {d : Kd α} {d' : Kd β} {e e' : Nat} {w w1 W : World} {base b : Nat} {ok ok' okv oku : Nat → Prop} {u v : Value} {xs : List α} {ys : List β}
theorem zip_at {xs : List α} {j : Nat} {p : α} (h : xs[j]? = some p) : xs.zipIdx[j]? = some (p, j) := by rw [List.getElem?_zipIdx, h, Nat.zero_add]; rfl
theorem S_R (h : S d e w base ok v xs) : d.R e w base ok v xs := by
  obtain ⟨f, h0, inner, ho, hr⟩ := h
  rw [List.length_zipIdx] at ho
  exact ⟨h0, inner, ho, by have := hr.1; rw [List.length_zipIdx] at this; exact this, fun j p hj => d.M_mono (fun _ hk => hk.1) (hr.2 j (p, j) (zip_at hj))⟩
theorem R_tight (hE : d.E = []) (h : d.R e w base ok v xs) : d.R e w base (fun k => some k = v.ownBlock) v xs := by
  obtain ⟨h0, inner, ho, hr⟩ := h
  refine ⟨fun k hk => hk.symm, inner, ho, hr.imp_ (fun p c hp => d.M_mono (fun k hk => ?_) (d.M_bound hp))⟩
  obtain ⟨_, _, _, q, hq, _⟩ := hk
  rw [hE] at hq
  cases hq
theorem S_nil (d : Kd α) (e : Nat) (w : World) (base : Nat) (ok : Nat → Prop) : S d e w base ok (.slice none 0 0) [] := ⟨fun _ => 0, R_nil _ _ _ _ _⟩
theorem S_mono (h : S d e w base ok v xs) (hok : ∀ k, ok k → ok' k) : S d e w base ok' v xs := by
  obtain ⟨f, h⟩ := h
  exact ⟨f, R_mono h hok⟩
theorem S_bound (h : S d e w base ok v xs) : S d e w base (fun k => ok k ∧ base ≤ k ∧ k < w.heap.size ∧ ∃ q, q ∈ e :: d.E ∧ ∃ cells, w.heap[k]? = some (.cells cells q (0, 0))) v xs := by
  obtain ⟨f, h⟩ := h
  exact ⟨f, R_bound h⟩
theorem S_move (h : S d e w base ok v xs) (hm : ∀ k, ok k → w1.heap[k]? = w.heap[k]?) : S d e w1 base ok v xs := by
  obtain ⟨f, h⟩ := h
  exact ⟨f, R_move h hm⟩
theorem S_lower {base' : Nat} (h : S d e w base ok v xs) (hb : base' ≤ base) : S d e w base' ok v xs := by
  obtain ⟨f, h⟩ := h
  exact ⟨f, R_lower h hb⟩
theorem S_step (h : S d e w base ok v xs) (hm : ∀ k, ok k → k < w.heap.size → w1.heap[k]? = w.heap[k]?) : S d e w1 base ok v xs :=
  S_mono (S_move (S_bound h) (fun k hk => hm k hk.1 hk.2.2.1)) (fun _ hk => hk.1)
theorem S_below (h : S d e w base ok v xs) (hb : Below w.heap.size w w1) : S d e w1 base ok v xs := S_step h (fun k _ hk => hb.block k hk)
theorem S_drew (h : S d e w base ok v xs) : S d e w.drew base ok v xs := S_below h (below_drew (Below.refl _ _))
theorem S_drewN (h : S d e w base ok v xs) (m : Nat) : S d e (w.drewN m) base ok v xs := S_below h (pw_below_drewN (Below.refl _ _) m)
theorem S_far (h : S d e w base ok v xs) {p : Addr} (hok : ∀ k, ok k → k ≠ p.block) (u : Value) : S d e (w.setCell p u) base ok v xs := S_step h (fun k ho _ => Below.heap_setCell w p u k (hok k ho))
theorem S_typed (h : S d e w base ok v xs) : ∀ k, v.ownBlock = some k → ∃ cells, w.heap[k]? = some (.cells cells e (0, 0)) := R_typed (S_R h)
theorem S_lt (h : S d e w base ok v xs) : ∀ k, v.ownBlock = some k → k < w.heap.size := R_lt (S_R h)
theorem S_base (h : S d e w base ok v xs) : ∀ k, v.ownBlock = some k → base ≤ k := R_base (S_R h)
theorem S_elder' (h : S d e W base ok u xs) (hbase : ∀ k, v.ownBlock = some k → W.heap.size ≤ k) (hb : Below W.heap.size W w1) : S d e w1 base (fun k => ok k ∧ some k ≠ v.ownBlock) u xs := by
  obtain ⟨f, h⟩ := h
  exact ⟨f, R_elder' h hbase hb⟩
theorem S_after {v1 : Value} (h : S d e W base (fun k => ok k ∧ some k ≠ v.ownBlock) u xs) (hg : W.grownBy w1 v.ownBlock) (hat : v1.ownBlock = v.ownBlock ∨ ∃ b, v1.ownBlock = some b ∧ W.heap.size ≤ b) : S d e w1 base (fun k => ok k ∧ some k ≠ v1.ownBlock) u xs := by
  obtain ⟨f, h⟩ := h
  exact ⟨f, R_after h hg hat⟩
theorem S_old (h : S d e W base ok u xs) (hb : Below W.heap.size W w1) : S d e w1 base (fun k => ok k ∧ k < W.heap.size) u xs :=
  S_mono (S_below (S_bound h) hb) (fun _ hk => ⟨hk.1, hk.2.2.1⟩)
theorem S_bare (h : (bare d).R e w base ok v xs) : S d e w base ok v xs := by
  obtain ⟨h0, inner, ho, hr⟩ := h
  refine ⟨fun _ => 0, h0, inner, by rw [List.length_zipIdx]; exact ho, by rw [List.length_zipIdx]; exact hr.1, fun j p hj => ?_⟩
  rw [List.getElem?_zipIdx, Nat.zero_add] at hj
  obtain ⟨x, hx, rfl⟩ := Option.map_eq_some_iff.1 hj
  exact d.M_mono (fun _ hk => hk.elim) (hr.2 j x hx)
theorem R_tag {f f' : Nat → Nat} {zs : List (α × Nat)} (h : (tag f d).R e w base ok v zs) (hf : ∀ k, ok k → k < w.heap.size → f' k = f k) : (tag f' d).R e w base ok v zs := by
  obtain ⟨h0, inner, ho, hr⟩ := R_bound h
  exact ⟨fun k hk => (h0 k hk).1, inner, ho, hr.1, fun j p hj => d.M_mono (fun k hk => ⟨⟨hk.1.1.1, hk.1.2⟩, (hf k hk.1.1.1 hk.1.1.2.2.1).trans hk.2⟩) (hr.2 j p hj)⟩
end
section
variable {α β : Type} {d : Kd α} {d' : Kd β} {e e' g : Nat} {w w1 W : World} {base b : Nat} {ok ok' okv oku : Nat → Prop} {u v : Value} {xs : List α} {ys : List β}
theorem S_away (h : S d e w base ok v xs) (hok : ∀ k, ok k → k ≠ g) : some g ≠ v.ownBlock := R_away (S_R h) hok
theorem S_form (h : S d e w base ok v xs) (hp : 0 < xs.length) : ∃ g cap, v = .slice (some ⟨g, 0, none⟩) xs.length cap ∧ base ≤ g ∧ g < w.heap.size ∧ ∃ cells, w.heap[g]? = some (.cells cells e (0, 0)) := R_form (S_R h) hp
theorem S_slice (h : S d e w base ok v xs) : ∃ A c, v = .slice A xs.length c := R_slice (S_R h)
theorem S_reads' {A : Option Addr} {n c : Nat} (h : S d e w base ok (.slice A n c) xs) : n = xs.length ∧ n ≤ c ∧ d.C w A xs.length xs := R_reads' (S_R h)
theorem S_elderB (h : S d e w base ok v xs) (a : Nat) (ha : w.heap.size ≤ a) : S d e w base (fun k => ok k ∧ k ≠ a) v xs := S_mono (S_bound h) (fun k hk => ⟨hk.1, by have := hk.2.2.1; omega⟩)
theorem S_newB {o : Obj} (h : S d e w1 w.heap.size ok v xs) (hb : w.heap[g]? = some o) : S d e w1 w.heap.size (fun k => ok k ∧ k ≠ g) v xs := S_mono (S_bound h) (fun k hk => ⟨hk.1, by have := blk_lt hb; have := hk.2.1; omega⟩)
theorem zip_snoc (xs : List α) (p : α) : (xs ++ [p]).zipIdx = xs.zipIdx ++ [(p, xs.length)] := by rw [List.zipIdx_append]; simp
end
section
open Classical in
theorem S_tag {α : Type} {d : Kd α} {e base : Nat} {okv : Nat → Prop} {w : World} {v : Value} {xs : List α} (h : S d e w base okv v xs) (m : Nat) (okp : Nat → Prop) (hap : ∀ k, okp k → ¬ okv k) : ∃ f, (∀ k, okp k → f k = m) ∧ (tag f d).R e w base okv v xs.zipIdx := by
  obtain ⟨f, h⟩ := h
  exact ⟨fun k => if okp k then m else f k, fun k hk => if_pos hk, R_tag h (fun k hk _ => if_neg (fun h2 => hap k h2 hk))⟩
variable {P : Program} {ops : Array Oper} {rest : List Oper} {o : Oper} {a : Act} {Q : Exit → Act → World → Prop} {Kc : Act → World → Prop} {α : Type}
theorem S_append (d : Kd α) {w0 W : World} (base : Nat) (hgd : o.guard = none) (s x : Operand) (t e : TypeId) (z : Value) (bytes : Nat)
    (ho : o.op = .call { callee := .builtin .append, args := #[s, x], argTypes := #[t, t] })
    (ht : P.underlying t = some (.slice e)) (hinfo : (P.info? e).map (fun i => (i.zero, i.size, i.bytes)) = some (some z, d.sz, bytes)) (hz : z.cells.size = d.sz) (hs0 : 0 < d.sz) (hb0 : 0 < bytes)
    (v : Value) (xs : List α) (p : α) (cs : List Value) (ok okp : Nat → Prop) (hs : a.eval s = v) (hx : a.eval x = .slice (some ⟨W.heap.size, 0, none⟩) 1 1) (hp : d.M W base okp p cs) (hokp : ∀ k, okp k → ok k ∧ some k ≠ v.ownBlock) (hfresh : ∀ k, W.heap.size ≤ k → ok k)
    (HO : S d e W base (fun k => ok k ∧ ¬ okp k) v xs) (HB : Below base w0 W) (hbase : base ≤ W.heap.size) (hl : (xs.length + 1) * bytes ≤ 140737488355328)
    (h : ∀ v1 w1, S d e w1 base ok v1 (xs ++ [p]) → Below base w0 w1 → W.grownBy w1 v.ownBlock → (v1.ownBlock = v.ownBlock ∨ ∃ b, v1.ownBlock = some b ∧ W.heap.size ≤ b) → wpList P ops Q rest (a.put o.dst v1) w1) :
    wpList P ops Q (o :: rest) a (W.alloc (.cells cs.toArray e)) := by
  obtain ⟨f, hf, hR⟩ := S_tag HO xs.length okp (fun _ hk h2 => h2.2 hk)
  refine R_append (tag f d) base hgd s x t e z bytes ho ht hinfo hz hs0 hb0 v xs.zipIdx (p, xs.length) cs ok okp hs hx (d.M_mono (fun k hk => ⟨hk, hf k hk⟩) hp) hokp hfresh (R_mono hR (fun _ hk => hk.1)) HB hbase (by rw [List.length_zipIdx]; exact hl) ?_
  intro v1 w1 hr
  rw [← zip_snoc] at hr
  exact h v1 w1 ⟨f, hr⟩
theorem S_append_step (d : Kd α) {w0 W : World} (base : Nat) (hw : Region.wanted o (yielded ops a.tmps) = true) (s x : Operand) (t e : TypeId) (z : Value) (bytes : Nat)
    (ho : o.op = .call { callee := .builtin .append, args := #[s, x], argTypes := #[t, t] })
    (ht : P.underlying t = some (.slice e)) (hinfo : (P.info? e).map (fun i => (i.zero, i.size, i.bytes)) = some (some z, d.sz, bytes)) (hz : z.cells.size = d.sz) (hs0 : 0 < d.sz) (hb0 : 0 < bytes)
    (v : Value) (xs : List α) (p : α) (cs : List Value) (ok okp : Nat → Prop) (hs : a.eval s = v) (hx : a.eval x = .slice (some ⟨W.heap.size, 0, none⟩) 1 1) (hp : d.M W base okp p cs) (hokp : ∀ k, okp k → ok k ∧ some k ≠ v.ownBlock) (hfresh : ∀ k, W.heap.size ≤ k → ok k)
    (HO : S d e W base (fun k => ok k ∧ ¬ okp k) v xs) (HB : Below base w0 W) (hbase : base ≤ W.heap.size) (hl : (xs.length + 1) * bytes ≤ 140737488355328)
    (h : ∀ v1 w1, S d e w1 base ok v1 (xs ++ [p]) → Below base w0 w1 → W.grownBy w1 v.ownBlock → (v1.ownBlock = v.ownBlock ∨ ∃ b, v1.ownBlock = some b ∧ W.heap.size ≤ b) → Kc (a.put o.dst v1) w1) :
    if Region.wanted o (yielded ops a.tmps) = true then Oper.wp P o a (W.alloc (.cells cs.toArray e)) Kc Q else Kc (a.put o.dst undef) (W.alloc (.cells cs.toArray e)) := by
  obtain ⟨f, hf, hR⟩ := S_tag HO xs.length okp (fun _ hk h2 => h2.2 hk)
  refine R_append_step (tag f d) base hw s x t e z bytes ho ht hinfo hz hs0 hb0 v xs.zipIdx (p, xs.length) cs ok okp hs hx (d.M_mono (fun k hk => ⟨hk, hf k hk⟩) hp) hokp hfresh (R_mono hR (fun _ hk => hk.1)) HB hbase (by rw [List.length_zipIdx]; exact hl) ?_
  intro v1 w1 hr
  rw [← zip_snoc] at hr
  exact h v1 w1 ⟨f, hr⟩
theorem S_lit (d : Kd α) {w0 W : World} (base e : Nat) (hgd : o.guard = none) {N : Tmp} (_hd : o.dst = some N) {xs : List α} {inner : List Value} {ok okp : Nat → Prop}
    (hrun : (execOp a.eval o).run P W = .ok (.value (.slice (some ⟨W.heap.size, 0, none⟩) xs.length xs.length)) (W.alloc (.cells inner.toArray e)))
    (hrep : Reps (d.M W base (fun _ => False)) d.sz xs inner) (_hok : ∀ k, okp k → ok k) (hfresh : ok W.heap.size) (HB : Below base w0 W) (hbase : base ≤ W.heap.size) (hm : xs.length ≤ 9223372036854775807)
    (h : ∀ v1 w1, S d e w1 base ok v1 xs → Below base w0 w1 → W.grownBy w1 none → (∃ b, v1.ownBlock = some b ∧ W.heap.size ≤ b) → wpList P ops Q rest (a.put o.dst v1) w1) : wpList P ops Q (o :: rest) a W :=
  R_lit (bare d) base e hgd _hd (ok := ok) (okp := ok) hrun hrep (fun _ hk => hk) hfresh HB hbase hm (fun v1 w1 hr => h v1 w1 (S_bare hr))
end
def gap {α : Type} (f : Nat → Nat) (d : Kd α) (i : Nat) (c : List Value) : Kd (α × Nat) where
  sz := d.sz
  E := d.E
  K := fun w x cs => (x.2 = i → cs = c ∧ cs.length = d.sz ∧ ∀ u ∈ cs, u.oneCell' = true) ∧ (x.2 ≠ i → d.K w x.1 cs)
  M := fun w base ok x cs => (x.2 = i → cs = c ∧ cs.length = d.sz ∧ ∀ u ∈ cs, u.oneCell' = true) ∧ (x.2 ≠ i → d.M w base (fun k => ok k ∧ f k = x.2) x.1 cs)
  K_len := fun {w x cs} h => by
    by_cases hx : x.2 = i
    · exact (h.1 hx).2.1
    · exact d.K_len (h.2 hx)
  K_one := fun {w x cs} h => by
    by_cases hx : x.2 = i
    · exact (h.1 hx).2.2
    · exact d.K_one (h.2 hx)
  K_below := fun hb h => ⟨h.1, fun hx => d.K_below hb (h.2 hx)⟩
  K_of_M := fun h => ⟨h.1, fun hx => d.K_of_M (h.2 hx)⟩
  M_mono := fun hok h => ⟨h.1, fun hx => d.M_mono (fun k hk => ⟨hok k hk.1, hk.2⟩) (h.2 hx)⟩
  M_bound := fun h => ⟨h.1, fun hx => d.M_mono (fun _ hk => ⟨⟨hk.1.1, hk.2⟩, hk.1.2⟩) (d.M_bound (h.2 hx))⟩
  M_move := fun hm h => ⟨h.1, fun hx => d.M_move (fun k hk => hm k hk.1) (h.2 hx)⟩
  M_lower := fun hb h => ⟨h.1, fun hx => d.M_lower hb (h.2 hx)⟩
def H {α : Type} (d : Kd α) (e : Nat) (w : World) (base : Nat) (ok : Nat → Prop) (v : Value) (xs : List α) (i : Int) (oki : Nat → Prop) (c : List Value) : Prop :=
  (∀ k, oki k → ok k) ∧ ∃ f, (gap f d i.toNat c).R e w base (fun k => ok k ∧ ¬ oki k) v xs.zipIdx
section
variable {α β : Type} {d : Kd α} {e e' g n cap : Nat} {w w1 W : World} {base : Nat} {ok ok' oki okp : Nat → Prop} {u v : Value} {xs : List α} {i : Int} {c : List Value}
theorem S_lend (h : S d e W base ok (.slice (some ⟨g, 0, none⟩) n cap) xs) (z : α) (i : Int) (h0 : 0 ≤ i) (h1 : i < n) :
    ∃ (oki : Nat → Prop) (c : List Value), c.length = d.sz ∧ d.M W base oki (xs.getD i.toNat z) c ∧ (∀ j u, c[j]? = some u → W.cell? ⟨g, i.toNat * d.sz + j, none⟩ = some u) ∧ (∀ k, oki k → ok k ∧ k ≠ g) ∧ H d e W base ok (.slice (some ⟨g, 0, none⟩) n cap) xs i oki c := by
  obtain ⟨f, hR⟩ := h
  have hn := (R_reads' hR).1
  rw [List.length_zipIdx] at hn
  have hgo : some g = (Value.slice (some ⟨g, 0, none⟩) n cap).ownBlock := by simp [Value.ownBlock]
  obtain ⟨hok0, inner, ho, hr⟩ := hR
  have hil : i.toNat < xs.length := by omega
  have hlen : inner.length = xs.length * d.sz := by have := hr.1; rw [List.length_zipIdx] at this; exact this
  have hseg : i.toNat * d.sz + d.sz ≤ inner.length := by rw [hlen, ← Nat.succ_mul]; exact Nat.mul_le_mul_right _ hil
  have hM := hr.2 i.toNat _ (zip_at (List.getElem?_eq_getElem hil))
  have hkg : ∀ k, some k ≠ (Value.slice (some ⟨g, 0, none⟩) n cap).ownBlock → k ≠ g := fun k hk he => hk (by rw [he]; exact hgo)
  refine ⟨fun k => (ok k ∧ k ≠ g) ∧ f k = i.toNat, (inner.drop (i.toNat * d.sz)).take d.sz, by rw [List.length_take, List.length_drop]; omega, ?_, fun j u hu => ?_, fun k hk => hk.1, fun k hk => hk.1.1, f, fun k hk => ⟨hok0 k hk, fun h2 => h2.1.2 ?_⟩, inner, ho, hr.1, fun m p hm => ?_⟩
  · rw [List.getD_eq_getElem?_getD, List.getElem?_eq_getElem hil]
    exact d.M_mono (fun k hk => ⟨⟨hk.1.1, hkg k hk.1.2⟩, hk.2⟩) hM
  · rw [List.getElem?_take] at hu
    split at hu
    rotate_left
    · cases hu
    rw [List.getElem?_drop] at hu
    have := ho.cells (g := g) hgo.symm _ u hu
    rwa [add_plain] at this
  · rw [← hgo] at hk; injection hk with hk; exact hk.symm
  have hold := hr.2 m p hm
  have hp2 : p.2 = m := by
    rw [List.getElem?_zipIdx, Nat.zero_add] at hm
    obtain ⟨q, _, rfl⟩ := Option.map_eq_some_iff.1 hm
    rfl
  refine ⟨fun hx => ?_, fun hx => d.M_mono (fun k hk => ⟨⟨⟨hk.1.1, fun h2 => hx ?_⟩, hk.1.2⟩, hk.2⟩) hold⟩
  rotate_left
  · rw [← hk.2]; exact h2.2
  have hmi : m = i.toNat := by omega
  subst hmi
  exact ⟨rfl, d.K_len (d.K_of_M hM), d.K_one (d.K_of_M hM)⟩
open Classical in
theorem H_back (h : H d e w base ok v xs i oki c) {x' : α} (hM : d.M w base okp x' c) (hok : ∀ k, okp k → oki k) : S d e w base ok v (xs.set i.toNat x') := by
  obtain ⟨ho, f, h0, inner, hown, hr⟩ := h
  refine ⟨fun k => if oki k then i.toNat else f k, fun k hk => (h0 k hk).1, inner, by rw [List.length_zipIdx, List.length_set]; rw [List.length_zipIdx] at hown; exact hown, by have := hr.1; rw [List.length_zipIdx] at this; rw [List.length_zipIdx, List.length_set]; exact this, fun m p hm => ?_⟩
  rw [List.getElem?_zipIdx, Nat.zero_add] at hm
  obtain ⟨q, hq, rfl⟩ := Option.map_eq_some_iff.1 hm
  have hml : m < xs.length := by
    have := (List.getElem?_eq_some_iff.1 hq).1
    rwa [List.length_set] at this
  by_cases hmi : m = i.toNat
  rotate_left
  · rw [List.getElem?_set_ne (Ne.symm hmi)] at hq
    exact d.M_mono (fun k hk => ⟨⟨hk.1.1.1, hk.1.2⟩, (if_neg hk.1.1.2).trans hk.2⟩) ((hr.2 m (q, m) (zip_at hq)).2 hmi)
  subst hmi
  rw [List.getElem?_set_self hml] at hq
  injection hq with hq
  subst hq
  have hc := ((hr.2 i.toNat _ (zip_at (List.getElem?_eq_getElem hml))).1 rfl).1
  show d.M w base _ x' ((inner.drop (i.toNat * d.sz)).take d.sz)
  rw [show (inner.drop (i.toNat * d.sz)).take d.sz = c from hc]
  exact d.M_mono (fun k hk => ⟨⟨ho k (hok k hk), fun he => (h0 k he.symm).2 (hok k hk)⟩, if_pos (hok k hk)⟩) hM
theorem H_widen (h : H d e w base ok v xs i oki c) : H d e w base ok v xs i (fun k => oki k ∨ ok k ∧ w.heap.size ≤ k) c := by
  obtain ⟨ho, f, h⟩ := h
  exact ⟨fun k hk => hk.elim (ho k) (fun h2 => h2.1), f, R_mono (R_bound h) (fun k hk => ⟨hk.1.1, fun h2 => h2.elim hk.1.2 (fun h3 => by have := hk.2.2.1; omega)⟩)⟩
theorem H_step (h : H d e w base ok v xs i oki c) (hm : ∀ k, ok k → ¬ oki k → k < w.heap.size → w1.heap[k]? = w.heap[k]?) : H d e w1 base ok v xs i oki c := by
  obtain ⟨ho, f, h⟩ := h
  exact ⟨ho, f, R_step h (fun k hk hlt => hm k hk.1 hk.2 hlt)⟩
theorem H_grown (h : H d e w base ok v xs i oki c) {row : Option Nat} (hg : w.grownBy w1 row) (hrow : ∀ k, row = some k → oki k) : H d e w1 base ok v xs i oki c :=
  H_step h (fun k _ hn hlt => hg.block k hlt (fun he => hn (hrow k he.symm)))
theorem H_below (h : H d e w base ok v xs i oki c) (hb : Below w.heap.size w w1) : H d e w1 base ok v xs i oki c := H_step h (fun k _ _ hlt => hb.block k hlt)
end
end Kd
end Go.Proofs.YtkioddjjfifadaaGreatDoorW.PrintWords
namespace Go.Proofs.YtkioddjjfifadaaGreatDoorW.PrintWords
open Go.RowKit
namespace Kd
structure Heap {α : Type} (d : Kd α) : Prop where
  K : ∀ {w w1 : World} {x : α} {cs : List Value}, (∀ k, k < w.heap.size → w1.heap[k]? = w.heap[k]?) → d.K w x cs → d.K w1 x cs
theorem cell_heap {w w1 : World} (hb : ∀ k, k < w.heap.size → w1.heap[k]? = w.heap[k]?) {a : Addr} {v : Value} (h : w.cell? a = some v) : w1.cell? a = some v := by
  have := hb a.block (World.block_lt_of_cell? w a h)
  simpa [World.cell?, this] using h
theorem Heap.C {α : Type} {d : Kd α} (hd : Heap d) {w w1 : World} {A : Option Addr} {n : Nat} {xs : List α} (hb : ∀ k, k < w.heap.size → w1.heap[k]? = w.heap[k]?) (h : d.C w A n xs) : d.C w1 A n xs :=
  ⟨h.1, h.2.1, fun hn => by
    obtain ⟨ad, e, hc⟩ := h.2.2 hn
    refine ⟨ad, e, fun j p hj => ?_⟩
    obtain ⟨c, hs, hr, hcell⟩ := hc j p hj
    exact ⟨c, hs, hd.K hb hr, fun i u hu => cell_heap hb (hcell i u hu)⟩⟩
end Kd
end Go.Proofs.YtkioddjjfifadaaGreatDoorW.PrintWords
namespace Go.Proofs.YtkioddjjfifadaaGreatDoorW.PrintWords
open Go.RowKit
def Kept (w W : World) (S : Nat → Prop) : Prop := w.heap.size ≤ W.heap.size ∧ ∀ i, i < w.heap.size → ¬ S i → W.heap[i]? = w.heap[i]?
section
variable {w W W2 : World} {S S2 S' : Nat → Prop}
theorem Kept.refl (w : World) (S : Nat → Prop) : Kept w w S := ⟨Nat.le_refl _, fun _ _ _ => rfl⟩
theorem Kept.then_ (h : Kept w W S) (k : Kept W W2 S2) (hs : ∀ k, S2 k → S k ∨ w.heap.size ≤ k) : Kept w W2 S :=
  ⟨Nat.le_trans h.1 k.1, fun i hi hn => (k.2 i (Nat.lt_of_lt_of_le hi h.1) (fun h2 => (hs i h2).elim hn (fun h3 => by omega))).trans (h.2 i hi hn)⟩
theorem Kept.setCell (h : Kept w W S) {p : Addr} (hp : S p.block ∨ w.heap.size ≤ p.block) (u : Value) : Kept w (W.setCell p u) S :=
  h.then_ (S2 := fun k => k = p.block) ⟨by simp [World.setCell], fun i _ hn => Below.heap_setCell W p u i hn⟩ (fun k hk => by rw [hk]; exact hp)
theorem Kept.keep {g : Nat} (h : KeepBut w W g none) (k : Kept W W2 S2) (hs : ∀ k, S2 k → w.heap.size ≤ k) : KeepBut w W2 g none :=
  ⟨Nat.le_trans h.1 k.1, fun i hi hg hr => (k.2 i (Nat.lt_of_lt_of_le hi h.1) (fun h2 => by have := hs i h2; omega)).trans (h.2 i hi hg hr)⟩
end
end Go.Proofs.YtkioddjjfifadaaGreatDoorW.PrintWords
namespace Go.Proofs.YtkioddjjfifadaaGreatDoorW.PrintWords
open Go.RowKit
def Foot (P : World → Prop) (W : World) (ok : Nat → Prop) : Prop := ∀ W' : World, (∀ k, ok k → k < W.heap.size → W'.heap[k]? = W.heap[k]?) → P W'
theorem heap_lt {W W1 : World} {k : Nat} (h : W1.heap[k]? = W.heap[k]?) (hlt : k < W.heap.size) : k < W1.heap.size := by
  rw [Array.getElem?_eq_getElem hlt] at h
  exact (Array.getElem?_eq_some_iff.1 h).1
namespace Foot
variable {P Q : World → Prop} {W W1 : World} {ok ok' : Nat → Prop}
theorem now (h : Foot P W ok) : P W := h W (fun _ _ _ => rfl)
theorem mono (h : Foot P W ok) (hok : ∀ k, ok k → ok' k) : Foot P W ok' := fun W' hW => h W' (fun k hk hlt => hW k (hok k hk) hlt)
theorem bound (h : Foot P W ok) : Foot P W (fun k => ok k ∧ k < W.heap.size) := fun W' hW => h W' (fun k hk hlt => hW k ⟨hk, hlt⟩ hlt)
theorem step (h : Foot P W ok) (hm : ∀ k, ok k → k < W.heap.size → W1.heap[k]? = W.heap[k]?) : Foot P W1 ok := fun W' hW => h W' (fun k hk hlt => (hW k hk (heap_lt (hm k hk hlt) hlt)).trans (hm k hk hlt))
theorem imp (h : Foot P W ok) (hi : ∀ W', P W' → Q W') : Foot Q W ok := fun W' hW => hi W' (h W' hW)
end Foot
namespace Kd
def F {α : Type} (d : Kd α) (W : World) (ok : Nat → Prop) (A : Option Addr) (n : Nat) (xs : List α) : Prop := Foot (fun W => d.C W A n xs) W ok
def FK {α : Type} (d : Kd α) (W : World) (ok : Nat → Prop) (x : α) (c : List Value) : Prop := Foot (fun W => d.K W x c) W ok
section
variable {α β : Type} {d : Kd α} {e base n n' cc g N : Nat} {ok ok' okp S : Nat → Prop} {w w0 w1 W W1 : World} {A A' : Option Addr} {u v v1 : Value} {xs : List α} {xs' : List β} {d' : Kd β} {x : α} {c : List Value}
theorem F_now (h : F d W ok A n xs) : d.C W A n xs := Foot.now h
theorem F_mono (h : F d W ok A n xs) (hok : ∀ k, ok k → ok' k) : F d W ok' A n xs := Foot.mono h hok
theorem F_bound (h : F d W ok A n xs) : F d W (fun k => ok k ∧ k < W.heap.size) A n xs := Foot.bound h
theorem F_step (h : F d W ok A n xs) (hm : ∀ k, ok k → k < W.heap.size → W1.heap[k]? = W.heap[k]?) : F d W1 ok A n xs := Foot.step h hm
theorem F_imp (h : F d W ok A n xs) (hi : ∀ W', d.C W' A n xs → d'.C W' A' n' xs') : F d' W ok A' n' xs' := Foot.imp h hi
theorem F_below (h : F d W ok A n xs) (hb : Below W.heap.size W W1) : F d W1 ok A n xs := F_step h (fun k _ hlt => hb.block k hlt)
theorem F_nil (d : Kd α) (W : World) (ok : Nat → Prop) : F d W ok none ([] : List α).length [] := fun W' _ => C_nil d W'
theorem F_after (h : F d W (fun k => ok k ∧ some k ≠ v.ownBlock) A n xs) (hg : W.grownBy W1 v.ownBlock) (hat : v1.ownBlock = v.ownBlock ∨ ∃ b, v1.ownBlock = some b ∧ W.heap.size ≤ b) : F d W1 (fun k => ok k ∧ some k ≠ v1.ownBlock) A n xs := by
  refine F_mono (Foot.step (F_bound h) (fun k hk hlt => hg.block k hlt hk.1.2)) (fun k hk => ⟨hk.1.1, ?_⟩)
  rcases hat with hat | ⟨b, hb, hle⟩
  · rw [hat]; exact hk.1.2
  rw [hb]
  intro he
  injection he with he
  have := hk.2
  omega
theorem R_F (h : d.R e W base ok (.slice A n cc) xs) : F d W ok A n xs := fun W' hW => by
  have h2 := R_reads' (R_step h hW)
  rw [h2.1]
  exact h2.2.2
theorem FK_step (h : FK d W ok x c) (hm : ∀ k, ok k → k < W.heap.size → W1.heap[k]? = W.heap[k]?) : FK d W1 ok x c := Foot.step h hm
end
end Kd
end Go.Proofs.YtkioddjjfifadaaGreatDoorW.PrintWords
namespace Go.Proofs.YtkioddjjfifadaaGreatDoorW.PrintWords
open Go.RowKit
namespace Kd
def chunks (sz : Nat) (n : Nat) (inner : List Value) : List (List Value) := (List.range n).map fun j => (inner.drop (j * sz)).take sz
section
variable {α : Type} {d : Kd α} {e base n cc g : Nat} {ok ok' okp S : Nat → Prop} {w w1 W W1 : World} {A : Option Addr} {u v v1 : Value} {xs : List α} {x : α} {c : List Value}
def N {α : Type} (d : Kd α) (e : Nat) (w : World) (base : Nat) (ok : Nat → Prop) (v : Value) (xs : List α) : Prop :=
  (∀ k, v.ownBlock = some k → ok k) ∧ ∃ rows : List (List Value), rows.length = xs.length ∧ (raw d.sz).R e w base (fun k => some k = v.ownBlock) v rows ∧ ∀ (j : Nat) (x : α) (c : List Value), xs[j]? = some x → rows[j]? = some c → FK d w (fun k => ok k ∧ some k ≠ v.ownBlock) x c
theorem N_step (h : N d e w base ok v xs) (hm : ∀ k, ok k → k < w.heap.size → w1.heap[k]? = w.heap[k]?) : N d e w1 base ok v xs := by
  obtain ⟨h0, rows, hl, hR, hf⟩ := h
  exact ⟨h0, rows, hl, R_step hR (fun k hk hlt => hm k (h0 k hk.symm) hlt), fun j x c hx hc => FK_step (hf j x c hx hc) (fun k hk hlt => hm k hk.1 hlt)⟩
theorem N_below (h : N d e w base ok v xs) (hb : Below w.heap.size w w1) : N d e w1 base ok v xs := N_step h (fun k _ hk => hb.block k hk)
end
end Kd
end Go.Proofs.YtkioddjjfifadaaGreatDoorW.PrintWords
namespace Go.Proofs.YtkioddjjfifadaaGreatDoorW.PrintMore
open Go.RowKit Go.Proofs.YtkioddjjfifadaaGreatDoorW.PrintWords
theorem max2_int (k k' : IntKind) (x y : Int) : Builtin.max2 (.int k x) (.int k' y) = pure (.int k (if x < y then y else x)) := by simp only [Builtin.max2, gt_iff_lt]
theorem min2_int (k k' : IntKind) (x y : Int) : Builtin.min2 (.int k x) (.int k' y) = pure (.int k (if y < x then y else x)) := by simp only [Builtin.min2]
theorem max_two (ats : Array TypeId) (ty : TypeId) (a b : Value) : Builtin.max_ ats ty #[a, b] = (Builtin.max2 a b >>= fun s => pure s) := by simp only [Builtin.max_, List.foldlM_cons, List.foldlM_nil]
theorem min_two (ats : Array TypeId) (ty : TypeId) (a b : Value) : Builtin.min_ ats ty #[a, b] = (Builtin.min2 a b >>= fun s => pure s) := by simp only [Builtin.min_, List.foldlM_cons, List.foldlM_nil]
theorem max_three (ats : Array TypeId) (ty : TypeId) (a b c : Value) : Builtin.max_ ats ty #[a, b, c] = (Builtin.max2 a b >>= fun s => Builtin.max2 s c >>= fun s => pure s) := by simp only [Builtin.max_, List.foldlM_cons, List.foldlM_nil]
theorem min_three (ats : Array TypeId) (ty : TypeId) (a b c : Value) : Builtin.min_ ats ty #[a, b, c] = (Builtin.min2 a b >>= fun s => Builtin.min2 s c >>= fun s => pure s) := by simp only [Builtin.min_, List.foldlM_cons, List.foldlM_nil]
theorem max_four (ats : Array TypeId) (ty : TypeId) (a b c d : Value) : Builtin.max_ ats ty #[a, b, c, d] = (Builtin.max2 a b >>= fun s => Builtin.max2 s c >>= fun s => Builtin.max2 s d >>= fun s => pure s) := by simp only [Builtin.max_, List.foldlM_cons, List.foldlM_nil]
theorem min_four (ats : Array TypeId) (ty : TypeId) (a b c d : Value) : Builtin.min_ ats ty #[a, b, c, d] = (Builtin.min2 a b >>= fun s => Builtin.min2 s c >>= fun s => Builtin.min2 s d >>= fun s => pure s) := by simp only [Builtin.min_, List.foldlM_cons, List.foldlM_nil]
end Go.Proofs.YtkioddjjfifadaaGreatDoorW.PrintMore
namespace Go.Proofs.YtkioddjjfifadaaGreatDoorW.PrintWords
open Go.RowKit
section
variable {P : Program} {ops : Array Oper} {rest : List Oper} {o : Oper} {a : Act} {Q : Exit → Act → World → Prop} {W : World}
theorem gate_callee {f : FuncId} {as0 : Array Operand} {ts : Array TypeId} (_ho : o.op = .call { callee := .value (.func f), args := as0, argTypes := ts }) (h : wpList P ops Q (o :: rest) a W) : wpList P ops Q (o :: rest) a W := h
theorem gate_builtin {b : Builtin} {xs : Array Operand} {ts : Array TypeId} (_ho : o.op = .call { callee := .builtin b, args := xs, argTypes := ts }) (h : wpList P ops Q (o :: rest) a W) : wpList P ops Q (o :: rest) a W := h
end
def mn (a b : Int) : Int := if b < a then b else a
end Go.Proofs.YtkioddjjfifadaaGreatDoorW.PrintWords
namespace Go.Proofs.YtkioddjjfifadaaGreatDoorW.PrintWords
open Go.RowKit
namespace Kd
def V {α : Type} (d : Kd α) (_e : Nat) (W : World) (_base : Nat) (ok : Nat → Prop) (v : Value) (xs : List α) : Prop := ∃ A c, v = .slice A xs.length c ∧ xs.length ≤ c ∧ F d W ok A xs.length xs
section
variable {α β : Type} {d : Kd α} {e base base' n m c g N' lo hi : Nat} {ok ok' S : Nat → Prop} {w W w1 : World} {A : Option Addr} {ad : Addr} {u v v1 : Value} {xs : List α}
theorem V_map (h : V d e W base ok v xs) (hF : ∀ A, F d W ok A xs.length xs → F d w1 ok' A xs.length xs) : V d e w1 base' ok' v xs := by
  obtain ⟨A, c, hv, hl, hf⟩ := h
  exact ⟨A, c, hv, hl, hF A hf⟩
theorem V_mk (hl : xs.length ≤ c) (hf : F d W ok A xs.length xs) : V d e W base ok (.slice A xs.length c) xs := ⟨A, c, rfl, hl, hf⟩
theorem V_slice (h : V d e W base ok v xs) : ∃ A c, v = .slice A xs.length c := by
  obtain ⟨A, c, hv, _⟩ := h
  exact ⟨A, c, hv⟩
theorem V_at (h : V d e W base ok (.slice A n c) xs) : n = xs.length ∧ n ≤ c ∧ F d W ok A xs.length xs := by
  obtain ⟨A', c', hv, hl, hf⟩ := h
  injection hv with ha hn hc
  subst ha; subst hc
  exact ⟨hn, by rw [hn]; exact hl, hf⟩
theorem V_reads' (h : V d e W base ok (.slice A n c) xs) : n = xs.length ∧ n ≤ c ∧ d.C W A xs.length xs := ⟨(V_at h).1, (V_at h).2.1, F_now (V_at h).2.2⟩
theorem V_nil (d : Kd α) (e : Nat) (W : World) (base : Nat) (ok : Nat → Prop) : V d e W base ok (.slice none 0 0) [] := ⟨none, 0, rfl, Nat.le_refl _, F_nil d W ok⟩
theorem R_V (h : d.R e W base ok v xs) : V d e W base' ok v xs := by
  obtain ⟨A, c, rfl⟩ := R_slice h
  exact ⟨A, c, rfl, (R_reads' h).2.1, R_F h⟩
theorem V_mono (h : V d e W base ok v xs) (hok : ∀ k, ok k → ok' k) : V d e W base ok' v xs := V_map h (fun _ hf => F_mono hf hok)
theorem V_lower (h : V d e W base ok v xs) (_ : base' ≤ base) : V d e W base' ok v xs := h
theorem V_below (h : V d e W base ok v xs) (hb : Below W.heap.size W w1) : V d e w1 base ok v xs := V_map h (fun _ hf => F_below hf hb)
theorem V_after (h : V d e W base (fun k => ok k ∧ some k ≠ u.ownBlock) v xs) (hg : W.grownBy w1 u.ownBlock) (hat : v1.ownBlock = u.ownBlock ∨ ∃ b, v1.ownBlock = some b ∧ W.heap.size ≤ b) : V d e w1 base (fun k => ok k ∧ some k ≠ v1.ownBlock) v xs := V_map h (fun _ hf => F_after hf hg hat)
theorem V_afterv (h : V d e W base (fun k => ok k ∧ some k ≠ v.ownBlock) u xs) (hg : W.grownBy w1 v.ownBlock) (hat : v1.ownBlock = v.ownBlock ∨ ∃ b, v1.ownBlock = some b ∧ W.heap.size ≤ b) : V d e w1 base (fun k => ok k ∧ some k ≠ v1.ownBlock) u xs := V_after h hg hat
theorem F_cut (h : F d W ok A xs.length xs) (hm : m ≤ xs.length) (hc : xs.length ≤ c) : F d W ok (if c = m then A else A.map (·.add (m * d.sz))) (xs.drop m).length (xs.drop m) := F_imp h (fun _ hC => C_drop hC hm hc)
end
end Kd
end Go.Proofs.YtkioddjjfifadaaGreatDoorW.PrintWords
namespace Go.Proofs.YtkioddjjfifadaaGreatDoorW.PrintWords
open Go.RowKit Go.Proofs.YtkioddjjfifadaaGreatDoorW.PrintWords Go.Proofs.YtkioddjjfifadaaGreatDoorW.PrintLast Go.Proofs.YtkioddjjfifadaaGreatDoorW.PrintMore
class UpW (a b : World) : Prop where
  bel : Below a.heap.size a b
instance UpW.refl (a : World) : UpW a a := ⟨Below.refl _ _⟩
instance UpW.al (a b : World) (o : Obj) [i : UpW a b] : UpW a (b.alloc o) := ⟨below_alloc i.bel o⟩
instance UpW.dn (a b : World) (m : Nat) [i : UpW a b] : UpW a (b.drewN m) := ⟨pw_below_drewN i.bel m⟩
instance UpW.dr (a b : World) [i : UpW a b] : UpW a b.drew := ⟨below_drew1 i.bel⟩
theorem bU {w a b : World} (h : Below w.heap.size w a) [i : UpW a b] : Below w.heap.size w b := below_step h i.bel
theorem blk_u {a b : World} {g : Nat} {o : Obj} (h : a.heap[g]? = some o) [i : UpW a b] : b.heap[g]? = some o := blk_below h i.bel
namespace Kd
variable {α : Type} {d : Kd α} {e : TypeId} {a b : World} {base : Nat} {ok : Nat → Prop} {v : Value} {xs : List α}
theorem R_u (h : d.R e a base ok v xs) [i : UpW a b] : d.R e b base ok v xs := R_below h i.bel
theorem S_u (h : S d e a base ok v xs) [i : UpW a b] : S d e b base ok v xs := S_below h i.bel
theorem C_u {A : Option Addr} {n : Nat} (h : d.C a A n xs) [i : UpW a b] : d.C b A n xs := C_below h i.bel
theorem V_u (h : V d e a base ok v xs) [i : UpW a b] : V d e b base ok v xs := V_below h i.bel
theorem N_u (h : N d e a base ok v xs) [i : UpW a b] : N d e b base ok v xs := N_below h i.bel
theorem Q_u (h : d.Q e a base ok v xs) [i : UpW a b] : d.Q e b base ok v xs := Q_below h i.bel
end Kd
end Go.Proofs.YtkioddjjfifadaaGreatDoorW.PrintWords
namespace Go.Proofs.YtkioddjjfifadaaGreatDoorW.PrintLast
open Go.Proofs.YtkioddjjfifadaaGreatDoorW.PrintWords (Aside0)
def needsOf (md : Region.Mode) (o : Oper) : List Nat := (o.after.toList.filter (fun e => Region.binds md e)).map (fun e => e.on)
def clashOf (md : Region.Mode) (ops : Array Oper) (i : Nat) (oi : Oper) : List Nat := (List.range ops.size).filter fun j => !(j == i) && match ops[j]? with
  | some oj => !(oj.after.any (fun e => Region.binds md e && e.on == i) || oi.apart ops oj)
  | none => false
def rtab (md : Region.Mode) (ops : Array Oper) : Bool × List (List Nat × List Nat) := (Region.noSelect ops, (List.range ops.size).map fun i => match ops[i]? with
  | some o => (needsOf md o, clashOf md ops i o)
  | none => ([], []))
def readyAt (T : List (List Nat × List Nat)) (l : List Bool) (i : Nat) : Bool := !l.getD i true && match T[i]? with
  | some r => r.1.all (fun j => l.getD j false)
  | none => false
def readyT (T : List (List Nat × List Nat)) (l : List Bool) : List Nat := (List.range T.length).filter (readyAt T l)
def freeT (T : List (List Nat × List Nat)) (l : List Bool) (i : Nat) : Bool := match T[i]? with
  | some r => r.2.all (fun j => l.getD j true)
  | none => false
def closedT (T : List (List Nat × List Nat)) (l : List Bool) : Bool := (List.range T.length).all fun j => !l.getD j false || match T[j]? with
  | some r => r.1.all (fun k => l.getD k false)
  | none => true
def reachT (T : List (List Nat × List Nat)) (i : Nat) : Nat → Nat → Bool
  | 0, _ => false
  | fuel + 1, d => match T[d]? with
    | some r => r.1.any fun j => j == i || reachT T i fuel j
    | none => false
def lastT (T : List (List Nat × List Nat)) (l : List Bool) (ds : List Nat) (i : Nat) : Bool := ds.all fun d => l.getD d true || reachT T i T.length d
section
variable {md : Region.Mode} {ops : Array Oper} {T : Bool × List (List Nat × List Nat)} {l l' li lj lk : Array Bool} {ds : List Nat} {i j k : Nat}
theorem gd (l : Array Bool) (j : Nat) (b : Bool) : l.getD j b = l.toList.getD j b := by simp [Array.getD_eq_getD_getElem?, List.getD_eq_getElem?_getD]
theorem needs_all (o : Oper) (p : Nat → Bool) : o.after.all (fun e => !Region.binds md e || p e.on) = (needsOf md o).all p := by
  unfold needsOf
  rw [← Array.all_toList]
  induction o.after.toList with
  | nil => rfl
  | cons e r ih =>
    rw [List.all_cons, ih, List.filter_cons]
    cases h : Region.binds md e <;> simp
theorem needs_any (o : Oper) (p : Nat → Bool) : o.after.any (fun e => Region.binds md e && p e.on) = (needsOf md o).any p := by
  unfold needsOf
  rw [← Array.any_toList]
  induction o.after.toList with
  | nil => rfl
  | cons e r ih =>
    rw [List.any_cons, ih, List.filter_cons]
    cases h : Region.binds md e <;> simp
theorem rtab_length : (rtab md ops).2.length = ops.size := by simp [rtab]
theorem rtab_some {o : Oper} (h : ops[i]? = some o) : (rtab md ops).2[i]? = some (needsOf md o, clashOf md ops i o) := by
  have hi := (Array.getElem?_eq_some_iff.1 h).1
  unfold rtab
  rw [List.getElem?_map, List.getElem?_range hi, Option.map_some, h]
theorem rtab_none (h : ops[i]? = none) : (rtab md ops).2[i]? = none := by
  have hi : ops.size ≤ i := Array.getElem?_eq_none_iff.1 h
  exact List.getElem?_eq_none (by rw [rtab_length]; exact hi)
theorem readyAt_eq : readyAt (rtab md ops).2 l.toList i = (!l.getD i true && ((ops[i]?).map (·.after.all fun e => !Region.binds md e || l.getD e.on false)).getD false) := by
  unfold readyAt
  rw [gd]
  cases h : ops[i]? with
  | none => rw [rtab_none h]; rfl
  | some o =>
    rw [rtab_some h]
    simp only [Option.map_some, Option.getD_some]
    rw [← needs_all]
    simp only [gd]
theorem ready_eq : Region.ready md ops l = readyT (rtab md ops).2 l.toList := by
  unfold Region.ready readyT
  rw [rtab_length]
  refine List.filter_congr (fun i _ => ?_)
  rw [readyAt_eq]
theorem free_eq : Region.free md ops l i = freeT (rtab md ops).2 l.toList i := by
  unfold Region.free freeT
  cases h : ops[i]? with
  | none => rw [rtab_none h]
  | some oi =>
    rw [rtab_some h]
    simp only [clashOf]
    rw [List.all_filter]
    congr 1
    funext j
    rw [gd]
    cases hj : ops[j]? with
    | none => cases (j == i) <;> cases (l.toList.getD j true) <;> simp
    | some oj =>
      cases (j == i) <;> cases (l.toList.getD j true) <;> cases (oj.after.any (fun e => Region.binds md e && e.on == i) || oi.apart ops oj) <;> simp_all
theorem closed_eq : Region.closedB md ops l = closedT (rtab md ops).2 l.toList := by
  unfold Region.closedB closedT
  rw [rtab_length]
  congr 1
  funext j
  rw [gd]
  cases h : ops[j]? with
  | none => rw [rtab_none h]
  | some o =>
    rw [rtab_some h]
    simp only
    rw [← needs_all]
    simp only [gd]
theorem reach_eq : ∀ (fuel d : Nat), Region.reachB md ops i fuel d = reachT (rtab md ops).2 i fuel d
  | 0, _ => rfl
  | fuel + 1, d => by
    unfold Region.reachB reachT
    cases h : ops[d]? with
    | none => rw [rtab_none h]
    | some o =>
      rw [rtab_some h]
      simp only
      rw [← needs_any]
      congr 1
      funext e
      rw [reach_eq fuel]
theorem last_eq : Region.lastB md ops l ds i = lastT (rtab md ops).2 l.toList ds i := by
  unfold Region.lastB lastT
  rw [rtab_length]
  congr 1
  funext d
  rw [gd, reach_eq]
theorem readyAt_mem (h : readyAt T.2 l.toList i = true) (hT : rtab md ops = T) : (Region.ready md ops l).contains i = true := by
  subst hT
  rw [ready_eq]
  unfold readyT
  rw [List.contains_iff_mem, List.mem_filter, List.mem_range]
  refine ⟨?_, h⟩
  unfold readyAt at h
  rw [Bool.and_eq_true] at h
  cases hq : (rtab md ops).2[i]? with
  | none => rw [hq] at h; simp at h
  | some r => exact (List.getElem?_eq_some_iff.1 hq).1
theorem set_of (h : (l.toList.set i true == l'.toList) = true) : (l.setIfInBounds i true == l') = true := by
  rw [beq_iff_eq] at h ⊢
  apply Array.ext'
  rw [Array.toList_setIfInBounds]
  exact h
def anyT (T : Bool × List (List Nat × List Nat)) (l l' : List Bool) (i : Nat) : Bool := T.1 && freeT T.2 l i && readyAt T.2 l i && (l.set i true == l')
theorem any_of (hT : rtab md ops = T) (h : anyT T l.toList l'.toList i = true) : anyB md ops l l' i = true := by
  simp only [anyT, Bool.and_eq_true] at h
  obtain ⟨⟨⟨h1, h2⟩, h3⟩, h4⟩ := h
  have h5 := readyAt_mem h3 hT
  have h6 := set_of h4
  subst hT
  simp only [anyB, Bool.and_eq_true]
  exact ⟨⟨⟨h1, by rw [free_eq]; exact h2⟩, h5⟩, h6⟩
def takeT (T : Bool × List (List Nat × List Nat)) (ds : List Nat) (l l' : List Bool) (i : Nat) : Bool := T.1 && freeT T.2 l i && readyAt T.2 l i && closedT T.2 l && lastT T.2 l ds i && (l.set i true == l')
theorem take_of (hT : rtab md ops = T) (h : takeT T ds l.toList l'.toList i = true) : takeB md ops ds l l' i = true := by
  simp only [takeT, Bool.and_eq_true] at h
  obtain ⟨⟨⟨⟨⟨h1, h2⟩, h3⟩, h4⟩, h5⟩, h6⟩ := h
  have h7 := readyAt_mem h3 hT
  have h8 := set_of h6
  subst hT
  simp only [takeB, Bool.and_eq_true]
  exact ⟨⟨⟨⟨⟨h1, by rw [free_eq]; exact h2⟩, h7⟩, by rw [closed_eq]; exact h4⟩, by rw [last_eq]; exact h5⟩, h8⟩
theorem one_of (hT : rtab md ops = T) (h : (readyT T.2 l.toList == [i] && l.toList.set i true == l'.toList) = true) : readyB md ops l l' i = true := by
  simp only [Bool.and_eq_true] at h
  obtain ⟨h1, h2⟩ := h
  subst hT
  simp only [readyB, Bool.and_eq_true]
  exact ⟨by rw [ready_eq]; exact h1, set_of h2⟩
theorem done_of (hT : rtab md ops = T) (h : (readyT T.2 l.toList == []) = true) : (Region.ready md ops l == []) = true := by
  subst hT
  rw [ready_eq]
  exact h
def upM (B : List Nat) (d : Nat) : List Nat → Nat
  | [] => 0
  | n :: r => (2 ^ n ||| (if n < d then B.getD n 0 else 0)) ||| upM B d r
def waitsOk (T : List (List Nat × List Nat)) (B : List Nat) : Bool := (List.range T.length).all fun d => match T[d]? with
  | some r => (B.getD d 0 ||| upM B d r.1) == upM B d r.1
  | none => false
theorem upM_bit {B : List Nat} {d i : Nat} : ∀ {ns : List Nat}, (upM B d ns).testBit i = true → ∃ n ∈ ns, n = i ∨ (n < d ∧ (B.getD n 0).testBit i = true)
  | [], h => by simp [upM] at h
  | n :: r, h => by
    unfold upM at h
    rw [Nat.testBit_or, Nat.testBit_or, Bool.or_eq_true, Bool.or_eq_true] at h
    rcases h with (h | h) | h
    · rw [Nat.testBit_two_pow] at h
      exact ⟨n, List.mem_cons_self, .inl (by simpa using h)⟩
    · by_cases hn : n < d
      · rw [if_pos hn] at h
        exact ⟨n, List.mem_cons_self, .inr ⟨hn, h⟩⟩
      · rw [if_neg hn] at h
        simp at h
    · obtain ⟨m, hm, h2⟩ := upM_bit h
      exact ⟨m, List.mem_cons_of_mem _ hm, h2⟩
theorem reach_bit {T : List (List Nat × List Nat)} {B : List Nat} (hB : waitsOk T B = true) : ∀ (fuel d : Nat), d < fuel → d < T.length → (B.getD d 0).testBit i = true → reachT T i fuel d = true
  | 0, d, h, _, _ => by omega
  | fuel + 1, d, h, hd, hb => by
    have h1 := List.all_eq_true.1 hB d (List.mem_range.2 hd)
    cases hr : T[d]? with
    | none => rw [hr] at h1; simp at h1
    | some r =>
      rw [hr] at h1
      simp only [beq_iff_eq] at h1
      have h2 : (upM B d r.1).testBit i = true := by rw [← h1, Nat.testBit_or, hb, Bool.true_or]
      obtain ⟨n, hn, h3⟩ := upM_bit h2
      unfold reachT
      rw [hr]
      simp only
      rw [List.any_eq_true]
      refine ⟨n, hn, ?_⟩
      rcases h3 with rfl | ⟨h4, h5⟩
      · simp
      · rw [reach_bit hB fuel n (by omega) (by omega) h5, Bool.or_true]
def lastW (T : List (List Nat × List Nat)) (B : List Nat) (l : List Bool) (ds : List Nat) (i : Nat) : Bool := ds.all fun d => l.getD d true || (decide (d < T.length) && (B.getD d 0).testBit i)
def takeW (T : Bool × List (List Nat × List Nat)) (B : List Nat) (ds : List Nat) (l l' : List Bool) (i : Nat) : Bool := T.1 && freeT T.2 l i && readyAt T.2 l i && closedT T.2 l && lastW T.2 B l ds i && (l.set i true == l')
theorem take_ofW {B : List Nat} (hT : rtab md ops = T) (hB : waitsOk T.2 B = true) (h : takeW T B ds l.toList l'.toList i = true) : takeB md ops ds l l' i = true := by
  refine take_of hT ?_
  simp only [takeW, takeT, Bool.and_eq_true] at h ⊢
  obtain ⟨⟨⟨⟨⟨h1, h2⟩, h3⟩, h4⟩, h5⟩, h6⟩ := h
  refine ⟨⟨⟨⟨⟨h1, h2⟩, h3⟩, h4⟩, ?_⟩, h6⟩
  unfold lastW at h5
  unfold lastT
  rw [List.all_eq_true] at h5 ⊢
  intro d hd
  have h7 := h5 d hd
  rw [Bool.or_eq_true, Bool.and_eq_true, decide_eq_true_eq] at h7
  rcases h7 with h7 | ⟨h8, h9⟩
  rotate_left
  · rw [reach_bit hB _ d h8 h8 h9, Bool.or_true]
  rw [h7, Bool.true_or]
theorem with_tabW {P : Program} {Q : Exit → Act → World → Prop} {S : World → Prop} {n : Nat} {a : Act} {w : World} {B : List Nat} (hT : rtab md ops = T) (hB : waitsOk T.2 B = true) (h : Aside0 (rtab md ops = T) → Aside0 (waitsOk T.2 B = true) → wpAnyLast P md ops Q S ds n l a w) : wpAnyLast P md ops Q S ds n l a w := h ⟨hT⟩ ⟨hB⟩
end
def opsIn : Code → Nat → Option (Array Oper)
  | .region id ops _, k => if id == k then some ops else none
  | .seq a b, k => match opsIn a k with
    | some o => some o
    | none => opsIn b k
  | .cond _ a b, k => match opsIn a k with
    | some o => some o
    | none => opsIn b k
  | .block _ c, k => opsIn c k
  | .loop c, k => opsIn c k
  | .scope c, k => opsIn c k
  | .rangeFunc _ _ a b, k => match opsIn a k with
    | some o => some o
    | none => opsIn b k
  | _, _ => none
def opsOf (f : Func) (k : Nat) : Array Oper := ((f.body.bind fun c => opsIn c k)).getD #[]
end Go.Proofs.YtkioddjjfifadaaGreatDoorW.PrintLast
namespace Go.Proofs.YtkioddjjfifadaaGreatDoorW.PrintWords
theorem Reps.one {α : Type} {R : α → List Value → Prop} {ps : List α} {cs : List Value} {p : α} {v : Value} (hp : R p [v]) (h : Reps R 1 ps cs) : Reps R 1 (p :: ps) (v :: cs) := by
  refine ⟨by simp [h.1], fun j q hq => ?_⟩
  cases j with
  | zero =>
    simp only [List.getElem?_cons_zero, Option.some.injEq] at hq
    subst hq
    simpa using hp
  | succ j =>
    simp only [List.getElem?_cons_succ] at hq
    have h1 := h.2 j q hq
    simpa [Nat.mul_one] using h1
theorem Reps.front {α : Type} {R : α → List Value → Prop} {size : Nat} {ps : List α} {cs c all : List Value} {p : α} (hp : R p c) (hc : c.length = size) (h : Reps R size ps cs) (ha : c ++ cs = all) : Reps R size (p :: ps) all := by
  subst ha
  refine ⟨by rw [List.length_append, hc, h.1, List.length_cons, Nat.succ_mul, Nat.add_comm], fun j q hq => ?_⟩
  cases j with
  | zero =>
    simp only [List.getElem?_cons_zero, Option.some.injEq] at hq
    subst hq
    rw [Nat.zero_mul, List.drop_zero, List.take_append_of_le_length (by omega), List.take_of_length_le (by omega)]
    exact hp
  | succ j =>
    simp only [List.getElem?_cons_succ] at hq
    have h1 := h.2 j q hq
    rw [Nat.succ_mul, List.drop_append, List.drop_of_length_le (by rw [hc]; exact Nat.le_add_left _ _), List.nil_append, hc, Nat.add_sub_cancel]
    exact h1
theorem Reps.c2 {α : Type} {R : α → List Value → Prop} {ps : List α} {cs : List Value} {p : α} {va vb : Value} (hp : R p [va, vb]) (h : Reps R 2 ps cs) : Reps R 2 (p :: ps) (va :: vb :: cs) := Reps.front hp rfl h rfl
theorem Reps.c3 {α : Type} {R : α → List Value → Prop} {ps : List α} {cs : List Value} {p : α} {va vb vc : Value} (hp : R p [va, vb, vc]) (h : Reps R 3 ps cs) : Reps R 3 (p :: ps) (va :: vb :: vc :: cs) := Reps.front hp rfl h rfl
theorem Reps.c4 {α : Type} {R : α → List Value → Prop} {ps : List α} {cs : List Value} {p : α} {va vb vc vd : Value} (hp : R p [va, vb, vc, vd]) (h : Reps R 4 ps cs) : Reps R 4 (p :: ps) (va :: vb :: vc :: vd :: cs) := Reps.front hp rfl h rfl
theorem Reps.c5 {α : Type} {R : α → List Value → Prop} {ps : List α} {cs : List Value} {p : α} {va vb vc vd ve : Value} (hp : R p [va, vb, vc, vd, ve]) (h : Reps R 5 ps cs) : Reps R 5 (p :: ps) (va :: vb :: vc :: vd :: ve :: cs) := Reps.front hp rfl h rfl
theorem Reps.c6 {α : Type} {R : α → List Value → Prop} {ps : List α} {cs : List Value} {p : α} {va vb vc vd ve vf : Value} (hp : R p [va, vb, vc, vd, ve, vf]) (h : Reps R 6 ps cs) : Reps R 6 (p :: ps) (va :: vb :: vc :: vd :: ve :: vf :: cs) := Reps.front hp rfl h rfl
theorem Reps.c7 {α : Type} {R : α → List Value → Prop} {ps : List α} {cs : List Value} {p : α} {va vb vc vd ve vf vg : Value} (hp : R p [va, vb, vc, vd, ve, vf, vg]) (h : Reps R 7 ps cs) : Reps R 7 (p :: ps) (va :: vb :: vc :: vd :: ve :: vf :: vg :: cs) := Reps.front hp rfl h rfl
theorem Reps.c8 {α : Type} {R : α → List Value → Prop} {ps : List α} {cs : List Value} {p : α} {va vb vc vd ve vf vg vh : Value} (hp : R p [va, vb, vc, vd, ve, vf, vg, vh]) (h : Reps R 8 ps cs) : Reps R 8 (p :: ps) (va :: vb :: vc :: vd :: ve :: vf :: vg :: vh :: cs) := Reps.front hp rfl h rfl
theorem Reps.c9 {α : Type} {R : α → List Value → Prop} {ps : List α} {cs : List Value} {p : α} {va vb vc vd ve vf vg vh vi : Value} (hp : R p [va, vb, vc, vd, ve, vf, vg, vh, vi]) (h : Reps R 9 ps cs) : Reps R 9 (p :: ps) (va :: vb :: vc :: vd :: ve :: vf :: vg :: vh :: vi :: cs) := Reps.front hp rfl h rfl
theorem Reps.c10 {α : Type} {R : α → List Value → Prop} {ps : List α} {cs : List Value} {p : α} {va vb vc vd ve vf vg vh vi vj : Value} (hp : R p [va, vb, vc, vd, ve, vf, vg, vh, vi, vj]) (h : Reps R 10 ps cs) : Reps R 10 (p :: ps) (va :: vb :: vc :: vd :: ve :: vf :: vg :: vh :: vi :: vj :: cs) := Reps.front hp rfl h rfl
end Go.Proofs.YtkioddjjfifadaaGreatDoorW.PrintWords
namespace Go.Proofs.YtkioddjjfifadaaGreatDoor.P
open Go.RowKit Go.Proofs.YtkioddjjfifadaaGreatDoorW.PrintWords Go.Proofs.YtkioddjjfifadaaGreatDoorW.PrintLast Go.Proofs.YtkioddjjfifadaaGreatDoorW.PrintMore
attribute [local go_sem] max2_int min2_int max_two min_two max_three min_three max_four min_four
set_option linter.unusedVariables false
set_option linter.unusedSimpArgs false
def errW : Option Int → Value
  | none => .nilIface
  | some c => .iface 313 (.int .i64 c)
theorem errW_none : errW none = .nilIface := rfl
theorem errW_some (c : Int) : errW (some c) = .iface 313 (.int .i64 c) := rfl
theorem info5 : (Tryz.prog.info? 5).map (fun i => (i.zero, i.size, i.bytes)) = some (some (.int .u8 0), 1, 1) := by kernel_rfl
theorem info9 : (Tryz.prog.info? 9).map (fun i => (i.zero, i.size, i.bytes)) = some (some (.string ⟨#[]⟩), 1, 16) := by kernel_rfl
theorem info22 : (Tryz.prog.info? 22).map (fun i => (i.zero, i.size, i.bytes)) = some (some (.slice none 0 0), 1, 24) := by kernel_rfl
theorem info62 : (Tryz.prog.info? 62).map (fun i => (i.zero, i.size, i.bytes)) = some (some (.slice none 0 0), 1, 24) := by kernel_rfl
theorem info64 : (Tryz.prog.info? 64).map (fun i => (i.zero, i.size, i.bytes)) = some (some (.agg #[(.string ⟨#[]⟩), (.int .i64 0), (.slice none 0 0)]), 3, 48) := by kernel_rfl
theorem info77 : (Tryz.prog.info? 77).map (fun i => (i.zero, i.size, i.bytes)) = some (some (.agg #[(.int .i64 0), (.int .i64 0), (.bool false), (.slice none 0 0), (.slice none 0 0)]), 5, 72) := by kernel_rfl
theorem info278 : (Tryz.prog.info? 278).map (fun i => (i.zero, i.size, i.bytes)) = some (some (.int .u64 0), 1, 8) := by kernel_rfl
def rd_L1 (xs : List (List Int)) (i : Int) : (List Int) := xs.getD i.toNat ([] : List Int)
theorem at_L1 {w : World} {A : Option Addr} {n : Nat} {xs : List (List Int)} (h : Kd.C (Kd.slice 5 (Kd.int .u8)) w A n xs) (i : Int) (h0 : 0 ≤ i) (h1 : i < n) : ∃ ad A0 c0, A = some ad ∧ w.cell? (ad.add i.toNat) = some (.slice A0 (rd_L1 xs i).length c0) ∧ (rd_L1 xs i).length ≤ c0 ∧ (Kd.int .u8).C w A0 (rd_L1 xs i).length (rd_L1 xs i) := by
  obtain ⟨ad, c, e, _, hK, hc0⟩ := Kd.C_get h ([] : List Int) i h0 h1
  have hc : ∀ j u, c[j]? = some u → w.cell? (ad.add (i.toNat * 1 + j)) = some u := hc0
  obtain ⟨A0, c0, rfl, l0, g0⟩ := hK
  exact ⟨ad, A0, c0, e, by have hq := hc 0 _ rfl; rwa [Nat.mul_one, Nat.add_zero] at hq, l0, g0⟩
structure S64 where
  f0 : ByteArray
  f1 : Int
  f2 : (List Int)
def z64 : S64 := ⟨(⟨#[]⟩ : ByteArray), (0 : Int), ([] : List Int)⟩
def k64 : Kd S64 := Kd.iso (Kd.pair Kd.string (Kd.pair (Kd.int .i64) (Kd.slice 5 (Kd.int .u8)))) (fun x : S64 => (x.f0, x.f1, x.f2))
theorem k64_open {w : World} {x : S64} {cs : List Value} (h : k64.K w x cs) : ∃ A2 c2, cs = [.string x.f0, .int .i64 x.f1, .slice A2 x.f2.length c2] ∧ x.f2.length ≤ c2 ∧ (Kd.int .u8).C w A2 x.f2.length x.f2 := by
  obtain ⟨_, _, rfl, rfl, ⟨_, _, rfl, rfl, ⟨A2, c2, rfl, l2, g2⟩⟩⟩ := h
  exact ⟨A2, c2, rfl, l2, g2⟩
theorem k64_openM {w : World} {base : Nat} {ok : Nat → Prop} {x : S64} {cs : List Value} (h : k64.M w base ok x cs) : ∃ v2, cs = [.string x.f0, .int .i64 x.f1, v2] ∧ (Kd.int .u8).R 5 w base ok v2 x.f2 := by
  obtain ⟨_, _, rfl, rfl, ⟨_, _, rfl, rfl, ⟨v2, rfl, g2⟩⟩⟩ := h
  exact ⟨v2, rfl, g2⟩
theorem k64_mk (w : World) (x : S64) {A2 : Option Addr} {c2 : Nat} (l2 : x.f2.length ≤ c2) (g2 : (Kd.int .u8).C w A2 x.f2.length x.f2) : k64.K w x [.string x.f0, .int .i64 x.f1, .slice A2 x.f2.length c2] := ⟨[.string x.f0], [.int .i64 x.f1, .slice A2 x.f2.length c2], rfl, rfl, ⟨[.int .i64 x.f1], [.slice A2 x.f2.length c2], rfl, rfl, ⟨A2, c2, rfl, l2, g2⟩⟩⟩
theorem k64_mkM (w : World) (base : Nat) (ok : Nat → Prop) (x : S64) {v2 : Value} (g2 : (Kd.int .u8).R 5 w base ok v2 x.f2) : k64.M w base ok x [.string x.f0, .int .i64 x.f1, v2] := ⟨[.string x.f0], [.int .i64 x.f1, v2], rfl, rfl, ⟨[.int .i64 x.f1], [v2], rfl, rfl, ⟨v2, rfl, g2⟩⟩⟩
def rd_T64 (xs : List S64) (i : Int) : S64 := xs.getD i.toNat z64
theorem at_T64 {w : World} {A : Option Addr} {n : Nat} {xs : List S64} (h : Kd.C k64 w A n xs) (i : Int) (h0 : 0 ≤ i) (h1 : i < n) : ∃ ad A2 c2, A = some ad ∧ w.cell? (ad.add (i.toNat * 3)) = some (.string (rd_T64 xs i).f0) ∧ w.cell? ⟨(ad.add (i.toNat * 3)).block, (ad.add (i.toNat * 3)).off + 1, none⟩ = some (.int .i64 (rd_T64 xs i).f1) ∧ w.cell? ⟨(ad.add (i.toNat * 3)).block, (ad.add (i.toNat * 3)).off + 2, none⟩ = some (.slice A2 (rd_T64 xs i).f2.length c2) ∧ (rd_T64 xs i).f2.length ≤ c2 ∧ (Kd.int .u8).C w A2 (rd_T64 xs i).f2.length (rd_T64 xs i).f2 := by
  obtain ⟨ad, c, e, _, hK, hc0⟩ := Kd.C_get h z64 i h0 h1
  have hc : ∀ j u, c[j]? = some u → w.cell? (ad.add (i.toNat * 3 + j)) = some u := hc0
  obtain ⟨A2, c2, rfl, l2, g2⟩ := k64_open hK
  exact ⟨ad, A2, c2, e, hc 0 _ rfl, by rw [← add_field _ _ 1 (by omega)]; exact hc 1 _ rfl, by rw [← add_field _ _ 2 (by omega)]; exact hc 2 _ rfl, l2, g2⟩
def rd_L5 (xs : List (List S64)) (i : Int) : (List S64) := xs.getD i.toNat ([] : List S64)
theorem at_L5 {w : World} {A : Option Addr} {n : Nat} {xs : List (List S64)} (h : Kd.C (Kd.slice 64 k64) w A n xs) (i : Int) (h0 : 0 ≤ i) (h1 : i < n) : ∃ ad A0 c0, A = some ad ∧ w.cell? (ad.add i.toNat) = some (.slice A0 (rd_L5 xs i).length c0) ∧ (rd_L5 xs i).length ≤ c0 ∧ k64.C w A0 (rd_L5 xs i).length (rd_L5 xs i) := by
  obtain ⟨ad, c, e, _, hK, hc0⟩ := Kd.C_get h ([] : List S64) i h0 h1
  have hc : ∀ j u, c[j]? = some u → w.cell? (ad.add (i.toNat * 1 + j)) = some u := hc0
  obtain ⟨A0, c0, rfl, l0, g0⟩ := hK
  exact ⟨ad, A0, c0, e, by have hq := hc 0 _ rfl; rwa [Nat.mul_one, Nat.add_zero] at hq, l0, g0⟩
structure S30 where
  f0 : (List Int)
  f1 : Int
  f2 : Int
structure S77 where
  f0 : Int
  f1 : Int
  f2 : Bool
  f3 : (List Int)
  f4 : (List Int)
def z77 : S77 := ⟨(0 : Int), (0 : Int), false, ([] : List Int), ([] : List Int)⟩
def k77 : Kd S77 := Kd.iso (Kd.pair (Kd.int .i64) (Kd.pair (Kd.int .i64) (Kd.pair Kd.bool (Kd.pair (Kd.slice 5 (Kd.int .u8)) (Kd.slice 5 (Kd.int .u8)))))) (fun x : S77 => (x.f0, x.f1, x.f2, x.f3, x.f4))
theorem k77_open {w : World} {x : S77} {cs : List Value} (h : k77.K w x cs) : ∃ A3 c3 A4 c4, cs = [.int .i64 x.f0, .int .i64 x.f1, .bool x.f2, .slice A3 x.f3.length c3, .slice A4 x.f4.length c4] ∧ x.f3.length ≤ c3 ∧ (Kd.int .u8).C w A3 x.f3.length x.f3 ∧ x.f4.length ≤ c4 ∧ (Kd.int .u8).C w A4 x.f4.length x.f4 := by
  obtain ⟨_, _, rfl, rfl, ⟨_, _, rfl, rfl, ⟨_, _, rfl, rfl, ⟨_, _, rfl, ⟨A3, c3, rfl, l3, g3⟩, ⟨A4, c4, rfl, l4, g4⟩⟩⟩⟩⟩ := h
  exact ⟨A3, c3, A4, c4, rfl, l3, g3, l4, g4⟩
theorem k77_mkM (w : World) (base : Nat) (ok : Nat → Prop) (x : S77) {v3 : Value} (g3 : (Kd.int .u8).R 5 w base ok v3 x.f3) {v4 : Value} (g4 : (Kd.int .u8).R 5 w base ok v4 x.f4) : k77.M w base ok x [.int .i64 x.f0, .int .i64 x.f1, .bool x.f2, v3, v4] := ⟨[.int .i64 x.f0], [.int .i64 x.f1, .bool x.f2, v3, v4], rfl, rfl, ⟨[.int .i64 x.f1], [.bool x.f2, v3, v4], rfl, rfl, ⟨[.bool x.f2], [v3, v4], rfl, rfl, ⟨[v3], [v4], rfl, ⟨v3, rfl, g3⟩, ⟨v4, rfl, g4⟩⟩⟩⟩⟩
def rd_T77 (xs : List S77) (i : Int) : S77 := xs.getD i.toNat z77
theorem at_T77 {w : World} {A : Option Addr} {n : Nat} {xs : List S77} (h : Kd.C k77 w A n xs) (i : Int) (h0 : 0 ≤ i) (h1 : i < n) : ∃ ad A3 c3 A4 c4, A = some ad ∧ w.cell? (ad.add (i.toNat * 5)) = some (.int .i64 (rd_T77 xs i).f0) ∧ w.cell? ⟨(ad.add (i.toNat * 5)).block, (ad.add (i.toNat * 5)).off + 1, none⟩ = some (.int .i64 (rd_T77 xs i).f1) ∧ w.cell? ⟨(ad.add (i.toNat * 5)).block, (ad.add (i.toNat * 5)).off + 2, none⟩ = some (.bool (rd_T77 xs i).f2) ∧ w.cell? ⟨(ad.add (i.toNat * 5)).block, (ad.add (i.toNat * 5)).off + 3, none⟩ = some (.slice A3 (rd_T77 xs i).f3.length c3) ∧ w.cell? ⟨(ad.add (i.toNat * 5)).block, (ad.add (i.toNat * 5)).off + 4, none⟩ = some (.slice A4 (rd_T77 xs i).f4.length c4) ∧ (rd_T77 xs i).f3.length ≤ c3 ∧ (Kd.int .u8).C w A3 (rd_T77 xs i).f3.length (rd_T77 xs i).f3 ∧ (rd_T77 xs i).f4.length ≤ c4 ∧ (Kd.int .u8).C w A4 (rd_T77 xs i).f4.length (rd_T77 xs i).f4 := by
  obtain ⟨ad, c, e, _, hK, hc0⟩ := Kd.C_get h z77 i h0 h1
  have hc : ∀ j u, c[j]? = some u → w.cell? (ad.add (i.toNat * 5 + j)) = some u := hc0
  obtain ⟨A3, c3, A4, c4, rfl, l3, g3, l4, g4⟩ := k77_open hK
  exact ⟨ad, A3, c3, A4, c4, e, hc 0 _ rfl, by rw [← add_field _ _ 1 (by omega)]; exact hc 1 _ rfl, by rw [← add_field _ _ 2 (by omega)]; exact hc 2 _ rfl, by rw [← add_field _ _ 3 (by omega)]; exact hc 3 _ rfl, by rw [← add_field _ _ 4 (by omega)]; exact hc 4 _ rfl, l3, g3, l4, g4⟩
structure S163 where
  f0 : ByteArray
  f1 : (List (List Int))
def z163 : S163 := ⟨(⟨#[]⟩ : ByteArray), ([] : List (List Int))⟩
def rd_T163 (xs : List S163) (i : Int) : S163 := xs.getD i.toNat z163
end Go.Proofs.YtkioddjjfifadaaGreatDoor.P
namespace Go.Proofs.YtkioddjjfifadaaGreatDoor.P
open Go.RowKit Go.Proofs.YtkioddjjfifadaaGreatDoorW.PrintWords Go.Proofs.YtkioddjjfifadaaGreatDoorW.PrintLast Go.Proofs.YtkioddjjfifadaaGreatDoorW.PrintMore
attribute [local go_sem] max2_int min2_int max_two min_two max_three min_three max_four min_four
set_option linter.unusedVariables false
set_option linter.unusedSimpArgs false
mutual
def chirographref07_Copy.l0 : Nat → List (List (S64)) → List (List (S64)) → Int → Option ((List (List (S64))))
  | 0, _, _, _ => none
  | k + 1, x0, x3, x4 => if x4 < (x0.length : Int) then (chirographref07_Copy.l1 k x0 x3 x4 (([] : List (S64))) 0) else (some x3)
def chirographref07_Copy.l1 : Nat → List (List (S64)) → List (List (S64)) → Int → List (S64) → Int → Option ((List (List (S64))))
  | 0, _, _, _, _, _ => none
  | k + 1, x0, x3, x4, x5, x6 => if 0 ≤ x4 then (if x4 < (x0.length : Int) then (if x6 < ((rd_L5 x0 x4).length : Int) then (if 0 ≤ x6 then ((some (([] : List Int) : List Int)).bind fun y949 => (if y949.length + ((rd_T64 (rd_L5 x0 x4) x6).f2).length < 140737488355328 then (if x5.length < 2932031007402 then (chirographref07_Copy.l1 k x0 x3 x4 (x5 ++ [(⟨(rd_T64 (rd_L5 x0 x4) x6).f0, (rd_T64 (rd_L5 x0 x4) x6).f1, (y949 ++ ((rd_T64 (rd_L5 x0 x4) x6).f2))⟩ : S64)]) (wrap64 (x6 + 1))) else (none)) else (none))) else (none)) else (if x3.length < 5864062014805 then (chirographref07_Copy.l0 k x0 (x3 ++ [x5]) (wrap64 (x4 + 1))) else (none))) else (none)) else (none)
end
def chirographref07_Copy.f (k : Nat) (l0 : List (List (S64))) : Option ((List (List (S64)))) := chirographref07_Copy.l0 k l0 ([] : List (List (S64))) 0
end Go.Proofs.YtkioddjjfifadaaGreatDoor.P
namespace Go.Proofs.YtkioddjjfifadaaGreatDoor.P
open Go.RowKit Go.Proofs.YtkioddjjfifadaaGreatDoorW.PrintWords Go.Proofs.YtkioddjjfifadaaGreatDoorW.PrintLast Go.Proofs.YtkioddjjfifadaaGreatDoorW.PrintMore
attribute [local go_sem] max2_int min2_int max_two min_two max_three min_three max_four min_four
set_option linter.unusedVariables false
set_option linter.unusedSimpArgs false
set_option maxHeartbeats 8000000 in
set_option maxRecDepth 100000 in
theorem copy_sole (k : Nat) (A0 : Option Addr) (c0 : Nat) (l0 : List (List (S64))) (r : List (List (S64))) (w : World) (hr0 : Kd.C (Kd.slice 64 k64) w A0 l0.length l0) (hc0 : l0.length ≤ c0) (h : chirographref07_Copy.f k l0 = some r) :
    Calls Tryz.prog 40 #[.slice A0 l0.length c0] w fun e w' => ∃ v0_ : Value, e = .returned (v0_) ∧ Kd.S (Kd.slice 64 k64) 62 w' w.heap.size (fun _ => True) v0_ r ∧ Below w.heap.size w w' := by
  have hu64 := Tryz.underlying64
  have HR0 := Aside0.mk hr0
  have HC0 := Aside0.mk hc0
  clear hr0 hc0
  have HB := Aside0.mk (Below.refl w.heap.size w)
  have H : (chirographref07_Copy.l0 k l0 ([] : List (List (S64))) 0) = some r := h
  clear h
  have H' := Aside0.mk H
  clear H
  go_enter Tryz.func40, Tryz.ntmps40
  go_wp2
  go_loopg [3, 4] k (fun kq v3 v4 w' => ∃ (x3_1 : List (List (S64))) (x4_1 : Int), v4 = .int .i64 x4_1 ∧ Aside0 (chirographref07_Copy.l0 kq l0 x3_1 x4_1 = some r) ∧ Aside0 (kq ≤ k) ∧ Aside0 (Kd.S (Kd.slice 64 k64) 62 w' w.heap.size (fun _ => True) v3 x3_1) ∧ Aside0 (Below w.heap.size w w'))
  case atStart => exact ⟨(([] : List (List (S64)))), (0), (by first | rfl | (simp; done) | (simp [*]; done)), H', ⟨Nat.le_refl _⟩, ⟨by exact Kd.S_nil _ _ _ _ _⟩, ⟨bU HB.out⟩⟩
  case round =>
    clear H'
    obtain ⟨x3_1, x4_1, rfl, HA, HK1, HO_3, HB⟩ := hrel
    rename World => wq
    have HQ := HO_3
    have HBo := HB
    clear HO_3 HB
    have HO_3 := Aside0.mk (Kd.S_R HQ.out)
    have HB := Aside0.mk (Below.refl wq.heap.size wq)
    cases gk with
    | zero => exact absurd HA.out (by simp [chirographref07_Copy.l0])
    | succ k1 =>
      have H := HA.out
      clear HA
      simp only [chirographref07_Copy.l0] at H
      by_cases c2 : x4_1 < (l0.length : Int)
      rotate_left
      · rw [if_neg c2] at H
        have c2b0 : decide (x4_1 < (l0.length : Int)) = false := decide_eq_false c2
        clear c2
        obtain rfl := Option.some.inj H
        go_wp2
        go_ret
        exact ⟨_, by first | rfl | (simp [errW_none, errW_some] <;> rfl), by (with_reducible repeat (first | apply Kd.S_alloc | apply Kd.S_drewN | apply Kd.S_drew)); exact HQ.out, bU HBo.out⟩
      rw [if_pos c2] at H
      have c2b0 : decide (x4_1 < (l0.length : Int)) = true := decide_eq_true c2
      clear c2
      obtain ⟨y942, hy942⟩ : ∃ y_ : List (S64), y_ = (([] : List (S64))) := ⟨_, rfl⟩
      replace H : (chirographref07_Copy.l1 k1 l0 x3_1 x4_1 y942 0) = some r := by first | (rw [hy942]; with_reducible exact H) | (have H2_ := (Option.bind_some _ _).symm.trans H; rw [hy942]; with_reducible exact H2_) | (have H2_ := (Option.bind_some _ _).symm.trans H; with_reducible exact H2_) | with_reducible exact H | (rw [hy942]; exact H) | exact H
      have Ny942 := Aside0.mk hy942
      clear hy942
      have H' := Aside0.mk H
      clear H
      go_wp2_with (first | ((with_reducible refine gate_dst (N := 14) rfl ?_); refine Kd.S_lit k64 _ 64 ?hg (N := 14) ?hd (xs := ([] : List (S64))) (inner := []) (ok := fun _ => True) (okp := fun _ => True) ?hr ?hp (fun _ hk => hk) trivial (Below.refl _ _) (Nat.le_refl _) (by simp) ?_; (case hd => rfl); (case hg => rfl); (case hr => first | (go_simp; done) | (go_simp; rfl)); (case hp => exact (Reps.none _ _)); intro v943 w3 ho4 hb hg_ hnew_; clear hg_ hnew_; (first | rw [← Ny942.out] at ho4 | (simp only [Int.reduceToNat] at ho4; rw [← Ny942.out] at ho4)); have n0_ := Aside0.mk (Kd.R_elder' (Kd.R_u HO_3.out) (Kd.S_base ho4) hb); have n1_ := Aside0.mk (Kd.S_lower ho4 (below_size (bU HB.out))); have n2_ := Aside0.mk (below_step (bU HB.out) hb); clear HO_3; clear HB; have HO_3 := n0_; have HO944 := n1_; have HB := n2_; clear n0_ n1_ n2_; clear hb ho4))
      go_loopg [5, 6] k1 (fun kq v5 v6 w' => ∃ (x5_2 : List (S64)) (x6_2 : Int), v6 = .int .i64 x6_2 ∧ Aside0 (chirographref07_Copy.l1 kq l0 x3_1 x4_1 x5_2 x6_2 = some r) ∧ Aside0 (kq ≤ k1) ∧ Aside0 (Kd.R (Kd.slice 64 k64) 62 w' w.heap.size (fun k_ => some k_ ≠ (v5 : Value).ownBlock) u3 x3_1) ∧ Aside0 (Kd.S k64 64 w' wq.heap.size (fun _ => True) v5 x5_2) ∧ Aside0 (Below wq.heap.size wq w'))
      case atStart => exact ⟨(y942), (0), (by first | rfl | (simp; done) | (simp [*]; done)), H', ⟨Nat.le_refl _⟩, ⟨Kd.R_u (Kd.R_mono HO_3.out (fun _ hk => hk.2))⟩, ⟨Kd.S_u HO944.out⟩, ⟨bU HB.out⟩⟩
      case round =>
        clear H'
        try clear c2
        try clear c2b0
        try clear p2
        try clear c4
        obtain ⟨x5_2, x6_2, rfl, HA, HK2, HO_3, HO_5, HB⟩ := hrel
        cases gk with
        | zero => exact absurd HA.out (by simp [chirographref07_Copy.l1])
        | succ k2 =>
          have H := HA.out
          clear HA
          simp only [chirographref07_Copy.l1] at H
          by_cases c5 : 0 ≤ x4_1
          rotate_left
          · rw [if_neg c5] at H
            exact absurd H (by simp)
          rw [if_pos c5] at H
          have c5b0 : decide (0 ≤ x4_1) = true := decide_eq_true c5
          clear c5
          by_cases c6 : x4_1 < (l0.length : Int)
          rotate_left
          · rw [if_neg c6] at H
            exact absurd H (by simp)
          rw [if_pos c6] at H
          have c6b0 : decide (x4_1 < (l0.length : Int)) = true := decide_eq_true c6
          clear c6
          by_cases c7 : x6_2 < ((rd_L5 l0 x4_1).length : Int)
          rotate_left
          · rw [if_neg c7] at H
            have c7b0 : decide (x6_2 < ((rd_L5 l0 x4_1).length : Int)) = false := decide_eq_false c7
            clear c7
            by_cases c22 : x3_1.length < 5864062014805
            rotate_left
            · rw [if_neg c22] at H
              exact absurd H (by simp)
            rw [if_pos c22] at H
            have LMc22 := Aside0.mk c22
            clear c22
            obtain ⟨y958, hy958⟩ : ∃ y_ : List (List (S64)), y_ = (x3_1 ++ [x5_2]) := ⟨_, rfl⟩
            replace H : (chirographref07_Copy.l0 k2 l0 y958 (wrap64 (x4_1 + 1))) = some r := by first | (rw [hy958]; with_reducible exact H) | (have H2_ := (Option.bind_some _ _).symm.trans H; rw [hy958]; with_reducible exact H2_) | (have H2_ := (Option.bind_some _ _).symm.trans H; with_reducible exact H2_) | with_reducible exact H | (rw [hy958]; exact H) | exact H
            have Ny958 := Aside0.mk hy958
            clear hy958
            have H' := Aside0.mk H
            clear H
            have p945 : 0 ≤ (x4_1 : Int) := of_decide_eq_true (by first | (with_reducible assumption) | assumption)
            have q945 : x4_1 < (l0.length : Int) := of_decide_eq_true (by first | (with_reducible assumption) | assumption)
            obtain ⟨ad945, A945_0, c945_0, e945, hx945_0, hl945_0, hi945_0⟩ := at_L5 HR0.out x4_1 p945 q945
            cases e945
            replace hx945_0 := ((below_step HBo.out HB.out).cell (World.block_lt_of_cell? w _ hx945_0)).trans hx945_0
            have HR945_0 := Aside0.mk hi945_0
            have HC945_0 := Aside0.mk hl945_0
            clear hi945_0 hl945_0
            replace p945 := eq_true p945
            replace q945 := eq_true q945
            obtain ⟨Ao24, co24, eo24⟩ := Kd.S_slice HO_5.out
            subst eo24
            go_wp2_with ((with_reducible refine gate_builtin (b := .append) (xs := #[.tmp 40, .tmp 42]) rfl ?_); at_builtin; refine Kd.S_append (Kd.slice 64 k64) (w0 := w) w.heap.size rfl (.tmp 40) (.tmp 42) 23 62 (.slice none 0 0) 24 rfl Tryz.underlying23 info62 rfl (by decide) (by omega) u3 x3_1 x5_2 [.slice Ao24 x5_2.length co24] (fun _ => True) (fun k_ => wq.heap.size ≤ k_) rfl rfl ?aP (fun k_ hk_ => ⟨trivial, fun e_ => absurd (Kd.S_lt HQ.out k_ e_.symm) (by omega)⟩) ?aF ?aO ?aB ?aS ?aL ?_; (case aP => exact Kd.M_row (Kd.R_lower (Kd.R_mono (Kd.R_bound (Kd.S_R (Kd.S_u HO_5.out))) (fun k_ hk => hk.2.1)) (below_size HBo.out))); (case aB => exact (by repeat (first | (with_reducible first | exact (below_step HBo.out HB.out) | apply below_alloc | apply pw_below_drewN | apply below_drew1) | exact (below_step HBo.out HB.out)))); (case aF => exact (fun _ _ => trivial)); (case aO => exact (Kd.S_u (Kd.S_mono (Kd.S_old HQ.out HB.out) (fun k_ hk => ⟨trivial, by have := hk.2; omega⟩)))); (case aS => exact (below_size (by repeat (first | (with_reducible first | exact (below_step HBo.out HB.out) | apply below_alloc | apply pw_below_drewN | apply below_drew1) | exact (below_step HBo.out HB.out))))); (case aL => have := LMc22.out; omega); intro v959 w25 ho hb hg hat; rw [← Ny958.out] at ho; have n0_ := Aside0.mk hb; have n1_ := Aside0.mk ho; clear HB HBo HQ HO_3 HO_5; have HB := n0_; have HO960 := n1_; clear n0_ n1_ ho hb hg hat)
            go_roundg k2
            case measure => have := HK1.out; have := HK2.out; omega
            case rel => exact ⟨(y958), (wrap64 (x4_1 + 1)), (by first | rfl | (simp; done) | (simp [*]; done)), H', ⟨by have := HK1.out; have := HK2.out; omega⟩, ⟨Kd.S_u HO960.out⟩, ⟨bU HB.out⟩⟩
          rw [if_pos c7] at H
          have c7b0 : decide (x6_2 < ((rd_L5 l0 x4_1).length : Int)) = true := decide_eq_true c7
          clear c7
          by_cases c8 : 0 ≤ x6_2
          rotate_left
          · rw [if_neg c8] at H
            exact absurd H (by simp)
          rw [if_pos c8] at H
          have c8b0 : decide (0 ≤ x6_2) = true := decide_eq_true c8
          clear c8
          obtain ⟨y949, hy949⟩ : ∃ y_ : List Int, y_ = (([] : List Int)) := ⟨_, rfl⟩
          replace H : (if y949.length + ((rd_T64 (rd_L5 l0 x4_1) x6_2).f2).length < 140737488355328 then (if x5_2.length < 2932031007402 then (chirographref07_Copy.l1 k2 l0 x3_1 x4_1 (x5_2 ++ [(⟨(rd_T64 (rd_L5 l0 x4_1) x6_2).f0, (rd_T64 (rd_L5 l0 x4_1) x6_2).f1, (y949 ++ ((rd_T64 (rd_L5 l0 x4_1) x6_2).f2))⟩ : S64)]) (wrap64 (x6_2 + 1))) else (none)) else (none)) = some r := by first | (rw [hy949]; with_reducible exact H) | (have H2_ := (Option.bind_some _ _).symm.trans H; rw [hy949]; with_reducible exact H2_) | (have H2_ := (Option.bind_some _ _).symm.trans H; with_reducible exact H2_) | with_reducible exact H | (rw [hy949]; exact H) | exact H
          have Ny949 := Aside0.mk hy949
          clear hy949
          by_cases c9 : y949.length + ((rd_T64 (rd_L5 l0 x4_1) x6_2).f2).length < 140737488355328
          rotate_left
          · rw [if_neg c9] at H
            exact absurd H (by simp)
          rw [if_pos c9] at H
          have LMc9 := Aside0.mk c9
          clear c9
          obtain ⟨y952, hy952⟩ : ∃ y_ : List Int, y_ = (y949 ++ ((rd_T64 (rd_L5 l0 x4_1) x6_2).f2)) := ⟨_, rfl⟩
          replace H : (if x5_2.length < 2932031007402 then (chirographref07_Copy.l1 k2 l0 x3_1 x4_1 (x5_2 ++ [(⟨(rd_T64 (rd_L5 l0 x4_1) x6_2).f0, (rd_T64 (rd_L5 l0 x4_1) x6_2).f1, y952⟩ : S64)]) (wrap64 (x6_2 + 1))) else (none)) = some r := by first | (rw [hy952]; with_reducible exact H) | (have H2_ := (Option.bind_some _ _).symm.trans H; rw [hy952]; with_reducible exact H2_) | (have H2_ := (Option.bind_some _ _).symm.trans H; with_reducible exact H2_) | with_reducible exact H | (rw [hy952]; exact H) | exact H
          have Ny952 := Aside0.mk hy952
          clear hy952
          by_cases c10 : x5_2.length < 2932031007402
          rotate_left
          · rw [if_neg c10] at H
            exact absurd H (by simp)
          rw [if_pos c10] at H
          have LMc10 := Aside0.mk c10
          clear c10
          obtain ⟨y955, hy955⟩ : ∃ y_ : List (S64), y_ = (x5_2 ++ [(⟨(rd_T64 (rd_L5 l0 x4_1) x6_2).f0, (rd_T64 (rd_L5 l0 x4_1) x6_2).f1, y952⟩ : S64)]) := ⟨_, rfl⟩
          replace H : (chirographref07_Copy.l1 k2 l0 x3_1 x4_1 y955 (wrap64 (x6_2 + 1))) = some r := by first | (rw [hy955]; with_reducible exact H) | (have H2_ := (Option.bind_some _ _).symm.trans H; rw [hy955]; with_reducible exact H2_) | (have H2_ := (Option.bind_some _ _).symm.trans H; with_reducible exact H2_) | with_reducible exact H | (rw [hy955]; exact H) | exact H
          have Ny955 := Aside0.mk hy955
          clear hy955
          have H' := Aside0.mk H
          clear H
          have p945 : 0 ≤ (x4_1 : Int) := of_decide_eq_true (by first | (with_reducible assumption) | assumption)
          have q945 : x4_1 < (l0.length : Int) := of_decide_eq_true (by first | (with_reducible assumption) | assumption)
          obtain ⟨ad945, A945_0, c945_0, e945, hx945_0, hl945_0, hi945_0⟩ := at_L5 HR0.out x4_1 p945 q945
          cases e945
          replace hx945_0 := ((below_step HBo.out HB.out).cell (World.block_lt_of_cell? w _ hx945_0)).trans hx945_0
          have HR945_0 := Aside0.mk hi945_0
          have HC945_0 := Aside0.mk hl945_0
          clear hi945_0 hl945_0
          replace p945 := eq_true p945
          replace q945 := eq_true q945
          have p946 : 0 ≤ (x4_1 : Int) := of_decide_eq_true (by first | (with_reducible assumption) | assumption)
          have q946 : x4_1 < (l0.length : Int) := of_decide_eq_true (by first | (with_reducible assumption) | assumption)
          obtain ⟨ad946, A946_0, c946_0, e946, hx946_0, hl946_0, hi946_0⟩ := at_L5 HR0.out x4_1 p946 q946
          obtain rfl : ad945 = ad946 := (by injection e946)
          replace hx946_0 := ((below_step HBo.out HB.out).cell (World.block_lt_of_cell? w _ hx946_0)).trans hx946_0
          have HR946_0 := Aside0.mk hi946_0
          have HC946_0 := Aside0.mk hl946_0
          clear hi946_0 hl946_0
          replace p946 := eq_true p946
          replace q946 := eq_true q946
          have ea_ := Option.some.inj (hx945_0.symm.trans hx946_0)
          injection ea_ with ea_ en_ ec_
          subst ea_
          subst ec_
          clear en_
          have p947 : 0 ≤ (x6_2 : Int) := of_decide_eq_true (by first | (with_reducible assumption) | assumption)
          have q947 : x6_2 < ((rd_L5 l0 x4_1).length : Int) := of_decide_eq_true (by first | (with_reducible assumption) | assumption)
          obtain ⟨ad947, A947_2, c947_2, e947, hx947_0, hx947_1, hx947_2, hl947_2, hi947_2⟩ := at_T64 HR946_0.out x6_2 p947 q947
          cases e947
          replace hx947_0 := ((below_step HBo.out HB.out).cell (World.block_lt_of_cell? w _ hx947_0)).trans hx947_0
          replace hx947_1 := ((below_step HBo.out HB.out).cell (World.block_lt_of_cell? w _ hx947_1)).trans hx947_1
          replace hx947_2 := ((below_step HBo.out HB.out).cell (World.block_lt_of_cell? w _ hx947_2)).trans hx947_2
          have HR947_2 := Aside0.mk hi947_2
          have HC947_2 := Aside0.mk hl947_2
          clear hi947_2 hl947_2
          replace p947 := eq_true p947
          replace q947 := eq_true q947
          go_wp2_with (first | ((with_reducible refine gate_dst (N := 7) rfl ?_); refine box_event ?hg (N := 7) ?hd (cs := #[.string (⟨#[]⟩ : ByteArray), .int .i64 0, .slice none 0 0]) (t := 64) ?hr ?_; (case hd => rfl); (case hg => rfl); (case hr => first | (go_simp; done) | (go_simp; rfl)); intro gb948 hg w11 hbox hb; have n0_ := Aside0.mk (Kd.R_below (Kd.R_elderB (Kd.R_u HO_3.out) gb948 (Nat.le_of_eq hg.symm)) hb); have n1_ := Aside0.mk (Kd.S_below (Kd.S_elderB (Kd.S_u HO_5.out) gb948 (Nat.le_of_eq hg.symm)) hb); have n2_ := Aside0.mk (below_step (bU HB.out) hb); have n3_ := Aside0.mk (hbox); have n4_ := Aside0.mk ((by rw [hg]; exact (below_size (bU HB.out)) : wq.heap.size ≤ gb948)); have n5_ := Aside0.mk ((by rw [hg]; exact (below_size (bU HB.out)) : wq.heap.size ≤ gb948)); clear HO_3; clear HO_5; clear HB; have HO_3 := n0_; have HO_5 := n1_; have HB := n2_; have BK948 := n3_; have GW948 := n4_; have GE948 := n5_; clear n0_ n1_ n2_ n3_ n4_ n5_; clear hb hbox hg; have hcz12_0 : w11.cell? ⟨gb948, 0, none⟩ = some (.string (⟨#[]⟩ : ByteArray)) := (blk_cell BK948.out 0).trans rfl; have hcz12_1 : w11.cell? ⟨gb948, 1, none⟩ = some (.int .i64 0) := (blk_cell BK948.out 1).trans rfl; have hcz12_2 : w11.cell? ⟨gb948, 2, none⟩ = some (.slice none 0 0) := (blk_cell BK948.out 2).trans rfl; have hfz12_0 := blk_frozen BK948.out 0; have hfz12_1 := blk_frozen BK948.out 1; have hfz12_2 := blk_frozen BK948.out 2) | ((with_reducible refine gate_dst (N := 31) rfl ?_); refine Kd.R_lit (Kd.int .u8) _ 5 ?hg (N := 31) ?hd (xs := ([] : List Int)) (inner := []) (ok := fun _ => True) (okp := fun _ => True) ?hr ?hp (fun _ hk => hk) trivial (Below.refl _ _) (Nat.le_refl _) (by simp) ?_; (case hd => rfl); (case hg => rfl); (case hr => first | (go_simp; done) | (go_simp; rfl)); (case hp => exact (Reps.none _ _)); intro v950 w13 ho14 hb hg_ hnew_; clear hg_ hnew_; (first | rw [← Ny949.out] at ho14 | (simp only [Int.reduceToNat] at ho14; rw [← Ny949.out] at ho14)); have n0_ := Aside0.mk (Kd.R_elder' (Kd.R_u ((Kd.R_mono (Kd.R_far (p := ⟨gb948, 2, none⟩) (Kd.R_far (p := ⟨gb948, 1, none⟩) (Kd.R_far (p := ⟨gb948, 0, none⟩) (Kd.R_mono HO_3.out (fun k_ hk => (⟨hk, hk.2⟩ : _ ∧ k_ ≠ gb948))) (fun _ hk => hk.2) (.string ((rd_T64 (rd_L5 l0 x4_1) x6_2).f0))) (fun _ hk => hk.2) (.int .i64 ((rd_T64 (rd_L5 l0 x4_1) x6_2).f1))) (fun _ hk => hk.2) (.slice A947_2 ((rd_T64 (rd_L5 l0 x4_1) x6_2).f2).length c947_2)) (fun _ h_ => h_.1)))) (Kd.R_base ho14) hb); have n1_ := Aside0.mk (Kd.S_elder' (Kd.S_u ((Kd.S_mono (Kd.S_far (p := ⟨gb948, 2, none⟩) (Kd.S_far (p := ⟨gb948, 1, none⟩) (Kd.S_far (p := ⟨gb948, 0, none⟩) (Kd.S_mono HO_5.out (fun k_ hk => (⟨hk, hk.2⟩ : _ ∧ k_ ≠ gb948))) (fun _ hk => hk.2) (.string ((rd_T64 (rd_L5 l0 x4_1) x6_2).f0))) (fun _ hk => hk.2) (.int .i64 ((rd_T64 (rd_L5 l0 x4_1) x6_2).f1))) (fun _ hk => hk.2) (.slice A947_2 ((rd_T64 (rd_L5 l0 x4_1) x6_2).f2).length c947_2)) (fun _ h_ => h_.1)))) (Kd.R_base ho14) hb); have n2_ := Aside0.mk (Kd.R_lower ho14 (below_size (by repeat (first | exact HB.out | apply below_alloc | apply pw_below_drewN | apply below_drew1 | refine below_set ?_ GE948.out)))); have n3_ := Aside0.mk (blk_below (g := gb948) (o := .cells #[.string ((rd_T64 (rd_L5 l0 x4_1) x6_2).f0), .int .i64 ((rd_T64 (rd_L5 l0 x4_1) x6_2).f1), .slice A947_2 ((rd_T64 (rd_L5 l0 x4_1) x6_2).f2).length c947_2] 64 (0, 0)) (by (with_reducible repeat (first | refine blk_drewN ?_ _ | refine blk_drew ?_ | refine blk_alloc ?_ _)); refine blk_put (cs := #[.string ((rd_T64 (rd_L5 l0 x4_1) x6_2).f0), .int .i64 ((rd_T64 (rd_L5 l0 x4_1) x6_2).f1), .slice none 0 0]) ?_ 2 _ rfl; (with_reducible repeat (first | refine blk_drewN ?_ _ | refine blk_drew ?_ | refine blk_alloc ?_ _)); refine blk_put (cs := #[.string ((rd_T64 (rd_L5 l0 x4_1) x6_2).f0), .int .i64 0, .slice none 0 0]) ?_ 1 _ rfl; (with_reducible repeat (first | refine blk_drewN ?_ _ | refine blk_drew ?_ | refine blk_alloc ?_ _)); refine blk_put (cs := #[.string (⟨#[]⟩ : ByteArray), .int .i64 0, .slice none 0 0]) ?_ 0 _ rfl; (with_reducible repeat (first | refine blk_drewN ?_ _ | refine blk_drew ?_ | refine blk_alloc ?_ _)); exact BK948.out) hb); have n4_ := Aside0.mk (below_step (by repeat (first | exact HB.out | apply below_alloc | apply pw_below_drewN | apply below_drew1 | refine below_set ?_ GE948.out)) hb); clear HO_3; clear HO_5; clear BK948; clear HB; have HO_3 := n0_; have HO_5 := n1_; have HO951 := n2_; have BK948 := n3_; have HB := n4_; clear n0_ n1_ n2_ n3_ n4_; clear hb ho14; have hcz15_0 : w13.cell? ⟨gb948, 0, none⟩ = some (.string ((rd_T64 (rd_L5 l0 x4_1) x6_2).f0)) := (blk_cell BK948.out 0).trans rfl; have hcz15_1 : w13.cell? ⟨gb948, 1, none⟩ = some (.int .i64 ((rd_T64 (rd_L5 l0 x4_1) x6_2).f1)) := (blk_cell BK948.out 1).trans rfl; have hcz15_2 : w13.cell? ⟨gb948, 2, none⟩ = some (.slice A947_2 ((rd_T64 (rd_L5 l0 x4_1) x6_2).f2).length c947_2) := (blk_cell BK948.out 2).trans rfl; have hfz15_0 := blk_frozen BK948.out 0; have hfz15_1 := blk_frozen BK948.out 1; have hfz15_2 := blk_frozen BK948.out 2) | ((with_reducible refine gate_builtin (b := .append) (xs := #[.tmp 31, .tmp 33]) rfl ?_); at_builtin; refine Kd.R_append_rows (Kd.int .u8) (w0 := wq) wq.heap.size rfl (.tmp 31) (.tmp 33) 22 5 (.int .u8 0) 1 rfl Tryz.underlying22 info5 rfl (by decide) (by omega) v950 y949 ((rd_T64 (rd_L5 l0 x4_1) x6_2).f2) _ _ _ (fun _ => True) (fun _ => False) rfl rfl ?aO ?aR (fun _ _ h => h) (fun _ h => h.elim) ?aF ?aB ?aS ?aL ?_; (case aR => exact Kd.C_u (Kd.C_below HR947_2.out (below_step HBo.out HB.out))); (case aB => exact (by repeat (first | exact HB.out | apply below_alloc | apply pw_below_drewN | apply below_drew1 | refine below_set ?_ GE948.out))); (case aF => exact (fun _ _ => trivial)); (case aO => exact (Kd.R_u HO951.out)); (case aS => exact (below_size (by repeat (first | exact HB.out | apply below_alloc | apply pw_below_drewN | apply below_drew1 | refine below_set ?_ GE948.out)))); (case aL => have := LMc9.out; omega); intro v953 w16 ho hb hg hat; rw [← Ny952.out] at ho; have n0_ := Aside0.mk (Kd.R_after (ok := (fun k_ => some k_ ≠ (u5 : Value).ownBlock ∧ k_ ≠ gb948)) (Kd.R_u HO_3.out) hg hat); have n1_ := Aside0.mk (Kd.S_after (ok := (fun k_ => k_ ≠ gb948)) (Kd.S_u (Kd.S_mono HO_5.out (fun _ hk => ⟨hk.1.2, hk.2⟩))) hg hat); have n2_ := Aside0.mk (blk_grown (blk_u BK948.out) hg (Kd.R_ne HO951.out BK948.out (by decide))); have n3_ := Aside0.mk (hb); have n4_ := Aside0.mk (ho); clear HO_3; clear HO_5; clear BK948; clear HB; clear HO951; have HO_3 := n0_; have HO_5 := n1_; have BK948 := n2_; have HB := n3_; have HO954 := n4_; clear n0_ n1_ n2_ n3_ n4_; clear ho hb hg hat; obtain ⟨Ao17, co17, eo17⟩ := Kd.R_slice HO954.out; subst eo17; have hcz18_0 : w16.cell? ⟨gb948, 0, none⟩ = some (.string ((rd_T64 (rd_L5 l0 x4_1) x6_2).f0)) := (blk_cell BK948.out 0).trans rfl; have hcz18_1 : w16.cell? ⟨gb948, 1, none⟩ = some (.int .i64 ((rd_T64 (rd_L5 l0 x4_1) x6_2).f1)) := (blk_cell BK948.out 1).trans rfl; have hcz18_2 : w16.cell? ⟨gb948, 2, none⟩ = some (.slice A947_2 ((rd_T64 (rd_L5 l0 x4_1) x6_2).f2).length c947_2) := (blk_cell BK948.out 2).trans rfl; have hfz18_0 := blk_frozen BK948.out 0; have hfz18_1 := blk_frozen BK948.out 1; have hfz18_2 := blk_frozen BK948.out 2) | ((with_reducible refine gate_store (t := 22) (p := 35) rfl ?_); refine store_event (t := 22) (p := 35) (v := ?vo_w19) (w1 := (w16.setCell ⟨gb948, 2, none⟩ (.slice Ao17 y952.length co17))) ?hg ?ho ?hn ?hr ?_; (case ho => rfl); (case hg => rfl); (case hn => rfl); (case hr => first | (go_simp; done) | (go_simp; rfl)); intro w19 hw; have n0_ : Aside0 (Kd.R (Kd.slice 64 k64) 62 w19 w.heap.size (fun k_ => some k_ ≠ (u5 : Value).ownBlock ∧ some k_ ≠ (.slice Ao17 y952.length co17 : Value).ownBlock ∧ k_ ≠ gb948) u3 x3_1) := ⟨(by rw [hw]; exact (Kd.R_u (Kd.R_mono (Kd.R_far (p := ⟨gb948, 2, none⟩) (Kd.R_mono HO_3.out (fun k_ hk => (⟨hk, hk.1.2⟩ : _ ∧ k_ ≠ gb948))) (fun _ hk => hk.2) (.slice Ao17 y952.length co17)) (fun _ hk => ⟨hk.1.1.1, ⟨hk.1.2, hk.1.1.2⟩⟩))))⟩; have n1_ : Aside0 (Kd.S k64 64 w19 wq.heap.size (fun k_ => some k_ ≠ (.slice Ao17 y952.length co17 : Value).ownBlock ∧ k_ ≠ gb948) u5 x5_2) := ⟨(by rw [hw]; exact (Kd.S_u (Kd.S_mono (Kd.S_far (p := ⟨gb948, 2, none⟩) (Kd.S_mono HO_5.out (fun k_ hk => (⟨hk, hk.1⟩ : _ ∧ k_ ≠ gb948))) (fun _ hk => hk.2) (.slice Ao17 y952.length co17)) (fun _ hk => ⟨hk.1.2, hk.1.1⟩))))⟩; have n2_ : Aside0 (Kd.R (Kd.int .u8) 5 w19 wq.heap.size (fun _ => True) (.slice Ao17 y952.length co17) y952) := ⟨(by rw [hw]; exact (Kd.R_u (Kd.R_mono (Kd.R_far (p := ⟨gb948, 2, none⟩) (Kd.R_types HO954.out BK948.out (by decide)) (fun _ hk => hk.2) (.slice Ao17 y952.length co17)) (fun _ hk => trivial))))⟩; have n3_ : Aside0 (w19.heap[gb948]? = some (.cells #[.string ((rd_T64 (rd_L5 l0 x4_1) x6_2).f0), .int .i64 ((rd_T64 (rd_L5 l0 x4_1) x6_2).f1), .slice Ao17 y952.length co17] 64 (0, 0))) := ⟨(by rw [hw]; exact (by (with_reducible repeat (first | refine blk_drewN ?_ _ | refine blk_drew ?_ | refine blk_alloc ?_ _)); refine blk_put (cs := #[.string ((rd_T64 (rd_L5 l0 x4_1) x6_2).f0), .int .i64 ((rd_T64 (rd_L5 l0 x4_1) x6_2).f1), .slice A947_2 ((rd_T64 (rd_L5 l0 x4_1) x6_2).f2).length c947_2]) ?_ 2 _ rfl; (with_reducible repeat (first | refine blk_drewN ?_ _ | refine blk_drew ?_ | refine blk_alloc ?_ _)); exact BK948.out))⟩; have n4_ : Aside0 (Below wq.heap.size wq w19) := ⟨(by rw [hw]; exact (by repeat (first | exact HB.out | apply below_alloc | apply pw_below_drewN | apply below_drew1 | refine below_set ?_ GE948.out)))⟩; clear hw; clear HO_3; clear HO_5; clear HO954; clear BK948; clear HB; have HO_3 := n0_; have HO_5 := n1_; have HO954 := n2_; have BK948 := n3_; have HB := n4_; clear n0_ n1_ n2_ n3_ n4_; have hcz20_0 : w19.cell? ⟨gb948, 0, none⟩ = some (.string ((rd_T64 (rd_L5 l0 x4_1) x6_2).f0)) := (blk_cell BK948.out 0).trans rfl; have hcz20_1 : w19.cell? ⟨gb948, 1, none⟩ = some (.int .i64 ((rd_T64 (rd_L5 l0 x4_1) x6_2).f1)) := (blk_cell BK948.out 1).trans rfl; have hcz20_2 : w19.cell? ⟨gb948, 2, none⟩ = some (.slice Ao17 y952.length co17) := (blk_cell BK948.out 2).trans rfl; have hfz20_0 := blk_frozen BK948.out 0; have hfz20_1 := blk_frozen BK948.out 1; have hfz20_2 := blk_frozen BK948.out 2) | ((with_reducible refine gate_builtin (b := .append) (xs := #[.tmp 36, .tmp 38]) rfl ?_); at_builtin; refine Kd.S_append k64 (w0 := wq) wq.heap.size rfl (.tmp 36) (.tmp 38) 62 64 (.agg #[(.string ⟨#[]⟩), (.int .i64 0), (.slice none 0 0)]) 48 rfl Tryz.underlying62 info64 rfl (by decide) (by omega) u5 x5_2 (⟨(rd_T64 (rd_L5 l0 x4_1) x6_2).f0, (rd_T64 (rd_L5 l0 x4_1) x6_2).f1, y952⟩ : S64) [.string ((rd_T64 (rd_L5 l0 x4_1) x6_2).f0), .int .i64 ((rd_T64 (rd_L5 l0 x4_1) x6_2).f1), .slice Ao17 y952.length co17] (fun k_ => k_ ≠ gb948) (fun k_ => some k_ = (.slice Ao17 y952.length co17 : Value).ownBlock) rfl rfl ?aP (fun k_ hk_ => ((Kd.R_mono (ok' := fun k_ => ((fun k_ => k_ ≠ gb948)) k_ ∧ some k_ ≠ (u5 : Value).ownBlock) (Kd.R_types (Kd.R_apart' (HO954.out) (Kd.S_typed HO_5.out) (by decide)) BK948.out (by decide)) (fun k_ hk => ⟨hk.2, hk.1.2⟩))).1 k_ hk_.symm) ?aF ?aO ?aB ?aS ?aL ?_; (case aP => exact k64_mkM _ _ _ (⟨(rd_T64 (rd_L5 l0 x4_1) x6_2).f0, (rd_T64 (rd_L5 l0 x4_1) x6_2).f1, y952⟩ : S64) (Kd.R_mono (Kd.R_tight rfl (Kd.R_mono (ok' := fun k_ => ((fun k_ => k_ ≠ gb948)) k_ ∧ some k_ ≠ (u5 : Value).ownBlock) (Kd.R_types (Kd.R_apart' (HO954.out) (Kd.S_typed HO_5.out) (by decide)) BK948.out (by decide)) (fun k_ hk => ⟨hk.2, hk.1.2⟩))) (fun _ h_ => h_))); (case aB => exact (by repeat (first | exact HB.out | apply below_alloc | apply pw_below_drewN | apply below_drew1 | refine below_set ?_ GE948.out))); (case aF => exact (fun k_ hk => Kd.freshB (blk_u BK948.out) k_ hk)); (case aO => exact (Kd.S_u (Kd.S_mono HO_5.out (fun k_ hk => ⟨hk.2, fun e_ => hk.1 e_⟩)))); (case aS => exact (below_size (by repeat (first | exact HB.out | apply below_alloc | apply pw_below_drewN | apply below_drew1 | refine below_set ?_ GE948.out)))); (case aL => have := LMc10.out; omega); intro v956 w21 ho hb hg hat; rw [← Ny955.out] at ho; have n0_ := Aside0.mk (Kd.R_after (ok := (fun k_ => some k_ ≠ (.slice Ao17 y952.length co17 : Value).ownBlock ∧ k_ ≠ gb948)) (Kd.R_u (Kd.R_mono HO_3.out (fun _ hk => ⟨⟨hk.2.1, hk.2.2⟩, hk.1⟩))) hg hat); have n1_ := Aside0.mk (blk_grown (blk_u BK948.out) hg (Kd.S_away HO_5.out (fun _ hk => hk.2))); have n2_ := Aside0.mk (hb); have n3_ := Aside0.mk (ho); clear HO_3; clear BK948; clear HB; clear HO_5; clear HO954; have HO_3 := n0_; have BK948 := n1_; have HB := n2_; have HO957 := n3_; clear n0_ n1_ n2_ n3_; clear ho hb hg hat))
          go_roundg k2
          case measure => have := HK1.out; have := HK2.out; omega
          case rel => exact ⟨(y955), (wrap64 (x6_2 + 1)), (by first | rfl | (simp; done) | (simp [*]; done)), H', ⟨by have := HK1.out; have := HK2.out; omega⟩, ⟨Kd.R_u (Kd.R_mono HO_3.out (fun _ hk => hk.2))⟩, ⟨Kd.S_u (Kd.S_mono HO957.out (fun _ hk => trivial))⟩, ⟨by repeat (first | exact HB.out | apply below_alloc | apply pw_below_drewN | apply below_drew1 | refine below_set ?_ GE948.out)⟩⟩
end Go.Proofs.YtkioddjjfifadaaGreatDoor.P
set_option linter.unusedVariables false
namespace Go.Proofs.YtkioddjjfifadaaGreatDoor.P
open Go.RowKit Go.Proofs.YtkioddjjfifadaaGreatDoorW.PrintWords Go.Proofs.YtkioddjjfifadaaGreatDoorW.PrintLast Go.Proofs.YtkioddjjfifadaaGreatDoorW.PrintMore
section
variable {W w1 : World} {base g n cap gi r ci : Nat} {ok oki : Nat → Prop} {M : List (List S64)} {s : List S64} {v V : Value} {i : Int}
theorem row_lend (h : Kd.S (Kd.slice 64 k64) 62 W base ok (.slice (some ⟨g, 0, none⟩) n cap) M) (i : Int) (h0 : 0 ≤ i) (h1 : i < n) :
    ∃ oki v, Kd.R k64 64 W base oki v (rd_L5 M i) ∧ W.cell? ⟨g, i.toNat, none⟩ = some v ∧ (∀ k, oki k → ok k ∧ k ≠ g) ∧ Kd.H (Kd.slice 64 k64) 62 W base ok (.slice (some ⟨g, 0, none⟩) n cap) M i oki [v] := by
  obtain ⟨oki, c, _, hM, hcc, hk, hH⟩ := Kd.S_lend h ([] : List S64) i h0 h1
  obtain ⟨v, rfl, hR⟩ := hM
  refine ⟨oki, v, hR, ?_, hk, hH⟩
  have := hcc 0 v rfl
  rwa [show (Kd.slice 64 k64).sz = 1 from rfl, Nat.mul_one, Nat.add_zero] at this
theorem row_grown (h : Kd.H (Kd.slice 64 k64) 62 W base ok V M i oki [v]) (hg : W.grownBy w1 (some gi)) (hgi : oki gi) : Kd.H (Kd.slice 64 k64) 62 w1 base ok V M i oki [v] :=
  Kd.H_grown h hg (fun k hk => by injection hk with hk; exact hk ▸ hgi)
theorem row_back (h : Kd.H (Kd.slice 64 k64) 62 W base ok V M i oki [v]) (hR : Kd.R k64 64 W base oki v s) : Kd.S (Kd.slice 64 k64) 62 W base ok V (M.set i.toNat s) :=
  Kd.H_back h (okp := oki) ⟨v, rfl, hR⟩ (fun _ hk => hk)
theorem row_own (h : Kd.R k64 64 W base oki (.slice (some ⟨gi, 0, none⟩) r ci) s) : oki gi := h.1 gi (by simp [Value.ownBlock])
theorem row_swap (h : Kd.R k64 64 W base oki (.slice (some ⟨gi, 0, none⟩) r ci) s) (a b : Int) (ha0 : 0 ≤ a) (ha : a < r) (hb0 : 0 ≤ b) (hb : b < r) :
    ∃ Pa qa Pb qb, (W.cell? ⟨gi, a.toNat * 3, none⟩ = some (.string (rd_T64 s a).f0) ∧ W.cell? ⟨gi, a.toNat * 3 + 1, none⟩ = some (.int .i64 (rd_T64 s a).f1) ∧ W.cell? ⟨gi, a.toNat * 3 + 2, none⟩ = some (.slice Pa (rd_T64 s a).f2.length qa)) ∧
      (W.cell? ⟨gi, b.toNat * 3, none⟩ = some (.string (rd_T64 s b).f0) ∧ W.cell? ⟨gi, b.toNat * 3 + 1, none⟩ = some (.int .i64 (rd_T64 s b).f1) ∧ W.cell? ⟨gi, b.toNat * 3 + 2, none⟩ = some (.slice Pb (rd_T64 s b).f2.length qb)) ∧
      (∀ j, W.frozen? ⟨gi, a.toNat * 3 + j, none⟩ = false) ∧ (∀ j, W.frozen? ⟨gi, b.toNat * 3 + j, none⟩ = false) ∧
      (∃ u0 u1 u2, (W.setCells gi (a.toNat * 3) [.string (rd_T64 s b).f0, .int .i64 (rd_T64 s b).f1, .slice Pb (rd_T64 s b).f2.length qb]).cell? ⟨gi, b.toNat * 3, none⟩ = some u0 ∧ (W.setCells gi (a.toNat * 3) [.string (rd_T64 s b).f0, .int .i64 (rd_T64 s b).f1, .slice Pb (rd_T64 s b).f2.length qb]).cell? ⟨gi, b.toNat * 3 + 1, none⟩ = some u1 ∧ (W.setCells gi (a.toNat * 3) [.string (rd_T64 s b).f0, .int .i64 (rd_T64 s b).f1, .slice Pb (rd_T64 s b).f2.length qb]).cell? ⟨gi, b.toNat * 3 + 2, none⟩ = some u2) ∧ (∀ j, (W.setCells gi (a.toNat * 3) [.string (rd_T64 s b).f0, .int .i64 (rd_T64 s b).f1, .slice Pb (rd_T64 s b).f2.length qb]).frozen? ⟨gi, b.toNat * 3 + j, none⟩ = false) ∧
      W.grownBy (W.setCells gi (a.toNat * 3) [.string (rd_T64 s b).f0, .int .i64 (rd_T64 s b).f1, .slice Pb (rd_T64 s b).f2.length qb]) (some gi) ∧
      (W.setCells gi (a.toNat * 3) [.string (rd_T64 s b).f0, .int .i64 (rd_T64 s b).f1, .slice Pb (rd_T64 s b).f2.length qb]).grownBy ((W.setCells gi (a.toNat * 3) [.string (rd_T64 s b).f0, .int .i64 (rd_T64 s b).f1, .slice Pb (rd_T64 s b).f2.length qb]).setCells gi (b.toNat * 3) [.string (rd_T64 s a).f0, .int .i64 (rd_T64 s a).f1, .slice Pa (rd_T64 s a).f2.length qa]) (some gi) ∧
      Kd.R k64 64 ((W.setCells gi (a.toNat * 3) [.string (rd_T64 s b).f0, .int .i64 (rd_T64 s b).f1, .slice Pb (rd_T64 s b).f2.length qb]).setCells gi (b.toNat * 3) [.string (rd_T64 s a).f0, .int .i64 (rd_T64 s a).f1, .slice Pa (rd_T64 s a).f2.length qa]) base oki (.slice (some ⟨gi, 0, none⟩) r ci) ((s.set a.toNat (rd_T64 s b)).set b.toNat (rd_T64 s a)) := by
  obtain ⟨ca, _, hMa, hca, hfa⟩ := Kd.R_elem h z64 a ha0 ha
  obtain ⟨va, rfl, ga⟩ := k64_openM hMa
  obtain ⟨Pa, qa, rfl⟩ := Kd.R_slice ga
  obtain ⟨cb, _, hMb, hcb, hfb⟩ := Kd.R_elem h z64 b hb0 hb
  obtain ⟨vb, rfl, gb⟩ := k64_openM hMb
  obtain ⟨Pb, qb, rfl⟩ := Kd.R_slice gb
  obtain ⟨R1, G1⟩ := Kd.R_seg h a ha0 ha (c := [.string (rd_T64 s a).f0, .int .i64 (rd_T64 s a).f1, .slice Pa (rd_T64 s a).f2.length qa]) (seg := [.string (rd_T64 s b).f0, .int .i64 (rd_T64 s b).f1, .slice Pb (rd_T64 s b).f2.length qb]) (j := 0) rfl hca (Nat.le_refl 3) (x' := rd_T64 s b) (okp := fun k => oki k ∧ k ≠ gi) hMb (fun _ hk => hk)
  obtain ⟨c2, hl2, hM2, hc2, hf2⟩ := Kd.R_elem R1 z64 b hb0 hb
  have hd : c2.drop 3 = [] := List.drop_eq_nil_of_le (Nat.le_of_eq hl2)
  obtain ⟨R2, G2⟩ := Kd.R_seg R1 b hb0 hb (c := c2) (seg := [.string (rd_T64 s a).f0, .int .i64 (rd_T64 s a).f1, .slice Pa (rd_T64 s a).f2.length qa]) (j := 0) hl2 hc2 (Nat.le_refl 3) (x' := rd_T64 s a) (okp := fun k => oki k ∧ k ≠ gi) (by
    show k64.M _ base _ (rd_T64 s a) ([] ++ [.string (rd_T64 s a).f0, .int .i64 (rd_T64 s a).f1, .slice Pa (rd_T64 s a).f2.length qa] ++ c2.drop 3)
    rw [hd]
    exact Kd.M_grown hMa G1 (fun k hk he => hk.2 (by injection he))) (fun _ hk => hk)
  exact ⟨Pa, qa, Pb, qb, ⟨hca 0 _ rfl, hca 1 _ rfl, hca 2 _ rfl⟩, ⟨hcb 0 _ rfl, hcb 1 _ rfl, hcb 2 _ rfl⟩, hfa, hfb, (by obtain ⟨v2, e_, _⟩ := k64_openM hM2; rw [e_] at hc2; exact ⟨_, _, _, hc2 0 _ rfl, hc2 1 _ rfl, hc2 2 _ rfl⟩), hf2, G1, G2, R2⟩
theorem row_data (h : Kd.R k64 64 W base oki (.slice (some ⟨gi, 0, none⟩) r ci) s) (a : Int) (ha0 : 0 ≤ a) (ha : a < r) {okd : Nat → Prop} {d : List Int} (hd : Kd.R (Kd.int .u8) 5 W base okd v d) (hok : ∀ k, okd k → oki k) :
    (∀ j, W.frozen? ⟨gi, a.toNat * 3 + j, none⟩ = false) ∧ W.grownBy (W.setCells gi (a.toNat * 3 + 2) [v]) (some gi) ∧ Kd.R k64 64 (W.setCells gi (a.toNat * 3 + 2) [v]) base oki (.slice (some ⟨gi, 0, none⟩) r ci) (s.set a.toNat ⟨(rd_T64 s a).f0, (rd_T64 s a).f1, d⟩) := by
  obtain ⟨ca, _, hMa, hca, hfa⟩ := Kd.R_elem h z64 a ha0 ha
  obtain ⟨va, rfl, ga⟩ := k64_openM hMa
  obtain ⟨cells, hcel⟩ := Kd.R_typed h gi (by simp [Value.ownBlock])
  have hd2 : Kd.R (Kd.int .u8) 5 W base (fun k => oki k ∧ k ≠ gi) v d := Kd.R_mono (Kd.R_types hd hcel (by decide)) (fun k hk => ⟨hok k hk.1, hk.2⟩)
  obtain ⟨R1, G1⟩ := Kd.R_seg h a ha0 ha (c := [.string (rd_T64 s a).f0, .int .i64 (rd_T64 s a).f1, va]) (seg := [v]) (j := 2) rfl hca (Nat.le_refl 3) (x' := (⟨(rd_T64 s a).f0, (rd_T64 s a).f1, d⟩ : S64)) (okp := fun k => oki k ∧ k ≠ gi) (k64_mkM W base _ (⟨(rd_T64 s a).f0, (rd_T64 s a).f1, d⟩ : S64) hd2) (fun _ hk => hk)
  exact ⟨hfa, G1, R1⟩
end
end Go.Proofs.YtkioddjjfifadaaGreatDoor.P
namespace Go.Proofs.YtkioddjjfifadaaGreatDoor.P
open Go.RowKit Go.Proofs.YtkioddjjfifadaaGreatDoorW.PrintWords Go.Proofs.YtkioddjjfifadaaGreatDoorW.PrintMore
def Swd (s : List S64) (k : Nat) (r : List S64) : Prop := r.length = s.length ∧ ∀ j, j < s.length → r[j]? = if j < k ∨ s.length - k ≤ j then s[s.length - 1 - j]? else s[j]?
theorem swd_zero (s : List S64) : Swd s 0 s := ⟨rfl, fun j hj => by rw [if_neg (by omega)]⟩
theorem swd_get {s r : List S64} {k : Nat} (h : Swd s k r) (hk : k < s.length / 2) : some (r.getD k z64) = s[k]? ∧ some (r.getD (s.length - 1 - k) z64) = s[s.length - 1 - k]? := by
  obtain ⟨hl, h⟩ := h
  have ha : r[k]? = s[k]? := by rw [h k (by omega), if_neg (by omega)]
  have hb : r[s.length - 1 - k]? = s[s.length - 1 - k]? := by rw [h _ (by omega), if_neg (by omega)]
  constructor
  rotate_left
  · rw [List.getD_eq_getElem?_getD, hb, List.getElem?_eq_getElem (by omega)]
    rfl
  rw [List.getD_eq_getElem?_getD, ha, List.getElem?_eq_getElem (by omega)]
  rfl
theorem swd_step {s r : List S64} {k : Nat} (h : Swd s k r) (hk : k < s.length / 2) : Swd s (k + 1) ((r.set k (r.getD (s.length - 1 - k) z64)).set (s.length - 1 - k) (r.getD k z64)) := by
  obtain ⟨ga, gb⟩ := swd_get h hk
  obtain ⟨hl, h⟩ := h
  refine ⟨by rw [List.length_set, List.length_set, hl], fun j hj => ?_⟩
  rw [List.getElem?_set, List.getElem?_set, List.length_set]
  by_cases c1 : s.length - 1 - k = j
  · rw [if_pos c1, if_pos (by omega), if_pos (by omega), ga]
    congr 1
    omega
  rw [if_neg c1]
  by_cases c2 : k = j
  · rw [if_pos c2, if_pos (by omega), if_pos (by omega), gb]
    congr 1
    omega
  rw [if_neg c2, h j hj]
  by_cases c3 : j < k ∨ s.length - k ≤ j
  rotate_left
  · rw [if_neg c3, if_neg (by omega)]
  rw [if_pos c3, if_pos (by omega)]
theorem swd_end {s r : List S64} (h : Swd s (s.length / 2) r) : r = s.reverse := by
  obtain ⟨hl, h⟩ := h
  apply List.ext_getElem?
  intro j
  by_cases hj : j < s.length
  rotate_left
  · rw [List.getElem?_eq_none (by omega), List.getElem?_eq_none (by rw [List.length_reverse]; omega)]
  rw [h j hj, List.getElem?_reverse hj]
  by_cases c3 : j < s.length / 2 ∨ s.length - s.length / 2 ≤ j
  · rw [if_pos c3]
  rw [if_neg c3]
  congr 1
  omega
section
variable {α : Type} (f : α → α) (r : List α) (z : α) (k : Nat)
def doneK : List α := (r.take k).map f ++ r.drop k
theorem doneK_len : (doneK f r k).length = r.length := by
  unfold doneK
  rw [List.length_append, List.length_map, List.length_take, List.length_drop]
  omega
theorem doneK_zero : doneK f r 0 = r := by simp [doneK]
theorem doneK_end : doneK f r r.length = r.map f := by simp [doneK]
theorem doneK_get (hk : k < r.length) : (doneK f r k).getD k z = r.getD k z := by
  unfold doneK
  rw [List.getD_eq_getElem?_getD, List.getD_eq_getElem?_getD, List.getElem?_append_right (by rw [List.length_map, List.length_take]; omega), List.getElem?_drop]
  congr 2
  rw [List.length_map, List.length_take]
  omega
theorem doneK_step (hk : k < r.length) : (doneK f r k).set k (f (r.getD k z)) = doneK f r (k + 1) := by
  apply List.ext_getElem?
  intro j
  have e1 : ∀ q, (doneK f r q)[j]? = if j < q then (r[j]?).map f else r[j]? := fun q => by
    unfold doneK
    by_cases c : j < q
    · rw [if_pos c]
      by_cases d : j < r.length
      · rw [List.getElem?_append_left (by rw [List.length_map, List.length_take]; omega), List.getElem?_map, List.getElem?_take, if_pos c]
      · rw [List.getElem?_eq_none (by rw [List.length_append, List.length_map, List.length_take, List.length_drop]; omega), List.getElem?_eq_none (by omega)]
        rfl
    · rw [if_neg c, List.getElem?_append_right (by rw [List.length_map, List.length_take]; omega), List.getElem?_drop, List.length_map, List.length_take]
      by_cases d : q ≤ r.length
      · congr 1
        omega
      · rw [List.getElem?_eq_none (by omega), List.getElem?_eq_none (by omega)]
  rw [List.getElem?_set, e1, e1, doneK_len]
  by_cases c : k = j
  · subst c
    rw [if_pos rfl, if_pos hk, if_pos (by omega), List.getD_eq_getElem?_getD, List.getElem?_eq_getElem hk]
    rfl
  rw [if_neg c]
  by_cases d : j < k
  rotate_left
  · rw [if_neg d, if_neg (by omega)]
  rw [if_pos d, if_pos (by omega)]
end
theorem set_getD {α : Type} (l : List α) (i : Nat) (z : α) (h : i < l.length) : l.set i (l.getD i z) = l := by
  rw [List.getD_eq_getElem?_getD, List.getElem?_eq_getElem h]
  exact List.set_getElem_self h
theorem getD_set {α : Type} (l : List α) (i : Nat) (z a : α) (h : i < l.length) : (l.set i a).getD i z = a := by
  rw [List.getD_eq_getElem?_getD, List.getElem?_set_self h]
  rfl
end Go.Proofs.YtkioddjjfifadaaGreatDoor.P
namespace Go.Proofs.YtkioddjjfifadaaGreatDoor.P
open Go.RowKit Go.Proofs.YtkioddjjfifadaaGreatDoorW.PrintWords Go.Proofs.YtkioddjjfifadaaGreatDoorW.PrintLast Go.Proofs.YtkioddjjfifadaaGreatDoorW.PrintMore
attribute [local go_sem] max2_int min2_int max_two min_two max_three min_three max_four min_four
set_option linter.unusedVariables false
set_option linter.unusedSimpArgs false
def chirographlaw07_plain.l0 : Nat → List Int → Int → Option (Bool)
  | 0, _, _ => none
  | k + 1, x0, x3 => if x3 < (x0.length : Int) then (if 0 ≤ x3 then (if (rd x0 x3) = 32 then (chirographlaw07_plain.l0 k x0 (wrap64 (x3 + 1))) else (if (Go.bits .or .u8 (rd x0 x3) 32) < 97 then (some false) else (if (Go.bits .or .u8 (rd x0 x3) 32) > 122 then (some false) else (chirographlaw07_plain.l0 k x0 (wrap64 (x3 + 1)))))) else (none)) else (some true)
def chirographlaw07_plain.f (k : Nat) (l0 : List Int) : Option (Bool) := chirographlaw07_plain.l0 k l0 0
set_option maxHeartbeats 8000000 in
set_option maxRecDepth 100000 in
theorem chirographlaw07_plain.calls (k : Nat) (A0 : Option Addr) (c0 : Nat) (l0 : List Int) (r : Bool) (w : World) (hr0 : Kd.C (Kd.int .u8) w A0 l0.length l0) (hc0 : l0.length ≤ c0) (h : chirographlaw07_plain.f k l0 = some r) :
    Calls Tryz.prog 46 #[.slice A0 l0.length c0] w fun e w' => e = .returned (.bool r) ∧ Drawn0 w w' := by
  have HR0 := Aside0.mk hr0
  have HC0 := Aside0.mk hc0
  clear hr0 hc0
  have H : (chirographlaw07_plain.l0 k l0 0) = some r := h
  clear h
  have H' := Aside0.mk H
  clear H
  go_enter Tryz.func46, Tryz.ntmps46
  go_wp2
  go_loopg [3] k (fun kq v3 w' => ∃ (x3_1 : Int), v3 = .int .i64 x3_1 ∧ Aside0 (chirographlaw07_plain.l0 kq l0 x3_1 = some r) ∧ Aside0 (kq ≤ k) ∧ Drawn0 w w')
  case atStart => exact ⟨(0), (by first | rfl | (simp; done) | (simp [*]; done)), H', ⟨Nat.le_refl _⟩, by repeat (first | exact Drawn0.refl _ | apply Drawn0.step)⟩
  case round =>
    clear H'
    obtain ⟨x3_1, rfl, HA, HK1, ⟨m1, rfl⟩⟩ := hrel
    cases gk with
    | zero => exact absurd HA.out (by simp [chirographlaw07_plain.l0])
    | succ k1 =>
      have H := HA.out
      clear HA
      simp only [chirographlaw07_plain.l0] at H
      by_cases c2 : x3_1 < (l0.length : Int)
      rotate_left
      · rw [if_neg c2] at H
        have c2b0 : decide (x3_1 < (l0.length : Int)) = false := decide_eq_false c2
        clear c2
        obtain rfl := Option.some.inj H
        go_wp2
        go_ret
        exact ⟨by first | rfl | (simp; done) | (simp [*]; done), by repeat (first | exact Drawn0.refl _ | apply Drawn0.step)⟩
      rw [if_pos c2] at H
      have c2b0 : decide (x3_1 < (l0.length : Int)) = true := decide_eq_true c2
      clear c2
      by_cases c3 : 0 ≤ x3_1
      rotate_left
      · rw [if_neg c3] at H
        exact absurd H (by simp)
      rw [if_pos c3] at H
      have c3b0 : decide (0 ≤ x3_1) = true := decide_eq_true c3
      clear c3
      by_cases c4 : (rd l0 x3_1) = 32
      · rw [if_pos c4] at H
        have c4b0 : ((rd l0 x3_1) == 32) = true := beq_iff_eq.mpr c4
        have c4b1 : ((rd l0 x3_1) != 32) = false := bne_eq_false_iff_eq.mpr c4
        clear c4
        have H' := Aside0.mk H
        clear H
        have p1119 : 0 ≤ (x3_1 : Int) := of_decide_eq_true (by first | (with_reducible assumption) | assumption)
        have q1119 : x3_1 < (l0.length : Int) := of_decide_eq_true (by first | (with_reducible assumption) | assumption)
        obtain ⟨ad1119, e1119, hx1119_0⟩ := Kd.at_int HR0.out x3_1 p1119 q1119
        cases e1119
        replace p1119 := eq_true p1119
        replace q1119 := eq_true q1119
        go_wp2
        go_roundg k1
        case measure => have := HK1.out; omega
        case rel => exact ⟨(wrap64 (x3_1 + 1)), (by first | rfl | (simp; done) | (simp [*]; done)), H', ⟨by have := HK1.out; omega⟩, by repeat (first | exact Drawn0.refl _ | apply Drawn0.step)⟩
      rw [if_neg c4] at H
      have c4b0 : ((rd l0 x3_1) == 32) = false := beq_eq_false_iff_ne.mpr c4
      have c4b1 : ((rd l0 x3_1) != 32) = true := bne_iff_ne.mpr c4
      by_cases c5 : (Go.bits .or .u8 (rd l0 x3_1) 32) < 97
      · rw [if_pos c5] at H
        have c5b0 : decide ((Go.bits .or .u8 (rd l0 x3_1) 32) < 97) = true := decide_eq_true c5
        clear c5
        obtain rfl := Option.some.inj H
        have p1119 : 0 ≤ (x3_1 : Int) := of_decide_eq_true (by first | (with_reducible assumption) | assumption)
        have q1119 : x3_1 < (l0.length : Int) := of_decide_eq_true (by first | (with_reducible assumption) | assumption)
        obtain ⟨ad1119, e1119, hx1119_0⟩ := Kd.at_int HR0.out x3_1 p1119 q1119
        cases e1119
        replace p1119 := eq_true p1119
        replace q1119 := eq_true q1119
        have p1120 : 0 ≤ (x3_1 : Int) := of_decide_eq_true (by first | (with_reducible assumption) | assumption)
        have q1120 : x3_1 < (l0.length : Int) := of_decide_eq_true (by first | (with_reducible assumption) | assumption)
        obtain ⟨ad1120, e1120, hx1120_0⟩ := Kd.at_int HR0.out x3_1 p1120 q1120
        obtain rfl : ad1119 = ad1120 := (by injection e1120)
        replace p1120 := eq_true p1120
        replace q1120 := eq_true q1120
        go_wp2
        go_ret
        exact ⟨by first | rfl | (simp; done) | (simp [*]; done), by repeat (first | exact Drawn0.refl _ | apply Drawn0.step)⟩
      rw [if_neg c5] at H
      have c5b0 : decide ((Go.bits .or .u8 (rd l0 x3_1) 32) < 97) = false := decide_eq_false c5
      clear c5
      by_cases c6 : (Go.bits .or .u8 (rd l0 x3_1) 32) > 122
      · rw [if_pos c6] at H
        have c6b0 : decide (122 < (Go.bits .or .u8 (rd l0 x3_1) 32)) = true := decide_eq_true c6
        clear c6
        obtain rfl := Option.some.inj H
        have p1119 : 0 ≤ (x3_1 : Int) := of_decide_eq_true (by first | (with_reducible assumption) | assumption)
        have q1119 : x3_1 < (l0.length : Int) := of_decide_eq_true (by first | (with_reducible assumption) | assumption)
        obtain ⟨ad1119, e1119, hx1119_0⟩ := Kd.at_int HR0.out x3_1 p1119 q1119
        cases e1119
        replace p1119 := eq_true p1119
        replace q1119 := eq_true q1119
        have p1120 : 0 ≤ (x3_1 : Int) := of_decide_eq_true (by first | (with_reducible assumption) | assumption)
        have q1120 : x3_1 < (l0.length : Int) := of_decide_eq_true (by first | (with_reducible assumption) | assumption)
        obtain ⟨ad1120, e1120, hx1120_0⟩ := Kd.at_int HR0.out x3_1 p1120 q1120
        obtain rfl : ad1119 = ad1120 := (by injection e1120)
        replace p1120 := eq_true p1120
        replace q1120 := eq_true q1120
        have p1121 : 0 ≤ (x3_1 : Int) := of_decide_eq_true (by first | (with_reducible assumption) | assumption)
        have q1121 : x3_1 < (l0.length : Int) := of_decide_eq_true (by first | (with_reducible assumption) | assumption)
        obtain ⟨ad1121, e1121, hx1121_0⟩ := Kd.at_int HR0.out x3_1 p1121 q1121
        obtain rfl : ad1119 = ad1121 := (by injection e1121)
        replace p1121 := eq_true p1121
        replace q1121 := eq_true q1121
        go_wp2
        go_ret
        exact ⟨by first | rfl | (simp; done) | (simp [*]; done), by repeat (first | exact Drawn0.refl _ | apply Drawn0.step)⟩
      rw [if_neg c6] at H
      have c6b0 : decide (122 < (Go.bits .or .u8 (rd l0 x3_1) 32)) = false := decide_eq_false c6
      clear c6
      have H' := Aside0.mk H
      clear H
      have p1119 : 0 ≤ (x3_1 : Int) := of_decide_eq_true (by first | (with_reducible assumption) | assumption)
      have q1119 : x3_1 < (l0.length : Int) := of_decide_eq_true (by first | (with_reducible assumption) | assumption)
      obtain ⟨ad1119, e1119, hx1119_0⟩ := Kd.at_int HR0.out x3_1 p1119 q1119
      cases e1119
      replace p1119 := eq_true p1119
      replace q1119 := eq_true q1119
      have p1120 : 0 ≤ (x3_1 : Int) := of_decide_eq_true (by first | (with_reducible assumption) | assumption)
      have q1120 : x3_1 < (l0.length : Int) := of_decide_eq_true (by first | (with_reducible assumption) | assumption)
      obtain ⟨ad1120, e1120, hx1120_0⟩ := Kd.at_int HR0.out x3_1 p1120 q1120
      obtain rfl : ad1119 = ad1120 := (by injection e1120)
      replace p1120 := eq_true p1120
      replace q1120 := eq_true q1120
      have p1121 : 0 ≤ (x3_1 : Int) := of_decide_eq_true (by first | (with_reducible assumption) | assumption)
      have q1121 : x3_1 < (l0.length : Int) := of_decide_eq_true (by first | (with_reducible assumption) | assumption)
      obtain ⟨ad1121, e1121, hx1121_0⟩ := Kd.at_int HR0.out x3_1 p1121 q1121
      obtain rfl : ad1119 = ad1121 := (by injection e1121)
      replace p1121 := eq_true p1121
      replace q1121 := eq_true q1121
      go_wp2
      go_roundg k1
      case measure => have := HK1.out; omega
      case rel => exact ⟨(wrap64 (x3_1 + 1)), (by first | rfl | (simp; done) | (simp [*]; done)), H', ⟨by have := HK1.out; omega⟩, by repeat (first | exact Drawn0.refl _ | apply Drawn0.step)⟩
end Go.Proofs.YtkioddjjfifadaaGreatDoor.P
namespace Go.Proofs.YtkioddjjfifadaaGreatDoor.P
open Go.RowKit Go.Proofs.YtkioddjjfifadaaGreatDoorW.PrintWords Go.Proofs.YtkioddjjfifadaaGreatDoorW.PrintLast Go.Proofs.YtkioddjjfifadaaGreatDoorW.PrintMore
attribute [local go_sem] max2_int min2_int max_two min_two max_three min_three max_four min_four
set_option linter.unusedVariables false
set_option linter.unusedSimpArgs false
mutual
def chirographlaw07_turned.l0 : Nat → List Int → List Int → List Int → Int → Option (List Int)
  | 0, _, _, _, _ => none
  | k + 1, x0, x1, x5, x6 => if x6 < (x0.length : Int) then (if (x1.length : Int) > 0 then (if (x1.length : Int) = 0 then (none) else (if 0 ≤ (Int.tmod x6 (x1.length : Int)) then (if (Int.tmod x6 (x1.length : Int)) < (x1.length : Int) then (chirographlaw07_turned.j1 k x0 x1 x5 x6 (rd x1 (Int.tmod x6 (x1.length : Int)))) else (none)) else (none))) else (chirographlaw07_turned.j1 k x0 x1 x5 x6 1)) else (if x5.length < 140737488355328 then (some (x5 ++ [32])) else (none))
def chirographlaw07_turned.j1 : Nat → List Int → List Int → List Int → Int → Int → Option (List Int)
  | 0, _, _, _, _, _ => none
  | k + 1, x0, x1, x5, x6, x7 => if 0 ≤ x6 then (if x6 < (x0.length : Int) then (if (rd x0 x6) = 32 then (chirographlaw07_turned.j2 k x0 x1 x5 x6 x7 (rd x0 x6) false) else (chirographlaw07_turned.j2 k x0 x1 x5 x6 x7 (rd x0 x6) ((Int.tmod x7 2) == 1))) else (none)) else (none)
def chirographlaw07_turned.j2 : Nat → List Int → List Int → List Int → Int → Int → Int → Bool → Option (List Int)
  | 0, _, _, _, _, _, _, _ => none
  | k + 1, x0, x1, x5, x6, x7, x8, x35 => if x35 = true then (if x5.length < 140737488355328 then ((some (x5 ++ [Go.bits .xor .u8 x8 32] : List Int)).bind fun y800 => (if (Go.bits .xor .u8 x8 32) = 32 then (if (Int.tmod x7 2) = 1 then (if y800.length < 140737488355328 then (chirographlaw07_turned.l0 k x0 x1 (y800 ++ [32]) (wrap64 (x6 + 1))) else (none)) else (chirographlaw07_turned.l0 k x0 x1 y800 (wrap64 (x6 + 1)))) else (chirographlaw07_turned.l0 k x0 x1 y800 (wrap64 (x6 + 1))))) else (none)) else (if x5.length < 140737488355328 then ((some (x5 ++ [x8] : List Int)).bind fun y806 => (if x8 = 32 then (if (Int.tmod x7 2) = 1 then (if y806.length < 140737488355328 then (chirographlaw07_turned.l0 k x0 x1 (y806 ++ [32]) (wrap64 (x6 + 1))) else (none)) else (chirographlaw07_turned.l0 k x0 x1 y806 (wrap64 (x6 + 1)))) else (chirographlaw07_turned.l0 k x0 x1 y806 (wrap64 (x6 + 1))))) else (none))
end
def chirographlaw07_turned.f (k : Nat) (l0 : List Int) (l1 : List Int) : Option (List Int) := chirographlaw07_turned.l0 k l0 l1 ([] : List Int) 0
set_option maxHeartbeats 8000000 in
set_option maxRecDepth 100000 in
theorem chirographlaw07_turned.calls (k : Nat) (A0 : Option Addr) (c0 : Nat) (l0 : List Int) (A1 : Option Addr) (c1 : Nat) (l1 : List Int) (r : List Int) (w : World) (hr0 : Kd.C (Kd.int .u8) w A0 l0.length l0) (hc0 : l0.length ≤ c0) (hr1 : Kd.C (Kd.int .u8) w A1 l1.length l1) (hc1 : l1.length ≤ c1) (h : chirographlaw07_turned.f k l0 l1 = some r) :
    Calls Tryz.prog 47 #[.slice A0 l0.length c0, .slice A1 l1.length c1] w fun e w' => ∃ v0_ : Value, e = .returned (v0_) ∧ Kd.R (Kd.int .u8) 5 w' w.heap.size (fun _ => True) v0_ r ∧ Below w.heap.size w w' := by
  have HR0 := Aside0.mk hr0
  have HC0 := Aside0.mk hc0
  clear hr0 hc0
  have HR1 := Aside0.mk hr1
  have HC1 := Aside0.mk hc1
  clear hr1 hc1
  have HB := Aside0.mk (Below.refl w.heap.size w)
  have H : (chirographlaw07_turned.l0 k l0 l1 ([] : List Int) 0) = some r := h
  clear h
  have H' := Aside0.mk H
  clear H
  go_enter Tryz.func47, Tryz.ntmps47
  go_wp2
  go_loopg [5, 6] k (fun kq v5 v6 w' => ∃ (x5_1 : List Int) (x6_1 : Int), v6 = .int .i64 x6_1 ∧ Aside0 (chirographlaw07_turned.l0 kq l0 l1 x5_1 x6_1 = some r) ∧ Aside0 (kq ≤ k) ∧ Aside0 (Kd.R (Kd.int .u8) 5 w' w.heap.size (fun _ => True) v5 x5_1) ∧ Aside0 (Below w.heap.size w w'))
  case atStart => exact ⟨(([] : List Int)), (0), (by first | rfl | (simp; done) | (simp [*]; done)), H', ⟨Nat.le_refl _⟩, ⟨by first | exact Kd.R_nil _ _ _ _ _ | exact Kd.N_nil _ _ _ _ _ | exact Kd.V_nil _ _ _ _ _ | exact Kd.Q_nil _ _ _ _ _ | exact Kd.S_nil _ _ _ _ _⟩, ⟨bU HB.out⟩⟩
  case round =>
    clear H'
    try clear c1
    try clear p2
    obtain ⟨x5_1, x6_1, rfl, HA, HK1, HO_5, HB⟩ := hrel
    cases gk with
    | zero => exact absurd HA.out (by simp [chirographlaw07_turned.l0])
    | succ k1 =>
      have H := HA.out
      clear HA
      simp only [chirographlaw07_turned.l0] at H
      by_cases c3 : x6_1 < (l0.length : Int)
      rotate_left
      · rw [if_neg c3] at H
        have c3b0 : decide (x6_1 < (l0.length : Int)) = false := decide_eq_false c3
        clear c3
        by_cases c30 : x5_1.length < 140737488355328
        rotate_left
        · rw [if_neg c30] at H
          exact absurd H (by simp)
        rw [if_pos c30] at H
        have LMc30 := Aside0.mk c30
        clear c30
        obtain ⟨y795, hy795⟩ : ∃ y_ : List Int, y_ = (x5_1 ++ [32]) := ⟨_, rfl⟩
        replace H : (some y795) = some r := by first | (rw [hy795]; with_reducible exact H) | (have H2_ := (Option.bind_some _ _).symm.trans H; rw [hy795]; with_reducible exact H2_) | (have H2_ := (Option.bind_some _ _).symm.trans H; with_reducible exact H2_) | with_reducible exact H | (rw [hy795]; exact H) | exact H
        have Ny795 := Aside0.mk hy795
        clear hy795
        obtain rfl := Option.some.inj H
        go_wp2_with (first | ((with_reducible refine gate_builtin (b := .append) (xs := #[.tmp 52, .tmp 53]) rfl ?_); at_builtin; refine Kd.R_append (Kd.int .u8) (w0 := w) w.heap.size rfl (.tmp 52) (.tmp 53) 22 5 (.int .u8 0) 1 rfl Tryz.underlying22 info5 rfl (by decide) (by omega) u5 x5_1 32 [.int .u8 32] (fun _ => True) (fun _ => False) rfl rfl ?aP (fun _ hk => hk.elim) ?aF ?aO ?aB ?aS ?aL ?_; (case aP => exact rfl); (case aB => exact (bU HB.out)); (case aF => exact (fun _ _ => trivial)); (case aO => exact (Kd.R_u HO_5.out)); (case aS => exact (below_size (bU HB.out))); (case aL => have := LMc30.out; omega); intro v796 w31 ho hb hg hat; rw [← Ny795.out] at ho; have n0_ := Aside0.mk (hb); have n1_ := Aside0.mk (ho); clear HB; clear HO_5; have HB := n0_; have HO797 := n1_; clear n0_ n1_; clear ho hb hg hat))
        go_ret
        exact ⟨_, by first | rfl | (simp [errW_none, errW_some] <;> rfl), by (with_reducible repeat (first | apply Kd.R_alloc | apply Kd.R_drewN | apply Kd.R_drew)); exact HO797.out, bU HB.out⟩
      rw [if_pos c3] at H
      have c3b0 : decide (x6_1 < (l0.length : Int)) = true := decide_eq_true c3
      clear c3
      have HC4 := Aside0.mk H
      clear H
      go_upto_if 17 with (fail)
      go_cut [7] (fun v7 wc => ∃ (kq : Nat) (x7_3 : Int), v7 = .int .u8 x7_3 ∧ Aside0 (chirographlaw07_turned.j1 kq l0 l1 x5_1 x6_1 x7_3 = some r) ∧ Aside0 (kq ≤ k1) ∧ Aside0 (Kd.R (Kd.int .u8) 5 wc w.heap.size (fun _ => True) u5 x5_1) ∧ Aside0 (Below w.heap.size w wc))
      case first =>
        have H := HC4.out
        clear HC4
        by_cases c5 : (l1.length : Int) > 0
        rotate_left
        · rw [if_neg c5] at H
          obtain rfl : l1 = [] := List.length_eq_zero_iff.1 (by omega)
          clear c5
          have H' := Aside0.mk H
          clear H
          go_wp2
          go_meet
          case rel => exact ⟨_, (1), (by first | rfl | (simp; done) | (simp [*]; done)), H', ⟨by have := HK1.out; first | omega | exact Nat.le_refl _⟩, ⟨Kd.R_u HO_5.out⟩, ⟨bU HB.out⟩⟩
        rw [if_pos c5] at H
        have c5b0 : decide (0 < (l1.length : Int)) = true := decide_eq_true c5
        have c5b1 : decide (0 < l1.length) = true := decide_eq_true (by omega)
        clear c5
        (first | rw [c5b0] | (simp only [i64_w, i32_w]; rw [c5b0]) | skip)
        by_cases c6 : (l1.length : Int) = 0
        · rw [if_pos c6] at H
          exact absurd H (by simp)
        rw [if_neg c6] at H
        have c6b0 : ((l1.length : Int) == 0) = false := beq_eq_false_iff_ne.mpr c6
        have c6b1 : ((l1.length : Int) != 0) = true := bne_iff_ne.mpr c6
        have c6b2 : ¬ (l1 = []) := fun h_ => c6 (by rw [h_]; rfl)
        by_cases c7 : 0 ≤ (Int.tmod x6_1 (l1.length : Int))
        rotate_left
        · rw [if_neg c7] at H
          exact absurd H (by simp)
        rw [if_pos c7] at H
        have c7b0 : decide (0 ≤ (Int.tmod x6_1 (l1.length : Int))) = true := decide_eq_true c7
        clear c7
        by_cases c8 : (Int.tmod x6_1 (l1.length : Int)) < (l1.length : Int)
        rotate_left
        · rw [if_neg c8] at H
          exact absurd H (by simp)
        rw [if_pos c8] at H
        have c8b0 : decide ((Int.tmod x6_1 (l1.length : Int)) < (l1.length : Int)) = true := decide_eq_true c8
        clear c8
        have H' := Aside0.mk H
        clear H
        have p798 : 0 ≤ ((Int.tmod x6_1 (l1.length : Int)) : Int) := of_decide_eq_true (by first | (with_reducible assumption) | assumption)
        have q798 : (Int.tmod x6_1 (l1.length : Int)) < (l1.length : Int) := of_decide_eq_true (by first | (with_reducible assumption) | assumption)
        obtain ⟨ad798, e798, hx798_0⟩ := Kd.at_int HR1.out (Int.tmod x6_1 (l1.length : Int)) p798 q798
        cases e798
        replace hx798_0 := (HB.out.cell (World.block_lt_of_cell? w _ hx798_0)).trans hx798_0
        (try simp only [Go.IntWalk.toNatUp] at hx798_0)
        replace p798 := eq_true p798
        replace q798 := eq_true q798
        go_wp2
        go_meet
        case rel => exact ⟨_, (rd l1 (Int.tmod x6_1 (l1.length : Int))), (by first | rfl | (simp; done) | (simp [*]; done)), H', ⟨by have := HK1.out; first | omega | exact Nat.le_refl _⟩, ⟨Kd.R_u HO_5.out⟩, ⟨bU HB.out⟩⟩
      clear HC4
      try clear c1
      try clear p2
      try clear c3
      try clear c3b0
      try clear c4
      try clear c5
      try clear c5b0
      try clear c5b1
      try clear c6
      try clear c6b0
      try clear c6b1
      try clear c6b2
      try clear c7
      try clear c7b0
      try clear p7
      try clear q7
      try clear hx7
      try clear c8
      try clear c8b0
      try clear hx798_0
      try clear p2
      try clear p798
      try clear q798
      obtain ⟨kq, x7_3, rfl, HA, HJ3, HO_5, HB⟩ := hcut
      cases kq with
      | zero => exact absurd HA.out (by simp [chirographlaw07_turned.j1])
      | succ kj3 =>
        have H := HA.out
        clear HA
        simp only [chirographlaw07_turned.j1] at H
        by_cases c9 : 0 ≤ x6_1
        rotate_left
        · rw [if_neg c9] at H
          exact absurd H (by simp)
        rw [if_pos c9] at H
        have c9b0 : decide (0 ≤ x6_1) = true := decide_eq_true c9
        clear c9
        by_cases c10 : x6_1 < (l0.length : Int)
        rotate_left
        · rw [if_neg c10] at H
          exact absurd H (by simp)
        rw [if_pos c10] at H
        have c10b0 : decide (x6_1 < (l0.length : Int)) = true := decide_eq_true c10
        clear c10
        have HC11 := Aside0.mk H
        clear H
        have p799 : 0 ≤ (x6_1 : Int) := of_decide_eq_true (by first | (with_reducible assumption) | assumption)
        have q799 : x6_1 < (l0.length : Int) := of_decide_eq_true (by first | (with_reducible assumption) | assumption)
        obtain ⟨ad799, e799, hx799_0⟩ := Kd.at_int HR0.out x6_1 p799 q799
        cases e799
        replace hx799_0 := (HB.out.cell (World.block_lt_of_cell? w _ hx799_0)).trans hx799_0
        replace p799 := eq_true p799
        replace q799 := eq_true q799
        go_upto_region 9 with (fail)
        go_cut [35] (fun v35 wc => ∃ (kq : Nat) (x35_10 : Bool), v35 = .bool x35_10 ∧ Aside0 (chirographlaw07_turned.j2 kq l0 l1 x5_1 x6_1 x7_3 (rd l0 x6_1) x35_10 = some r) ∧ Aside0 (kq ≤ kj3) ∧ Aside0 (Kd.R (Kd.int .u8) 5 wc w.heap.size (fun _ => True) u5 x5_1) ∧ Aside0 (Below w.heap.size w wc))
        case first =>
          have H := HC11.out
          clear HC11
          by_cases c12 : (rd l0 x6_1) = 32
          rotate_left
          · rw [if_neg c12] at H
            have c12b0 : ((rd l0 x6_1) == 32) = false := beq_eq_false_iff_ne.mpr c12
            have c12b1 : ((rd l0 x6_1) != 32) = true := bne_iff_ne.mpr c12
            (first | rw [c12b0] | (simp only [i64_w, i32_w]; rw [c12b0]) | skip)
            have H' := Aside0.mk H
            clear H
            go_wp2
            go_meet
            case rel => exact ⟨_, (((Int.tmod x7_3 2) == 1)), (by first | rfl | (simp; done) | (simp [*]; done)), H', ⟨by have := HK1.out; have := HJ3.out; first | omega | exact Nat.le_refl _⟩, ⟨Kd.R_u HO_5.out⟩, ⟨bU HB.out⟩⟩
          rw [if_pos c12] at H
          have c12b0 : ((rd l0 x6_1) == 32) = true := beq_iff_eq.mpr c12
          have c12b1 : ((rd l0 x6_1) != 32) = false := bne_eq_false_iff_eq.mpr c12
          clear c12
          (first | rw [c12b0] | (simp only [i64_w, i32_w]; rw [c12b0]) | skip)
          have H' := Aside0.mk H
          clear H
          go_wp2
          go_meet
          case rel => exact ⟨_, (false), (by first | rfl | (simp; done) | (simp [*]; done)), H', ⟨by have := HK1.out; have := HJ3.out; first | omega | exact Nat.le_refl _⟩, ⟨Kd.R_u HO_5.out⟩, ⟨bU HB.out⟩⟩
        clear HC11
        try clear c1
        try clear p2
        try clear c3
        try clear c3b0
        try clear c4
        try clear c5
        try clear c5b0
        try clear c5b1
        try clear c6
        try clear c6b0
        try clear c6b1
        try clear c6b2
        try clear c7
        try clear c7b0
        try clear p7
        try clear q7
        try clear hx7
        try clear c8
        try clear c8b0
        try clear c9
        try clear c9b0
        try clear c10
        try clear c10b0
        try clear c12
        try clear c12b0
        try clear c12b1
        try clear hx798_0
        try clear hx799_0
        try clear p2
        try clear p7
        try clear p798
        try clear p799
        try clear q7
        try clear q798
        try clear q799
        obtain ⟨kq, x35_10, rfl, HA, HJ10, HO_5, HB⟩ := hcut
        cases kq with
        | zero => exact absurd HA.out (by simp [chirographlaw07_turned.j2])
        | succ kj10 =>
          have H := HA.out
          clear HA
          simp only [chirographlaw07_turned.j2] at H
          by_cases c13 : x35_10 = true
          · subst c13
            have H1 : (if x5_1.length < 140737488355328 then ((some (x5_1 ++ [Go.bits .xor .u8 (rd l0 x6_1) 32] : List Int)).bind fun y800 => (if (Go.bits .xor .u8 (rd l0 x6_1) 32) = 32 then (if (Int.tmod x7_3 2) = 1 then (if y800.length < 140737488355328 then (chirographlaw07_turned.l0 kj10 l0 l1 (y800 ++ [32]) (wrap64 (x6_1 + 1))) else (none)) else (chirographlaw07_turned.l0 kj10 l0 l1 y800 (wrap64 (x6_1 + 1)))) else (chirographlaw07_turned.l0 kj10 l0 l1 y800 (wrap64 (x6_1 + 1))))) else (none)) = some r := by rw [if_pos rfl] at H; exact H
            clear H
            have H := H1
            clear H1
            by_cases c14 : x5_1.length < 140737488355328
            rotate_left
            · rw [if_neg c14] at H
              exact absurd H (by simp)
            rw [if_pos c14] at H
            have LMc14 := Aside0.mk c14
            clear c14
            obtain ⟨y800, hy800⟩ : ∃ y_ : List Int, y_ = (x5_1 ++ [Go.bits .xor .u8 (rd l0 x6_1) 32]) := ⟨_, rfl⟩
            replace H : (if (Go.bits .xor .u8 (rd l0 x6_1) 32) = 32 then (if (Int.tmod x7_3 2) = 1 then (if y800.length < 140737488355328 then (chirographlaw07_turned.l0 kj10 l0 l1 (y800 ++ [32]) (wrap64 (x6_1 + 1))) else (none)) else (chirographlaw07_turned.l0 kj10 l0 l1 y800 (wrap64 (x6_1 + 1)))) else (chirographlaw07_turned.l0 kj10 l0 l1 y800 (wrap64 (x6_1 + 1)))) = some r := by first | (rw [hy800]; with_reducible exact H) | (have H2_ := (Option.bind_some _ _).symm.trans H; rw [hy800]; with_reducible exact H2_) | (have H2_ := (Option.bind_some _ _).symm.trans H; with_reducible exact H2_) | with_reducible exact H | (rw [hy800]; exact H) | exact H
            have Ny800 := Aside0.mk hy800
            clear hy800
            by_cases c15 : (Go.bits .xor .u8 (rd l0 x6_1) 32) = 32
            rotate_left
            · rw [if_neg c15] at H
              have c15b0 : ((Go.bits .xor .u8 (rd l0 x6_1) 32) == 32) = false := beq_eq_false_iff_ne.mpr c15
              have c15b1 : ((Go.bits .xor .u8 (rd l0 x6_1) 32) != 32) = true := bne_iff_ne.mpr c15
              have H' := Aside0.mk H
              clear H
              go_wp2_with (first | ((with_reducible refine gate_builtin (b := .append) (xs := #[.tmp 38, .tmp 40]) rfl ?_); at_builtin; refine Kd.R_append (Kd.int .u8) (w0 := w) w.heap.size rfl (.tmp 38) (.tmp 40) 22 5 (.int .u8 0) 1 rfl Tryz.underlying22 info5 rfl (by decide) (by omega) u5 x5_1 (Go.bits .xor .u8 (rd l0 x6_1) 32) [.int .u8 (Go.bits .xor .u8 (rd l0 x6_1) 32)] (fun _ => True) (fun _ => False) rfl rfl ?aP (fun _ hk => hk.elim) ?aF ?aO ?aB ?aS ?aL ?_; (case aP => exact rfl); (case aB => exact (bU HB.out)); (case aF => exact (fun _ _ => trivial)); (case aO => exact (Kd.R_u HO_5.out)); (case aS => exact (below_size (bU HB.out))); (case aL => have := LMc14.out; omega); intro v801 w21 ho hb hg hat; rw [← Ny800.out] at ho; have n0_ := Aside0.mk (hb); have n1_ := Aside0.mk (ho); clear HB; clear HO_5; have HB := n0_; have HO802 := n1_; clear n0_ n1_; clear ho hb hg hat))
              go_roundg kj10
              case measure => have := HK1.out; have := HJ3.out; have := HJ10.out; omega
              case rel => exact ⟨(y800), (wrap64 (x6_1 + 1)), (by first | rfl | (simp; done) | (simp [*]; done)), H', ⟨by have := HK1.out; have := HJ3.out; have := HJ10.out; omega⟩, ⟨Kd.R_u HO802.out⟩, ⟨bU HB.out⟩⟩
            rw [if_pos c15] at H
            have c15b0 : ((Go.bits .xor .u8 (rd l0 x6_1) 32) == 32) = true := beq_iff_eq.mpr c15
            have c15b1 : ((Go.bits .xor .u8 (rd l0 x6_1) 32) != 32) = false := bne_eq_false_iff_eq.mpr c15
            clear c15
            by_cases c16 : (Int.tmod x7_3 2) = 1
            rotate_left
            · rw [if_neg c16] at H
              have c16b0 : ((Int.tmod x7_3 2) == 1) = false := beq_eq_false_iff_ne.mpr c16
              have c16b1 : ((Int.tmod x7_3 2) != 1) = true := bne_iff_ne.mpr c16
              have H' := Aside0.mk H
              clear H
              go_wp2_with (first | ((with_reducible refine gate_builtin (b := .append) (xs := #[.tmp 38, .tmp 40]) rfl ?_); at_builtin; refine Kd.R_append (Kd.int .u8) (w0 := w) w.heap.size rfl (.tmp 38) (.tmp 40) 22 5 (.int .u8 0) 1 rfl Tryz.underlying22 info5 rfl (by decide) (by omega) u5 x5_1 (Go.bits .xor .u8 (rd l0 x6_1) 32) [.int .u8 (Go.bits .xor .u8 (rd l0 x6_1) 32)] (fun _ => True) (fun _ => False) rfl rfl ?aP (fun _ hk => hk.elim) ?aF ?aO ?aB ?aS ?aL ?_; (case aP => exact rfl); (case aB => exact (bU HB.out)); (case aF => exact (fun _ _ => trivial)); (case aO => exact (Kd.R_u HO_5.out)); (case aS => exact (below_size (bU HB.out))); (case aL => have := LMc14.out; omega); intro v801 w20 ho hb hg hat; rw [← Ny800.out] at ho; have n0_ := Aside0.mk (hb); have n1_ := Aside0.mk (ho); clear HB; clear HO_5; have HB := n0_; have HO802 := n1_; clear n0_ n1_; clear ho hb hg hat))
              go_roundg kj10
              case measure => have := HK1.out; have := HJ3.out; have := HJ10.out; omega
              case rel => exact ⟨(y800), (wrap64 (x6_1 + 1)), (by first | rfl | (simp; done) | (simp [*]; done)), H', ⟨by have := HK1.out; have := HJ3.out; have := HJ10.out; omega⟩, ⟨Kd.R_u HO802.out⟩, ⟨bU HB.out⟩⟩
            rw [if_pos c16] at H
            have c16b0 : ((Int.tmod x7_3 2) == 1) = true := beq_iff_eq.mpr c16
            have c16b1 : ((Int.tmod x7_3 2) != 1) = false := bne_eq_false_iff_eq.mpr c16
            clear c16
            by_cases c17 : y800.length < 140737488355328
            rotate_left
            · rw [if_neg c17] at H
              exact absurd H (by simp)
            rw [if_pos c17] at H
            have LMc17 := Aside0.mk c17
            clear c17
            obtain ⟨y803, hy803⟩ : ∃ y_ : List Int, y_ = (y800 ++ [32]) := ⟨_, rfl⟩
            replace H : (chirographlaw07_turned.l0 kj10 l0 l1 y803 (wrap64 (x6_1 + 1))) = some r := by first | (rw [hy803]; with_reducible exact H) | (have H2_ := (Option.bind_some _ _).symm.trans H; rw [hy803]; with_reducible exact H2_) | (have H2_ := (Option.bind_some _ _).symm.trans H; with_reducible exact H2_) | with_reducible exact H | (rw [hy803]; exact H) | exact H
            have Ny803 := Aside0.mk hy803
            clear hy803
            have H' := Aside0.mk H
            clear H
            go_wp2_with (first | ((with_reducible refine gate_builtin (b := .append) (xs := #[.tmp 38, .tmp 40]) rfl ?_); at_builtin; refine Kd.R_append (Kd.int .u8) (w0 := w) w.heap.size rfl (.tmp 38) (.tmp 40) 22 5 (.int .u8 0) 1 rfl Tryz.underlying22 info5 rfl (by decide) (by omega) u5 x5_1 (Go.bits .xor .u8 (rd l0 x6_1) 32) [.int .u8 (Go.bits .xor .u8 (rd l0 x6_1) 32)] (fun _ => True) (fun _ => False) rfl rfl ?aP (fun _ hk => hk.elim) ?aF ?aO ?aB ?aS ?aL ?_; (case aP => exact rfl); (case aB => exact (bU HB.out)); (case aF => exact (fun _ _ => trivial)); (case aO => exact (Kd.R_u HO_5.out)); (case aS => exact (below_size (bU HB.out))); (case aL => have := LMc14.out; omega); intro v801 w18 ho hb hg hat; rw [← Ny800.out] at ho; have n0_ := Aside0.mk (hb); have n1_ := Aside0.mk (ho); clear HB; clear HO_5; have HB := n0_; have HO802 := n1_; clear n0_ n1_; clear ho hb hg hat) | ((with_reducible refine gate_builtin (b := .append) (xs := #[.tmp 49, .tmp 50]) rfl ?_); at_builtin; refine Kd.R_append (Kd.int .u8) (w0 := w) w.heap.size rfl (.tmp 49) (.tmp 50) 22 5 (.int .u8 0) 1 rfl Tryz.underlying22 info5 rfl (by decide) (by omega) v801 y800 32 [.int .u8 32] (fun _ => True) (fun _ => False) rfl rfl ?aP (fun _ hk => hk.elim) ?aF ?aO ?aB ?aS ?aL ?_; (case aP => exact rfl); (case aB => exact (bU HB.out)); (case aF => exact (fun _ _ => trivial)); (case aO => exact (Kd.R_u HO802.out)); (case aS => exact (below_size (bU HB.out))); (case aL => have := LMc17.out; omega); intro v804 w19 ho hb hg hat; rw [← Ny803.out] at ho; have n0_ := Aside0.mk (hb); have n1_ := Aside0.mk (ho); clear HB; clear HO802; have HB := n0_; have HO805 := n1_; clear n0_ n1_; clear ho hb hg hat))
            go_roundg kj10
            case measure => have := HK1.out; have := HJ3.out; have := HJ10.out; omega
            case rel => exact ⟨(y803), (wrap64 (x6_1 + 1)), (by first | rfl | (simp; done) | (simp [*]; done)), H', ⟨by have := HK1.out; have := HJ3.out; have := HJ10.out; omega⟩, ⟨Kd.R_u HO805.out⟩, ⟨bU HB.out⟩⟩
          replace c13 := Bool.eq_false_iff.mpr c13
          subst c13
          have H1 : (if x5_1.length < 140737488355328 then ((some (x5_1 ++ [(rd l0 x6_1)] : List Int)).bind fun y806 => (if (rd l0 x6_1) = 32 then (if (Int.tmod x7_3 2) = 1 then (if y806.length < 140737488355328 then (chirographlaw07_turned.l0 kj10 l0 l1 (y806 ++ [32]) (wrap64 (x6_1 + 1))) else (none)) else (chirographlaw07_turned.l0 kj10 l0 l1 y806 (wrap64 (x6_1 + 1)))) else (chirographlaw07_turned.l0 kj10 l0 l1 y806 (wrap64 (x6_1 + 1))))) else (none)) = some r := by rw [if_neg (show ¬ (false = true) by decide)] at H; exact H
          clear H
          have H := H1
          clear H1
          by_cases c22 : x5_1.length < 140737488355328
          rotate_left
          · rw [if_neg c22] at H
            exact absurd H (by simp)
          rw [if_pos c22] at H
          have LMc22 := Aside0.mk c22
          clear c22
          obtain ⟨y806, hy806⟩ : ∃ y_ : List Int, y_ = (x5_1 ++ [(rd l0 x6_1)]) := ⟨_, rfl⟩
          replace H : (if (rd l0 x6_1) = 32 then (if (Int.tmod x7_3 2) = 1 then (if y806.length < 140737488355328 then (chirographlaw07_turned.l0 kj10 l0 l1 (y806 ++ [32]) (wrap64 (x6_1 + 1))) else (none)) else (chirographlaw07_turned.l0 kj10 l0 l1 y806 (wrap64 (x6_1 + 1)))) else (chirographlaw07_turned.l0 kj10 l0 l1 y806 (wrap64 (x6_1 + 1)))) = some r := by first | (rw [hy806]; with_reducible exact H) | (have H2_ := (Option.bind_some _ _).symm.trans H; rw [hy806]; with_reducible exact H2_) | (have H2_ := (Option.bind_some _ _).symm.trans H; with_reducible exact H2_) | with_reducible exact H | (rw [hy806]; exact H) | exact H
          have Ny806 := Aside0.mk hy806
          clear hy806
          by_cases c23 : (rd l0 x6_1) = 32
          rotate_left
          · rw [if_neg c23] at H
            have c23b0 : ((rd l0 x6_1) == 32) = false := beq_eq_false_iff_ne.mpr c23
            have c23b1 : ((rd l0 x6_1) != 32) = true := bne_iff_ne.mpr c23
            have H' := Aside0.mk H
            clear H
            go_wp2_with (first | ((with_reducible refine gate_builtin (b := .append) (xs := #[.tmp 38, .tmp 40]) rfl ?_); at_builtin; refine Kd.R_append (Kd.int .u8) (w0 := w) w.heap.size rfl (.tmp 38) (.tmp 40) 22 5 (.int .u8 0) 1 rfl Tryz.underlying22 info5 rfl (by decide) (by omega) u5 x5_1 (rd l0 x6_1) [.int .u8 (rd l0 x6_1)] (fun _ => True) (fun _ => False) rfl rfl ?aP (fun _ hk => hk.elim) ?aF ?aO ?aB ?aS ?aL ?_; (case aP => exact rfl); (case aB => exact (bU HB.out)); (case aF => exact (fun _ _ => trivial)); (case aO => exact (Kd.R_u HO_5.out)); (case aS => exact (below_size (bU HB.out))); (case aL => have := LMc22.out; omega); intro v807 w29 ho hb hg hat; rw [← Ny806.out] at ho; have n0_ := Aside0.mk (hb); have n1_ := Aside0.mk (ho); clear HB; clear HO_5; have HB := n0_; have HO808 := n1_; clear n0_ n1_; clear ho hb hg hat))
            go_roundg kj10
            case measure => have := HK1.out; have := HJ3.out; have := HJ10.out; omega
            case rel => exact ⟨(y806), (wrap64 (x6_1 + 1)), (by first | rfl | (simp; done) | (simp [*]; done)), H', ⟨by have := HK1.out; have := HJ3.out; have := HJ10.out; omega⟩, ⟨Kd.R_u HO808.out⟩, ⟨bU HB.out⟩⟩
          rw [if_pos c23] at H
          have c23b0 : ((rd l0 x6_1) == 32) = true := beq_iff_eq.mpr c23
          have c23b1 : ((rd l0 x6_1) != 32) = false := bne_eq_false_iff_eq.mpr c23
          clear c23
          by_cases c24 : (Int.tmod x7_3 2) = 1
          rotate_left
          · rw [if_neg c24] at H
            have c24b0 : ((Int.tmod x7_3 2) == 1) = false := beq_eq_false_iff_ne.mpr c24
            have c24b1 : ((Int.tmod x7_3 2) != 1) = true := bne_iff_ne.mpr c24
            have H' := Aside0.mk H
            clear H
            go_wp2_with (first | ((with_reducible refine gate_builtin (b := .append) (xs := #[.tmp 38, .tmp 40]) rfl ?_); at_builtin; refine Kd.R_append (Kd.int .u8) (w0 := w) w.heap.size rfl (.tmp 38) (.tmp 40) 22 5 (.int .u8 0) 1 rfl Tryz.underlying22 info5 rfl (by decide) (by omega) u5 x5_1 (rd l0 x6_1) [.int .u8 (rd l0 x6_1)] (fun _ => True) (fun _ => False) rfl rfl ?aP (fun _ hk => hk.elim) ?aF ?aO ?aB ?aS ?aL ?_; (case aP => exact rfl); (case aB => exact (bU HB.out)); (case aF => exact (fun _ _ => trivial)); (case aO => exact (Kd.R_u HO_5.out)); (case aS => exact (below_size (bU HB.out))); (case aL => have := LMc22.out; omega); intro v807 w28 ho hb hg hat; rw [← Ny806.out] at ho; have n0_ := Aside0.mk (hb); have n1_ := Aside0.mk (ho); clear HB; clear HO_5; have HB := n0_; have HO808 := n1_; clear n0_ n1_; clear ho hb hg hat))
            go_roundg kj10
            case measure => have := HK1.out; have := HJ3.out; have := HJ10.out; omega
            case rel => exact ⟨(y806), (wrap64 (x6_1 + 1)), (by first | rfl | (simp; done) | (simp [*]; done)), H', ⟨by have := HK1.out; have := HJ3.out; have := HJ10.out; omega⟩, ⟨Kd.R_u HO808.out⟩, ⟨bU HB.out⟩⟩
          rw [if_pos c24] at H
          have c24b0 : ((Int.tmod x7_3 2) == 1) = true := beq_iff_eq.mpr c24
          have c24b1 : ((Int.tmod x7_3 2) != 1) = false := bne_eq_false_iff_eq.mpr c24
          clear c24
          by_cases c25 : y806.length < 140737488355328
          rotate_left
          · rw [if_neg c25] at H
            exact absurd H (by simp)
          rw [if_pos c25] at H
          have LMc25 := Aside0.mk c25
          clear c25
          obtain ⟨y809, hy809⟩ : ∃ y_ : List Int, y_ = (y806 ++ [32]) := ⟨_, rfl⟩
          replace H : (chirographlaw07_turned.l0 kj10 l0 l1 y809 (wrap64 (x6_1 + 1))) = some r := by first | (rw [hy809]; with_reducible exact H) | (have H2_ := (Option.bind_some _ _).symm.trans H; rw [hy809]; with_reducible exact H2_) | (have H2_ := (Option.bind_some _ _).symm.trans H; with_reducible exact H2_) | with_reducible exact H | (rw [hy809]; exact H) | exact H
          have Ny809 := Aside0.mk hy809
          clear hy809
          have H' := Aside0.mk H
          clear H
          go_wp2_with (first | ((with_reducible refine gate_builtin (b := .append) (xs := #[.tmp 38, .tmp 40]) rfl ?_); at_builtin; refine Kd.R_append (Kd.int .u8) (w0 := w) w.heap.size rfl (.tmp 38) (.tmp 40) 22 5 (.int .u8 0) 1 rfl Tryz.underlying22 info5 rfl (by decide) (by omega) u5 x5_1 (rd l0 x6_1) [.int .u8 (rd l0 x6_1)] (fun _ => True) (fun _ => False) rfl rfl ?aP (fun _ hk => hk.elim) ?aF ?aO ?aB ?aS ?aL ?_; (case aP => exact rfl); (case aB => exact (bU HB.out)); (case aF => exact (fun _ _ => trivial)); (case aO => exact (Kd.R_u HO_5.out)); (case aS => exact (below_size (bU HB.out))); (case aL => have := LMc22.out; omega); intro v807 w26 ho hb hg hat; rw [← Ny806.out] at ho; have n0_ := Aside0.mk (hb); have n1_ := Aside0.mk (ho); clear HB; clear HO_5; have HB := n0_; have HO808 := n1_; clear n0_ n1_; clear ho hb hg hat) | ((with_reducible refine gate_builtin (b := .append) (xs := #[.tmp 49, .tmp 50]) rfl ?_); at_builtin; refine Kd.R_append (Kd.int .u8) (w0 := w) w.heap.size rfl (.tmp 49) (.tmp 50) 22 5 (.int .u8 0) 1 rfl Tryz.underlying22 info5 rfl (by decide) (by omega) v807 y806 32 [.int .u8 32] (fun _ => True) (fun _ => False) rfl rfl ?aP (fun _ hk => hk.elim) ?aF ?aO ?aB ?aS ?aL ?_; (case aP => exact rfl); (case aB => exact (bU HB.out)); (case aF => exact (fun _ _ => trivial)); (case aO => exact (Kd.R_u HO808.out)); (case aS => exact (below_size (bU HB.out))); (case aL => have := LMc25.out; omega); intro v810 w27 ho hb hg hat; rw [← Ny809.out] at ho; have n0_ := Aside0.mk (hb); have n1_ := Aside0.mk (ho); clear HB; clear HO808; have HB := n0_; have HO811 := n1_; clear n0_ n1_; clear ho hb hg hat))
          go_roundg kj10
          case measure => have := HK1.out; have := HJ3.out; have := HJ10.out; omega
          case rel => exact ⟨(y809), (wrap64 (x6_1 + 1)), (by first | rfl | (simp; done) | (simp [*]; done)), H', ⟨by have := HK1.out; have := HJ3.out; have := HJ10.out; omega⟩, ⟨Kd.R_u HO811.out⟩, ⟨bU HB.out⟩⟩
end Go.Proofs.YtkioddjjfifadaaGreatDoor.P
set_option linter.unusedVariables false
set_option linter.unusedSimpArgs false
namespace Go.Proofs.YtkioddjjfifadaaGreatDoor.P
open Go.RowKit Go.Proofs.YtkioddjjfifadaaGreatDoorW.PrintWords Go.Proofs.YtkioddjjfifadaaGreatDoorW.PrintLast Go.Proofs.YtkioddjjfifadaaGreatDoorW.PrintMore
theorem drew_cell (w : World) (a : Addr) : w.drew.cell? a = w.cell? a := rfl
theorem drew_froz (w : World) (a : Addr) : w.drew.frozen? a = w.frozen? a := rfl
/-- Number i of a list. -/
inductive Nth {α : Type} (a : α) : List α → Nat → Prop
  | here (l : List α) : Nth a (a :: l) 0
  | next (b : α) {l : List α} {i : Nat} : Nth a l i → Nth a (b :: l) (i + 1)
theorem Nth.get {α : Type} {a : α} {l : List α} {i : Nat} (h : Nth a l i) : l.toArray[i]? = some a := by
  induction h with
  | here l => rfl
  | next b h ih => simpa using ih
section
variable {P : Program} {l : List Oper} {Q : Exit → Act → World → Prop} {md : Region.Mode} {S : World → Prop} {i : Nat} {oi : Oper} {v : Value} {fuel : Nat} {listed : Array Bool} {a : Act} {w : World}
theorem take_nth (hi : Nth oi l i) (hs : Region.noSelect l.toArray = true) (hf : Region.free md l.toArray listed i = true) (hr : (Region.ready md l.toArray listed).contains i = true)
    (hQ : ∀ c a w, Q (.panic c) (a.put oi.dst v) w → Q (.panic c) a w) (hy : YieldsIf P l.toArray S oi v a) (hS : S w)
    (h : wpAnyH P md l.toArray Q S fuel (listed.setIfInBounds i true) (a.put oi.dst v) w) : wpAnyH P md l.toArray Q S (fuel + 1) listed a w :=
  wpAnyH_take hi.get hs hf hr hQ hy hS h
theorem cons_nth {rs : List Nat} (hi : Nth oi l i)
    (h : ∀ K' : Act → World → Prop, Shut (∀ a w, S w → (S w → wpAnyH P md l.toArray Q S fuel (listed.setIfInBounds i true) a w) → K' a w) → if Region.wanted oi (yielded l.toArray a.tmps) = true then Oper.wp P oi a w K' Q else K' (a.put oi.dst undef) w)
    (hs : AllReadyH P md l.toArray Q S fuel listed a w rs) : AllReadyH P md l.toArray Q S fuel listed a w (i :: rs) := AllReadyH.cons hi.get h hs
end
set_option maxHeartbeats 8000000 in
set_option maxRecDepth 100000 in
theorem turns_walk (K : Nat) (A0 : Option Addr) (c0 : Nat) (l0 : List (List S64)) (A1 : Option Addr) (c1 : Nat) (t0 : List Int) (w : World) (T : S64 → S64)
    (hr0 : Kd.C (Kd.slice 64 k64) w A0 l0.length l0) (hc0 : l0.length ≤ c0) (hr1 : Kd.C (Kd.int .u8) w A1 t0.length t0) (hc1 : t0.length ≤ c1)
    (hbig : l0.length ≤ 200 ∧ ∀ s ∈ l0, s.length ≤ 200) (hcp : chirographref07_Copy.f K l0 = some l0)
    (pl : S64 → Bool) (tu : S64 → List Int) (hT : ∀ p : S64, T p = if p.f1 = 12 ∨ p.f1 = 19 ∨ p.f1 = 22 then (if pl p = true then (⟨p.f0, p.f1, tu p⟩ : S64) else p) else p)
    (hpl : ∀ s ∈ l0, ∀ p ∈ s, chirographlaw07_plain.f K p.f2 = some (pl p)) (htu : ∀ s ∈ l0, ∀ p ∈ s, pl p = true → chirographlaw07_turned.f K p.f2 t0 = some (tu p)) (kb : ByteArray)
    (cSame : ∀ w' B c, Below w.heap.size w w' → Kd.C (Kd.slice 64 k64) w' B l0.length (l0.map fun s => s.reverse.map T) → l0.length ≤ c → Calls Tryz.prog 45 #[.slice A0 l0.length c0, .slice B l0.length c] w' fun e w2 => e = .returned (.bool true) ∧ Below w'.heap.size w' w2)
    (cKey0 : ∀ w', Below w.heap.size w w' → Calls Tryz.prog 48 #[.slice A0 l0.length c0] w' fun e w2 => e = .returned (.string kb) ∧ Below w'.heap.size w' w2)
    (cKey1 : ∀ w' B c, Below w.heap.size w w' → Kd.C (Kd.slice 64 k64) w' B l0.length (l0.map fun s => s.reverse.map T) → l0.length ≤ c → Calls Tryz.prog 48 #[.slice B l0.length c] w' fun e w2 => e = .returned (.string kb) ∧ Below w'.heap.size w' w2)
    (cWithin : ∀ w' B c, Below w.heap.size w w' → Kd.C (Kd.slice 64 k64) w' B l0.length (l0.map fun s => s.reverse.map T) → l0.length ≤ c → Calls Tryz.prog 49 #[.slice A0 l0.length c0, .slice B l0.length c] w' fun e w2 => e = .returned (.bool true) ∧ Below w'.heap.size w' w2)
    (cLive : ∀ w', Below w.heap.size w w' → Calls Tryz.prog 33 #[] w' fun e w2 => e = .returned (.bool true) ∧ Below w'.heap.size w' w2)
    (cHuge : ∀ w', Below w.heap.size w w' → Calls Tryz.prog 39 #[.slice A0 l0.length c0, .int .i64 2000] w' fun e w2 => e = .returned (.bool false) ∧ Drawn0 w' w2) :
    Calls Tryz.prog 10 #[.slice A0 l0.length c0, .slice A1 t0.length c1] w fun e w' => e = .returned (.bool true) ∧ Below w.heap.size w w' := by
  have hu64 := Tryz.underlying64
  have HR0 := Aside0.mk hr0
  have HC0 := Aside0.mk hc0
  have HR1 := Aside0.mk hr1
  have HC1 := Aside0.mk hc1
  have HBig := Aside0.mk hbig
  have HCP := Aside0.mk hcp
  have CHuge := Aside0.mk cHuge
  have HT := Aside0.mk hT
  have HPL := Aside0.mk hpl
  have HTU := Aside0.mk htu
  have CSame := Aside0.mk cSame
  have CKey0 := Aside0.mk cKey0
  have CKey1 := Aside0.mk cKey1
  have CWithin := Aside0.mk cWithin
  have CLive := Aside0.mk cLive
  clear hT hpl htu cSame cKey0 cKey1 cWithin cLive
  have HB0 := Aside0.mk (Below.refl w.heap.size w)
  clear hr0 hc0 hr1 hc1 hbig hcp cHuge
  go_enter Tryz.func10, Tryz.ntmps10
  go_wp2_with fail
  refine (CHuge.out _ HB0.out).mono ?_
  rintro e w' ⟨rfl, ⟨nd, rfl⟩⟩
  have HB1 := Aside0.mk (pw_below_drewN HB0.out nd)
  go_wp2_with fail
  refine (copy_sole K A0 c0 l0 l0 _ (Kd.C_below HR0.out HB1.out) HC0.out HCP.out).mono ?_
  rintro e w1 ⟨v, rfl, ho, hb⟩
  obtain ⟨A, cm, rfl⟩ := Kd.S_slice ho
  have LM := Aside0.mk (Kd.S_reads' ho).2.1
  have HS := Aside0.mk (Kd.S_lower (base' := w.heap.size) ho (Nat.le_refl _))
  have HB := Aside0.mk (below_step HB1.out hb)
  clear ho hb HB1 HB0
  go_wp2_with fail
  go_loopg [6] l0.length (fun kq v6 w' => ∃ i : Nat, v6 = .int .i64 (i : Int) ∧ Aside0 (i + kq = l0.length) ∧ Aside0 (Kd.S (Kd.slice 64 k64) 62 w' w.heap.size (fun _ => True) (.slice A l0.length cm) (doneK (fun s => s.reverse.map T) l0 i)) ∧ Aside0 (Below w.heap.size w w'))
  case atStart => exact ⟨0, rfl, ⟨Nat.zero_add _⟩, ⟨by rw [doneK_zero]; exact HS.out⟩, HB⟩
  case round =>
    clear HS HB
    obtain ⟨i, rfl, HI, HS, HB⟩ := hrel
    cases gk with
    | zero =>
      have hi : i = l0.length := by have := HI.out; omega
      have ci : decide ((i : Int) < (l0.length : Int)) = false := decide_eq_false (by omega)
      have ci2 : decide (i < l0.length) = false := decide_eq_false (by omega)
      have ci3 : (i < l0.length) = False := eq_false (by omega)
      have hlen : (doneK (fun s : List S64 => s.reverse.map T) l0 i).length = l0.length := doneK_len _ _ _
      have HC1 : Aside0 (Kd.C (Kd.slice 64 k64) wr A l0.length (l0.map fun s => s.reverse.map T)) := ⟨by
        have h_ := (Kd.S_reads' HS.out).2.2
        rw [hlen, hi, doneK_end] at h_
        exact h_⟩
      clear hi hlen HS HI
      go_wp2_with fail
      refine (CSame.out _ A cm HB.out HC1.out LM.out).mono ?_
      rintro e w3 ⟨rfl, hb⟩
      have HB3 := Aside0.mk (below_step HB.out hb)
      have HC3 := Aside0.mk (Kd.C_below HC1.out hb)
      clear hb HB HC1
      go_wp2_with fail
      refine (CKey0.out _ HB3.out).mono ?_
      rintro e w4 ⟨rfl, hb⟩
      have HB4 := Aside0.mk (below_step HB3.out hb)
      have HC4 := Aside0.mk (Kd.C_below HC3.out hb)
      clear hb HB3 HC3
      go_wp2_with fail
      refine (CKey1.out _ A cm HB4.out HC4.out LM.out).mono ?_
      rintro e w5 ⟨rfl, hb⟩
      have HB5 := Aside0.mk (below_step HB4.out hb)
      have HC5 := Aside0.mk (Kd.C_below HC4.out hb)
      clear hb HB4 HC4
      go_wp2_with fail
      refine (CWithin.out _ A cm HB5.out HC5.out LM.out).mono ?_
      rintro e w6 ⟨rfl, hb⟩
      have HB6 := Aside0.mk (below_step HB5.out hb)
      clear hb HB5 HC5
      go_wp2_with fail
      refine (CLive.out _ HB6.out).mono ?_
      rintro e w7 ⟨rfl, hb⟩
      have HB7 := Aside0.mk (below_step HB6.out hb)
      clear hb HB6
      go_wp2_with fail
      go_ret
      exact ⟨rfl, HB7.out⟩
    | succ k1 =>
      have hi : i < l0.length := by have := HI.out; omega
      have ci : decide ((i : Int) < (l0.length : Int)) = true := decide_eq_true (by omega)
      have ci2 : decide (i < l0.length) = true := decide_eq_true hi
      obtain ⟨M, hM⟩ : ∃ M, doneK (fun s : List S64 => s.reverse.map T) l0 i = M := ⟨_, rfl⟩
      have hlen : M.length = l0.length := by rw [← hM]; exact doneK_len _ _ _
      obtain ⟨s, hs⟩ : ∃ s, s = l0.getD i [] := ⟨_, rfl⟩
      have hsM : M.getD i [] = s := by rw [← hM, hs]; exact doneK_get _ _ _ _ hi
      have hsl : s.length ≤ 200 := by
        rw [hs, List.getD_eq_getElem?_getD, List.getElem?_eq_getElem hi]
        exact HBig.out.2 _ (List.getElem_mem hi)
      rw [hM] at HS
      obtain ⟨g, cap, hv, _, _, _⟩ := Kd.S_form HS.out (by omega)
      rw [hlen] at hv
      obtain ⟨ad, had⟩ : ∃ ad : Addr, ad = ⟨g, 0, none⟩ := ⟨_, rfl⟩
      rw [← had] at hv
      obtain ⟨rfl, rfl⟩ : A = some ad ∧ cm = cap := by injection hv with a b c; exact ⟨a, c⟩
      have HLen := Aside0.mk hlen
      have HSM := Aside0.mk hsM
      have HHI := Aside0.mk hi
      have Had := Aside0.mk had
      have HSl := Aside0.mk hsl
      have HSE := Aside0.mk hs
      have HSE2 := Aside0.mk hs.symm
      have HMD := Aside0.mk hM
      clear hv hlen hsM hi had hsl hs hM
      obtain ⟨q, hq⟩ : ∃ q, q = s.length / 2 := ⟨_, rfl⟩
      have HQ := Aside0.mk hq
      clear hq
      go_wp2_with fail
      go_loopg [7] q (fun kq v7 w' => ∃ (k : Nat) (r : List S64), v7 = .int .i64 (k : Int) ∧ Aside0 (k + kq = q) ∧ Aside0 (Swd s k r) ∧ Aside0 (Kd.S (Kd.slice 64 k64) 62 w' w.heap.size (fun _ => True) (.slice (some ad) l0.length cm) (M.set i r)) ∧ Aside0 (Below w.heap.size w w'))
      case atStart => exact ⟨0, s, rfl, ⟨Nat.zero_add _⟩, ⟨swd_zero s⟩, ⟨by rw [← HSM.out, set_getD M i [] (by rw [HLen.out]; exact HHI.out)]; exact HS.out⟩, HB⟩
      case round =>
        clear HS HB
        obtain ⟨k, r, rfl, HK, HW, HS, HB⟩ := hrel
        have hML : (M.set i r).length = l0.length := by rw [List.length_set]; exact HLen.out
        have hrd : rd_L5 (M.set i r) (i : Int) = r := by
          show (M.set i r).getD ((i : Int).toNat) [] = r
          rw [Int.toNat_natCast, getD_set M i [] r (by rw [HLen.out]; exact HHI.out)]
        have hCm : Kd.C (Kd.slice 64 k64) wr (some ad) l0.length (M.set i r) := by
          have h_ := (Kd.S_reads' HS.out).2.2
          rw [hML] at h_
          exact h_
        obtain ⟨ad2, B, cB, e_, hx, hle, hCr⟩ := at_L5 hCm (i : Int) (by omega) (by have := HHI.out; omega)
        injection e_ with e_
        subst e_
        rw [hrd] at hx hle hCr
        rw [Int.toNat_natCast] at hx
        have hrl : r.length = s.length := HW.out.1
        have hqv : wrap64 ((r.length : Int) / 2) = (q : Int) := by unfold wrap64; have := HSl.out; have := HQ.out; omega
        have HRL := Aside0.mk hrl
        clear hrl
        have b0 := eq_true (show 0 ≤ (i : Int) by omega)
        have b1 := eq_true (show (i : Int) < (l0.length : Int) by have := HHI.out; omega)
        clear hML hrd
        cases gk with
        | zero =>
          have hk : k = q := by have := HK.out; omega
          have hrev : r = s.reverse := swd_end (by have := HQ.out; rw [hk, this] at HW; exact HW.out)
          have ck : decide ((k : Int) < (q : Int)) = false := decide_eq_false (by omega)
          have ck2 : decide (k < q) = false := decide_eq_false (by omega)
          have ck3 : (k < q) = False := eq_false (by omega)
          have HREV := Aside0.mk hrev
          clear hk hrev HK HW
          go_wp2_with fail
          go_loopg [8] r.length (fun kq v8 w' => ∃ (j : Nat), v8 = .int .i64 (j : Int) ∧ Aside0 (j + kq = r.length) ∧ Aside0 (Kd.S (Kd.slice 64 k64) 62 w' w.heap.size (fun _ => True) (.slice (some ad) l0.length cm) (M.set i (doneK T r j))) ∧ Aside0 (Below w.heap.size w w'))
          case atStart => exact ⟨0, rfl, ⟨Nat.zero_add _⟩, ⟨by rw [doneK_zero]; exact HS.out⟩, HB⟩
          case round =>
            clear HS HB hCr hx hle ck ck2 ck3 hCm hqv
            obtain ⟨j, rfl, HJ, HS, HB⟩ := hrel
            obtain ⟨y, hy⟩ : ∃ y, doneK T r j = y := ⟨_, rfl⟩
            have hyl : y.length = r.length := by rw [← hy]; exact doneK_len _ _ _
            rw [hy] at HS
            have hML : (M.set i y).length = l0.length := by rw [List.length_set]; exact HLen.out
            have hrd : rd_L5 (M.set i y) (i : Int) = y := by
              show (M.set i y).getD ((i : Int).toNat) [] = y
              rw [Int.toNat_natCast, getD_set M i [] y (by rw [HLen.out]; exact HHI.out)]
            have hCm : Kd.C (Kd.slice 64 k64) wr (some ad) l0.length (M.set i y) := by
              have h_ := (Kd.S_reads' HS.out).2.2
              rw [hML] at h_
              exact h_
            obtain ⟨ad2, B2, cB2, e_, hx, hle, hCr⟩ := at_L5 hCm (i : Int) (by omega) (by have := HHI.out; omega)
            injection e_ with e_
            subst e_
            rw [hrd] at hx hle hCr
            rw [Int.toNat_natCast] at hx
            have HY := Aside0.mk hy
            have HYL := Aside0.mk hyl
            clear hML hrd hy hCm hyl
            cases gk with
            | zero =>
              have cj : decide ((j : Int) < (y.length : Int)) = false := decide_eq_false (by have := HJ.out; have := HYL.out; omega)
              have cj2 : decide (j < y.length) = false := decide_eq_false (by have := HJ.out; have := HYL.out; omega)
              have cj3 : (j < y.length) = False := eq_false (by have := HJ.out; have := HYL.out; omega)
              have hfin : M.set i y = doneK (fun s : List S64 => s.reverse.map T) l0 (i + 1) := by
                have hj : j = r.length := by have := HJ.out; omega
                have e1 := HY.out
                rw [hj, doneK_end, HREV.out] at e1
                rw [← e1, ← HMD.out, ← HSE2.out]
                exact doneK_step (fun s : List S64 => s.reverse.map T) l0 [] i HHI.out
              rw [hfin] at HS
              clear hfin
              have wi : IntKind.i64.wrap ((i : Int) + 1) = ((i + 1 : Nat) : Int) := (i64_w _).trans (by unfold wrap64; have := HHI.out; have := HBig.out.1; omega)
              have wi2 : wrap64 ((i : Int) + 1) = ((i + 1 : Nat) : Int) := by unfold wrap64; have := HHI.out; have := HBig.out.1; omega
              go_wp2_with fail
              go_roundg k1
              case measure => omega
              case rel => exact ⟨i + 1, (by first | rfl | simp), ⟨by have := HI.out; omega⟩, HS, HB⟩
            | succ k3 =>
              have hj : j < r.length := by have := HJ.out; omega
              have hjy : j < y.length := by have := HYL.out; omega
              have cj : decide ((j : Int) < (y.length : Int)) = true := decide_eq_true (by omega)
              have cj2 : decide (j < y.length) = true := decide_eq_true hjy
              have cj3 : (j < y.length) = True := eq_true hjy
              have cj4 := eq_true (show 0 ≤ (j : Int) by omega)
              have cj5 := eq_true (show (j : Int) < (y.length : Int) by omega)
              obtain ⟨bd, P, cP, e_, hz0, hz1, hz2, hzl, hzC⟩ := at_T64 hCr (j : Int) (by omega) (by omega)
              subst e_
              obtain ⟨p, hp⟩ : ∃ p, rd_T64 y (j : Int) = p := ⟨_, rfl⟩
              rw [hp] at hz0 hz1 hz2 hzl hzC
              rw [Int.toNat_natCast] at hz0 hz1 hz2
              have hpr : r.getD j z64 = p := by
                rw [← hp, ← doneK_get T r z64 j hj, HY.out]
                rfl
              have hyp : y.getD j z64 = p := by rw [← hp]; rfl
              have hnext : doneK T r (j + 1) = y.set j (T p) := by rw [← doneK_step T r z64 j hj, HY.out, hpr]
              have hmem : p ∈ s := by
                have h1 : p ∈ r := by
                  rw [← hpr, List.getD_eq_getElem?_getD, List.getElem?_eq_getElem hj]
                  exact List.getElem_mem hj
                rw [HREV.out] at h1
                exact List.mem_reverse.1 h1
              have hms : s ∈ l0 := by
                rw [HSE.out, List.getD_eq_getElem?_getD, List.getElem?_eq_getElem HHI.out]
                exact List.getElem_mem HHI.out
              have hTp := HT.out p
              have wj : IntKind.i64.wrap ((j : Int) + 1) = ((j + 1 : Nat) : Int) := (i64_w _).trans (by unfold wrap64; have := HRL.out; have := HSl.out; omega)
              have wj2 : wrap64 ((j : Int) + 1) = ((j + 1 : Nat) : Int) := by unfold wrap64; have := HRL.out; have := HSl.out; omega
              have HNX := Aside0.mk hnext
              have HYP := Aside0.mk hyp
              have HPLp := Aside0.mk (HPL.out s hms p hmem)
              have HTUp := Aside0.mk (HTU.out s hms p hmem)
              have HZC := Aside0.mk hzC
              have HZL := Aside0.mk hzl
              have HTP := Aside0.mk hTp
              have HJY := Aside0.mk hjy
              clear hj hjy hp hpr hyp hnext hmem hms hTp hzC hzl hCr
              have hsame : T p = p → Kd.S (Kd.slice 64 k64) 62 wr w.heap.size (fun _ => True) (.slice (some ad) l0.length cm) (M.set i (doneK T r (j + 1))) := fun h => by
                rw [HNX.out, h, ← HYP.out, set_getD y j z64 HJY.out]
                exact HS.out
              by_cases tg : p.f1 = 12 ∨ p.f1 = 19 ∨ p.f1 = 22
              rotate_left
              · have hTe : T p = p := by rw [HTP.out, if_neg tg]
                have HSN := Aside0.mk (hsame hTe)
                have n12 : (p.f1 != 12) = true := bne_iff_ne.mpr (fun h => tg (Or.inl h))
                have n19 : (p.f1 != 19) = true := bne_iff_ne.mpr (fun h => tg (Or.inr (Or.inl h)))
                have n22 : (p.f1 != 22) = true := bne_iff_ne.mpr (fun h => tg (Or.inr (Or.inr h)))
                have m12 : (p.f1 == 12) = false := beq_eq_false_iff_ne.mpr (fun h => tg (Or.inl h))
                have m19 : (p.f1 == 19) = false := beq_eq_false_iff_ne.mpr (fun h => tg (Or.inr (Or.inl h)))
                have m22 : (p.f1 == 22) = false := beq_eq_false_iff_ne.mpr (fun h => tg (Or.inr (Or.inr h)))
                clear hsame hTe tg HTP HTUp HPLp HS
                go_wp2_with fail
                go_roundg k3
                case measure => omega
                case rel => exact ⟨j + 1, (by first | rfl | simp), ⟨by have := HJ.out; omega⟩, ⟨by repeat (with_reducible first | exact HSN.out | apply Kd.S_drewN | apply Kd.S_drew)⟩, ⟨by repeat (with_reducible first | exact HB.out | apply pw_below_drewN | apply below_drew1)⟩⟩
              by_cases hq : pl p = true
              rotate_left
              · have hTe : T p = p := by rw [HTP.out, if_pos tg, if_neg hq]
                have HSN := Aside0.mk (hsame hTe)
                have hqf : pl p = false := by simpa using hq
                rw [hqf] at HPLp
                clear hsame hTe hq hqf HTP HTUp HS
                rcases tg with tg | tg | tg
                all_goals
                  rw [tg] at hz1
                  clear tg
                  go_wp2_with fail
                  refine (chirographlaw07_plain.calls K P cP p.f2 false _ (by repeat (first | exact HZC.out | (with_reducible refine Kd.C_drewN ?_ _))) HZL.out HPLp.out).mono ?_
                  rintro e w3 ⟨rfl, ⟨nd3, rfl⟩⟩
                  go_wp2_with fail
                  go_roundg k3
                  case measure => omega
                  case rel => exact ⟨j + 1, (by first | rfl | simp), ⟨by have := HJ.out; omega⟩, ⟨by repeat (with_reducible first | exact HSN.out | apply Kd.S_drewN | apply Kd.S_drew)⟩, ⟨by repeat (with_reducible first | exact HB.out | apply pw_below_drewN | apply below_drew1)⟩⟩
              have hTe : T p = (⟨p.f0, p.f1, tu p⟩ : S64) := by rw [HTP.out, if_pos tg, if_pos hq]
              rw [hq] at HPLp
              have HTU2 := Aside0.mk (HTUp.out hq)
              have HTE := Aside0.mk hTe
              clear hsame hTe hq HTP HTUp
              obtain ⟨oki, v, hR, hcv, hoki, hH⟩ := row_lend (show Kd.S (Kd.slice 64 k64) 62 wr w.heap.size (fun _ => True) (.slice (some ⟨g, 0, none⟩) l0.length cm) (M.set i y) from Had.out ▸ HS.out) (i : Int) (by omega) (by have := HHI.out; omega)
              rw [show rd_L5 (M.set i y) (i : Int) = y by show (M.set i y).getD ((i : Int).toNat) [] = y; rw [Int.toNat_natCast, getD_set M i [] y (by rw [HLen.out]; exact HHI.out)]] at hR
              obtain ⟨gi, ci', hv, hge, _⟩ := Kd.R_form hR (by have := HJY.out; omega)
              have GEi := Aside0.mk hge
              have hv2 : v = .slice (some bd) y.length cB2 := by
                have h1 : wr.cell? (ad.add i) = some v := by rw [Had.out, add_plain]; rw [Int.toNat_natCast] at hcv; exact hcv
                exact Option.some.inj (h1.symm.trans hx)
              rw [hv2] at hv
              obtain ⟨rfl, rfl⟩ : bd = ⟨gi, 0, none⟩ ∧ cB2 = ci' := by injection hv with a b c; exact ⟨by injection a, c⟩
              subst hv2
              have hown := row_own hR
              have hgg : gi ≠ (ad.add i).block := by rw [Had.out, add_plain]; exact (hoki gi hown).2
              obtain ⟨fz, _, _⟩ := row_data hR (j : Int) (by omega) (by have := HJY.out; omega) (okd := fun _ => False) (d := []) (v := .slice none 0 0) (Kd.R_nil _ _ _ _ _) (fun _ h => h.elim)
              rw [Int.toNat_natCast] at fz
              rw [add_plain] at hz0 hz1 hz2
              have HRR := Aside0.mk hR
              have HHH := Aside0.mk hH
              have HGG := Aside0.mk hgg
              have HOW := Aside0.mk hown
              have HFZ := Aside0.mk fz
              have HX := Aside0.mk hx
              have HZ2 : Aside0 (wr.cell? ⟨gi, j * 3 + 2, none⟩ = some (.slice P p.f2.length cP)) := ⟨hz2⟩
              clear hge hR hH hcv hoki hv hgg hown fz HS
              rcases tg with tg | tg | tg
              all_goals
                rw [tg] at hz1
                clear tg
                go_wp2_with fail
                refine (chirographlaw07_plain.calls K P cP p.f2 true _ (by repeat (first | exact HZC.out | (with_reducible refine Kd.C_drewN ?_ _))) HZL.out HPLp.out).mono ?_
                rintro e w3 ⟨rfl, ⟨nd3, rfl⟩⟩
                have hbd := pw_below_drewN (Below.refl wr.heap.size wr) nd3
                have hx4 : (wr.drewN nd3).drew.cell? (ad.add i) = some (.slice (some ⟨gi, 0, none⟩) y.length cB2) := (drew_cell _ _).trans ((hbd.cell (World.block_lt_of_cell? wr _ HX.out)).trans HX.out)
                have hz4 : (wr.drewN nd3).drew.cell? ⟨gi, j * 3 + 2, none⟩ = some (.slice P p.f2.length cP) := (drew_cell _ _).trans ((hbd.cell (World.block_lt_of_cell? wr _ HZ2.out)).trans HZ2.out)
                have hx5 : (wr.drewN nd3).cell? (ad.add i) = some (.slice (some ⟨gi, 0, none⟩) y.length cB2) := (hbd.cell (World.block_lt_of_cell? wr _ HX.out)).trans HX.out
                have hz5 : (wr.drewN nd3).cell? ⟨gi, j * 3 + 2, none⟩ = some (.slice P p.f2.length cP) := (hbd.cell (World.block_lt_of_cell? wr _ HZ2.out)).trans HZ2.out
                clear hbd hz0 hz1
                have kc5 : Calls Tryz.prog 47 #[.slice P p.f2.length cP, .slice A1 t0.length c1] (wr.drewN nd3).drew fun e w5 => ∃ Q cq, e = .returned (.slice Q (tu p).length cq) ∧ Kd.R (Kd.int .u8) 5 w5 wr.heap.size (fun k_ => wr.heap.size ≤ k_) (.slice Q (tu p).length cq) (tu p) ∧ Below wr.heap.size wr w5 := by
                  have hb0 : Below wr.heap.size wr (wr.drewN nd3).drew := below_drew1 (pw_below_drewN (Below.refl _ _) nd3)
                  refine (chirographlaw07_turned.calls K P cP p.f2 A1 c1 t0 (tu p) _ (Kd.C_below HZC.out hb0) HZL.out (Kd.C_below HR1.out (below_step HB.out hb0)) HC1.out HTU2.out).mono ?_
                  rintro e w5 ⟨v', rfl, ho, hb⟩
                  obtain ⟨Q, cq, rfl⟩ := Kd.R_slice ho
                  have ho2 := Kd.R_lower ho (below_size hb0)
                  exact ⟨Q, cq, rfl, Kd.R_mono (Kd.R_bound ho2) (fun k_ hk => hk.2.1), below_step hb0 hb⟩
                have KC5 := Aside0.mk kc5
                clear kc5
                go_wp2_with fail
                go_region_with (first | (go_at_call 47; refine KC5.out.mono ?_; rintro e w5 ⟨Q, cq, rfl, ho5, hb5⟩; have kq1 : w5.cell? (ad.add i) = some (.slice (some ⟨gi, 0, none⟩) y.length cB2) := (hb5.cell (World.block_lt_of_cell? wr _ HX.out)).trans HX.out; have kq2 : (w5.setCell ⟨gi, j * 3 + 2, none⟩ (.slice Q (tu p).length cq)).cell? (ad.add i) = some (.slice (some ⟨gi, 0, none⟩) y.length cB2) := (World.cell?_setCell_far _ _ _ _ HGG.out).trans kq1; have kq3 : w5.cell? ⟨gi, j * 3 + 2, none⟩ = some (.slice P p.f2.length cP) := (hb5.cell (World.block_lt_of_cell? wr _ HZ2.out)).trans HZ2.out; have HO5 := Aside0.mk ho5; have HB5 := Aside0.mk hb5; have HR5 := Aside0.mk (Kd.R_below HRR.out hb5); have kq4 : w5.frozen? ⟨gi, j * 3 + 2, none⟩ = false := (row_data HR5.out (j : Int) (by omega) (by have := HJY.out; omega) (okd := fun _ => False) (d := []) (v := .slice none 0 0) (Kd.R_nil _ _ _ _ _) (fun _ h => h.elim)).1 2; clear ho5 hb5))
                all_goals
                  have HS6 : Aside0 (Kd.S (Kd.slice 64 k64) 62 (w5.setCell ⟨gi, j * 3 + 2, none⟩ (.slice Q (tu p).length cq)) w.heap.size (fun _ => True) (.slice (some ad) l0.length cm) (M.set i (doneK T r (j + 1)))) := ⟨by
                    have hH5 := Kd.H_below (Kd.H_widen HHH.out) HB5.out
                    obtain ⟨_, hG6, hR6⟩ := row_data (Kd.R_mono HR5.out (fun k_ hk => (Or.inl hk : oki k_ ∨ True ∧ wr.heap.size ≤ k_))) (j : Int) (by omega) (by have := HJY.out; omega) (Kd.R_lower HO5.out (below_size HB.out)) (fun k_ hk => Or.inr ⟨trivial, hk⟩)
                    have h_ := row_back (row_grown hH5 hG6 (Or.inl HOW.out)) hR6
                    rw [Int.toNat_natCast, Int.toNat_natCast, List.set_set, ← Had.out] at h_
                    have e1 : rd_T64 y (j : Int) = p := by show y.getD ((j : Int).toNat) z64 = p; rw [Int.toNat_natCast]; exact HYP.out
                    rw [e1, ← HTE.out, ← HNX.out] at h_
                    exact h_⟩
                  have HB6 : Aside0 (Below w.heap.size w (w5.setCell ⟨gi, j * 3 + 2, none⟩ (.slice Q (tu p).length cq))) := ⟨below_set (below_step HB.out HB5.out) GEi.out⟩
                  obtain ⟨W6, hW6⟩ : ∃ W, W = (w5.setCell ⟨gi, j * 3 + 2, none⟩ (.slice Q (tu p).length cq)) := ⟨_, rfl⟩
                  rw [← hW6] at HS6 HB6
                  rw [← hW6]
                  clear hW6 kq1 kq2 kq3 kq4 hx hx4 hx5 hz4 hz5 hz2 HR5 HO5 HB5 HHH HRR HB
                  go_wp2_with fail
                  go_roundg k3
                  case measure => omega
                  case rel => exact ⟨j + 1, (by first | rfl | simp), ⟨by have := HJ.out; omega⟩, ⟨by repeat (with_reducible first | exact HS6.out | apply Kd.S_drewN | apply Kd.S_drew)⟩, ⟨by repeat (with_reducible first | exact HB6.out | apply pw_below_drewN | apply below_drew1)⟩⟩
        | succ k2 => as_aux_lemma =>
          have hk : k < q := by have := HK.out; omega
          have ck : decide ((k : Int) < (q : Int)) = true := decide_eq_true (by omega)
          have ck2 : decide (k < q) = true := decide_eq_true hk
          have ck3 : (k < q) = True := eq_true hk
          obtain ⟨oki, v, hR, hcv, hoki, hH⟩ := row_lend (show Kd.S (Kd.slice 64 k64) 62 wr w.heap.size (fun _ => True) (.slice (some ⟨g, 0, none⟩) l0.length cm) (M.set i r) from Had.out ▸ HS.out) (i : Int) (by omega) (by have := HHI.out; omega)
          rw [show rd_L5 (M.set i r) (i : Int) = r by show (M.set i r).getD ((i : Int).toNat) [] = r; rw [Int.toNat_natCast, getD_set M i [] r (by rw [HLen.out]; exact HHI.out)]] at hR
          have hrp : 0 < r.length := by have := HRL.out; have := HQ.out; omega
          obtain ⟨gi, ci', hv, hge, _⟩ := Kd.R_form hR hrp
          have GEi := Aside0.mk hge
          clear hge
          have hv2 : v = .slice B r.length cB := by
            have h1 : wr.cell? (ad.add i) = some v := by rw [Had.out, add_plain]; rw [Int.toNat_natCast] at hcv; exact hcv
            exact Option.some.inj (h1.symm.trans hx)
          rw [hv2] at hv
          obtain ⟨rfl, rfl⟩ : B = some ⟨gi, 0, none⟩ ∧ cB = ci' := by injection hv with a b c; exact ⟨a, c⟩
          subst hv2
          obtain ⟨jm, hjm⟩ : ∃ j : Int, j = (r.length : Int) - 1 := ⟨_, rfl⟩
          obtain ⟨jb, hjb⟩ : ∃ j : Int, j = jm - (k : Int) := ⟨_, rfl⟩
          have hjb0 : 0 ≤ jb := by have := HRL.out; have := HQ.out; omega
          have hjb1 : jb < (r.length : Int) := by omega
          obtain ⟨Pa, qa, Pb, qb, ⟨xa0, xa1, xa2⟩, ⟨xb0, xb1, xb2⟩, fa, fb, ⟨u0, u1, u2, xc0, xc1, xc2⟩, fc, G1, G2, R2⟩ := row_swap hR (k : Int) jb (by omega) (by have := HRL.out; have := HQ.out; omega) hjb0 hjb1
          rw [Int.toNat_natCast] at xa0 xa1 xa2 fa fc xc0 xc1 xc2 G1 G2 R2
          obtain ⟨pa, hpa⟩ : ∃ p, rd_T64 r (k : Int) = p := ⟨_, rfl⟩
          obtain ⟨pb, hpb⟩ : ∃ p, rd_T64 r jb = p := ⟨_, rfl⟩
          rw [hpa] at xa0 xa1 xa2 G2 R2
          rw [hpb] at xb0 xb1 xb2 xc0 xc1 xc2 fc G1 G2 R2
          have za0 : wr.frozen? ⟨gi, k * 3, none⟩ = false := fa 0
          have za1 : wr.frozen? ⟨gi, k * 3 + 1, none⟩ = false := fa 1
          have za2 : wr.frozen? ⟨gi, k * 3 + 2, none⟩ = false := fa 2
          have zb0 : wr.frozen? ⟨gi, jb.toNat * 3, none⟩ = false := fb 0
          have zb1 : wr.frozen? ⟨gi, jb.toNat * 3 + 1, none⟩ = false := fb 1
          have zb2 : wr.frozen? ⟨gi, jb.toNat * 3 + 2, none⟩ = false := fb 2
          have v0 : ((((wr.setCell ⟨gi, k * 3, none⟩ (.string pb.f0)).setCell ⟨gi, k * 3 + 1, none⟩ (.int .i64 pb.f1)).setCell ⟨gi, k * 3 + 2, none⟩ (.slice Pb pb.f2.length qb)).drew).cell? ⟨gi, jb.toNat * 3, none⟩ = some u0 := (drew_cell _ _).trans xc0
          have f0 : ((((wr.setCell ⟨gi, k * 3, none⟩ (.string pb.f0)).setCell ⟨gi, k * 3 + 1, none⟩ (.int .i64 pb.f1)).setCell ⟨gi, k * 3 + 2, none⟩ (.slice Pb pb.f2.length qb)).drew).frozen? ⟨gi, jb.toNat * 3, none⟩ = false := (drew_froz _ _).trans (fc 0)
          have v1 : ((((wr.setCell ⟨gi, k * 3, none⟩ (.string pb.f0)).setCell ⟨gi, k * 3 + 1, none⟩ (.int .i64 pb.f1)).setCell ⟨gi, k * 3 + 2, none⟩ (.slice Pb pb.f2.length qb)).drew).cell? ⟨gi, jb.toNat * 3 + 1, none⟩ = some u1 := (drew_cell _ _).trans xc1
          have f1 : ((((wr.setCell ⟨gi, k * 3, none⟩ (.string pb.f0)).setCell ⟨gi, k * 3 + 1, none⟩ (.int .i64 pb.f1)).setCell ⟨gi, k * 3 + 2, none⟩ (.slice Pb pb.f2.length qb)).drew).frozen? ⟨gi, jb.toNat * 3 + 1, none⟩ = false := (drew_froz _ _).trans (fc 1)
          have v2 : ((((wr.setCell ⟨gi, k * 3, none⟩ (.string pb.f0)).setCell ⟨gi, k * 3 + 1, none⟩ (.int .i64 pb.f1)).setCell ⟨gi, k * 3 + 2, none⟩ (.slice Pb pb.f2.length qb)).drew).cell? ⟨gi, jb.toNat * 3 + 2, none⟩ = some u2 := (drew_cell _ _).trans xc2
          have f2 : ((((wr.setCell ⟨gi, k * 3, none⟩ (.string pb.f0)).setCell ⟨gi, k * 3 + 1, none⟩ (.int .i64 pb.f1)).setCell ⟨gi, k * 3 + 2, none⟩ (.slice Pb pb.f2.length qb)).drew).frozen? ⟨gi, jb.toNat * 3 + 2, none⟩ = false := (drew_froz _ _).trans (fc 2)
          have p0 : (((wr.setCell ⟨gi, k * 3, none⟩ (.string pb.f0)).setCell ⟨gi, k * 3 + 1, none⟩ (.int .i64 pb.f1)).setCell ⟨gi, k * 3 + 2, none⟩ (.slice Pb pb.f2.length qb)).cell? ⟨gi, jb.toNat * 3, none⟩ = some u0 := xc0
          have g0 : (((wr.setCell ⟨gi, k * 3, none⟩ (.string pb.f0)).setCell ⟨gi, k * 3 + 1, none⟩ (.int .i64 pb.f1)).setCell ⟨gi, k * 3 + 2, none⟩ (.slice Pb pb.f2.length qb)).frozen? ⟨gi, jb.toNat * 3, none⟩ = false := fc 0
          have p1 : (((wr.setCell ⟨gi, k * 3, none⟩ (.string pb.f0)).setCell ⟨gi, k * 3 + 1, none⟩ (.int .i64 pb.f1)).setCell ⟨gi, k * 3 + 2, none⟩ (.slice Pb pb.f2.length qb)).cell? ⟨gi, jb.toNat * 3 + 1, none⟩ = some u1 := xc1
          have g1 : (((wr.setCell ⟨gi, k * 3, none⟩ (.string pb.f0)).setCell ⟨gi, k * 3 + 1, none⟩ (.int .i64 pb.f1)).setCell ⟨gi, k * 3 + 2, none⟩ (.slice Pb pb.f2.length qb)).frozen? ⟨gi, jb.toNat * 3 + 1, none⟩ = false := fc 1
          have p2 : (((wr.setCell ⟨gi, k * 3, none⟩ (.string pb.f0)).setCell ⟨gi, k * 3 + 1, none⟩ (.int .i64 pb.f1)).setCell ⟨gi, k * 3 + 2, none⟩ (.slice Pb pb.f2.length qb)).cell? ⟨gi, jb.toNat * 3 + 2, none⟩ = some u2 := xc2
          have g2 : (((wr.setCell ⟨gi, k * 3, none⟩ (.string pb.f0)).setCell ⟨gi, k * 3 + 1, none⟩ (.int .i64 pb.f1)).setCell ⟨gi, k * 3 + 2, none⟩ (.slice Pb pb.f2.length qb)).frozen? ⟨gi, jb.toNat * 3 + 2, none⟩ = false := fc 2
          have wm : IntKind.i64.wrap ((r.length : Int) - 1) = jm := (i64_w _).trans (by unfold wrap64; have := HRL.out; have := HSl.out; omega)
          have wb2 : IntKind.i64.wrap (jm - (k : Int)) = jb := (i64_w _).trans (by unfold wrap64; have := HRL.out; have := HSl.out; omega)
          have b2 := eq_true (show 0 ≤ (k : Int) by omega)
          have b3 := eq_true (show (k : Int) < (r.length : Int) by have := HRL.out; have := HQ.out; omega)
          have b4 := eq_true hjb0
          have b5 := eq_true hjb1
          have b6 := eq_true (show k < r.length by omega)
          have hown := row_own hR
          obtain ⟨W2, hW2⟩ : ∃ W, W = ((((((wr.setCell ⟨gi, k * 3, none⟩ (.string pb.f0)).setCell ⟨gi, k * 3 + 1, none⟩ (.int .i64 pb.f1)).setCell ⟨gi, k * 3 + 2, none⟩ (.slice Pb pb.f2.length qb)).setCell ⟨gi, jb.toNat * 3, none⟩ (.string pa.f0)).setCell ⟨gi, jb.toNat * 3 + 1, none⟩ (.int .i64 pa.f1)).setCell ⟨gi, jb.toNat * 3 + 2, none⟩ (.slice Pa pa.f2.length qa)) := ⟨_, rfl⟩
          have HS2 : Aside0 (Kd.S (Kd.slice 64 k64) 62 W2 w.heap.size (fun _ => True) (.slice (some ad) l0.length cm) (M.set i ((r.set k pb).set jb.toNat pa))) := ⟨by
            rw [hW2]
            have h_ := row_back (row_grown (row_grown hH G1 hown) G2 hown) R2
            rw [Int.toNat_natCast, List.set_set, ← Had.out] at h_
            exact h_⟩
          have HB2 : Aside0 (Below w.heap.size w W2) := ⟨by rw [hW2]; exact below_set (below_set (below_set (below_set (below_set (below_set HB.out GEi.out) GEi.out) GEi.out) GEi.out) GEi.out) GEi.out⟩
          have HW2 := Aside0.mk hW2
          clear hW2
          have hsw : Swd s (k + 1) ((r.set k pb).set jb.toNat pa) := by
            have h_ := swd_step HW.out (show k < s.length / 2 by have := HQ.out; omega)
            have e1 : r.getD k z64 = pa := by rw [← hpa]; rfl
            have e2 : s.length - 1 - k = jb.toNat := by have := HRL.out; omega
            have e4 : r.getD (s.length - 1 - k) z64 = pb := by rw [e2, ← hpb]; rfl
            rw [e4, e1, e2] at h_
            exact h_
          have hgg : gi ≠ (ad.add i).block := by rw [Had.out, add_plain]; exact (hoki gi hown).2
          have kx1 : (((wr.setCell ⟨gi, k * 3, none⟩ (.string pb.f0)).setCell ⟨gi, k * 3 + 1, none⟩ (.int .i64 pb.f1)).setCell ⟨gi, k * 3 + 2, none⟩ (.slice Pb pb.f2.length qb)).cell? (ad.add i) = some (.slice (some ⟨gi, 0, none⟩) r.length cB) := by
            rw [World.cell?_setCell_far _ _ _ _ hgg, World.cell?_setCell_far _ _ _ _ hgg, World.cell?_setCell_far _ _ _ _ hgg]
            exact hx
          have kx2 : ((((((wr.setCell ⟨gi, k * 3, none⟩ (.string pb.f0)).setCell ⟨gi, k * 3 + 1, none⟩ (.int .i64 pb.f1)).setCell ⟨gi, k * 3 + 2, none⟩ (.slice Pb pb.f2.length qb)).setCell ⟨gi, jb.toNat * 3, none⟩ (.string pa.f0)).setCell ⟨gi, jb.toNat * 3 + 1, none⟩ (.int .i64 pa.f1)).setCell ⟨gi, jb.toNat * 3 + 2, none⟩ (.slice Pa pa.f2.length qa)).cell? (ad.add i) = some (.slice (some ⟨gi, 0, none⟩) r.length cB) := by
            rw [World.cell?_setCell_far _ _ _ _ hgg, World.cell?_setCell_far _ _ _ _ hgg, World.cell?_setCell_far _ _ _ _ hgg]
            exact kx1
          have kd0 : wr.drew.cell? (ad.add i) = some (.slice (some ⟨gi, 0, none⟩) r.length cB) := (drew_cell _ _).trans hx
          have kd1 : (((wr.setCell ⟨gi, k * 3, none⟩ (.string pb.f0)).setCell ⟨gi, k * 3 + 1, none⟩ (.int .i64 pb.f1)).setCell ⟨gi, k * 3 + 2, none⟩ (.slice Pb pb.f2.length qb)).drew.cell? (ad.add i) = some (.slice (some ⟨gi, 0, none⟩) r.length cB) := (drew_cell _ _).trans kx1
          have kd2 : ((((((wr.setCell ⟨gi, k * 3, none⟩ (.string pb.f0)).setCell ⟨gi, k * 3 + 1, none⟩ (.int .i64 pb.f1)).setCell ⟨gi, k * 3 + 2, none⟩ (.slice Pb pb.f2.length qb)).setCell ⟨gi, jb.toNat * 3, none⟩ (.string pa.f0)).setCell ⟨gi, jb.toNat * 3 + 1, none⟩ (.int .i64 pa.f1)).setCell ⟨gi, jb.toNat * 3 + 2, none⟩ (.slice Pa pa.f2.length qa)).drew.cell? (ad.add i) = some (.slice (some ⟨gi, 0, none⟩) r.length cB) := (drew_cell _ _).trans kx2
          clear kx1 kx2
          have HSW := Aside0.mk hsw
          have wk : IntKind.i64.wrap ((k : Int) + 1) = ((k + 1 : Nat) : Int) := (i64_w _).trans (by unfold wrap64; have := HSl.out; have := HQ.out; omega)
          have wk2 : wrap64 ((k : Int) + 1) = ((k + 1 : Nat) : Int) := by unfold wrap64; have := HSl.out; have := HQ.out; omega
          have HPA := Aside0.mk hpa
          have HPB := Aside0.mk hpb
          have HJB := Aside0.mk hjb
          have HJM := Aside0.mk hjm
          have HHK := Aside0.mk hk
          clear hgg hown hsw xc0 xc1 xc2 fc hH G1 G2 R2 hpa hpb hjb hjm hk fa fb hv hR hrp hcv hoki hCm hCr hle hjb0 hjb1
          go_wp2_with fail
          refine wp_region_noPanic ?_
          refine wp_region_held_drew (S := (fun w' => w'.cell? (ad.add i) = some (.slice (some ⟨gi, 0, none⟩) r.length cB))) (by kernel_rfl) ?_ (fun hHeld => ?_)
          · (try dsimp only); with_reducible first | exact kd0 | exact kd1 | exact kd2
          refine take_nth (i := 0) (v := ?_) (by repeat' (first | exact Nth.here _ | apply Nth.next)) (by kernel_rfl) (by kernel_rfl) (by kernel_rfl) (fun _ _ _ h => h) (Or.inl ⟨by rfl, ?_⟩) (by assumption) ?_
          rotate_left
          · intro w' hSw; (try dsimp only at hSw); go_simp; try with_reducible rfl
          try simp only [Act.put, List.setIfInBounds_toArray, List.set_cons_zero, List.set_cons_succ]
          refine take_nth (i := 1) (v := ?_) (by repeat' (first | exact Nth.here _ | apply Nth.next)) (by kernel_rfl) (by kernel_rfl) (by kernel_rfl) (fun _ _ _ h => h) (Or.inl ⟨by rfl, ?_⟩) (by assumption) ?_
          rotate_left
          · intro w' hSw; (try dsimp only at hSw); go_simp; try with_reducible rfl
          try simp only [Act.put, List.setIfInBounds_toArray, List.set_cons_zero, List.set_cons_succ]
          refine take_nth (i := 2) (v := ?_) (by repeat' (first | exact Nth.here _ | apply Nth.next)) (by kernel_rfl) (by kernel_rfl) (by kernel_rfl) (fun _ _ _ h => h) (Or.inl ⟨by rfl, ?_⟩) (by assumption) ?_
          rotate_left
          · intro w' hSw; (try dsimp only at hSw); go_simp; try with_reducible rfl
          try simp only [Act.put, List.setIfInBounds_toArray, List.set_cons_zero, List.set_cons_succ]
          refine take_nth (i := 3) (v := ?_) (by repeat' (first | exact Nth.here _ | apply Nth.next)) (by kernel_rfl) (by kernel_rfl) (by kernel_rfl) (fun _ _ _ h => h) (Or.inl ⟨by rfl, ?_⟩) (by assumption) ?_
          rotate_left
          · intro w' hSw; (try dsimp only at hSw); go_simp; try with_reducible rfl
          try simp only [Act.put, List.setIfInBounds_toArray, List.set_cons_zero, List.set_cons_succ]
          refine take_nth (i := 4) (v := ?_) (by repeat' (first | exact Nth.here _ | apply Nth.next)) (by kernel_rfl) (by kernel_rfl) (by kernel_rfl) (fun _ _ _ h => h) (Or.inl ⟨by rfl, ?_⟩) (by assumption) ?_
          rotate_left
          · intro w' hSw; (try dsimp only at hSw); go_simp; try with_reducible rfl
          try simp only [Act.put, List.setIfInBounds_toArray, List.set_cons_zero, List.set_cons_succ]
          refine take_nth (i := 5) (v := ?_) (by repeat' (first | exact Nth.here _ | apply Nth.next)) (by kernel_rfl) (by kernel_rfl) (by kernel_rfl) (fun _ _ _ h => h) (Or.inl ⟨by rfl, ?_⟩) (by assumption) ?_
          rotate_left
          · intro w' hSw; (try dsimp only at hSw); go_simp; try with_reducible rfl
          try simp only [Act.put, List.setIfInBounds_toArray, List.set_cons_zero, List.set_cons_succ]
          refine take_nth (i := 6) (v := ?_) (by repeat' (first | exact Nth.here _ | apply Nth.next)) (by kernel_rfl) (by kernel_rfl) (by kernel_rfl) (fun _ _ _ h => h) (Or.inl ⟨by rfl, ?_⟩) (by assumption) ?_
          rotate_left
          · intro w' hSw; (try dsimp only at hSw); go_simp; try with_reducible rfl
          try simp only [Act.put, List.setIfInBounds_toArray, List.set_cons_zero, List.set_cons_succ]
          refine take_nth (i := 7) (v := ?_) (by repeat' (first | exact Nth.here _ | apply Nth.next)) (by kernel_rfl) (by kernel_rfl) (by kernel_rfl) (fun _ _ _ h => h) (Or.inl ⟨by rfl, ?_⟩) (by assumption) ?_
          rotate_left
          · intro w' hSw; (try dsimp only at hSw); go_simp; try with_reducible rfl
          try simp only [Act.put, List.setIfInBounds_toArray, List.set_cons_zero, List.set_cons_succ]
          refine take_nth (i := 8) (v := ?_) (by repeat' (first | exact Nth.here _ | apply Nth.next)) (by kernel_rfl) (by kernel_rfl) (by kernel_rfl) (fun _ _ _ h => h) (Or.inl ⟨by rfl, ?_⟩) (by assumption) ?_
          rotate_left
          · intro w' hSw; (try dsimp only at hSw); go_simp; try with_reducible rfl
          try simp only [Act.put, List.setIfInBounds_toArray, List.set_cons_zero, List.set_cons_succ]
          refine take_nth (i := 9) (v := ?_) (by repeat' (first | exact Nth.here _ | apply Nth.next)) (by kernel_rfl) (by kernel_rfl) (by kernel_rfl) (fun _ _ _ h => h) (Or.inl ⟨by rfl, ?_⟩) (by assumption) ?_
          rotate_left
          · intro w' hSw; (try dsimp only at hSw); go_simp; try with_reducible rfl
          try simp only [Act.put, List.setIfInBounds_toArray, List.set_cons_zero, List.set_cons_succ]
          refine take_nth (i := 10) (v := ?_) (by repeat' (first | exact Nth.here _ | apply Nth.next)) (by kernel_rfl) (by kernel_rfl) (by kernel_rfl) (fun _ _ _ h => h) (Or.inl ⟨by rfl, ?_⟩) (by assumption) ?_
          rotate_left
          · intro w' hSw; (try dsimp only at hSw); go_simp; try with_reducible rfl
          try simp only [Act.put, List.setIfInBounds_toArray, List.set_cons_zero, List.set_cons_succ]
          refine take_nth (i := 11) (v := ?_) (by repeat' (first | exact Nth.here _ | apply Nth.next)) (by kernel_rfl) (by kernel_rfl) (by kernel_rfl) (fun _ _ _ h => h) (Or.inl ⟨by rfl, ?_⟩) (by assumption) ?_
          rotate_left
          · intro w' hSw; (try dsimp only at hSw); go_simp; try with_reducible rfl
          try simp only [Act.put, List.setIfInBounds_toArray, List.set_cons_zero, List.set_cons_succ]
          refine take_nth (i := 12) (v := ?_) (by repeat' (first | exact Nth.here _ | apply Nth.next)) (by kernel_rfl) (by kernel_rfl) (by kernel_rfl) (fun _ _ _ h => h) (Or.inl ⟨by rfl, ?_⟩) (by assumption) ?_
          rotate_left
          · intro w' hSw; (try dsimp only at hSw); go_simp; try with_reducible rfl
          try simp only [Act.put, List.setIfInBounds_toArray, List.set_cons_zero, List.set_cons_succ]
          refine take_nth (i := 13) (v := ?_) (by repeat' (first | exact Nth.here _ | apply Nth.next)) (by kernel_rfl) (by kernel_rfl) (by kernel_rfl) (fun _ _ _ h => h) (Or.inl ⟨by rfl, ?_⟩) (by assumption) ?_
          rotate_left
          · intro w' hSw; (try dsimp only at hSw); go_simp; try with_reducible rfl
          try simp only [Act.put, List.setIfInBounds_toArray, List.set_cons_zero, List.set_cons_succ]
          refine take_nth (i := 14) (v := ?_) (by repeat' (first | exact Nth.here _ | apply Nth.next)) (by kernel_rfl) (by kernel_rfl) (by kernel_rfl) (fun _ _ _ h => h) (Or.inl ⟨by rfl, ?_⟩) (by assumption) ?_
          rotate_left
          · intro w' hSw; (try dsimp only at hSw); go_simp; try with_reducible rfl
          try simp only [Act.put, List.setIfInBounds_toArray, List.set_cons_zero, List.set_cons_succ]
          refine take_nth (i := 15) (v := ?_) (by repeat' (first | exact Nth.here _ | apply Nth.next)) (by kernel_rfl) (by kernel_rfl) (by kernel_rfl) (fun _ _ _ h => h) (Or.inl ⟨by rfl, ?_⟩) (by assumption) ?_
          rotate_left
          · intro w' hSw; (try dsimp only at hSw); go_simp; try with_reducible rfl
          try simp only [Act.put, List.setIfInBounds_toArray, List.set_cons_zero, List.set_cons_succ]
          refine take_nth (i := 16) (v := ?_) (by repeat' (first | exact Nth.here _ | apply Nth.next)) (by kernel_rfl) (by kernel_rfl) (by kernel_rfl) (fun _ _ _ h => h) (Or.inl ⟨by rfl, ?_⟩) (by assumption) ?_
          rotate_left
          · intro w' hSw; (try dsimp only at hSw); go_simp; try with_reducible rfl
          try simp only [Act.put, List.setIfInBounds_toArray, List.set_cons_zero, List.set_cons_succ]
          refine take_nth (i := 17) (v := ?_) (by repeat' (first | exact Nth.here _ | apply Nth.next)) (by kernel_rfl) (by kernel_rfl) (by kernel_rfl) (fun _ _ _ h => h) (Or.inl ⟨by rfl, ?_⟩) (by assumption) ?_
          rotate_left
          · intro w' hSw; (try dsimp only at hSw); go_simp; try with_reducible rfl
          try simp only [Act.put, List.setIfInBounds_toArray, List.set_cons_zero, List.set_cons_succ]
          refine take_nth (i := 18) (v := ?_) (by repeat' (first | exact Nth.here _ | apply Nth.next)) (by kernel_rfl) (by kernel_rfl) (by kernel_rfl) (fun _ _ _ h => h) (Or.inl ⟨by rfl, ?_⟩) (by assumption) ?_
          rotate_left
          · intro w' hSw; (try dsimp only at hSw); go_simp; try with_reducible rfl
          try simp only [Act.put, List.setIfInBounds_toArray, List.set_cons_zero, List.set_cons_succ]
          refine take_nth (i := 19) (v := ?_) (by repeat' (first | exact Nth.here _ | apply Nth.next)) (by kernel_rfl) (by kernel_rfl) (by kernel_rfl) (fun _ _ _ h => h) (Or.inl ⟨by rfl, ?_⟩) (by assumption) ?_
          rotate_left
          · intro w' hSw; (try dsimp only at hSw); go_simp; try with_reducible rfl
          try simp only [Act.put, List.setIfInBounds_toArray, List.set_cons_zero, List.set_cons_succ]
          refine take_nth (i := 20) (v := ?_) (by repeat' (first | exact Nth.here _ | apply Nth.next)) (by kernel_rfl) (by kernel_rfl) (by kernel_rfl) (fun _ _ _ h => h) (Or.inl ⟨by rfl, ?_⟩) (by assumption) ?_
          rotate_left
          · intro w' hSw; (try dsimp only at hSw); go_simp; try with_reducible rfl
          try simp only [Act.put, List.setIfInBounds_toArray, List.set_cons_zero, List.set_cons_succ]
          refine take_nth (i := 21) (v := ?_) (by repeat' (first | exact Nth.here _ | apply Nth.next)) (by kernel_rfl) (by kernel_rfl) (by kernel_rfl) (fun _ _ _ h => h) (Or.inl ⟨by rfl, ?_⟩) (by assumption) ?_
          rotate_left
          · intro w' hSw; (try dsimp only at hSw); go_simp; try with_reducible rfl
          try simp only [Act.put, List.setIfInBounds_toArray, List.set_cons_zero, List.set_cons_succ]
          refine take_nth (i := 22) (v := ?_) (by repeat' (first | exact Nth.here _ | apply Nth.next)) (by kernel_rfl) (by kernel_rfl) (by kernel_rfl) (fun _ _ _ h => h) (Or.inl ⟨by rfl, ?_⟩) (by assumption) ?_
          rotate_left
          · intro w' hSw; (try dsimp only at hSw); go_simp; try with_reducible rfl
          try simp only [Act.put, List.setIfInBounds_toArray, List.set_cons_zero, List.set_cons_succ]
          refine take_nth (i := 23) (v := ?_) (by repeat' (first | exact Nth.here _ | apply Nth.next)) (by kernel_rfl) (by kernel_rfl) (by kernel_rfl) (fun _ _ _ h => h) (Or.inl ⟨by rfl, ?_⟩) (by assumption) ?_
          rotate_left
          · intro w' hSw; (try dsimp only at hSw); go_simp; try with_reducible rfl
          try simp only [Act.put, List.setIfInBounds_toArray, List.set_cons_zero, List.set_cons_succ]
          refine take_nth (i := 24) (v := ?_) (by repeat' (first | exact Nth.here _ | apply Nth.next)) (by kernel_rfl) (by kernel_rfl) (by kernel_rfl) (fun _ _ _ h => h) (Or.inl ⟨by rfl, ?_⟩) (by assumption) ?_
          rotate_left
          · intro w' hSw; (try dsimp only at hSw); go_simp; try with_reducible rfl
          try simp only [Act.put, List.setIfInBounds_toArray, List.set_cons_zero, List.set_cons_succ]
          refine take_nth (i := 25) (v := ?_) (by repeat' (first | exact Nth.here _ | apply Nth.next)) (by kernel_rfl) (by kernel_rfl) (by kernel_rfl) (fun _ _ _ h => h) (Or.inl ⟨by rfl, ?_⟩) (by assumption) ?_
          rotate_left
          · intro w' hSw; (try dsimp only at hSw); go_simp; try with_reducible rfl
          try simp only [Act.put, List.setIfInBounds_toArray, List.set_cons_zero, List.set_cons_succ]
          refine take_nth (i := 26) (v := ?_) (by repeat' (first | exact Nth.here _ | apply Nth.next)) (by kernel_rfl) (by kernel_rfl) (by kernel_rfl) (fun _ _ _ h => h) (Or.inl ⟨by rfl, ?_⟩) (by assumption) ?_
          rotate_left
          · intro w' hSw; (try dsimp only at hSw); go_simp; try with_reducible rfl
          try simp only [Act.put, List.setIfInBounds_toArray, List.set_cons_zero, List.set_cons_succ]
          refine take_nth (i := 27) (v := ?_) (by repeat' (first | exact Nth.here _ | apply Nth.next)) (by kernel_rfl) (by kernel_rfl) (by kernel_rfl) (fun _ _ _ h => h) (Or.inl ⟨by rfl, ?_⟩) (by assumption) ?_
          rotate_left
          · intro w' hSw; (try dsimp only at hSw); go_simp; try with_reducible rfl
          try simp only [Act.put, List.setIfInBounds_toArray, List.set_cons_zero, List.set_cons_succ]
          refine take_nth (i := 28) (v := ?_) (by repeat' (first | exact Nth.here _ | apply Nth.next)) (by kernel_rfl) (by kernel_rfl) (by kernel_rfl) (fun _ _ _ h => h) (Or.inl ⟨by rfl, ?_⟩) (by assumption) ?_
          rotate_left
          · intro w' hSw; (try dsimp only at hSw); go_simp; try with_reducible rfl
          try simp only [Act.put, List.setIfInBounds_toArray, List.set_cons_zero, List.set_cons_succ]
          refine take_nth (i := 29) (v := ?_) (by repeat' (first | exact Nth.here _ | apply Nth.next)) (by kernel_rfl) (by kernel_rfl) (by kernel_rfl) (fun _ _ _ h => h) (Or.inl ⟨by rfl, ?_⟩) (by assumption) ?_
          rotate_left
          · intro w' hSw; (try dsimp only at hSw); go_simp; try with_reducible rfl
          try simp only [Act.put, List.setIfInBounds_toArray, List.set_cons_zero, List.set_cons_succ]
          refine take_nth (i := 31) (v := ?_) (by repeat' (first | exact Nth.here _ | apply Nth.next)) (by kernel_rfl) (by kernel_rfl) (by kernel_rfl) (fun _ _ _ h => h) (Or.inl ⟨by rfl, ?_⟩) (by assumption) ?_
          rotate_left
          · intro w' hSw; (try dsimp only at hSw); go_simp; try with_reducible rfl
          try simp only [Act.put, List.setIfInBounds_toArray, List.set_cons_zero, List.set_cons_succ]
          refine take_nth (i := 32) (v := ?_) (by repeat' (first | exact Nth.here _ | apply Nth.next)) (by kernel_rfl) (by kernel_rfl) (by kernel_rfl) (fun _ _ _ h => h) (Or.inl ⟨by rfl, ?_⟩) (by assumption) ?_
          rotate_left
          · intro w' hSw; (try dsimp only at hSw); go_simp; try with_reducible rfl
          try simp only [Act.put, List.setIfInBounds_toArray, List.set_cons_zero, List.set_cons_succ]
          refine take_nth (i := 33) (v := ?_) (by repeat' (first | exact Nth.here _ | apply Nth.next)) (by kernel_rfl) (by kernel_rfl) (by kernel_rfl) (fun _ _ _ h => h) (Or.inl ⟨by rfl, ?_⟩) (by assumption) ?_
          rotate_left
          · intro w' hSw; (try dsimp only at hSw); go_simp; try with_reducible rfl
          try simp only [Act.put, List.setIfInBounds_toArray, List.set_cons_zero, List.set_cons_succ]
          refine take_nth (i := 34) (v := ?_) (by repeat' (first | exact Nth.here _ | apply Nth.next)) (by kernel_rfl) (by kernel_rfl) (by kernel_rfl) (fun _ _ _ h => h) (Or.inl ⟨by rfl, ?_⟩) (by assumption) ?_
          rotate_left
          · intro w' hSw; (try dsimp only at hSw); go_simp; try with_reducible rfl
          try simp only [Act.put, List.setIfInBounds_toArray, List.set_cons_zero, List.set_cons_succ]
          refine take_nth (i := 35) (v := ?_) (by repeat' (first | exact Nth.here _ | apply Nth.next)) (by kernel_rfl) (by kernel_rfl) (by kernel_rfl) (fun _ _ _ h => h) (Or.inl ⟨by rfl, ?_⟩) (by assumption) ?_
          rotate_left
          · intro w' hSw; (try dsimp only at hSw); go_simp; try with_reducible rfl
          try simp only [Act.put, List.setIfInBounds_toArray, List.set_cons_zero, List.set_cons_succ]
          refine take_nth (i := 36) (v := ?_) (by repeat' (first | exact Nth.here _ | apply Nth.next)) (by kernel_rfl) (by kernel_rfl) (by kernel_rfl) (fun _ _ _ h => h) (Or.inl ⟨by rfl, ?_⟩) (by assumption) ?_
          rotate_left
          · intro w' hSw; (try dsimp only at hSw); go_simp; try with_reducible rfl
          try simp only [Act.put, List.setIfInBounds_toArray, List.set_cons_zero, List.set_cons_succ]
          refine wpAnyH_ready (rs := [30, 37]) (by kernel_rfl) (by simp) ?_
          refine cons_nth (by repeat' (first | exact Nth.here _ | apply Nth.next)) (fun K hK => ?_) (cons_nth (by repeat' (first | exact Nth.here _ | apply Nth.next)) (fun K hK => ?_) AllReadyH.nil)
          · have _h := hHeld; clear _h
            go_simp
            clear hHeld
            refine hK.out _ _ ?_ (fun hHeld => ?_)
            · (try dsimp only); with_reducible first | exact kd0 | exact kd1 | exact kd2
            clear hK K
            try simp only [Act.put, List.setIfInBounds_toArray, List.set_cons_zero, List.set_cons_succ]
            refine wpAnyH_ready (rs := [37]) (by kernel_rfl) (by simp) ?_
            refine cons_nth (by repeat' (first | exact Nth.here _ | apply Nth.next)) (fun K hK => ?_) AllReadyH.nil
            go_simp
            clear hHeld
            refine hK.out _ _ ?_ (fun hHeld => ?_)
            · (try dsimp only); with_reducible first | exact kd0 | exact kd1 | exact kd2
            clear hK K
            try simp only [Act.put, List.setIfInBounds_toArray, List.set_cons_zero, List.set_cons_succ]
            refine take_nth (i := 38) (v := ?_) (by repeat' (first | exact Nth.here _ | apply Nth.next)) (by kernel_rfl) (by kernel_rfl) (by kernel_rfl) (fun _ _ _ h => h) (Or.inl ⟨by rfl, ?_⟩) (by assumption) ?_
            rotate_left
            · intro w' hSw; (try dsimp only at hSw); go_simp; try with_reducible rfl
            try simp only [Act.put, List.setIfInBounds_toArray, List.set_cons_zero, List.set_cons_succ]
            refine wpAnyH_ready (rs := [39]) (by kernel_rfl) (by simp) ?_
            refine cons_nth (by repeat' (first | exact Nth.here _ | apply Nth.next)) (fun K hK => ?_) AllReadyH.nil
            go_simp
            clear hHeld
            refine hK.out _ _ ?_ (fun hHeld => ?_)
            · (try dsimp only); with_reducible first | exact kd0 | exact kd1 | exact kd2
            clear hK K
            try simp only [Act.put, List.setIfInBounds_toArray, List.set_cons_zero, List.set_cons_succ]
            refine take_nth (i := 40) (v := ?_) (by repeat' (first | exact Nth.here _ | apply Nth.next)) (by kernel_rfl) (by kernel_rfl) (by kernel_rfl) (fun _ _ _ h => h) (Or.inl ⟨by rfl, ?_⟩) (by assumption) ?_
            rotate_left
            · intro w' hSw; (try dsimp only at hSw); go_simp; try with_reducible rfl
            try simp only [Act.put, List.setIfInBounds_toArray, List.set_cons_zero, List.set_cons_succ]
            refine wpAnyH_ready (rs := [41]) (by kernel_rfl) (by simp) ?_
            refine cons_nth (by repeat' (first | exact Nth.here _ | apply Nth.next)) (fun K hK => ?_) AllReadyH.nil
            go_simp
            clear hHeld
            refine hK.out _ _ ?_ (fun hHeld => ?_)
            · (try dsimp only); with_reducible first | exact kd0 | exact kd1 | exact kd2
            clear hK K
            try simp only [Act.put, List.setIfInBounds_toArray, List.set_cons_zero, List.set_cons_succ]
            refine wpAnyH_done (by kernel_rfl) ?_ _
            refine NoPanic.normal ?_
            rw [← HW2.out]
            clear HW2 HS HB kd0 kd1 kd2 xa0 xa1 xa2 xb0 xb1 xb2 za0 za1 za2 zb0 zb1 zb2 v0 v1 v2 f0 f1 f2 p0 p1 p2 g0 g1 g2 wm wb2 b2 b3 b4 b5 b6 b0 b1 ck ck2 ck3 hx
            go_wp2_with fail
            go_roundg k2
            case measure => omega
            case rel => exact ⟨k + 1, _, (by first | rfl | simp), ⟨by have := HK.out; omega⟩, HSW, ⟨by repeat (with_reducible first | exact HS2.out | apply Kd.S_drewN | apply Kd.S_drew)⟩, ⟨by repeat (with_reducible first | exact HB2.out | apply pw_below_drewN | apply below_drew1)⟩⟩
          · have _h := hHeld; clear _h
            go_simp
            clear hHeld
            refine hK.out _ _ ?_ (fun hHeld => ?_)
            · (try dsimp only); with_reducible first | exact kd0 | exact kd1 | exact kd2
            clear hK K
            try simp only [Act.put, List.setIfInBounds_toArray, List.set_cons_zero, List.set_cons_succ]
            refine wpAnyH_ready (rs := [30]) (by kernel_rfl) (by simp) ?_
            refine cons_nth (by repeat' (first | exact Nth.here _ | apply Nth.next)) (fun K hK => ?_) AllReadyH.nil
            go_simp
            clear hHeld
            refine hK.out _ _ ?_ (fun hHeld => ?_)
            · (try dsimp only); with_reducible first | exact kd0 | exact kd1 | exact kd2
            clear hK K
            try simp only [Act.put, List.setIfInBounds_toArray, List.set_cons_zero, List.set_cons_succ]
            refine take_nth (i := 38) (v := ?_) (by repeat' (first | exact Nth.here _ | apply Nth.next)) (by kernel_rfl) (by kernel_rfl) (by kernel_rfl) (fun _ _ _ h => h) (Or.inl ⟨by rfl, ?_⟩) (by assumption) ?_
            rotate_left
            · intro w' hSw; (try dsimp only at hSw); go_simp; try with_reducible rfl
            try simp only [Act.put, List.setIfInBounds_toArray, List.set_cons_zero, List.set_cons_succ]
            refine wpAnyH_ready (rs := [39]) (by kernel_rfl) (by simp) ?_
            refine cons_nth (by repeat' (first | exact Nth.here _ | apply Nth.next)) (fun K hK => ?_) AllReadyH.nil
            go_simp
            clear hHeld
            refine hK.out _ _ ?_ (fun hHeld => ?_)
            · (try dsimp only); with_reducible first | exact kd0 | exact kd1 | exact kd2
            clear hK K
            try simp only [Act.put, List.setIfInBounds_toArray, List.set_cons_zero, List.set_cons_succ]
            refine take_nth (i := 40) (v := ?_) (by repeat' (first | exact Nth.here _ | apply Nth.next)) (by kernel_rfl) (by kernel_rfl) (by kernel_rfl) (fun _ _ _ h => h) (Or.inl ⟨by rfl, ?_⟩) (by assumption) ?_
            rotate_left
            · intro w' hSw; (try dsimp only at hSw); go_simp; try with_reducible rfl
            try simp only [Act.put, List.setIfInBounds_toArray, List.set_cons_zero, List.set_cons_succ]
            refine wpAnyH_ready (rs := [41]) (by kernel_rfl) (by simp) ?_
            refine cons_nth (by repeat' (first | exact Nth.here _ | apply Nth.next)) (fun K hK => ?_) AllReadyH.nil
            go_simp
            clear hHeld
            refine hK.out _ _ ?_ (fun hHeld => ?_)
            · (try dsimp only); with_reducible first | exact kd0 | exact kd1 | exact kd2
            clear hK K
            try simp only [Act.put, List.setIfInBounds_toArray, List.set_cons_zero, List.set_cons_succ]
            refine wpAnyH_done (by kernel_rfl) ?_ _
            refine NoPanic.normal ?_
            rw [← HW2.out]
            clear HW2 HS HB kd0 kd1 kd2 xa0 xa1 xa2 xb0 xb1 xb2 za0 za1 za2 zb0 zb1 zb2 v0 v1 v2 f0 f1 f2 p0 p1 p2 g0 g1 g2 wm wb2 b2 b3 b4 b5 b6 b0 b1 ck ck2 ck3 hx
            go_wp2_with fail
            go_roundg k2
            case measure => omega
            case rel => exact ⟨k + 1, _, (by first | rfl | simp), ⟨by have := HK.out; omega⟩, HSW, ⟨by repeat (with_reducible first | exact HS2.out | apply Kd.S_drewN | apply Kd.S_drew)⟩, ⟨by repeat (with_reducible first | exact HB2.out | apply pw_below_drewN | apply below_drew1)⟩⟩
end Go.Proofs.YtkioddjjfifadaaGreatDoor.P
