/- What the proof of NameOwn needs of: HaS. -/
import Derived.Defers
import Derived.Recover
import Derived.WalkLawsBesides
import Derived.LaidEql
import Derived.Stop.Asserts
import Derived.RowKitTokens
import Derived.Deep.MidRow
import Derived.Deep.WholeRow
import Derived.Test.YtkioddjjfifadaaGreatDoorNo3
namespace Go.Proofs.YtkioddjjfifadaaGreatDoor.P
open Go.RowKit Go.Proofs.YtkioddjjfifadaaGreatDoorW.PrintWords Go.Proofs.YtkioddjjfifadaaGreatDoorW.PrintLast Go.Proofs.YtkioddjjfifadaaGreatDoorW.PrintMore
/-- Nothing that was there is changed, but for block b. -/
structure Kp (b : Nat) (w w' : World) : Prop where
  low : ∀ B, B ≤ b → B ≤ w.heap.size → Below B w w'
  keep : ∀ k, k < w.heap.size → ¬ k = b → w'.heap[k]? = w.heap[k]?
theorem Kp.refl (b : Nat) (w : World) : Kp b w w := ⟨fun _ _ _ => Below.refl _ _, fun _ _ _ => rfl⟩
theorem Kp.size {b : Nat} {w w' : World} (h : Kp b w w') : w.heap.size ≤ w'.heap.size := (h.low 0 (Nat.zero_le _) (Nat.zero_le _)).size
theorem Kp.trans {b : Nat} {w w1 w2 : World} (h : Kp b w w1) (k : Kp b w1 w2) : Kp b w w2 :=
  ⟨fun B hb hs => (h.low B hb hs).trans (k.low B hb (Nat.le_trans hs h.size)), fun i hi hn => (k.keep i (Nat.lt_of_lt_of_le hi h.size) hn).trans (h.keep i hi hn)⟩
theorem Kp.set {b : Nat} {w w1 : World} (h : Kp b w w1) (i : Nat) (u : Value) : Kp b w (w1.setCell ⟨b, i, none⟩ u) :=
  h.trans ⟨fun B hb _ => (Below.refl B w1).setCell hb u, fun k _ hn => Below.heap_setCell w1 ⟨b, i, none⟩ u k hn⟩
theorem Kp.blk {b g : Nat} {w w1 : World} {o : Obj} (h : Kp b w w1) (hg : w.heap[g]? = some o) (hn : ¬ g = b) : w1.heap[g]? = some o := (h.keep g (blk_lt hg) hn).trans hg
/-- A refusal for ErrForm. -/
def E6 (W : World) (ev : Value) : Prop := ∃ r, ev = .iface 256 (.pointer (some ⟨r, 0, none⟩)) ∧ W.heap[r]? = some (.cells #[.int .i64 6] 258 (0, 0))
def Ev (W : World) (ev : Value) : Prop := ev = .nilIface ∨ E6 W ev
theorem E6.keep {n : Nat} {w w1 : World} {ev : Value} {cs : Array Value} {t : TypeId} (h : E6 w ev) (hk : Kp n w w1) (hn : w.heap[n]? = some (.cells cs t (0, 0))) (hs : ¬ cs.size = 1) : E6 w1 ev := by
  obtain ⟨r, rfl, hr⟩ := h
  refine ⟨r, rfl, hk.blk hr ?_⟩
  rintro rfl
  rw [hn] at hr
  injection hr with hr
  injection hr with h1
  exact hs (by rw [h1]; rfl)
end Go.Proofs.YtkioddjjfifadaaGreatDoor.P
namespace Go.Proofs.YtkioddjjfifadaaGreatDoor.P
open Go.RowKit Go.Proofs.YtkioddjjfifadaaGreatDoorW.PrintWords Go.Proofs.YtkioddjjfifadaaGreatDoorW.PrintLast Go.Proofs.YtkioddjjfifadaaGreatDoorW.PrintMore
theorem Kp.same {b s i : Nat} {w w1 : World} {o : Obj} {u : Value} (h : Kp b w w1) (hs : w1.heap[s]? = some o) (hp : (w1.setCell ⟨s, i, none⟩ u).heap[s]? = some o) : Kp b w (w1.setCell ⟨s, i, none⟩ u) := by
  have heq : ∀ k, (w1.setCell ⟨s, i, none⟩ u).heap[k]? = w1.heap[k]? := fun k => by
    by_cases hk : k = s
    · rw [hk, hp, hs]
    · exact Below.heap_setCell w1 ⟨s, i, none⟩ u k hk
  exact ⟨fun B hb hz => (h.low B hb hz).trans ⟨rfl, rfl, rfl, by simp [World.setCell], fun k _ => heq k⟩, fun k hk hn => (heq k).trans (h.keep k hk hn)⟩
theorem Kp.over {b n : Nat} {w w1 w2 : World} (h : Kp b w w1) (k : Kp n w1 w2) (hn : w.heap.size ≤ n) : Kp b w w2 :=
  ⟨fun B hb hz => (h.low B hb hz).trans (k.low B (Nat.le_trans hz hn) (Nat.le_trans hz h.size)), fun i hi hb => (k.keep i (Nat.lt_of_lt_of_le hi h.size) (by omega)).trans (h.keep i hi hb)⟩
/-- The walk over the one element 30 00. -/
abbrev W1 (W : World) (a q : Nat) : Prop := W.heap[a]? = some (.cells #[.slice (some ⟨q, 0, none⟩) 1 1, .nilIface] 168 (0, 0))
end Go.Proofs.YtkioddjjfifadaaGreatDoor.P
namespace Go.Proofs.YtkioddjjfifadaaGreatDoor.P
open Go.RowKit Go.Extern.Stop Go.Stop Go.Extern
theorem Ref.methodKind (h : Value) (w : World) : (Go.method 558 336 (.agg #[h]) "Kind").run Tryz.prog w = .ok (333, h) w := by kernel_rfl
theorem rlm (z : Sem Value) (f : TypeId → Addr → Nat → Nat → Sem Value) (v : Value) :
    ReflectliteValue.method z f #[v] = (do match ← ReflectliteValue.parts v with | none => z | some (t, a, fl) => f t a fl (fl % 32)) := rfl
theorem Ref.methodElem (h : Value) (w : World) : (Go.method 558 336 (.agg #[h]) "Elem").run Tryz.prog w = .ok (349, .agg #[h]) w := by kernel_rfl
theorem Ref.methodImplements (h : Value) (w : World) : (Go.method 558 336 (.agg #[h]) "Implements").run Tryz.prog w = .ok (350, .agg #[h]) w := by kernel_rfl
theorem Ref.methodAssignableTo (h : Value) (w : World) : (Go.method 558 336 (.agg #[h]) "AssignableTo").run Tryz.prog w = .ok (347, .agg #[h]) w := by kernel_rfl
theorem rls (v x : Value) : ReflectliteValue.set #[v, x] = (do
    let (some (dst, a, fl), some (src, b, _)) := (← ReflectliteValue.parts v, ← ReflectliteValue.parts x)
      | unsupported (.noEntry "extern/(internal/reflectlite.Value).Set.zeroValue")
    if fl / ReflectliteValue.flagAddr % 2 == 0 then unsupported (.noEntry "extern/(internal/reflectlite.Value).Set.unaddressable")
    let val ← loadVar src b
    if ← Rtype.directlyAssignable dst src then storeVar dst a val
    else if ← Rtype.implements dst src then
      if (← Rtype.kind src) == 20 then
        match val with
        | .nilIface => unsupported (.noEntry "extern/reflectlite: a nil value of one interface type handed on as a value of another")
        | _ => storeVar dst a val
      else storeVar dst a (.iface src val)
    else panicString ("reflectlite.Set: value of type " ++ (← Rtype.spelt src) ++ " is not assignable to type " ++ (← Rtype.spelt dst))
    pure (.tuple #[])) := rfl
end Go.Proofs.YtkioddjjfifadaaGreatDoor.P
namespace Go.Proofs.YtkioddjjfifadaaGreatDoor.P
open Go.RowKit Go.Proofs.YtkioddjjfifadaaGreatDoorW.PrintWords Go.Proofs.YtkioddjjfifadaaGreatDoorW.PrintLast Go.Proofs.YtkioddjjfifadaaGreatDoorW.PrintMore
/-- The handle of the type 'error', which errors.As asks for. -/
abbrev Hd (w : World) : Prop := w.cell? ⟨0, 0, none⟩ = some (.iface 336 (.agg #[.pointer (some ⟨7, 132, none⟩)]))
theorem Hd.lt {w : World} (h : Hd w) : 0 < w.heap.size := by
  rcases Nat.eq_zero_or_pos w.heap.size with h0 | h1
  · simp [Hd, World.cell?, h0] at h
  · exact h1
theorem Hd.below {w w1 : World} (h : Hd w) (hb : Below w.heap.size w w1) : Hd w1 := by
  have := hb.block 0 h.lt
  unfold Hd World.cell? at *
  simpa [this] using h
end Go.Proofs.YtkioddjjfifadaaGreatDoor.P
namespace Go.Proofs.YtkioddjjfifadaaGreatDoor.P
open Go.RowKit Go.Proofs.YtkioddjjfifadaaGreatDoorW.PrintWords Go.Proofs.YtkioddjjfifadaaGreatDoorW.PrintLast Go.Proofs.YtkioddjjfifadaaGreatDoorW.PrintMore
def chirographlaw17_live.f : Option Bool := some true
end Go.Proofs.YtkioddjjfifadaaGreatDoor.P
