/- What the proof of NameShows needs of: Pxf90, Hy1, Hy2, Hy0, Pxf43, Pxf44, Lv2, Lx2, Lx3, He0, He1, Pxf141. -/
import Derived.Test.YtkioddjjfifadaaGreatDoorNs2
import Derived.Test.YtkioddjjfifadaaGreatDoorNs4
import Derived.Test.YtkioddjjfifadaaGreatDoorNs5
import Derived.Test.YtkioddjjfifadaaGreatDoorNs6
import Derived.Test.YtkioddjjfifadaaGreatDoorNs7
import Derived.Test.YtkioddjjfifadaaGreatDoorNs8
set_option linter.unusedVariables false
set_option linter.unusedSimpArgs false
namespace Go.Proofs.YtkioddjjfifadaaGreatDoor.P
open Go.RowKit Go.Proofs.YtkioddjjfifadaaGreatDoorW.PrintWords Go.Proofs.YtkioddjjfifadaaGreatDoorW.PrintLast Go.Proofs.YtkioddjjfifadaaGreatDoorW.PrintMore
attribute [local go_sem] max2_int min2_int max_two min_two max_three min_three max_four min_four   -- for this text's walks alone
set_option linter.unusedVariables false
set_option linter.unusedSimpArgs false
def chirographref07_letters.f (a0 : ByteArray) : Option (ByteArray) := if a0.toList = ([50, 46, 53, 46, 52, 46, 51] : List UInt8) then (some (⟨#[67, 78]⟩ : ByteArray)) else (if a0.toList = ([50, 46, 53, 46, 52, 46, 54] : List UInt8) then (some (⟨#[67]⟩ : ByteArray)) else (if a0.toList = ([50, 46, 53, 46, 52, 46, 55] : List UInt8) then (some (⟨#[76]⟩ : ByteArray)) else (if a0.toList = ([50, 46, 53, 46, 52, 46, 56] : List UInt8) then (some (⟨#[83, 84]⟩ : ByteArray)) else (if a0.toList = ([50, 46, 53, 46, 52, 46, 49, 48] : List UInt8) then (some (⟨#[79]⟩ : ByteArray)) else (if a0.toList = ([50, 46, 53, 46, 52, 46, 49, 49] : List UInt8) then (some (⟨#[79, 85]⟩ : ByteArray)) else (if a0.toList = ([49, 46, 50, 46, 56, 52, 48, 46, 49, 49, 51, 53, 52, 57, 46, 49, 46, 57, 46, 49] : List UInt8) then (some (⟨#[69]⟩ : ByteArray)) else (some a0)))))))
set_option maxHeartbeats 8000000 in
set_option maxRecDepth 100000 in
theorem chirographref07_letters.calls (a0 : ByteArray) (r : ByteArray) (w : World) (h : chirographref07_letters.f a0 = some r) :
    Calls Tryz.prog 90 #[.string a0] w fun e w' => e = .returned (.string r) ∧ Drawn0 w w' := by
  have H : (if a0.toList = ([50, 46, 53, 46, 52, 46, 51] : List UInt8) then (some (⟨#[67, 78]⟩ : ByteArray)) else (if a0.toList = ([50, 46, 53, 46, 52, 46, 54] : List UInt8) then (some (⟨#[67]⟩ : ByteArray)) else (if a0.toList = ([50, 46, 53, 46, 52, 46, 55] : List UInt8) then (some (⟨#[76]⟩ : ByteArray)) else (if a0.toList = ([50, 46, 53, 46, 52, 46, 56] : List UInt8) then (some (⟨#[83, 84]⟩ : ByteArray)) else (if a0.toList = ([50, 46, 53, 46, 52, 46, 49, 48] : List UInt8) then (some (⟨#[79]⟩ : ByteArray)) else (if a0.toList = ([50, 46, 53, 46, 52, 46, 49, 49] : List UInt8) then (some (⟨#[79, 85]⟩ : ByteArray)) else (if a0.toList = ([49, 46, 50, 46, 56, 52, 48, 46, 49, 49, 51, 53, 52, 57, 46, 49, 46, 57, 46, 49] : List UInt8) then (some (⟨#[69]⟩ : ByteArray)) else (some a0)))))))) = some r := h
  clear h
  by_cases c2 : a0.toList = ([50, 46, 53, 46, 52, 46, 51] : List UInt8)
  · rw [if_pos c2] at H
    have c2b0 : (a0.toList == ([50, 46, 53, 46, 52, 46, 51] : List UInt8)) = true := beq_iff_eq.mpr c2
    have c2b1 : (a0.toList != ([50, 46, 53, 46, 52, 46, 51] : List UInt8)) = false := bne_eq_false_iff_eq.mpr c2
    clear c2
    obtain rfl := Option.some.inj H
    go_enter Tryz.func90, Tryz.ntmps90
    go_wp2
    go_ret
    exact ⟨by first | rfl | (simp; done) | (simp [*]; done), by repeat (first | exact Drawn0.refl _ | apply Drawn0.step)⟩
  rw [if_neg c2] at H
  have c2b0 : (a0.toList == ([50, 46, 53, 46, 52, 46, 51] : List UInt8)) = false := beq_eq_false_iff_ne.mpr c2
  have c2b1 : (a0.toList != ([50, 46, 53, 46, 52, 46, 51] : List UInt8)) = true := bne_iff_ne.mpr c2
  by_cases c3 : a0.toList = ([50, 46, 53, 46, 52, 46, 54] : List UInt8)
  · rw [if_pos c3] at H
    have c3b0 : (a0.toList == ([50, 46, 53, 46, 52, 46, 54] : List UInt8)) = true := beq_iff_eq.mpr c3
    have c3b1 : (a0.toList != ([50, 46, 53, 46, 52, 46, 54] : List UInt8)) = false := bne_eq_false_iff_eq.mpr c3
    clear c3
    obtain rfl := Option.some.inj H
    go_enter Tryz.func90, Tryz.ntmps90
    go_wp2
    go_ret
    exact ⟨by first | rfl | (simp; done) | (simp [*]; done), by repeat (first | exact Drawn0.refl _ | apply Drawn0.step)⟩
  rw [if_neg c3] at H
  have c3b0 : (a0.toList == ([50, 46, 53, 46, 52, 46, 54] : List UInt8)) = false := beq_eq_false_iff_ne.mpr c3
  have c3b1 : (a0.toList != ([50, 46, 53, 46, 52, 46, 54] : List UInt8)) = true := bne_iff_ne.mpr c3
  by_cases c4 : a0.toList = ([50, 46, 53, 46, 52, 46, 55] : List UInt8)
  · rw [if_pos c4] at H
    have c4b0 : (a0.toList == ([50, 46, 53, 46, 52, 46, 55] : List UInt8)) = true := beq_iff_eq.mpr c4
    have c4b1 : (a0.toList != ([50, 46, 53, 46, 52, 46, 55] : List UInt8)) = false := bne_eq_false_iff_eq.mpr c4
    clear c4
    obtain rfl := Option.some.inj H
    go_enter Tryz.func90, Tryz.ntmps90
    go_wp2
    go_ret
    exact ⟨by first | rfl | (simp; done) | (simp [*]; done), by repeat (first | exact Drawn0.refl _ | apply Drawn0.step)⟩
  rw [if_neg c4] at H
  have c4b0 : (a0.toList == ([50, 46, 53, 46, 52, 46, 55] : List UInt8)) = false := beq_eq_false_iff_ne.mpr c4
  have c4b1 : (a0.toList != ([50, 46, 53, 46, 52, 46, 55] : List UInt8)) = true := bne_iff_ne.mpr c4
  by_cases c5 : a0.toList = ([50, 46, 53, 46, 52, 46, 56] : List UInt8)
  · rw [if_pos c5] at H
    have c5b0 : (a0.toList == ([50, 46, 53, 46, 52, 46, 56] : List UInt8)) = true := beq_iff_eq.mpr c5
    have c5b1 : (a0.toList != ([50, 46, 53, 46, 52, 46, 56] : List UInt8)) = false := bne_eq_false_iff_eq.mpr c5
    clear c5
    obtain rfl := Option.some.inj H
    go_enter Tryz.func90, Tryz.ntmps90
    go_wp2
    go_ret
    exact ⟨by first | rfl | (simp; done) | (simp [*]; done), by repeat (first | exact Drawn0.refl _ | apply Drawn0.step)⟩
  rw [if_neg c5] at H
  have c5b0 : (a0.toList == ([50, 46, 53, 46, 52, 46, 56] : List UInt8)) = false := beq_eq_false_iff_ne.mpr c5
  have c5b1 : (a0.toList != ([50, 46, 53, 46, 52, 46, 56] : List UInt8)) = true := bne_iff_ne.mpr c5
  by_cases c6 : a0.toList = ([50, 46, 53, 46, 52, 46, 49, 48] : List UInt8)
  · rw [if_pos c6] at H
    have c6b0 : (a0.toList == ([50, 46, 53, 46, 52, 46, 49, 48] : List UInt8)) = true := beq_iff_eq.mpr c6
    have c6b1 : (a0.toList != ([50, 46, 53, 46, 52, 46, 49, 48] : List UInt8)) = false := bne_eq_false_iff_eq.mpr c6
    clear c6
    obtain rfl := Option.some.inj H
    go_enter Tryz.func90, Tryz.ntmps90
    go_wp2
    go_ret
    exact ⟨by first | rfl | (simp; done) | (simp [*]; done), by repeat (first | exact Drawn0.refl _ | apply Drawn0.step)⟩
  rw [if_neg c6] at H
  have c6b0 : (a0.toList == ([50, 46, 53, 46, 52, 46, 49, 48] : List UInt8)) = false := beq_eq_false_iff_ne.mpr c6
  have c6b1 : (a0.toList != ([50, 46, 53, 46, 52, 46, 49, 48] : List UInt8)) = true := bne_iff_ne.mpr c6
  by_cases c7 : a0.toList = ([50, 46, 53, 46, 52, 46, 49, 49] : List UInt8)
  · rw [if_pos c7] at H
    have c7b0 : (a0.toList == ([50, 46, 53, 46, 52, 46, 49, 49] : List UInt8)) = true := beq_iff_eq.mpr c7
    have c7b1 : (a0.toList != ([50, 46, 53, 46, 52, 46, 49, 49] : List UInt8)) = false := bne_eq_false_iff_eq.mpr c7
    clear c7
    obtain rfl := Option.some.inj H
    go_enter Tryz.func90, Tryz.ntmps90
    go_wp2
    go_ret
    exact ⟨by first | rfl | (simp; done) | (simp [*]; done), by repeat (first | exact Drawn0.refl _ | apply Drawn0.step)⟩
  rw [if_neg c7] at H
  have c7b0 : (a0.toList == ([50, 46, 53, 46, 52, 46, 49, 49] : List UInt8)) = false := beq_eq_false_iff_ne.mpr c7
  have c7b1 : (a0.toList != ([50, 46, 53, 46, 52, 46, 49, 49] : List UInt8)) = true := bne_iff_ne.mpr c7
  by_cases c8 : a0.toList = ([49, 46, 50, 46, 56, 52, 48, 46, 49, 49, 51, 53, 52, 57, 46, 49, 46, 57, 46, 49] : List UInt8)
  rotate_left
  · rw [if_neg c8] at H
    have c8b0 : (a0.toList == ([49, 46, 50, 46, 56, 52, 48, 46, 49, 49, 51, 53, 52, 57, 46, 49, 46, 57, 46, 49] : List UInt8)) = false := beq_eq_false_iff_ne.mpr c8
    have c8b1 : (a0.toList != ([49, 46, 50, 46, 56, 52, 48, 46, 49, 49, 51, 53, 52, 57, 46, 49, 46, 57, 46, 49] : List UInt8)) = true := bne_iff_ne.mpr c8
    obtain rfl := Option.some.inj H
    go_enter Tryz.func90, Tryz.ntmps90
    go_wp2
    go_ret
    exact ⟨by first | rfl | (simp; done) | (simp [*]; done), by repeat (first | exact Drawn0.refl _ | apply Drawn0.step)⟩
  rw [if_pos c8] at H
  have c8b0 : (a0.toList == ([49, 46, 50, 46, 56, 52, 48, 46, 49, 49, 51, 53, 52, 57, 46, 49, 46, 57, 46, 49] : List UInt8)) = true := beq_iff_eq.mpr c8
  have c8b1 : (a0.toList != ([49, 46, 50, 46, 56, 52, 48, 46, 49, 49, 51, 53, 52, 57, 46, 49, 46, 57, 46, 49] : List UInt8)) = false := bne_eq_false_iff_eq.mpr c8
  clear c8
  obtain rfl := Option.some.inj H
  go_enter Tryz.func90, Tryz.ntmps90
  go_wp2
  go_ret
  exact ⟨by first | rfl | (simp; done) | (simp [*]; done), by repeat (first | exact Drawn0.refl _ | apply Drawn0.step)⟩
end Go.Proofs.YtkioddjjfifadaaGreatDoor.P
namespace Go.Proofs.YtkioddjjfifadaaGreatDoor.P
open Go.RowKit Go.Proofs.YtkioddjjfifadaaGreatDoorW.PrintWords Go.Proofs.YtkioddjjfifadaaGreatDoorW.PrintLast Go.Proofs.YtkioddjjfifadaaGreatDoorW.PrintMore
def letE (k v : ByteArray) (n : Nat) : MapEntry := { key := .string k, val := .agg #[.string v], born := n }
def letEs : Array MapEntry := #[letE ⟨#[50, 46, 53, 46, 52, 46, 51]⟩ ⟨#[67, 78]⟩ 0, letE ⟨#[50, 46, 53, 46, 52, 46, 54]⟩ ⟨#[67]⟩ 1, letE ⟨#[50, 46, 53, 46, 52, 46, 55]⟩ ⟨#[76]⟩ 2, letE ⟨#[50, 46, 53, 46, 52, 46, 56]⟩ ⟨#[83, 84]⟩ 3, letE ⟨#[50, 46, 53, 46, 52, 46, 49, 48]⟩ ⟨#[79]⟩ 4, letE ⟨#[50, 46, 53, 46, 52, 46, 49, 49]⟩ ⟨#[79, 85]⟩ 5, letE ⟨#[49, 46, 50, 46, 56, 52, 48, 46, 49, 49, 51, 53, 52, 57, 46, 49, 46, 57, 46, 49]⟩ ⟨#[69]⟩ 6]
def LetMap (w : World) (m : Nat) : Prop := w.heap[m]? = some (.map letEs 7)
theorem mk_run (w : World) : (Instr.makeMap 146 none).run Tryz.prog w = .ok (.map (some w.heap.size)) (w.alloc (.map #[] 0)) := rfl
theorem chk_run (b : Bool) (k : ByteArray) (w : World) : (Instr.checkKey b 10000 9 (.string k)).run Tryz.prog w = .ok () w := by
  rw [show (10000 : Nat) = 9999 + 1 from rfl]
  unfold Instr.checkKey
  simp [run_underlying Tryz.underlying9, Result.andThen]
theorem find_run {es : List MapEntry} (k : ByteArray) (r : Option (Nat × Value)) (hf : Instr.findNow .string (.string k) es 0 = some r) (w : World) : (Instr.findKey 9 (.string k) es).run Tryz.prog w = .ok r w := by
  unfold Instr.findKey
  simp [run_underlying Tryz.underlying9, hf, Result.andThen]
theorem ins_run {w : World} {m c : Nat} {es : Array MapEntry} (k : ByteArray) (v : Value) (hb : w.heap[m]? = some (.map es c)) (hf : Instr.findNow .string (.string k) es.toList 0 = some none) :
    (Instr.mapUpdate 146 (.map (some m)) (.string k) v).run Tryz.prog w = .ok () { w with heap := w.heap.setIfInBounds m (.map (es.push ⟨.string k, v, c⟩) (c + 1)) } := by
  unfold Instr.mapUpdate
  simp [run_underlying Tryz.underlying146, Go.MapKept.run_getObj_map hb, chk_run, find_run k none hf, Go.MapKept.run_setObj_map _ hb, Result.andThen]
theorem ins_ex {w : World} {m c : Nat} {es : Array MapEntry} (k : ByteArray) (v : Value) (hb : w.heap[m]? = some (.map es c)) (hf : Instr.findNow .string (.string k) es.toList 0 = some none) :
    ∃ w' : World, (Instr.mapUpdate 146 (.map (some m)) (.string k) v).run Tryz.prog w = .ok () w' ∧ w'.heap[m]? = some (.map (es.push ⟨.string k, v, c⟩) (c + 1)) ∧ (∀ B w0, B ≤ m → Below B w0 w → Below B w0 w') := by
  refine ⟨_, ins_run k v hb hf, ?_, ?_⟩
  · have hm : m < w.heap.size := by
      rcases Nat.lt_or_ge m w.heap.size with h | h
      rotate_left
      · rw [Array.getElem?_eq_none h] at hb; cases hb
      exact h
    show (w.heap.setIfInBounds m _)[m]? = _
    rw [Array.getElem?_setIfInBounds, if_pos rfl, if_pos hm]
  intro B w0 hB h
  refine ⟨h.os, h.tape, h.output, ?_, ?_⟩
  · show _ ≤ (w.heap.setIfInBounds m _).size
    rw [Array.size_setIfInBounds]
    exact h.size
  intro j hj
  show (w.heap.setIfInBounds m _)[j]? = _
  rw [Array.getElem?_setIfInBounds, if_neg (by omega)]
  exact h.block j hj
def letR : Option (Nat × Value) → Value
  | some (_, v) => v
  | none => .agg #[.string ⟨#[]⟩]
theorem look_run {w : World} {m : Nat} (k : ByteArray) (hb : LetMap w m) (r : Option (Nat × Value)) (hf : Instr.findNow .string (.string k) letEs.toList 0 = some r) :
    (Instr.lookup 146 (.map (some m)) (.string k) true).run Tryz.prog w = .ok (.tuple #[letR r, .bool r.isSome]) w := by
  have hz := Tryz.zeroValue149 w
  have he := Tryz.underlying146
  unfold Instr.lookup
  cases r with
  | none => simp [run_underlying Tryz.underlying146, Go.MapKept.run_getObj_map hb, chk_run, find_run k none hf, hz, Result.andThen, letR]
  | some q => simp [run_underlying Tryz.underlying146, Go.MapKept.run_getObj_map hb, chk_run, find_run k (some q) hf, Result.andThen, letR]
set_option maxHeartbeats 8000000 in
set_option maxRecDepth 100000 in
theorem letters_calls (w : World) : Calls Tryz.prog 86 #[] w fun e w' => ∃ m, e = .returned (.map (some m)) ∧ LetMap w' m ∧ m < w'.heap.size ∧ Below w.heap.size w w' := by
  have e0 := mk_run w
  have h0 : (w.alloc (.map #[] 0)).heap[w.heap.size]? = some (.map #[] 0) := by
    show (w.heap.push _)[w.heap.size]? = _
    rw [Array.getElem?_push_size]
  have b0 : Below w.heap.size w (w.alloc (.map #[] 0)) := below_alloc (Below.refl _ _) _
  generalize w.alloc (.map #[] 0) = W0 at e0 h0 b0
  obtain ⟨W1, e1, h1, x_⟩ := ins_ex ⟨#[50, 46, 53, 46, 52, 46, 51]⟩ (.agg #[.string ⟨#[67, 78]⟩]) h0 (by kernel_rfl)
  have b1 := x_ _ _ (Nat.le_refl _) b0
  clear x_
  obtain ⟨W2, e2, h2, x_⟩ := ins_ex ⟨#[50, 46, 53, 46, 52, 46, 54]⟩ (.agg #[.string ⟨#[67]⟩]) h1 (by kernel_rfl)
  have b2 := x_ _ _ (Nat.le_refl _) b1
  clear x_
  obtain ⟨W3, e3, h3, x_⟩ := ins_ex ⟨#[50, 46, 53, 46, 52, 46, 55]⟩ (.agg #[.string ⟨#[76]⟩]) h2 (by kernel_rfl)
  have b3 := x_ _ _ (Nat.le_refl _) b2
  clear x_
  obtain ⟨W4, e4, h4, x_⟩ := ins_ex ⟨#[50, 46, 53, 46, 52, 46, 56]⟩ (.agg #[.string ⟨#[83, 84]⟩]) h3 (by kernel_rfl)
  have b4 := x_ _ _ (Nat.le_refl _) b3
  clear x_
  obtain ⟨W5, e5, h5, x_⟩ := ins_ex ⟨#[50, 46, 53, 46, 52, 46, 49, 48]⟩ (.agg #[.string ⟨#[79]⟩]) h4 (by kernel_rfl)
  have b5 := x_ _ _ (Nat.le_refl _) b4
  clear x_
  obtain ⟨W6, e6, h6, x_⟩ := ins_ex ⟨#[50, 46, 53, 46, 52, 46, 49, 49]⟩ (.agg #[.string ⟨#[79, 85]⟩]) h5 (by kernel_rfl)
  have b6 := x_ _ _ (Nat.le_refl _) b5
  clear x_
  obtain ⟨W7, e7, h7, x_⟩ := ins_ex ⟨#[49, 46, 50, 46, 56, 52, 48, 46, 49, 49, 51, 53, 52, 57, 46, 49, 46, 57, 46, 49]⟩ (.agg #[.string ⟨#[69]⟩]) h6 (by kernel_rfl)
  have b7 := x_ _ _ (Nat.le_refl _) b6
  clear x_
  have hs : w.heap.size < W7.heap.size := by
    rcases Nat.lt_or_ge w.heap.size W7.heap.size with h | h
    rotate_left
    · rw [Array.getElem?_eq_none h] at h7; cases h7
    exact h
  have H := Aside0.mk h7
  have B := Aside0.mk b7
  clear h0 h1 h2 h3 h4 h5 h6 h7 b0 b1 b2 b3 b4 b5 b6 b7
  go_enter Tryz.func86, Tryz.ntmps86
  go_wp2
  go_ret
  exact ⟨_, rfl, H.out, hs, B.out⟩
theorem letmap_below {w w1 : World} {m : Nat} (h : LetMap w m) (hl : m < w.heap.size) (hb : Below w.heap.size w w1) : LetMap w1 m := (hb.block m hl).trans h
theorem ba_of_toList {a : ByteArray} {l : List UInt8} (h : a.toList = l) : a = ⟨l.toArray⟩ := by
  have h1 : a.data.toList = l := by rw [← Lib.toList_data]; exact h
  cases a with
  | mk d => simp only at h1; rw [← h1]
theorem find_one {es : List MapEntry} {k c v : ByteArray} {n i : Nat} (h : k ≠ c) : Instr.findNow .string (.string k) (letE c v n :: es) i = Instr.findNow .string (.string k) es (i + 1) := by
  have hb : (k == c) = false := by
    cases hq : (k == c) with
    | false => rfl
    | true => exact absurd ((Go.MapKept.bytes_beq k c).1 hq) h
  simp [Instr.findNow, Instr.sameNow, letE, hb]
theorem find_here {es : List MapEntry} {c v : ByteArray} {n i : Nat} : Instr.findNow .string (.string c) (letE c v n :: es) i = some (some (i, .agg #[.string v])) := by
  have hb : (c == c) = true := (Go.MapKept.bytes_beq c c).2 rfl
  simp [Instr.findNow, Instr.sameNow, letE, hb]
theorem letters_cases (k t : ByteArray) (h : chirographref07_letters.f k = some t) : ∃ (x : ByteArray) (b : Bool),
    (∀ (W : World) (m : Nat), LetMap W m → (Instr.lookup 146 (.map (some m)) (.string k) true).run Tryz.prog W = .ok (.tuple #[.agg #[.string x], .bool b]) W) ∧ (if b = true then x else k) = t := by
  have hit : ∀ (i : Nat) (x : ByteArray), Instr.findNow .string (.string k) letEs.toList 0 = some (some (i, .agg #[.string x])) → x = t → ∃ (x : ByteArray) (b : Bool),
    (∀ (W : World) (m : Nat), LetMap W m → (Instr.lookup 146 (.map (some m)) (.string k) true).run Tryz.prog W = .ok (.tuple #[.agg #[.string x], .bool b]) W) ∧ (if b = true then x else k) = t :=
    fun i x hf hx => ⟨x, true, fun W m hm => look_run k hm _ hf, by simpa using hx⟩
  have ne : ∀ {l : List UInt8}, ¬ k.toList = l → k ≠ ⟨l.toArray⟩ := fun h e => h (by rw [e, Lib.toList_data])
  unfold chirographref07_letters.f at h
  have hE : letEs.toList = [letE ⟨#[50, 46, 53, 46, 52, 46, 51]⟩ ⟨#[67, 78]⟩ 0, letE ⟨#[50, 46, 53, 46, 52, 46, 54]⟩ ⟨#[67]⟩ 1, letE ⟨#[50, 46, 53, 46, 52, 46, 55]⟩ ⟨#[76]⟩ 2, letE ⟨#[50, 46, 53, 46, 52, 46, 56]⟩ ⟨#[83, 84]⟩ 3, letE ⟨#[50, 46, 53, 46, 52, 46, 49, 48]⟩ ⟨#[79]⟩ 4, letE ⟨#[50, 46, 53, 46, 52, 46, 49, 49]⟩ ⟨#[79, 85]⟩ 5, letE ⟨#[49, 46, 50, 46, 56, 52, 48, 46, 49, 49, 51, 53, 52, 57, 46, 49, 46, 57, 46, 49]⟩ ⟨#[69]⟩ 6] := rfl
  split at h
  · rename_i h1
    obtain rfl := ba_of_toList h1
    exact hit 0 _ (by rw [hE]; exact find_here) (Option.some.inj h)
  split at h
  · rename_i h0 h1
    obtain rfl := ba_of_toList h1
    exact hit 1 _ (by rw [hE, find_one (ne h0)]; exact find_here) (Option.some.inj h)
  split at h
  · rename_i h0 h2 h1
    obtain rfl := ba_of_toList h1
    exact hit 2 _ (by rw [hE, find_one (ne h0), find_one (ne h2)]; exact find_here) (Option.some.inj h)
  split at h
  · rename_i h0 h2 h3 h1
    obtain rfl := ba_of_toList h1
    exact hit 3 _ (by rw [hE, find_one (ne h0), find_one (ne h2), find_one (ne h3)]; exact find_here) (Option.some.inj h)
  split at h
  · rename_i h0 h2 h3 h4 h1
    obtain rfl := ba_of_toList h1
    exact hit 4 _ (by rw [hE, find_one (ne h0), find_one (ne h2), find_one (ne h3), find_one (ne h4)]; exact find_here) (Option.some.inj h)
  split at h
  · rename_i h0 h2 h3 h4 h5 h1
    obtain rfl := ba_of_toList h1
    exact hit 5 _ (by rw [hE, find_one (ne h0), find_one (ne h2), find_one (ne h3), find_one (ne h4), find_one (ne h5)]; exact find_here) (Option.some.inj h)
  split at h
  · rename_i h0 h2 h3 h4 h5 h6 h1
    obtain rfl := ba_of_toList h1
    exact hit 6 _ (by rw [hE, find_one (ne h0), find_one (ne h2), find_one (ne h3), find_one (ne h4), find_one (ne h5), find_one (ne h6)]; exact find_here) (Option.some.inj h)
  rename_i h0 h2 h3 h4 h5 h6 h7
  have hf : Instr.findNow .string (.string k) letEs.toList 0 = some none := by
    rw [hE, find_one (ne h0), find_one (ne h2), find_one (ne h3), find_one (ne h4), find_one (ne h5), find_one (ne h6), find_one (ne h7)]
    rfl
  exact ⟨⟨#[]⟩, false, fun W m hm => look_run k hm none hf, by simpa using Option.some.inj h⟩
end Go.Proofs.YtkioddjjfifadaaGreatDoor.P
namespace Go.Proofs
open Go.Shelf Go.RowKit
def Tryz.laysRev_ren : Go.Shelf.Ren := ⟨fun | 17 => 89 | n => n, fun | 24 => 102 | n => n, fun | n => n⟩
theorem Tryz.laysRev : Go.Proofs.Lays2.n17 Tryz.prog Tryz.laysRev_ren := {
  mixed := by kernel_rfl
  f17 := Tryz.func89.trans (congrArg some (by kernel_rfl))
  t0 := Tryz.underlying0
  a0 := Tryz.isAgg0
  z0 := Tryz.sizeOf0
  v0 := Tryz.zeroValue0
  t3 := Tryz.underlying3
  a3 := Tryz.isAgg3
  z3 := Tryz.sizeOf3
  v3 := Tryz.zeroValue3
  t4 := Tryz.underlying4
  a4 := Tryz.isAgg4
  z4 := Tryz.sizeOf4
  v4 := Tryz.zeroValue4
  t9 := Tryz.underlying9
  a9 := Tryz.isAgg9
  z9 := Tryz.sizeOf9
  v9 := Tryz.zeroValue9
  t24 := Tryz.underlying102
  a24 := Tryz.isAgg102
  z24 := Tryz.sizeOf102
  v24 := Tryz.zeroValue102
 }
theorem Tryz.slices_Reverse_string (blk off cap : Nat) (zs : List (List UInt8)) (w : World) (hH : Go.Sort.Holds encStr w blk off zs.toArray) (hsz : zs.length ≤ 9223372036854775807) :
    Calls Tryz.prog 89 #[.slice (some ⟨blk, off, none⟩) zs.length cap] w fun e w' => e = .returned (.tuple #[]) ∧ ∃ n, w' = Go.Sort.putRow encStr (Go.Sort.ahead w n) blk off zs.reverse.toArray := Any.slices_Reverse_string Tryz.laysRev blk off cap zs w hH hsz
theorem Tryz.slices_Reverse_string_empty (a : Option Addr) (cap : Nat) (w : World) :
    Calls Tryz.prog 89 #[.slice a 0 cap] w fun e w' => e = .returned (.tuple #[]) ∧ w' = w := Any.slices_Reverse_string_empty Tryz.laysRev a cap w
end Go.Proofs
namespace Go.Proofs.YtkioddjjfifadaaGreatDoor.P
open Go.RowKit Go.Proofs.YtkioddjjfifadaaGreatDoorW.PrintWords Go.Proofs.YtkioddjjfifadaaGreatDoorW.PrintLast Go.Proofs.YtkioddjjfifadaaGreatDoorW.PrintMore
def slices_Reverse.f (xs : List ByteArray) : Option (List ByteArray) := if xs.length < 4611686018427387904 then some xs.reverse else none
theorem rev_own (w0 : World) (v : Value) (xs r : List ByteArray) (w : World) (hR : Kd.string.R 9 w w0.heap.size (fun _ => True) v xs) (h0 : Below w0.heap.size w0 w) (h : slices_Reverse.f xs = some r) :
    Calls Tryz.prog 89 #[v] w fun e w' => e = .returned (.tuple #[]) ∧ Kd.string.R 9 w' w0.heap.size (fun _ => True) v r ∧ Below w0.heap.size w0 w' := by
  unfold slices_Reverse.f at h
  split at h
  case isFalse => cases h
  case isTrue hl =>
  obtain rfl := Option.some.inj h
  have ho := Kd.own_of_R hR
  rcases ho.2 with ⟨rfl, hn⟩ | ⟨g, cap, cur, rfl, hg, hh, hnc, hcm, hsz, htk⟩
  · have hx : xs = [] := List.eq_nil_of_length_eq_zero hn
    subst hx
    refine (Tryz.slices_Reverse_string_empty none 0 w).mono ?_
    rintro e w' ⟨rfl, rfl⟩
    exact ⟨rfl, hR, h0⟩
  have hcur : ∀ j, j < xs.length → cur[j]? = some (Value.string (xs[j]!)) := fun j hj => by
    have h1 : (cur.toList.take (xs.length * 1))[j]? = (encs Value.string xs)[j]? := by rw [htk]
    rw [List.getElem?_take_of_lt (by omega)] at h1
    rw [← Array.getElem?_toList, h1]
    simp [encs, List.getElem?_eq_getElem hj, getElem!_pos xs j hj]
  have hlt : g < w.heap.size := blk_lt hh
  have hH : Go.Sort.Holds Go.Proofs.encStr w g 0 (xs.map fun b => b.data.toList).toArray := fun j hj => by
    have hj' : j < xs.length := by simpa using hj
    refine ⟨?_, blk_frozen hh _⟩
    rw [Nat.zero_add]
    refine (blk_cell hh j).trans ?_
    rw [hcur j hj']
    simp [hj']
  refine (show Calls Tryz.prog 89 #[.slice (some ⟨g, 0, none⟩) xs.length cap] w _ from ?_)
  have hc := Tryz.slices_Reverse_string g 0 cap (xs.map fun b => b.data.toList) w hH (by rw [List.length_map]; omega)
  rw [List.length_map] at hc
  refine hc.mono ?_
  rintro e w' ⟨rfl, n, rfl⟩
  generalize hss : ((xs.map fun b => b.data.toList).reverse : List (List UInt8)) = ss
  have hsl : ss.length = xs.length := by rw [← hss]; simp
  have hsb : xs.reverse = ss.map fun l => (⟨l.toArray⟩ : ByteArray) := by rw [← hss]; simp [← List.map_reverse, List.map_map, Function.comp_def]
  rw [hsb]
  have hgr : w.grownBy (Go.Sort.putRow Go.Proofs.encStr (Go.Sort.ahead w n) g 0 ss.toArray) (some g) := by
    refine ⟨rfl, rfl, rfl, ?_, fun k hk hne => ?_⟩
    rotate_left
    · show (w.heap.modify g _)[k]? = _
      rw [Array.getElem?_modify, if_neg (fun e => hne (by rw [e]))]
    rw [Go.Sort.size_putRow]
    exact Nat.le_refl _
  refine ⟨rfl, Kd.R_of_own ⟨by simp [encs], Or.inr ⟨g, cap, Go.Sort.putCells Go.Proofs.encStr 0 ss.toArray cur, by rw [List.length_map, hsl], hg, ?_, by rw [List.length_map, hsl]; exact hnc, hcm, by simp [Go.Sort.putCells]; simpa using hsz, ?_⟩⟩ (fun _ _ => trivial), pw_below_grown h0 _ h0.size hgr (fun k hk => by injection hk with hk; omega)⟩
  · show (w.heap.modify g _)[g]? = _
    rw [Array.getElem?_modify, if_pos rfl, hh]
    rfl
  rw [List.length_map, Nat.mul_one]
  apply List.ext_getElem?
  intro j
  by_cases hj : j < ss.length
  rotate_left
  · rw [List.getElem?_eq_none (by rw [List.length_take]; omega), List.getElem?_eq_none (by simp [encs]; omega)]
  rw [List.getElem?_take_of_lt hj, Array.getElem?_toList]
  have hcl : j < cur.size := by omega
  simp [Go.Sort.putCells, hcl, hj, encs]
end Go.Proofs.YtkioddjjfifadaaGreatDoor.P
namespace Go.Proofs.YtkioddjjfifadaaGreatDoor.P
open Go.RowKit Go.Proofs.YtkioddjjfifadaaGreatDoorW.PrintWords Go.Proofs.YtkioddjjfifadaaGreatDoorW.PrintLast Go.Proofs.YtkioddjjfifadaaGreatDoorW.PrintMore
attribute [local go_sem] max2_int min2_int max_two min_two max_three min_three max_four min_four   -- for this text's walks alone
set_option linter.unusedVariables false
set_option linter.unusedSimpArgs false
mutual
def name_Show.l0 : Nat → List ByteArray → List (List (S64)) → Int → Int → Option (ByteArray)
  | 0, _, _, _, _ => none
  | k + 1, x4, x14, x15, x16 => if x16 < x15 then (if 0 ≤ x16 then (if x16 < (x14.length : Int) then (name_Show.l1 k x4 ([] : List ByteArray) x14 x15 x16 (rd_L5 x14 x16) ((rd_L5 x14 x16).length : Int) 0) else (none)) else (none)) else ((slices_Reverse.f x4).bind fun y4 => ((strings_Join.f y4 (⟨#[44]⟩ : ByteArray)).bind fun t345 => (some t345)))
def name_Show.l1 : Nat → List ByteArray → List ByteArray → List (List (S64)) → Int → Int → List (S64) → Int → Int → Option (ByteArray)
  | 0, _, _, _, _, _, _, _, _ => none
  | k + 1, x4, x7, x14, x15, x16, x20, x21, x22 => if x22 < x21 then (if 0 ≤ x22 then (if x22 < (x20.length : Int) then ((chirographref07_letters.f ((rd_T64 x20 x22).f0)).bind fun t349 => (if t349.size + 1 ≤ 9223372036854775807 then ((name_value.f k ((rd_T64 x20 x22).f0) ((rd_T64 x20 x22).f1) ((rd_T64 x20 x22).f2)).bind fun t350 => (if (t349 ++ (⟨#[61]⟩ : ByteArray)).size + t350.size ≤ 9223372036854775807 then (if x7.length < 8796093022208 then (name_Show.l1 k x4 (x7 ++ [(t349 ++ (⟨#[61]⟩ : ByteArray)) ++ t350]) x14 x15 x16 x20 x21 (wrap64 (x22 + 1))) else (none)) else (none))) else (none))) else (none)) else (none)) else ((strings_Join.f x7 (⟨#[43]⟩ : ByteArray)).bind fun t354 => (if x4.length < 8796093022208 then (name_Show.l0 k (x4 ++ [t354]) x14 x15 (wrap64 (x16 + 1))) else (none)))
end
def name_Show.f (k : Nat) (l0 : List (List (S64))) : Option (ByteArray) := name_Show.l0 k ([] : List ByteArray) l0 (l0.length : Int) 0
set_option maxHeartbeats 8000000 in
set_option maxRecDepth 100000 in
theorem name_Show.calls (k : Nat) (A0 : Option Addr) (c0 : Nat) (l0 : List (List (S64))) (r : ByteArray) (w00 : World) (hr0 : Kd.C (Kd.slice 64 k64) w00 A0 l0.length l0) (hc0 : l0.length ≤ c0) (h : name_Show.f k l0 = some r) (hH : Tb w00) :
    Calls Tryz.prog 43 #[.slice A0 l0.length c0] w00 fun e w' => e = .returned (.string r) ∧ Below w00.heap.size w00 w' := by
  have hu64 := Tryz.underlying64
  have hu149 := Tryz.underlying149
  have HR00 := Aside0.mk hr0
  have HC0 := Aside0.mk hc0
  have HH00 := Aside0.mk hH
  have H : (name_Show.l0 k ([] : List ByteArray) l0 (l0.length : Int) 0) = some r := h
  clear h hr0 hc0 hH
  have H' := Aside0.mk H
  clear H
  go_enter Tryz.func43, Tryz.ntmps43
  go_wp2_with fail
  refine (letters_calls _).mono ?_
  rintro e w ⟨m, rfl, hm, hml, hb00⟩
  have HB00 := Aside0.mk hb00
  have HLM := Aside0.mk hm
  have HML := Aside0.mk hml
  have HR0 := Aside0.mk (Kd.C_below HR00.out hb00)
  have HHd := Aside0.mk (HH00.out.below hb00)
  clear hb00 hm hml HR00 HH00
  have HB := Aside0.mk (Below.refl w.heap.size w)
  go_wp2
  go_loopg [4, 16] k (fun kq v4 v16 w' => ∃ (x4_1 : List ByteArray) (x16_1 : Int), v16 = .int .i64 x16_1 ∧ Aside0 (name_Show.l0 kq x4_1 l0 (l0.length : Int) x16_1 = some r) ∧ Aside0 (kq ≤ k) ∧ Aside0 (Kd.R Kd.string 9 w' w.heap.size (fun _ => True) v4 x4_1) ∧ Aside0 (Below w.heap.size w w'))
  case atStart => exact ⟨(([] : List ByteArray)), (0), (by first | rfl | (simp; done) | (simp [*]; done)), H', ⟨Nat.le_refl _⟩, ⟨by first | exact Kd.R_nil _ _ _ _ _ | exact Kd.N_nil _ _ _ _ _ | exact Kd.V_nil _ _ _ _ _ | exact Kd.Q_nil _ _ _ _ _ | exact Kd.S_nil _ _ _ _ _⟩, ⟨by repeat (first | (with_reducible first | exact HB.out | apply below_alloc | apply pw_below_drewN | apply below_drew1) | exact HB.out)⟩⟩
  case round =>
    clear H'
    obtain ⟨x4_1, x16_1, rfl, HA, HK1, HO_4, HB⟩ := hrel
    cases gk with
    | zero => exact absurd HA.out (by simp [name_Show.l0])
    | succ k1 =>
      have H := HA.out
      clear HA
      simp only [name_Show.l0] at H
      by_cases c2 : x16_1 < (l0.length : Int)
      rotate_left
      · rw [if_neg c2] at H
        have c2b0 : decide (x16_1 < (l0.length : Int)) = false := decide_eq_false c2
        clear c2
        replace H := Option.bind_eq_some_iff.mp H
        obtain ⟨y4, A220, H⟩ := H
        replace H : ((strings_Join.f y4 (⟨#[44]⟩ : ByteArray)).bind fun t345 => (some t345)) = some r := H
        have A22 := Aside0.mk A220
        have hylen : x4_1.length = y4.length := by
          have h1 := A220
          unfold slices_Reverse.f at h1
          split at h1
          rotate_left
          · cases h1
          rw [← Option.some.inj h1, List.length_reverse]
        have YL := Aside0.mk hylen
        clear hylen
        clear A220
        replace H := Option.bind_eq_some_iff.mp H
        obtain ⟨t345, A230, H⟩ := H
        replace H : (some t345) = some r := H
        have A23 := Aside0.mk A230
        clear A230
        obtain rfl := Option.some.inj H
        obtain ⟨Ao24, co24, eo24⟩ := Kd.R_slice HO_4.out
        subst eo24
        go_wp2_with (first | ((with_reducible refine gate_callee (f := 89) rfl ?_); refine goesL_ (some 53) rfl rfl Tryz.func89 (by kernel_rfl) rfl #[.slice Ao24 x4_1.length co24] rfl (by (try simp only [List.map_toArray, List.map_cons, List.map_nil]); first | done | rfl | (simp only [List.length_drop, List.length_take]; rfl)) ?_; (with_reducible refine (rev_own w _ x4_1 y4 _ ?side1 ?side2 A22.out).mono ?_); (case side1 => exact (by (with_reducible repeat (first | apply Kd.R_alloc | apply Kd.R_drewN | apply Kd.R_drew)); exact HO_4.out)); (case side2 => exact (by repeat (first | (with_reducible first | exact HB.out | apply below_alloc | apply pw_below_drewN | apply below_drew1) | exact HB.out))); rintro e w25 ⟨rfl, hsr, hb⟩; refine ⟨_, rfl, ?_⟩; have n0_ := Aside0.mk hsr; have n1_ := Aside0.mk hb; clear hsr; clear HO_4; clear HB; have HO_4 := n0_; have HB := n1_; clear n0_ n1_; (try clear hb); (try clear hb2); (try clear hk); (try clear hi)) | ((with_reducible refine gate_callee (f := 88) rfl ?_); refine goesL_ (some 55) rfl rfl Tryz.func88 (by kernel_rfl) rfl #[.slice Ao24 x4_1.length co24, .string (⟨#[44]⟩ : ByteArray)] rfl (by (try simp only [List.map_toArray, List.map_cons, List.map_nil]); first | done | rfl | (simp only [List.length_drop, List.length_take]; rfl)) ?_; (rw [YL.out]); (with_reducible refine (strings_Join.calls _ _ y4 (⟨#[44]⟩ : ByteArray) t345 _ ?side1 ?side2 A23.out).mono ?_); (case side1 => repeat (first | exact (Kd.R_reads' HO_4.out).2.2 | (with_reducible refine Kd.C_alloc ?_ _) | (with_reducible refine Kd.C_drewN ?_ _) | (with_reducible refine Kd.C_drew ?_))); (case side2 => rw [← YL.out]; exact (Kd.R_reads' HO_4.out).2.1); rintro e w26 ⟨rfl, hb⟩; refine ⟨_, rfl, ?_⟩; have n0_ := Aside0.mk (Kd.R_below (by (with_reducible repeat (first | apply Kd.R_alloc | apply Kd.R_drewN | apply Kd.R_drew)); exact HO_4.out) hb); have n1_ := Aside0.mk (below_step (by repeat (first | (with_reducible first | exact HB.out | apply below_alloc | apply pw_below_drewN | apply below_drew1) | exact HB.out)) hb); clear HO_4; clear HB; have HO_4 := n0_; have HB := n1_; clear n0_ n1_; (try clear hb); (try clear hb2); (try clear hk); (try clear hi)))
        go_ret
        exact ⟨by first | rfl | (simp [errW_none, errW_some] <;> rfl) | (simp [*, errW_none, errW_some] <;> rfl), below_step HB00.out ((by repeat (first | (with_reducible first | exact HB.out | apply below_alloc | apply pw_below_drewN | apply below_drew1) | exact HB.out)))⟩
      rw [if_pos c2] at H
      have c2b0 : decide (x16_1 < (l0.length : Int)) = true := decide_eq_true c2
      clear c2
      by_cases c3 : 0 ≤ x16_1
      rotate_left
      · rw [if_neg c3] at H
        exact absurd H (by simp)
      rw [if_pos c3] at H
      have c3b0 : decide (0 ≤ x16_1) = true := decide_eq_true c3
      clear c3
      by_cases c4 : x16_1 < (l0.length : Int)
      rotate_left
      · rw [if_neg c4] at H
        exact absurd H (by simp)
      rw [if_pos c4] at H
      have c4b0 : decide (x16_1 < (l0.length : Int)) = true := decide_eq_true c4
      clear c4
      have H' := Aside0.mk H
      clear H
      have p346 : 0 ≤ (x16_1 : Int) := of_decide_eq_true (by first | (with_reducible assumption) | assumption)
      have q346 : x16_1 < (l0.length : Int) := of_decide_eq_true (by first | (with_reducible assumption) | assumption)
      obtain ⟨ad346, A346_0, c346_0, e346, hx346_0, hl346_0, hi346_0⟩ := at_L5 HR0.out x16_1 p346 q346
      cases e346
      replace hx346_0 := (HB.out.cell (World.block_lt_of_cell? w _ hx346_0)).trans hx346_0
      have HR346_0 := Aside0.mk hi346_0
      have HC346_0 := Aside0.mk hl346_0
      clear hi346_0 hl346_0
      replace p346 := eq_true p346
      replace q346 := eq_true q346
      go_wp2
      go_loopg [7, 22] k1 (fun kq v7 v22 w' => ∃ (x7_2 : List ByteArray) (x22_2 : Int), v22 = .int .i64 x22_2 ∧ Aside0 (name_Show.l1 kq x4_1 x7_2 l0 (l0.length : Int) x16_1 (rd_L5 l0 x16_1) ((rd_L5 l0 x16_1).length : Int) x22_2 = some r) ∧ Aside0 (kq ≤ k1) ∧ Aside0 (Kd.R Kd.string 9 w' w.heap.size (fun k_ => some k_ ≠ (v7 : Value).ownBlock) u4 x4_1) ∧ Aside0 (Kd.R Kd.string 9 w' w.heap.size (fun k_ => some k_ ≠ (u4 : Value).ownBlock) v7 x7_2) ∧ Aside0 (Below w.heap.size w w'))
      case atStart => exact ⟨(([] : List ByteArray)), (0), (by first | rfl | (simp; done) | (simp [*]; done)), H', ⟨Nat.le_refl _⟩, ⟨by (with_reducible repeat (first | apply Kd.R_alloc | apply Kd.R_drewN | apply Kd.R_drew)); exact Kd.R_mono HO_4.out (fun _ hk => (by simp [Value.ownBlock]))⟩, ⟨by first | exact Kd.R_nil _ _ _ _ _ | exact Kd.N_nil _ _ _ _ _ | exact Kd.V_nil _ _ _ _ _ | exact Kd.Q_nil _ _ _ _ _ | exact Kd.S_nil _ _ _ _ _⟩, ⟨by repeat (first | (with_reducible first | exact HB.out | apply below_alloc | apply pw_below_drewN | apply below_drew1) | exact HB.out)⟩⟩
      case round =>
        clear H'
        obtain ⟨x7_2, x22_2, rfl, HA, HK2, HO_4, HO_7, HB⟩ := hrel
        cases gk with
        | zero => exact absurd HA.out (by simp [name_Show.l1])
        | succ k2 =>
          have H := HA.out
          clear HA
          simp only [name_Show.l1] at H
          by_cases c5 : x22_2 < ((rd_L5 l0 x16_1).length : Int)
          rotate_left
          · rw [if_neg c5] at H
            have c5b0 : decide (x22_2 < ((rd_L5 l0 x16_1).length : Int)) = false := decide_eq_false c5
            clear c5
            replace H := Option.bind_eq_some_iff.mp H
            obtain ⟨t354, A170, H⟩ := H
            replace H : (if x4_1.length < 8796093022208 then (name_Show.l0 k2 (x4_1 ++ [t354]) l0 (l0.length : Int) (wrap64 (x16_1 + 1))) else (none)) = some r := H
            have A17 := Aside0.mk A170
            clear A170
            by_cases c18 : x4_1.length < 8796093022208
            rotate_left
            · rw [if_neg c18] at H
              exact absurd H (by simp)
            rw [if_pos c18] at H
            have LMc18 := Aside0.mk c18
            clear c18
            obtain ⟨y355, hy355⟩ : ∃ y_ : List ByteArray, y_ = (x4_1 ++ [t354]) := ⟨_, rfl⟩
            replace H : (name_Show.l0 k2 y355 l0 (l0.length : Int) (wrap64 (x16_1 + 1))) = some r := by first | (rw [hy355]; with_reducible exact H) | (have H2_ := (Option.bind_some _ _).symm.trans H; rw [hy355]; with_reducible exact H2_) | (have H2_ := (Option.bind_some _ _).symm.trans H; with_reducible exact H2_) | with_reducible exact H | (rw [hy355]; exact H) | exact H
            have Ny355 := Aside0.mk hy355
            clear hy355
            have H' := Aside0.mk H
            clear H
            obtain ⟨Ao19, co19, eo19⟩ := Kd.R_slice HO_7.out
            subst eo19
            go_wp2_with (first | ((with_reducible refine gate_callee (f := 88) rfl ?_); refine goesL_ (some 48) rfl rfl Tryz.func88 (by kernel_rfl) rfl #[.slice Ao19 x7_2.length co19, .string (⟨#[43]⟩ : ByteArray)] rfl (by (try simp only [List.map_toArray, List.map_cons, List.map_nil]); first | done | rfl | (simp only [List.length_drop, List.length_take]; rfl)) ?_; (with_reducible refine (strings_Join.calls _ _ x7_2 (⟨#[43]⟩ : ByteArray) t354 _ ?side1 ?side2 A17.out).mono ?_); (case side1 => repeat (first | exact (Kd.R_reads' HO_7.out).2.2 | (with_reducible refine Kd.C_alloc ?_ _) | (with_reducible refine Kd.C_drewN ?_ _) | (with_reducible refine Kd.C_drew ?_))); (case side2 => exact (Kd.R_reads' HO_7.out).2.1); rintro e w20 ⟨rfl, hb⟩; refine ⟨_, rfl, ?_⟩; have n0_ := Aside0.mk (Kd.R_below (by (with_reducible repeat (first | apply Kd.R_alloc | apply Kd.R_drewN | apply Kd.R_drew)); exact HO_4.out) hb); have n1_ := Aside0.mk (Kd.R_below (by (with_reducible repeat (first | apply Kd.R_alloc | apply Kd.R_drewN | apply Kd.R_drew)); exact HO_7.out) hb); have n2_ := Aside0.mk (below_step (by repeat (first | (with_reducible first | exact HB.out | apply below_alloc | apply pw_below_drewN | apply below_drew1) | exact HB.out)) hb); clear HO_4; clear HO_7; clear HB; have HO_4 := n0_; have HO_7 := n1_; have HB := n2_; clear n0_ n1_ n2_; (try clear hb); (try clear hb2); (try clear hk); (try clear hi)) | ((with_reducible refine gate_builtin (b := .append) (xs := #[.tmp 46, .tmp 49]) rfl ?_); at_builtin; refine Kd.R_append Kd.string (w0 := w) w.heap.size rfl (.tmp 46) (.tmp 49) 102 9 (.string ⟨#[]⟩) 16 rfl Tryz.underlying102 info9 rfl (by decide) (by omega) u4 x4_1 t354 [.string t354] (fun k_ => some k_ ≠ (.slice Ao19 x7_2.length co19 : Value).ownBlock) (fun _ => False) rfl rfl ?aP (fun _ hk => hk.elim) ?aF ?aO ?aB ?aS ?aL ?_; (case aP => exact rfl); (case aB => exact (by repeat (first | (with_reducible first | exact HB.out | apply below_alloc | apply pw_below_drewN | apply below_drew1) | exact HB.out))); (case aF => exact (fun k_ hk => Kd.fresh' (Kd.R_lt (by (with_reducible repeat (first | apply Kd.R_alloc | apply Kd.R_drewN | apply Kd.R_drew)); exact HO_7.out)) k_ hk)); (case aO => exact (by (with_reducible repeat (first | apply Kd.R_alloc | apply Kd.R_drewN | apply Kd.R_drew)); exact HO_4.out)); (case aS => exact (below_size (by repeat (first | (with_reducible first | exact HB.out | apply below_alloc | apply pw_below_drewN | apply below_drew1) | exact HB.out)))); (case aL => have := LMc18.out; omega); intro v356 w21 ho hb hg hat; rw [← Ny355.out] at ho; have n0_ := Aside0.mk (Kd.R_after (ok := (fun _ => True)) (by (with_reducible repeat (first | apply Kd.R_alloc | apply Kd.R_drewN | apply Kd.R_drew)); exact Kd.R_mono HO_7.out (fun _ hk => ⟨trivial, hk⟩)) hg hat); have n1_ := Aside0.mk (hb); have n2_ := Aside0.mk (ho); clear HO_7; clear HB; clear HO_4; have HO_7 := n0_; have HB := n1_; have HO357 := n2_; clear n0_ n1_ n2_; clear ho hb hg hat))
            go_roundg k2
            case measure => have := HK1.out; have := HK2.out; omega
            case rel => exact ⟨(y355), (wrap64 (x16_1 + 1)), (by first | rfl | (simp; done) | (simp [*]; done)), H', ⟨by have := HK1.out; have := HK2.out; omega⟩, ⟨by (with_reducible repeat (first | apply Kd.R_alloc | apply Kd.R_drewN | apply Kd.R_drew)); exact Kd.R_mono HO357.out (fun _ hk => trivial)⟩, ⟨by repeat (first | (with_reducible first | exact HB.out | apply below_alloc | apply pw_below_drewN | apply below_drew1) | exact HB.out)⟩⟩
          rw [if_pos c5] at H
          have c5b0 : decide (x22_2 < ((rd_L5 l0 x16_1).length : Int)) = true := decide_eq_true c5
          clear c5
          by_cases c6 : 0 ≤ x22_2
          rotate_left
          · rw [if_neg c6] at H
            exact absurd H (by simp)
          rw [if_pos c6] at H
          have c6b0 : decide (0 ≤ x22_2) = true := decide_eq_true c6
          clear c6
          by_cases c7 : x22_2 < ((rd_L5 l0 x16_1).length : Int)
          rotate_left
          · rw [if_neg c7] at H
            exact absurd H (by simp)
          rw [if_pos c7] at H
          have c7b0 : decide (x22_2 < ((rd_L5 l0 x16_1).length : Int)) = true := decide_eq_true c7
          clear c7
          replace H := Option.bind_eq_some_iff.mp H
          obtain ⟨t349, A80, H⟩ := H
          replace H : (if t349.size + 1 ≤ 9223372036854775807 then ((name_value.f k2 ((rd_T64 (rd_L5 l0 x16_1) x22_2).f0) ((rd_T64 (rd_L5 l0 x16_1) x22_2).f1) ((rd_T64 (rd_L5 l0 x16_1) x22_2).f2)).bind fun t350 => (if (t349 ++ (⟨#[61]⟩ : ByteArray)).size + t350.size ≤ 9223372036854775807 then (if x7_2.length < 8796093022208 then (name_Show.l1 k2 x4_1 (x7_2 ++ [(t349 ++ (⟨#[61]⟩ : ByteArray)) ++ t350]) l0 (l0.length : Int) x16_1 (rd_L5 l0 x16_1) ((rd_L5 l0 x16_1).length : Int) (wrap64 (x22_2 + 1))) else (none)) else (none))) else (none)) = some r := H
          have A8 := Aside0.mk A80
          clear A80
          by_cases c9 : t349.size + 1 ≤ 9223372036854775807
          rotate_left
          · rw [if_neg c9] at H
            exact absurd H (by simp)
          rw [if_pos c9] at H
          have c9b0 := eq_true c9
          have c9b1 : decide (t349.size + 1 ≤ 9223372036854775807) = true := decide_eq_true c9
          try have c9b2 : (9223372036854775807 < t349.size + 1) = False := eq_false (Nat.not_lt.2 c9)
          replace H := Option.bind_eq_some_iff.mp H
          obtain ⟨t350, A100, H⟩ := H
          replace H : (if (t349 ++ (⟨#[61]⟩ : ByteArray)).size + t350.size ≤ 9223372036854775807 then (if x7_2.length < 8796093022208 then (name_Show.l1 k2 x4_1 (x7_2 ++ [(t349 ++ (⟨#[61]⟩ : ByteArray)) ++ t350]) l0 (l0.length : Int) x16_1 (rd_L5 l0 x16_1) ((rd_L5 l0 x16_1).length : Int) (wrap64 (x22_2 + 1))) else (none)) else (none)) = some r := H
          have A10 := Aside0.mk A100
          clear A100
          by_cases c11 : (t349 ++ (⟨#[61]⟩ : ByteArray)).size + t350.size ≤ 9223372036854775807
          rotate_left
          · rw [if_neg c11] at H
            exact absurd H (by simp)
          rw [if_pos c11] at H
          have c11b0 := eq_true c11
          have c11b1 : decide ((t349 ++ (⟨#[61]⟩ : ByteArray)).size + t350.size ≤ 9223372036854775807) = true := decide_eq_true c11
          try have c11b2 : (9223372036854775807 < (t349 ++ (⟨#[61]⟩ : ByteArray)).size + t350.size) = False := eq_false (Nat.not_lt.2 c11)
          by_cases c12 : x7_2.length < 8796093022208
          rotate_left
          · rw [if_neg c12] at H
            exact absurd H (by simp)
          rw [if_pos c12] at H
          have LMc12 := Aside0.mk c12
          clear c12
          obtain ⟨y351, hy351⟩ : ∃ y_ : List ByteArray, y_ = (x7_2 ++ [(t349 ++ (⟨#[61]⟩ : ByteArray)) ++ t350]) := ⟨_, rfl⟩
          replace H : (name_Show.l1 k2 x4_1 y351 l0 (l0.length : Int) x16_1 (rd_L5 l0 x16_1) ((rd_L5 l0 x16_1).length : Int) (wrap64 (x22_2 + 1))) = some r := by first | (rw [hy351]; with_reducible exact H) | (have H2_ := (Option.bind_some _ _).symm.trans H; rw [hy351]; with_reducible exact H2_) | (have H2_ := (Option.bind_some _ _).symm.trans H; with_reducible exact H2_) | with_reducible exact H | (rw [hy351]; exact H) | exact H
          have Ny351 := Aside0.mk hy351
          clear hy351
          have H' := Aside0.mk H
          clear H
          have p347 : 0 ≤ (x22_2 : Int) := of_decide_eq_true (by first | (with_reducible assumption) | assumption)
          have q347 : x22_2 < ((rd_L5 l0 x16_1).length : Int) := of_decide_eq_true (by first | (with_reducible assumption) | assumption)
          obtain ⟨ad347, A347_2, c347_2, e347, hx347_0, hx347_1, hx347_2, hl347_2, hi347_2⟩ := at_T64 HR346_0.out x22_2 p347 q347
          cases e347
          replace hx347_0 := (HB.out.cell (World.block_lt_of_cell? w _ hx347_0)).trans hx347_0
          replace hx347_1 := (HB.out.cell (World.block_lt_of_cell? w _ hx347_1)).trans hx347_1
          replace hx347_2 := (HB.out.cell (World.block_lt_of_cell? w _ hx347_2)).trans hx347_2
          have HR347_2 := Aside0.mk hi347_2
          have HC347_2 := Aside0.mk hl347_2
          clear hi347_2 hl347_2
          replace p347 := eq_true p347
          replace q347 := eq_true q347
          obtain ⟨xl, bl, hlk0, hlk1⟩ := letters_cases _ _ A8.out
          have HLK := Aside0.mk hlk0
          have HLX := Aside0.mk hlk1
          clear hlk0 hlk1
          go_upto_if 34 with (first | ((with_reducible refine gate_store (t := 64) (p := 9) rfl ?_); refine store_new (c' := #[.string ((rd_T64 (rd_L5 l0 x16_1) x22_2).f0), .int .i64 ((rd_T64 (rd_L5 l0 x16_1) x22_2).f1), .slice A347_2 ((rd_T64 (rd_L5 l0 x16_1) x22_2).f2).length c347_2]) rfl rfl rfl rfl rfl ?lc ?ld ?le ?_; (case lc => exact (show (Tryz.prog.info? 64).map (·.size) = some 3 by kernel_rfl)); (case ld => rfl); (case le => simp [Value.oneCell']); intro gb348 hg w13 hbox hb; have n0_ := Aside0.mk (Kd.R_below (by (with_reducible repeat (first | apply Kd.R_alloc | apply Kd.R_drewN | apply Kd.R_drew)); exact HO_4.out) hb); have n1_ := Aside0.mk (Kd.R_below (by (with_reducible repeat (first | apply Kd.R_alloc | apply Kd.R_drewN | apply Kd.R_drew)); exact HO_7.out) hb); have n2_ := Aside0.mk (below_step (by repeat (first | (with_reducible first | exact HB.out | apply below_alloc | apply pw_below_drewN | apply below_drew1) | exact HB.out)) hb); have n3_ := Aside0.mk hbox; have n4_ := Aside0.mk ((by rw [hg]; exact (below_size (by repeat (first | (with_reducible first | exact HB.out | apply below_alloc | apply pw_below_drewN | apply below_drew1) | exact HB.out))) : w.heap.size ≤ gb348)); have hlk := HLK.out w13 m (letmap_below HLM.out HML.out n2_.out); clear HO_4; clear HO_7; clear HB; have HO_4 := n0_; have HO_7 := n1_; have HB := n2_; have BK348 := n3_; have GE348 := n4_; have HGE := Aside0.mk hg; have hcy0 : w13.cell? ⟨wr.heap.size, 0, none⟩ = some (.string ((rd_T64 (rd_L5 l0 x16_1) x22_2).f0)) := (by rw [← hg]; exact (blk_cell BK348.out 0).trans rfl); clear n0_ n1_ n2_ n3_ n4_; clear hb hbox hg) | ((with_reducible refine gate_store (t := 149) (p := 11) rfl ?_); refine store_new (c' := #[.string xl]) rfl rfl rfl rfl rfl ?lc ?ld ?le ?_; (case lc => exact (show (Tryz.prog.info? 149).map (·.size) = some 1 by kernel_rfl)); (case ld => rfl); (case le => simp [Value.oneCell']); intro gb9 hg w14 hbox hb; have n0_ := Aside0.mk (Kd.R_below (by (with_reducible repeat (first | apply Kd.R_alloc | apply Kd.R_drewN | apply Kd.R_drew)); exact HO_4.out) hb); have n1_ := Aside0.mk (Kd.R_below (by (with_reducible repeat (first | apply Kd.R_alloc | apply Kd.R_drewN | apply Kd.R_drew)); exact HO_7.out) hb); have n2_ := Aside0.mk (below_step (by repeat (first | (with_reducible first | exact HB.out | apply below_alloc | apply pw_below_drewN | apply below_drew1) | exact HB.out)) hb); have n3_ := Aside0.mk (blk_below BK348.out hb); have n4_ := Aside0.mk hbox; clear HO_4; clear HO_7; clear HB; clear BK348; clear hlk; have HO_4 := n0_; have HO_7 := n1_; have HB := n2_; have BK348 := n3_; have BK9 := n4_; have HG9 := Aside0.mk hg; clear n0_ n1_ n2_ n3_ n4_; clear hb hbox hg))
          (try simp only [Act.put, List.setIfInBounds_toArray, List.set_cons_zero, List.set_cons_succ])
          go_cut [10] (fun v10 wc => v10 = .string t349 ∧ Aside0 (Kd.R Kd.string 9 wc w.heap.size (fun k_ => some k_ ≠ (u7 : Value).ownBlock) u4 x4_1) ∧ Aside0 (Kd.R Kd.string 9 wc w.heap.size (fun k_ => some k_ ≠ (u4 : Value).ownBlock) u7 x7_2) ∧ Aside0 (wc.heap[gb348]? = some (.cells #[.string ((rd_T64 (rd_L5 l0 x16_1) x22_2).f0), .int .i64 ((rd_T64 (rd_L5 l0 x16_1) x22_2).f1), .slice A347_2 ((rd_T64 (rd_L5 l0 x16_1) x22_2).f2).length c347_2] 64 (0, 0))) ∧ Aside0 (Below w.heap.size w wc))
          case first =>
            have hx0 : w14.cell? ⟨w13.heap.size, 0, none⟩ = some (.string xl) := by rw [← HG9.out]; exact (blk_cell BK9.out 0).trans rfl
            cases bl
            rotate_left
            · go_wp2
              go_meet
              case rel => exact ⟨by rw [← HLX.out]; rfl, HO_4, HO_7, BK348, HB⟩
            go_wp2
            go_meet
            case rel => exact ⟨by rw [← HLX.out]; rfl, HO_4, HO_7, BK348, HB⟩
          clear HO_4 HO_7 BK348 HB BK9 HLX HLK
          obtain ⟨rfl, HO_4, HO_7, BK348, HB⟩ := hcut
          have y0 : wc.cell? ⟨wr.heap.size, 0, none⟩ = some (.string ((rd_T64 (rd_L5 l0 x16_1) x22_2).f0)) := by rw [← HGE.out]; exact (blk_cell BK348.out 0).trans rfl
          have y1 : wc.cell? ⟨wr.heap.size, 1, none⟩ = some (.int .i64 ((rd_T64 (rd_L5 l0 x16_1) x22_2).f1)) := by rw [← HGE.out]; exact (blk_cell BK348.out 1).trans rfl
          have y2 : wc.cell? ⟨wr.heap.size, 2, none⟩ = some (.slice A347_2 ((rd_T64 (rd_L5 l0 x16_1) x22_2).f2).length c347_2) := by rw [← HGE.out]; exact (blk_cell BK348.out 2).trans rfl
          have z61 : (⟨#[61]⟩ : ByteArray).size = 1 := rfl
          have YYc : (9223372036854775807 < t349.size + 1 + t350.size) = False := eq_false (by have h_ := of_decide_eq_true c11b1; simp only [ByteArray.size_append, z61] at h_; omega)
          go_wp2_with (first | ((with_reducible refine gate_callee (f := 87) rfl ?_); refine goesL_ (some 41) rfl rfl Tryz.func87 (by kernel_rfl) rfl #[.agg #[.string ((rd_T64 (rd_L5 l0 x16_1) x22_2).f0), .int .i64 ((rd_T64 (rd_L5 l0 x16_1) x22_2).f1), .slice A347_2 ((rd_T64 (rd_L5 l0 x16_1) x22_2).f2).length c347_2]] rfl (by (try simp only [List.map_toArray, List.map_cons, List.map_nil]); first | done | rfl | (simp only [List.length_drop, List.length_take]; rfl)) ?_; (with_reducible refine (name_value.calls k2 ((rd_T64 (rd_L5 l0 x16_1) x22_2).f0) ((rd_T64 (rd_L5 l0 x16_1) x22_2).f1) _ _ ((rd_T64 (rd_L5 l0 x16_1) x22_2).f2) t350 _ ?side1 ?side2 A10.out (HHd.out.below HB.out)).mono ?_); (case side1 => exact Kd.C_below HR347_2.out (by repeat (first | (with_reducible first | exact HB.out | apply below_alloc | apply pw_below_drewN | apply below_drew1 | refine below_set ?_ GE348.out) | exact HB.out))); (case side2 => exact HC347_2.out); rintro e w15 ⟨rfl, hb⟩; refine ⟨_, rfl, ?_⟩; have n0_ := Aside0.mk (Kd.R_below (by (with_reducible repeat (first | apply Kd.R_alloc | apply Kd.R_drewN | apply Kd.R_drew)); exact HO_4.out) hb); have n1_ := Aside0.mk (Kd.R_below (by (with_reducible repeat (first | apply Kd.R_alloc | apply Kd.R_drewN | apply Kd.R_drew)); exact HO_7.out) hb); have n2_ := Aside0.mk (blk_below BK348.out hb); have n3_ := Aside0.mk (below_step (by repeat (first | (with_reducible first | exact HB.out | apply below_alloc | apply pw_below_drewN | apply below_drew1 | refine below_set ?_ GE348.out) | exact HB.out)) hb); clear HO_4; clear HO_7; clear BK348; clear HB; have HO_4 := n0_; have HO_7 := n1_; have BK348 := n2_; have HB := n3_; clear n0_ n1_ n2_ n3_; (try clear hb); (try clear hb2); (try clear hk); (try clear hi)) | ((with_reducible refine gate_builtin (b := .append) (xs := #[.tmp 37, .tmp 43]) rfl ?_); at_builtin; refine Kd.R_append Kd.string (w0 := w) w.heap.size rfl (.tmp 37) (.tmp 43) 102 9 (.string ⟨#[]⟩) 16 rfl Tryz.underlying102 info9 rfl (by decide) (by omega) u7 x7_2 ((t349 ++ (⟨#[61]⟩ : ByteArray)) ++ t350) [.string ((t349 ++ (⟨#[61]⟩ : ByteArray)) ++ t350)] (fun k_ => some k_ ≠ (u4 : Value).ownBlock) (fun _ => False) rfl rfl ?aP (fun _ hk => hk.elim) ?aF ?aO ?aB ?aS ?aL ?_; (case aP => exact rfl); (case aB => exact (by repeat (first | (with_reducible first | exact HB.out | apply below_alloc | apply pw_below_drewN | apply below_drew1 | refine below_set ?_ GE348.out) | exact HB.out))); (case aF => exact (fun k_ hk => Kd.fresh' (Kd.R_lt (by (with_reducible repeat (first | apply Kd.R_alloc | apply Kd.R_drewN | apply Kd.R_drew)); exact HO_4.out)) k_ hk)); (case aO => exact (by (with_reducible repeat (first | apply Kd.R_alloc | apply Kd.R_drewN | apply Kd.R_drew)); exact HO_7.out)); (case aS => exact (below_size (by repeat (first | (with_reducible first | exact HB.out | apply below_alloc | apply pw_below_drewN | apply below_drew1 | refine below_set ?_ GE348.out) | exact HB.out)))); (case aL => have := LMc12.out; omega); intro v352 w16 ho hb hg hat; rw [← Ny351.out] at ho; have n0_ := Aside0.mk (Kd.R_after (ok := (fun _ => True)) (by (with_reducible repeat (first | apply Kd.R_alloc | apply Kd.R_drewN | apply Kd.R_drew)); exact Kd.R_mono HO_4.out (fun _ hk => ⟨trivial, hk⟩)) hg hat); have n1_ := Aside0.mk (blk_grown (g := gb348) (o := .cells #[.string ((rd_T64 (rd_L5 l0 x16_1) x22_2).f0), .int .i64 ((rd_T64 (rd_L5 l0 x16_1) x22_2).f1), .slice A347_2 ((rd_T64 (rd_L5 l0 x16_1) x22_2).f2).length c347_2] 64 (0, 0)) (by (with_reducible repeat (first | refine blk_drewN ?_ _ | refine blk_drew ?_ | refine blk_alloc ?_ _)); exact BK348.out) hg (Kd.R_ne HO_7.out BK348.out (by decide))); have n2_ := Aside0.mk (hb); have n3_ := Aside0.mk (ho); clear HO_4; clear BK348; clear HB; clear HO_7; have HO_4 := n0_; have BK348 := n1_; have HB := n2_; have HO353 := n3_; clear n0_ n1_ n2_ n3_; clear ho hb hg hat))
          go_roundg k2
          case measure => have := HK1.out; have := HK2.out; omega
          case rel => exact ⟨(y351), (wrap64 (x22_2 + 1)), (by first | rfl | (simp; done) | (simp [*]; done)), H', ⟨by have := HK1.out; have := HK2.out; omega⟩, ⟨by (with_reducible repeat (first | apply Kd.R_alloc | apply Kd.R_drewN | apply Kd.R_drew)); exact Kd.R_mono HO_4.out (fun _ hk => hk.2)⟩, ⟨by (with_reducible repeat (first | apply Kd.R_alloc | apply Kd.R_drewN | apply Kd.R_drew)); exact HO353.out⟩, ⟨by repeat (first | (with_reducible first | exact HB.out | apply below_alloc | apply pw_below_drewN | apply below_drew1 | refine below_set ?_ GE348.out) | exact HB.out)⟩⟩
mutual
def chirographref07_Show.l0 : Nat → List (List (S64)) → ByteArray → Int → Option (ByteArray)
  | 0, _, _, _ => none
  | k + 1, x0, x3, x4 => if x4 ≥ 0 then (chirographref07_Show.l1 k x0 x3 x4 0) else (some x3)
def chirographref07_Show.l1 : Nat → List (List (S64)) → ByteArray → Int → Int → Option (ByteArray)
  | 0, _, _, _, _ => none
  | k + 1, x0, x3, x4, x5 => if 0 ≤ x4 then (if x4 < (x0.length : Int) then (if x5 < ((rd_L5 x0 x4).length : Int) then (if x5 > 0 then (if x3.size + 1 ≤ 9223372036854775807 then (if 0 ≤ x5 then ((chirographref07_letters.f ((rd_T64 (rd_L5 x0 x4) x5).f0)).bind fun t1117 => (if (x3 ++ (⟨#[43]⟩ : ByteArray)).size + t1117.size ≤ 9223372036854775807 then (if ((x3 ++ (⟨#[43]⟩ : ByteArray)) ++ t1117).size + 1 ≤ 9223372036854775807 then ((chirographref07_value.f k ((rd_T64 (rd_L5 x0 x4) x5).f0) ((rd_T64 (rd_L5 x0 x4) x5).f1) ((rd_T64 (rd_L5 x0 x4) x5).f2)).bind fun t1120 => (if (((x3 ++ (⟨#[43]⟩ : ByteArray)) ++ t1117) ++ (⟨#[61]⟩ : ByteArray)).size + t1120.size ≤ 9223372036854775807 then (chirographref07_Show.l1 k x0 ((((x3 ++ (⟨#[43]⟩ : ByteArray)) ++ t1117) ++ (⟨#[61]⟩ : ByteArray)) ++ t1120) x4 (wrap64 (x5 + 1))) else (none))) else (none)) else (none))) else (none)) else (none)) else (if 0 ≤ x5 then ((chirographref07_letters.f ((rd_T64 (rd_L5 x0 x4) x5).f0)).bind fun t1123 => (if x3.size + t1123.size ≤ 9223372036854775807 then (if (x3 ++ t1123).size + 1 ≤ 9223372036854775807 then ((chirographref07_value.f k ((rd_T64 (rd_L5 x0 x4) x5).f0) ((rd_T64 (rd_L5 x0 x4) x5).f1) ((rd_T64 (rd_L5 x0 x4) x5).f2)).bind fun t1126 => (if ((x3 ++ t1123) ++ (⟨#[61]⟩ : ByteArray)).size + t1126.size ≤ 9223372036854775807 then (chirographref07_Show.l1 k x0 (((x3 ++ t1123) ++ (⟨#[61]⟩ : ByteArray)) ++ t1126) x4 (wrap64 (x5 + 1))) else (none))) else (none)) else (none))) else (none))) else (if x4 > 0 then (if x3.size + 1 ≤ 9223372036854775807 then (chirographref07_Show.l0 k x0 (x3 ++ (⟨#[44]⟩ : ByteArray)) (wrap64 (x4 - 1))) else (none)) else (chirographref07_Show.l0 k x0 x3 (wrap64 (x4 - 1))))) else (none)) else (none)
end
def chirographref07_Show.f (k : Nat) (l0 : List (List (S64))) : Option (ByteArray) := chirographref07_Show.l0 k l0 (⟨#[]⟩ : ByteArray) (wrap64 ((l0.length : Int) - 1))
def chirographref07_Show.T10 : Bool × List (List Nat × List Nat) := (true, [([], []), ([], []), ([], []), ([1, 2], [1, 2]), ([3], [3]), ([], []), ([4, 5], [4, 5]), ([6], [6]), ([7], [7]), ([8], [8]), ([0, 9], [0, 9]), ([10], [10]), ([], []), ([], []), ([12, 13], [12, 13]), ([14], [14]), ([], []), ([15, 16], [15, 16]), ([17], [17]), ([18, 9], [18]), ([11, 19], [11, 19]), ([20, 19, 0, 1, 2, 3, 4, 5, 6, 7, 8, 9, 10, 11, 12, 13, 14, 15, 16, 17, 18, 19, 20], [0, 20])])
def chirographref07_Show.B10 : List Nat := [0, 0, 0, 6, 14, 0, 62, 126, 254, 510, 1023, 2047, 0, 0, 12288, 28672, 0, 126976, 258048, 521214, 1048575, 2097151]
theorem chirographref07_Show.tab10 : rtab .any (opsOf Tryz.f44 10) = chirographref07_Show.T10 := by kernel_rfl
theorem chirographref07_Show.bits10 : waitsOk chirographref07_Show.T10.2 chirographref07_Show.B10 = true := by kernel_rfl
set_option maxHeartbeats 8000000 in
set_option maxRecDepth 100000 in
theorem chirographref07_Show.calls (k : Nat) (A0 : Option Addr) (c0 : Nat) (l0 : List (List (S64))) (r : ByteArray) (w : World) (hr0 : Kd.C (Kd.slice 64 k64) w A0 l0.length l0) (hc0 : l0.length ≤ c0) (h : chirographref07_Show.f k l0 = some r) :
    Calls Tryz.prog 44 #[.slice A0 l0.length c0] w fun e w' => e = .returned (.string r) ∧ Below w.heap.size w w' := by
  have hu64 := Tryz.underlying64
  have HR0 := Aside0.mk hr0
  have HC0 := Aside0.mk hc0
  clear hr0 hc0
  have HB := Aside0.mk (Below.refl w.heap.size w)
  have H : (chirographref07_Show.l0 k l0 (⟨#[]⟩ : ByteArray) (wrap64 ((l0.length : Int) - 1))) = some r := h
  clear h
  have H' := Aside0.mk H
  clear H
  go_enter Tryz.func44, Tryz.ntmps44
  go_wp2
  go_loopg [3, 4] k (fun kq v3 v4 w' => ∃ (x3_1 : ByteArray) (x4_1 : Int), v3 = .string x3_1 ∧ v4 = .int .i64 x4_1 ∧ Aside0 (chirographref07_Show.l0 kq l0 x3_1 x4_1 = some r) ∧ Aside0 (kq ≤ k) ∧ Aside0 (Below w.heap.size w w'))
  case atStart => exact ⟨((⟨#[]⟩ : ByteArray)), (wrap64 ((l0.length : Int) - 1)), (by first | rfl | (simp; done) | (simp [*]; done)), (by first | rfl | (simp; done) | (simp [*]; done)), H', ⟨Nat.le_refl _⟩, ⟨by repeat (first | (with_reducible first | exact HB.out | apply below_alloc | apply pw_below_drewN | apply below_drew1) | exact HB.out)⟩⟩
  case round =>
    clear H'
    obtain ⟨x3_1, x4_1, rfl, rfl, HA, HK1, HB⟩ := hrel
    cases gk with
    | zero => exact absurd HA.out (by simp [chirographref07_Show.l0])
    | succ k1 =>
      have H := HA.out
      clear HA
      simp only [chirographref07_Show.l0] at H
      by_cases c2 : x4_1 ≥ 0
      rotate_left
      · rw [if_neg c2] at H
        have c2b0 : decide (0 ≤ x4_1) = false := decide_eq_false c2
        clear c2
        obtain rfl := Option.some.inj H
        go_wp2
        go_ret
        exact ⟨by first | rfl | (simp [errW_none, errW_some] <;> rfl) | (simp [*, errW_none, errW_some] <;> rfl), by repeat (first | (with_reducible first | exact HB.out | apply below_alloc | apply pw_below_drewN | apply below_drew1) | exact HB.out)⟩
      rw [if_pos c2] at H
      have c2b0 : decide (0 ≤ x4_1) = true := decide_eq_true c2
      clear c2
      have H' := Aside0.mk H
      clear H
      go_wp2
      go_loopg [3, 5] k1 (fun kq v3 v5 w' => ∃ (x3_2 : ByteArray) (x5_2 : Int), v3 = .string x3_2 ∧ v5 = .int .i64 x5_2 ∧ Aside0 (chirographref07_Show.l1 kq l0 x3_2 x4_1 x5_2 = some r) ∧ Aside0 (kq ≤ k1) ∧ Aside0 (Below w.heap.size w w'))
      case atStart => exact ⟨(x3_1), (0), (by first | rfl | (simp; done) | (simp [*]; done)), (by first | rfl | (simp; done) | (simp [*]; done)), H', ⟨Nat.le_refl _⟩, ⟨by repeat (first | (with_reducible first | exact HB.out | apply below_alloc | apply pw_below_drewN | apply below_drew1) | exact HB.out)⟩⟩
      case round =>
        clear H'
        obtain ⟨x3_2, x5_2, rfl, rfl, HA, HK2, HB⟩ := hrel
        cases gk with
        | zero => exact absurd HA.out (by simp [chirographref07_Show.l1])
        | succ k2 =>
          have H := HA.out
          clear HA
          simp only [chirographref07_Show.l1] at H
          by_cases c3 : 0 ≤ x4_1
          rotate_left
          · rw [if_neg c3] at H
            exact absurd H (by simp)
          rw [if_pos c3] at H
          have c3b0 : decide (0 ≤ x4_1) = true := decide_eq_true c3
          clear c3
          by_cases c4 : x4_1 < (l0.length : Int)
          rotate_left
          · rw [if_neg c4] at H
            exact absurd H (by simp)
          rw [if_pos c4] at H
          have c4b0 : decide (x4_1 < (l0.length : Int)) = true := decide_eq_true c4
          clear c4
          by_cases c5 : x5_2 < ((rd_L5 l0 x4_1).length : Int)
          rotate_left
          · rw [if_neg c5] at H
            have c5b0 : decide (x5_2 < ((rd_L5 l0 x4_1).length : Int)) = false := decide_eq_false c5
            clear c5
            by_cases c24 : x4_1 > 0
            rotate_left
            · rw [if_neg c24] at H
              have c24b0 : decide (0 < x4_1) = false := decide_eq_false c24
              clear c24
              have H' := Aside0.mk H
              clear H
              have p1114 : 0 ≤ (x4_1 : Int) := of_decide_eq_true (by first | (with_reducible assumption) | assumption)
              have q1114 : x4_1 < (l0.length : Int) := of_decide_eq_true (by first | (with_reducible assumption) | assumption)
              obtain ⟨ad1114, A1114_0, c1114_0, e1114, hx1114_0, hl1114_0, hi1114_0⟩ := at_L5 HR0.out x4_1 p1114 q1114
              cases e1114
              replace hx1114_0 := (HB.out.cell (World.block_lt_of_cell? w _ hx1114_0)).trans hx1114_0
              have HR1114_0 := Aside0.mk hi1114_0
              have HC1114_0 := Aside0.mk hl1114_0
              clear hi1114_0 hl1114_0
              replace p1114 := eq_true p1114
              replace q1114 := eq_true q1114
              go_wp2
              go_roundg k2
              case measure => have := HK1.out; have := HK2.out; omega
              case rel => exact ⟨(x3_2), (wrap64 (x4_1 - 1)), (by first | rfl | (simp; done) | (simp [*]; done)), (by first | rfl | (simp; done) | (simp [*]; done)), H', ⟨by have := HK1.out; have := HK2.out; omega⟩, ⟨by repeat (first | (with_reducible first | exact HB.out | apply below_alloc | apply pw_below_drewN | apply below_drew1) | exact HB.out)⟩⟩
            rw [if_pos c24] at H
            have c24b0 : decide (0 < x4_1) = true := decide_eq_true c24
            clear c24
            by_cases c25 : x3_2.size + 1 ≤ 9223372036854775807
            rotate_left
            · rw [if_neg c25] at H
              exact absurd H (by simp)
            rw [if_pos c25] at H
            have c25b0 := eq_true c25
            have c25b1 : decide (x3_2.size + 1 ≤ 9223372036854775807) = true := decide_eq_true c25
            try have c25b2 : (9223372036854775807 < x3_2.size + 1) = False := eq_false (Nat.not_lt.2 c25)
            have H' := Aside0.mk H
            clear H
            have p1114 : 0 ≤ (x4_1 : Int) := of_decide_eq_true (by first | (with_reducible assumption) | assumption)
            have q1114 : x4_1 < (l0.length : Int) := of_decide_eq_true (by first | (with_reducible assumption) | assumption)
            obtain ⟨ad1114, A1114_0, c1114_0, e1114, hx1114_0, hl1114_0, hi1114_0⟩ := at_L5 HR0.out x4_1 p1114 q1114
            cases e1114
            replace hx1114_0 := (HB.out.cell (World.block_lt_of_cell? w _ hx1114_0)).trans hx1114_0
            have HR1114_0 := Aside0.mk hi1114_0
            have HC1114_0 := Aside0.mk hl1114_0
            clear hi1114_0 hl1114_0
            replace p1114 := eq_true p1114
            replace q1114 := eq_true q1114
            go_wp2
            go_roundg k2
            case measure => have := HK1.out; have := HK2.out; omega
            case rel => exact ⟨(x3_2 ++ (⟨#[44]⟩ : ByteArray)), (wrap64 (x4_1 - 1)), (by first | rfl | (simp; done) | (simp [*]; done)), (by first | rfl | (simp; done) | (simp [*]; done)), H', ⟨by have := HK1.out; have := HK2.out; omega⟩, ⟨by repeat (first | (with_reducible first | exact HB.out | apply below_alloc | apply pw_below_drewN | apply below_drew1) | exact HB.out)⟩⟩
          rw [if_pos c5] at H
          have c5b0 : decide (x5_2 < ((rd_L5 l0 x4_1).length : Int)) = true := decide_eq_true c5
          clear c5
          by_cases c6 : x5_2 > 0
          rotate_left
          · rw [if_neg c6] at H
            have c6b0 : decide (0 < x5_2) = false := decide_eq_false c6
            clear c6
            by_cases c16 : 0 ≤ x5_2
            rotate_left
            · rw [if_neg c16] at H
              exact absurd H (by simp)
            rw [if_pos c16] at H
            have c16b0 : decide (0 ≤ x5_2) = true := decide_eq_true c16
            clear c16
            replace H := Option.bind_eq_some_iff.mp H
            obtain ⟨t1123, A170, H⟩ := H
            replace H : (if x3_2.size + t1123.size ≤ 9223372036854775807 then (if (x3_2 ++ t1123).size + 1 ≤ 9223372036854775807 then ((chirographref07_value.f k2 ((rd_T64 (rd_L5 l0 x4_1) x5_2).f0) ((rd_T64 (rd_L5 l0 x4_1) x5_2).f1) ((rd_T64 (rd_L5 l0 x4_1) x5_2).f2)).bind fun t1126 => (if ((x3_2 ++ t1123) ++ (⟨#[61]⟩ : ByteArray)).size + t1126.size ≤ 9223372036854775807 then (chirographref07_Show.l1 k2 l0 (((x3_2 ++ t1123) ++ (⟨#[61]⟩ : ByteArray)) ++ t1126) x4_1 (wrap64 (x5_2 + 1))) else (none))) else (none)) else (none)) = some r := H
            have A17 := Aside0.mk A170
            clear A170
            by_cases c18 : x3_2.size + t1123.size ≤ 9223372036854775807
            rotate_left
            · rw [if_neg c18] at H
              exact absurd H (by simp)
            rw [if_pos c18] at H
            have c18b0 := eq_true c18
            have c18b1 : decide (x3_2.size + t1123.size ≤ 9223372036854775807) = true := decide_eq_true c18
            try have c18b2 : (9223372036854775807 < x3_2.size + t1123.size) = False := eq_false (Nat.not_lt.2 c18)
            by_cases c19 : (x3_2 ++ t1123).size + 1 ≤ 9223372036854775807
            rotate_left
            · rw [if_neg c19] at H
              exact absurd H (by simp)
            rw [if_pos c19] at H
            have c19b0 := eq_true c19
            have c19b1 : decide ((x3_2 ++ t1123).size + 1 ≤ 9223372036854775807) = true := decide_eq_true c19
            have YYc19 : (9223372036854775807 < x3_2.size + t1123.size + 1) = False := eq_false (by have h_ := of_decide_eq_true c19b1; simp only [ByteArray.size_append] at h_; omega)
            try have c19b2 : (9223372036854775807 < (x3_2 ++ t1123).size + 1) = False := eq_false (Nat.not_lt.2 c19)
            replace H := Option.bind_eq_some_iff.mp H
            obtain ⟨t1126, A200, H⟩ := H
            replace H : (if ((x3_2 ++ t1123) ++ (⟨#[61]⟩ : ByteArray)).size + t1126.size ≤ 9223372036854775807 then (chirographref07_Show.l1 k2 l0 (((x3_2 ++ t1123) ++ (⟨#[61]⟩ : ByteArray)) ++ t1126) x4_1 (wrap64 (x5_2 + 1))) else (none)) = some r := H
            have A20 := Aside0.mk A200
            clear A200
            by_cases c21 : ((x3_2 ++ t1123) ++ (⟨#[61]⟩ : ByteArray)).size + t1126.size ≤ 9223372036854775807
            rotate_left
            · rw [if_neg c21] at H
              exact absurd H (by simp)
            rw [if_pos c21] at H
            have c21b0 := eq_true c21
            have c21b1 : decide (((x3_2 ++ t1123) ++ (⟨#[61]⟩ : ByteArray)).size + t1126.size ≤ 9223372036854775807) = true := decide_eq_true c21
            have YYc21 : (9223372036854775807 < x3_2.size + t1123.size + 1 + t1126.size) = False := eq_false (by have h_ := of_decide_eq_true c21b1; have z61 : (⟨#[61]⟩ : ByteArray).size = 1 := rfl; simp only [ByteArray.size_append, z61] at h_; omega)
            try have c21b2 : (9223372036854775807 < ((x3_2 ++ t1123) ++ (⟨#[61]⟩ : ByteArray)).size + t1126.size) = False := eq_false (Nat.not_lt.2 c21)
            have H' := Aside0.mk H
            clear H
            have p1114 : 0 ≤ (x4_1 : Int) := of_decide_eq_true (by first | (with_reducible assumption) | assumption)
            have q1114 : x4_1 < (l0.length : Int) := of_decide_eq_true (by first | (with_reducible assumption) | assumption)
            obtain ⟨ad1114, A1114_0, c1114_0, e1114, hx1114_0, hl1114_0, hi1114_0⟩ := at_L5 HR0.out x4_1 p1114 q1114
            cases e1114
            replace hx1114_0 := (HB.out.cell (World.block_lt_of_cell? w _ hx1114_0)).trans hx1114_0
            have HR1114_0 := Aside0.mk hi1114_0
            have HC1114_0 := Aside0.mk hl1114_0
            clear hi1114_0 hl1114_0
            replace p1114 := eq_true p1114
            replace q1114 := eq_true q1114
            try go_wp2
            have n0_ := Aside0.mk (below_drew1 HB.out)
            clear HB
            have HB := n0_
            clear n0_
            have p1121 : 0 ≤ (x4_1 : Int) := of_decide_eq_true (by first | (with_reducible assumption) | assumption)
            have q1121 : x4_1 < (l0.length : Int) := of_decide_eq_true (by first | (with_reducible assumption) | assumption)
            obtain ⟨ad1121, A1121_0, c1121_0, e1121, hx1121_0, hl1121_0, hi1121_0⟩ := at_L5 HR0.out x4_1 p1121 q1121
            have hw1121_0 := hx1121_0
            obtain rfl : ad1114 = ad1121 := (by injection e1121)
            replace hx1121_0 := (HB.out.cell (World.block_lt_of_cell? w _ hx1121_0)).trans hx1121_0
            have HR1121_0 := Aside0.mk hi1121_0
            have HC1121_0 := Aside0.mk hl1121_0
            clear hi1121_0 hl1121_0
            replace p1121 := eq_true p1121
            replace q1121 := eq_true q1121
            have p1122 : 0 ≤ (x5_2 : Int) := of_decide_eq_true (by first | (with_reducible assumption) | assumption)
            have q1122 : x5_2 < ((rd_L5 l0 x4_1).length : Int) := of_decide_eq_true (by first | (with_reducible assumption) | assumption)
            obtain ⟨ad1122, A1122_2, c1122_2, e1122, hx1122_0, hx1122_1, hx1122_2, hl1122_2, hi1122_2⟩ := at_T64 HR1121_0.out x5_2 p1122 q1122
            have hw1122_2 := hx1122_2
            have hw1122_1 := hx1122_1
            have hw1122_0 := hx1122_0
            cases e1122
            replace hx1122_0 := (HB.out.cell (World.block_lt_of_cell? w _ hx1122_0)).trans hx1122_0
            replace hx1122_1 := (HB.out.cell (World.block_lt_of_cell? w _ hx1122_1)).trans hx1122_1
            replace hx1122_2 := (HB.out.cell (World.block_lt_of_cell? w _ hx1122_2)).trans hx1122_2
            have HR1122_2 := Aside0.mk hi1122_2
            have HC1122_2 := Aside0.mk hl1122_2
            clear hi1122_2 hl1122_2
            replace p1122 := eq_true p1122
            replace q1122 := eq_true q1122
            have p1124 : 0 ≤ (x4_1 : Int) := of_decide_eq_true (by first | (with_reducible assumption) | assumption)
            have q1124 : x4_1 < (l0.length : Int) := of_decide_eq_true (by first | (with_reducible assumption) | assumption)
            obtain ⟨ad1124, A1124_0, c1124_0, e1124, hx1124_0, hl1124_0, hi1124_0⟩ := at_L5 HR0.out x4_1 p1124 q1124
            have hw1124_0 := hx1124_0
            obtain rfl : ad1114 = ad1124 := (by injection e1124)
            replace hx1124_0 := (HB.out.cell (World.block_lt_of_cell? w _ hx1124_0)).trans hx1124_0
            have HR1124_0 := Aside0.mk hi1124_0
            have HC1124_0 := Aside0.mk hl1124_0
            clear hi1124_0 hl1124_0
            replace p1124 := eq_true p1124
            replace q1124 := eq_true q1124
            have ea_ := Option.some.inj (hx1121_0.symm.trans hx1124_0)
            injection ea_ with ea_ en_ ec_
            subst ea_
            subst ec_
            clear en_
            have p1125 : 0 ≤ (x5_2 : Int) := of_decide_eq_true (by first | (with_reducible assumption) | assumption)
            have q1125 : x5_2 < ((rd_L5 l0 x4_1).length : Int) := of_decide_eq_true (by first | (with_reducible assumption) | assumption)
            obtain ⟨ad1125, A1125_2, c1125_2, e1125, hx1125_0, hx1125_1, hx1125_2, hl1125_2, hi1125_2⟩ := at_T64 HR1124_0.out x5_2 p1125 q1125
            have hw1125_2 := hx1125_2
            have hw1125_1 := hx1125_1
            have hw1125_0 := hx1125_0
            cases e1125
            replace hx1125_0 := (HB.out.cell (World.block_lt_of_cell? w _ hx1125_0)).trans hx1125_0
            replace hx1125_1 := (HB.out.cell (World.block_lt_of_cell? w _ hx1125_1)).trans hx1125_1
            replace hx1125_2 := (HB.out.cell (World.block_lt_of_cell? w _ hx1125_2)).trans hx1125_2
            have HR1125_2 := Aside0.mk hi1125_2
            have HC1125_2 := Aside0.mk hl1125_2
            clear hi1125_2 hl1125_2
            replace p1125 := eq_true p1125
            replace q1125 := eq_true q1125
            have ea_ := Option.some.inj (hx1122_2.symm.trans hx1125_2)
            injection ea_ with ea_ en_ ec_
            subst ea_
            subst ec_
            clear en_
            refine start_ (n := 22) (S := fun w' => w'.cell? (ad1114.add (x4_1).toNat) = some (.slice (some ad1122) (rd_L5 l0 x4_1).length c1121_0) ∧ w'.cell? (ad1122.add ((x5_2).toNat * 3)) = some (.string ((rd_T64 (rd_L5 l0 x4_1) x5_2).f0)) ∧ w'.cell? ⟨(ad1122.add ((x5_2).toNat * 3)).block, (ad1122.add ((x5_2).toNat * 3)).off + 1, none⟩ = some (.int .i64 ((rd_T64 (rd_L5 l0 x4_1) x5_2).f1)) ∧ w'.cell? ⟨(ad1122.add ((x5_2).toNat * 3)).block, (ad1122.add ((x5_2).toNat * 3)).off + 2, none⟩ = some (.slice A1122_2 ((rd_T64 (rd_L5 l0 x4_1) x5_2).f2).length c1122_2) ∧ w'.cell? (ad1114.add (x4_1).toNat) = some (.slice (some ad1122) (rd_L5 l0 x4_1).length c1121_0) ∧ w'.cell? (ad1122.add ((x5_2).toNat * 3)) = some (.string ((rd_T64 (rd_L5 l0 x4_1) x5_2).f0)) ∧ w'.cell? ⟨(ad1122.add ((x5_2).toNat * 3)).block, (ad1122.add ((x5_2).toNat * 3)).off + 1, none⟩ = some (.int .i64 ((rd_T64 (rd_L5 l0 x4_1) x5_2).f1)) ∧ w'.cell? ⟨(ad1122.add ((x5_2).toNat * 3)).block, (ad1122.add ((x5_2).toNat * 3)).off + 2, none⟩ = some (.slice A1122_2 ((rd_T64 (rd_L5 l0 x4_1) x5_2).f2).length c1122_2)) (ds := []) #[false, false, false, false, false, false, false, false, false, false, false, false, false, false, false, false, false, false, false, false, false, false] (by kernel_rfl) rfl rfl ⟨((HB.out.cell (World.block_lt_of_cell? w _ hw1121_0)).trans hw1121_0), ((HB.out.cell (World.block_lt_of_cell? w _ hw1122_0)).trans hw1122_0), ((HB.out.cell (World.block_lt_of_cell? w _ hw1122_1)).trans hw1122_1), ((HB.out.cell (World.block_lt_of_cell? w _ hw1122_2)).trans hw1122_2), ((HB.out.cell (World.block_lt_of_cell? w _ hw1124_0)).trans hw1124_0), ((HB.out.cell (World.block_lt_of_cell? w _ hw1125_0)).trans hw1125_0), ((HB.out.cell (World.block_lt_of_cell? w _ hw1125_1)).trans hw1125_1), ((HB.out.cell (World.block_lt_of_cell? w _ hw1125_2)).trans hw1125_2)⟩ (fun hHeld => ?_); refine with_tabW chirographref07_Show.tab10 chirographref07_Show.bits10 (fun HT_ HW_ => ?_)
            generalize wr.drew = w22 at HB HR1121_0 HR1122_2 HR1124_0 HR1125_2 hx1121_0 hx1122_0 hx1122_1 hx1122_2 hx1124_0 hx1125_0 hx1125_1 hx1125_2 hHeld ⊢
            refine pure_ (i := 0) (N := some 26) (v := ?_) (a' := ?_) #[true, false, false, false, false, false, false, false, false, false, false, false, false, false, false, false, false, false, false, false, false, false] rfl rfl (any_of HT_.out (by kernel_rfl)) (fun _ _ _ h => h) (Or.inl ⟨by rfl, ?_⟩) ?_ ?_; rotate_left; (intro w'; go_simp; with_reducible rfl); rotate_left; (simp only [Act.put, List.setIfInBounds_toArray, List.set_cons_zero, List.set_cons_succ, i64_w, i32_w]; rfl)
            refine pure_ (i := 1) (N := some 27) (v := ?_) (a' := ?_) #[true, true, false, false, false, false, false, false, false, false, false, false, false, false, false, false, false, false, false, false, false, false] rfl rfl (any_of HT_.out (by kernel_rfl)) (fun _ _ _ h => h) (Or.inl ⟨by rfl, ?_⟩) ?_ ?_; rotate_left; (intro w'; go_simp; with_reducible rfl); rotate_left; (simp only [Act.put, List.setIfInBounds_toArray, List.set_cons_zero, List.set_cons_succ, i64_w, i32_w]; rfl)
            refine pure_ (i := 2) (N := some 28) (v := ?_) (a' := ?_) #[true, true, true, false, false, false, false, false, false, false, false, false, false, false, false, false, false, false, false, false, false, false] rfl rfl (any_of HT_.out (by kernel_rfl)) (fun _ _ _ h => h) (Or.inl ⟨by rfl, ?_⟩) ?_ ?_; rotate_left; (intro w'; go_simp; with_reducible rfl); rotate_left; (simp only [Act.put, List.setIfInBounds_toArray, List.set_cons_zero, List.set_cons_succ, i64_w, i32_w]; rfl)
            refine pure_ (i := 3) (N := some 29) (v := ?_) (a' := ?_) #[true, true, true, true, false, false, false, false, false, false, false, false, false, false, false, false, false, false, false, false, false, false] rfl rfl (any_of HT_.out (by kernel_rfl)) (fun _ _ _ h => h) (Or.inl ⟨by rfl, ?_⟩) ?_ ?_; rotate_left; (intro w'; go_simp; with_reducible rfl); rotate_left; (simp only [Act.put, List.setIfInBounds_toArray, List.set_cons_zero, List.set_cons_succ, i64_w, i32_w]; rfl)
            refine pure_ (i := 5) (N := some 31) (v := ?_) (a' := ?_) #[true, true, true, true, false, true, false, false, false, false, false, false, false, false, false, false, false, false, false, false, false, false] rfl rfl (any_of HT_.out (by kernel_rfl)) (fun _ _ _ h => h) (Or.inl ⟨by rfl, ?_⟩) ?_ ?_; rotate_left; (intro w'; go_simp; with_reducible rfl); rotate_left; (simp only [Act.put, List.setIfInBounds_toArray, List.set_cons_zero, List.set_cons_succ, i64_w, i32_w]; rfl)
            refine pure_ (i := 12) (N := some 38) (v := ?_) (a' := ?_) #[true, true, true, true, false, true, false, false, false, false, false, false, true, false, false, false, false, false, false, false, false, false] rfl rfl (any_of HT_.out (by kernel_rfl)) (fun _ _ _ h => h) (Or.inl ⟨by rfl, ?_⟩) ?_ ?_; rotate_left; (intro w'; go_simp; with_reducible rfl); rotate_left; (simp only [Act.put, List.setIfInBounds_toArray, List.set_cons_zero, List.set_cons_succ, i64_w, i32_w]; rfl)
            refine pure_ (i := 13) (N := some 39) (v := ?_) (a' := ?_) #[true, true, true, true, false, true, false, false, false, false, false, false, true, true, false, false, false, false, false, false, false, false] rfl rfl (any_of HT_.out (by kernel_rfl)) (fun _ _ _ h => h) (Or.inl ⟨by rfl, ?_⟩) ?_ ?_; rotate_left; (intro w'; go_simp; with_reducible rfl); rotate_left; (simp only [Act.put, List.setIfInBounds_toArray, List.set_cons_zero, List.set_cons_succ, i64_w, i32_w]; rfl)
            refine pure_ (i := 14) (N := some 40) (v := ?_) (a' := ?_) #[true, true, true, true, false, true, false, false, false, false, false, false, true, true, true, false, false, false, false, false, false, false] rfl rfl (any_of HT_.out (by kernel_rfl)) (fun _ _ _ h => h) (Or.inl ⟨by rfl, ?_⟩) ?_ ?_; rotate_left; (intro w'; go_simp; with_reducible rfl); rotate_left; (simp only [Act.put, List.setIfInBounds_toArray, List.set_cons_zero, List.set_cons_succ, i64_w, i32_w]; rfl)
            refine pure_ (i := 16) (N := some 42) (v := ?_) (a' := ?_) #[true, true, true, true, false, true, false, false, false, false, false, false, true, true, true, false, true, false, false, false, false, false] rfl rfl (any_of HT_.out (by kernel_rfl)) (fun _ _ _ h => h) (Or.inl ⟨by rfl, ?_⟩) ?_ ?_; rotate_left; (intro w'; go_simp; with_reducible rfl); rotate_left; (simp only [Act.put, List.setIfInBounds_toArray, List.set_cons_zero, List.set_cons_succ, i64_w, i32_w]; rfl)
            refine take_ (i := 4) (N := some 30) (v := ?_) (a' := ?_) #[true, true, true, true, true, true, false, false, false, false, false, false, true, true, true, false, true, false, false, false, false, false] rfl rfl (take_ofW HT_.out HW_.out (by kernel_rfl)) (fun _ _ _ h => h) (Or.inl ⟨by rfl, ?_⟩) hHeld ?_ ?_; rotate_left; (rintro w' ⟨s0, s1, s2, s3, s4, s5, s6, s7⟩; go_simp; with_reducible rfl); rotate_left; (simp only [Act.put, List.setIfInBounds_toArray, List.set_cons_zero, List.set_cons_succ, i64_w, i32_w]; rfl)
            refine pure_ (i := 6) (N := some 32) (v := ?_) (a' := ?_) #[true, true, true, true, true, true, true, false, false, false, false, false, true, true, true, false, true, false, false, false, false, false] rfl rfl (any_of HT_.out (by kernel_rfl)) (fun _ _ _ h => h) (Or.inl ⟨by rfl, ?_⟩) ?_ ?_; rotate_left; (intro w'; go_simp; with_reducible rfl); rotate_left; (simp only [Act.put, List.setIfInBounds_toArray, List.set_cons_zero, List.set_cons_succ, i64_w, i32_w]; rfl)
            refine pure_ (i := 7) (N := some 33) (v := ?_) (a' := ?_) #[true, true, true, true, true, true, true, true, false, false, false, false, true, true, true, false, true, false, false, false, false, false] rfl rfl (any_of HT_.out (by kernel_rfl)) (fun _ _ _ h => h) (Or.inl ⟨by rfl, ?_⟩) ?_ ?_; rotate_left; (intro w'; go_simp; with_reducible rfl); rotate_left; (simp only [Act.put, List.setIfInBounds_toArray, List.set_cons_zero, List.set_cons_succ, i64_w, i32_w]; rfl)
            refine take_ (i := 8) (N := some 34) (v := ?_) (a' := ?_) #[true, true, true, true, true, true, true, true, true, false, false, false, true, true, true, false, true, false, false, false, false, false] rfl rfl (take_ofW HT_.out HW_.out (by kernel_rfl)) (fun _ _ _ h => h) (Or.inl ⟨by rfl, ?_⟩) hHeld ?_ ?_; rotate_left; (rintro w' ⟨s0, s1, s2, s3, s4, s5, s6, s7⟩; go_simp; with_reducible rfl); rotate_left; (simp only [Act.put, List.setIfInBounds_toArray, List.set_cons_zero, List.set_cons_succ, i64_w, i32_w]; rfl)
            refine take_ (i := 15) (N := some 41) (v := ?_) (a' := ?_) #[true, true, true, true, true, true, true, true, true, false, false, false, true, true, true, true, true, false, false, false, false, false] rfl rfl (take_ofW HT_.out HW_.out (by kernel_rfl)) (fun _ _ _ h => h) (Or.inl ⟨by rfl, ?_⟩) hHeld ?_ ?_; rotate_left; (rintro w' ⟨s0, s1, s2, s3, s4, s5, s6, s7⟩; go_simp; with_reducible rfl); rotate_left; (simp only [Act.put, List.setIfInBounds_toArray, List.set_cons_zero, List.set_cons_succ, i64_w, i32_w]; rfl)
            refine pure_ (i := 17) (N := some 43) (v := ?_) (a' := ?_) #[true, true, true, true, true, true, true, true, true, false, false, false, true, true, true, true, true, true, false, false, false, false] rfl rfl (any_of HT_.out (by kernel_rfl)) (fun _ _ _ h => h) (Or.inl ⟨by rfl, ?_⟩) ?_ ?_; rotate_left; (intro w'; go_simp; with_reducible rfl); rotate_left; (simp only [Act.put, List.setIfInBounds_toArray, List.set_cons_zero, List.set_cons_succ, i64_w, i32_w]; rfl)
            refine take_ (i := 18) (N := some 44) (v := ?_) (a' := ?_) #[true, true, true, true, true, true, true, true, true, false, false, false, true, true, true, true, true, true, true, false, false, false] rfl rfl (take_ofW HT_.out HW_.out (by kernel_rfl)) (fun _ _ _ h => h) (Or.inl ⟨by rfl, ?_⟩) hHeld ?_ ?_; rotate_left; (rintro w' ⟨s0, s1, s2, s3, s4, s5, s6, s7⟩; go_simp; with_reducible rfl); rotate_left; (simp only [Act.put, List.setIfInBounds_toArray, List.set_cons_zero, List.set_cons_succ, i64_w, i32_w]; rfl)
            refine one_ (i := 9) (N := some 35) #[true, true, true, true, true, true, true, true, true, true, false, false, true, true, true, true, true, true, true, false, false, false] rfl rfl (one_of HT_.out (by kernel_rfl)) (by decide) (fun K hK => ?_)
            refine goes_ Tryz.func90 (by kernel_rfl) rfl #[.string ((rd_T64 (rd_L5 l0 x4_1) x5_2).f0)] (by rfl) rfl rfl (by (try simp only [List.map_toArray, List.map_cons, List.map_nil]); first | done | rfl | (simp only [List.length_drop, List.length_take]; rfl)) ?_
            with_reducible refine (chirographref07_letters.calls ((rd_T64 (rd_L5 l0 x4_1) x5_2).f0) t1123 _ A17.out).mono ?_
            rintro e w' ⟨rfl, ⟨nd, rfl⟩⟩
            refine ⟨_, rfl, ?_⟩
            refine hK.out _ _ ⟨((HB.out.cell (World.block_lt_of_cell? w _ hw1121_0)).trans hw1121_0), ((HB.out.cell (World.block_lt_of_cell? w _ hw1122_0)).trans hw1122_0), ((HB.out.cell (World.block_lt_of_cell? w _ hw1122_1)).trans hw1122_1), ((HB.out.cell (World.block_lt_of_cell? w _ hw1122_2)).trans hw1122_2), ((HB.out.cell (World.block_lt_of_cell? w _ hw1124_0)).trans hw1124_0), ((HB.out.cell (World.block_lt_of_cell? w _ hw1125_0)).trans hw1125_0), ((HB.out.cell (World.block_lt_of_cell? w _ hw1125_1)).trans hw1125_1), ((HB.out.cell (World.block_lt_of_cell? w _ hw1125_2)).trans hw1125_2)⟩ (fun hHeld => ?_)
            clear hK K
            refine norm_ (a' := ?_) ?_ ?_; rotate_left; (show Act.put _ (some 35) _ = _; simp only [Act.put, List.setIfInBounds_toArray, List.set_cons_zero, List.set_cons_succ, i64_w, i32_w]; rfl)
            refine pure_ (i := 10) (N := some 36) (v := ?_) (a' := ?_) #[true, true, true, true, true, true, true, true, true, true, true, false, true, true, true, true, true, true, true, false, false, false] rfl rfl (any_of HT_.out (by kernel_rfl)) (fun _ _ _ h => h) (Or.inl ⟨by rfl, ?_⟩) ?_ ?_; rotate_left; (intro w'; go_simp; with_reducible rfl); rotate_left; (simp only [Act.put, List.setIfInBounds_toArray, List.set_cons_zero, List.set_cons_succ, i64_w, i32_w]; rfl)
            refine pure_ (i := 11) (N := some 37) (v := ?_) (a' := ?_) #[true, true, true, true, true, true, true, true, true, true, true, true, true, true, true, true, true, true, true, false, false, false] rfl rfl (any_of HT_.out (by kernel_rfl)) (fun _ _ _ h => h) (Or.inl ⟨by rfl, ?_⟩) ?_ ?_; rotate_left; (intro w'; go_simp; with_reducible rfl); rotate_left; (simp only [Act.put, List.setIfInBounds_toArray, List.set_cons_zero, List.set_cons_succ, i64_w, i32_w]; rfl)
            refine one_ (i := 19) (N := some 45) #[true, true, true, true, true, true, true, true, true, true, true, true, true, true, true, true, true, true, true, true, false, false] rfl rfl (one_of HT_.out (by kernel_rfl)) (by decide) (fun K hK => ?_)
            refine goes_ Tryz.func91 (by kernel_rfl) rfl #[.agg #[.string ((rd_T64 (rd_L5 l0 x4_1) x5_2).f0), .int .i64 ((rd_T64 (rd_L5 l0 x4_1) x5_2).f1), .slice A1122_2 ((rd_T64 (rd_L5 l0 x4_1) x5_2).f2).length c1122_2]] (by rfl) rfl rfl (by (try simp only [List.map_toArray, List.map_cons, List.map_nil]); first | done | rfl | (simp only [List.length_drop, List.length_take]; rfl)) ?_
            with_reducible refine (chirographref07_value.calls k2 ((rd_T64 (rd_L5 l0 x4_1) x5_2).f0) ((rd_T64 (rd_L5 l0 x4_1) x5_2).f1) _ _ ((rd_T64 (rd_L5 l0 x4_1) x5_2).f2) t1126 _ ?side1 ?side2 A20.out).mono ?_
            (case side1 => repeat (first | exact (Kd.C_below HR1125_2.out (by repeat (first | (with_reducible first | exact HB.out | apply below_alloc | apply pw_below_drewN | apply below_drew1) | exact HB.out))) | (with_reducible refine Kd.C_alloc ?_ _) | (with_reducible refine Kd.C_drewN ?_ _) | (with_reducible refine Kd.C_drew ?_)))
            (case side2 => exact HC1125_2.out)
            rintro e w23 ⟨rfl, hb⟩
            refine ⟨_, rfl, ?_⟩
            have n0_ := Aside0.mk (below_step (by repeat (first | (with_reducible first | exact HB.out | apply below_alloc | apply pw_below_drewN | apply below_drew1) | exact HB.out)) hb)
            clear HB
            have HB := n0_
            clear n0_
            (try clear hb)
            (try clear hb2)
            (try clear hk)
            (try clear hi)
            refine hK.out _ _ ⟨((HB.out.cell (World.block_lt_of_cell? w _ hw1121_0)).trans hw1121_0), ((HB.out.cell (World.block_lt_of_cell? w _ hw1122_0)).trans hw1122_0), ((HB.out.cell (World.block_lt_of_cell? w _ hw1122_1)).trans hw1122_1), ((HB.out.cell (World.block_lt_of_cell? w _ hw1122_2)).trans hw1122_2), ((HB.out.cell (World.block_lt_of_cell? w _ hw1124_0)).trans hw1124_0), ((HB.out.cell (World.block_lt_of_cell? w _ hw1125_0)).trans hw1125_0), ((HB.out.cell (World.block_lt_of_cell? w _ hw1125_1)).trans hw1125_1), ((HB.out.cell (World.block_lt_of_cell? w _ hw1125_2)).trans hw1125_2)⟩ (fun hHeld => ?_)
            clear hK K
            refine norm_ (a' := ?_) ?_ ?_; rotate_left; (show Act.put _ (some 45) _ = _; simp only [Act.put, List.setIfInBounds_toArray, List.set_cons_zero, List.set_cons_succ, i64_w, i32_w]; rfl)
            refine pure_ (i := 20) (N := some 46) (v := ?_) (a' := ?_) #[true, true, true, true, true, true, true, true, true, true, true, true, true, true, true, true, true, true, true, true, true, false] rfl rfl (any_of HT_.out (by kernel_rfl)) (fun _ _ _ h => h) (Or.inl ⟨by rfl, ?_⟩) ?_ ?_; rotate_left; (intro w'; go_simp; with_reducible rfl); rotate_left; (simp only [Act.put, List.setIfInBounds_toArray, List.set_cons_zero, List.set_cons_succ, i64_w, i32_w]; rfl)
            refine pure_ (i := 21) (N := some 3) (v := ?_) (a' := ?_) #[true, true, true, true, true, true, true, true, true, true, true, true, true, true, true, true, true, true, true, true, true, true] rfl rfl (any_of HT_.out (by kernel_rfl)) (fun _ _ _ h => h) (Or.inl ⟨by rfl, ?_⟩) ?_ ?_; rotate_left; (intro w'; go_simp; with_reducible rfl); rotate_left; (simp only [Act.put, List.setIfInBounds_toArray, List.set_cons_zero, List.set_cons_succ, i64_w, i32_w]; rfl)
            refine done_ (done_of HT_.out (by kernel_rfl)) ?_
            try go_wp2
            go_roundg k2
            case measure => have := HK1.out; have := HK2.out; omega
            case rel => exact ⟨(((x3_2 ++ t1123) ++ (⟨#[61]⟩ : ByteArray)) ++ t1126), (wrap64 (x5_2 + 1)), (by first | rfl | (simp; done) | (simp [*]; done)), (by first | rfl | (simp; done) | (simp [*]; done)), H', ⟨by have := HK1.out; have := HK2.out; omega⟩, ⟨by repeat (first | (with_reducible first | exact HB.out | apply below_alloc | apply pw_below_drewN | apply below_drew1) | exact HB.out)⟩⟩
          rw [if_pos c6] at H
          have c6b0 : decide (0 < x5_2) = true := decide_eq_true c6
          clear c6
          by_cases c7 : x3_2.size + 1 ≤ 9223372036854775807
          rotate_left
          · rw [if_neg c7] at H
            exact absurd H (by simp)
          rw [if_pos c7] at H
          have c7b0 := eq_true c7
          have c7b1 : decide (x3_2.size + 1 ≤ 9223372036854775807) = true := decide_eq_true c7
          try have c7b2 : (9223372036854775807 < x3_2.size + 1) = False := eq_false (Nat.not_lt.2 c7)
          by_cases c8 : 0 ≤ x5_2
          rotate_left
          · rw [if_neg c8] at H
            exact absurd H (by simp)
          rw [if_pos c8] at H
          have c8b0 : decide (0 ≤ x5_2) = true := decide_eq_true c8
          clear c8
          replace H := Option.bind_eq_some_iff.mp H
          obtain ⟨t1117, A90, H⟩ := H
          replace H : (if (x3_2 ++ (⟨#[43]⟩ : ByteArray)).size + t1117.size ≤ 9223372036854775807 then (if ((x3_2 ++ (⟨#[43]⟩ : ByteArray)) ++ t1117).size + 1 ≤ 9223372036854775807 then ((chirographref07_value.f k2 ((rd_T64 (rd_L5 l0 x4_1) x5_2).f0) ((rd_T64 (rd_L5 l0 x4_1) x5_2).f1) ((rd_T64 (rd_L5 l0 x4_1) x5_2).f2)).bind fun t1120 => (if (((x3_2 ++ (⟨#[43]⟩ : ByteArray)) ++ t1117) ++ (⟨#[61]⟩ : ByteArray)).size + t1120.size ≤ 9223372036854775807 then (chirographref07_Show.l1 k2 l0 ((((x3_2 ++ (⟨#[43]⟩ : ByteArray)) ++ t1117) ++ (⟨#[61]⟩ : ByteArray)) ++ t1120) x4_1 (wrap64 (x5_2 + 1))) else (none))) else (none)) else (none)) = some r := H
          have A9 := Aside0.mk A90
          clear A90
          by_cases c10 : (x3_2 ++ (⟨#[43]⟩ : ByteArray)).size + t1117.size ≤ 9223372036854775807
          rotate_left
          · rw [if_neg c10] at H
            exact absurd H (by simp)
          rw [if_pos c10] at H
          have c10b0 := eq_true c10
          have c10b1 : decide ((x3_2 ++ (⟨#[43]⟩ : ByteArray)).size + t1117.size ≤ 9223372036854775807) = true := decide_eq_true c10
          have YYc10 : (9223372036854775807 < x3_2.size + 1 + t1117.size) = False := eq_false (by have h_ := of_decide_eq_true c10b1; have z43 : (⟨#[43]⟩ : ByteArray).size = 1 := rfl; simp only [ByteArray.size_append, z43] at h_; omega)
          try have c10b2 : (9223372036854775807 < (x3_2 ++ (⟨#[43]⟩ : ByteArray)).size + t1117.size) = False := eq_false (Nat.not_lt.2 c10)
          by_cases c11 : ((x3_2 ++ (⟨#[43]⟩ : ByteArray)) ++ t1117).size + 1 ≤ 9223372036854775807
          rotate_left
          · rw [if_neg c11] at H
            exact absurd H (by simp)
          rw [if_pos c11] at H
          have c11b0 := eq_true c11
          have c11b1 : decide (((x3_2 ++ (⟨#[43]⟩ : ByteArray)) ++ t1117).size + 1 ≤ 9223372036854775807) = true := decide_eq_true c11
          have YYc11 : (9223372036854775807 < x3_2.size + 1 + t1117.size + 1) = False := eq_false (by have h_ := of_decide_eq_true c11b1; have z43 : (⟨#[43]⟩ : ByteArray).size = 1 := rfl; simp only [ByteArray.size_append, z43] at h_; omega)
          try have c11b2 : (9223372036854775807 < ((x3_2 ++ (⟨#[43]⟩ : ByteArray)) ++ t1117).size + 1) = False := eq_false (Nat.not_lt.2 c11)
          replace H := Option.bind_eq_some_iff.mp H
          obtain ⟨t1120, A120, H⟩ := H
          replace H : (if (((x3_2 ++ (⟨#[43]⟩ : ByteArray)) ++ t1117) ++ (⟨#[61]⟩ : ByteArray)).size + t1120.size ≤ 9223372036854775807 then (chirographref07_Show.l1 k2 l0 ((((x3_2 ++ (⟨#[43]⟩ : ByteArray)) ++ t1117) ++ (⟨#[61]⟩ : ByteArray)) ++ t1120) x4_1 (wrap64 (x5_2 + 1))) else (none)) = some r := H
          have A12 := Aside0.mk A120
          clear A120
          by_cases c13 : (((x3_2 ++ (⟨#[43]⟩ : ByteArray)) ++ t1117) ++ (⟨#[61]⟩ : ByteArray)).size + t1120.size ≤ 9223372036854775807
          rotate_left
          · rw [if_neg c13] at H
            exact absurd H (by simp)
          rw [if_pos c13] at H
          have c13b0 := eq_true c13
          have c13b1 : decide ((((x3_2 ++ (⟨#[43]⟩ : ByteArray)) ++ t1117) ++ (⟨#[61]⟩ : ByteArray)).size + t1120.size ≤ 9223372036854775807) = true := decide_eq_true c13
          have YYc13 : (9223372036854775807 < x3_2.size + 1 + t1117.size + 1 + t1120.size) = False := eq_false (by have h_ := of_decide_eq_true c13b1; have z43 : (⟨#[43]⟩ : ByteArray).size = 1 := rfl; have z61 : (⟨#[61]⟩ : ByteArray).size = 1 := rfl; simp only [ByteArray.size_append, z43, z61] at h_; omega)
          try have c13b2 : (9223372036854775807 < (((x3_2 ++ (⟨#[43]⟩ : ByteArray)) ++ t1117) ++ (⟨#[61]⟩ : ByteArray)).size + t1120.size) = False := eq_false (Nat.not_lt.2 c13)
          have H' := Aside0.mk H
          clear H
          have p1114 : 0 ≤ (x4_1 : Int) := of_decide_eq_true (by first | (with_reducible assumption) | assumption)
          have q1114 : x4_1 < (l0.length : Int) := of_decide_eq_true (by first | (with_reducible assumption) | assumption)
          obtain ⟨ad1114, A1114_0, c1114_0, e1114, hx1114_0, hl1114_0, hi1114_0⟩ := at_L5 HR0.out x4_1 p1114 q1114
          cases e1114
          replace hx1114_0 := (HB.out.cell (World.block_lt_of_cell? w _ hx1114_0)).trans hx1114_0
          have HR1114_0 := Aside0.mk hi1114_0
          have HC1114_0 := Aside0.mk hl1114_0
          clear hi1114_0 hl1114_0
          replace p1114 := eq_true p1114
          replace q1114 := eq_true q1114
          try go_wp2
          have n0_ := Aside0.mk (below_drew1 HB.out)
          clear HB
          have HB := n0_
          clear n0_
          have p1115 : 0 ≤ (x4_1 : Int) := of_decide_eq_true (by first | (with_reducible assumption) | assumption)
          have q1115 : x4_1 < (l0.length : Int) := of_decide_eq_true (by first | (with_reducible assumption) | assumption)
          obtain ⟨ad1115, A1115_0, c1115_0, e1115, hx1115_0, hl1115_0, hi1115_0⟩ := at_L5 HR0.out x4_1 p1115 q1115
          have hw1115_0 := hx1115_0
          obtain rfl : ad1114 = ad1115 := (by injection e1115)
          replace hx1115_0 := (HB.out.cell (World.block_lt_of_cell? w _ hx1115_0)).trans hx1115_0
          have HR1115_0 := Aside0.mk hi1115_0
          have HC1115_0 := Aside0.mk hl1115_0
          clear hi1115_0 hl1115_0
          replace p1115 := eq_true p1115
          replace q1115 := eq_true q1115
          have p1116 : 0 ≤ (x5_2 : Int) := of_decide_eq_true (by first | (with_reducible assumption) | assumption)
          have q1116 : x5_2 < ((rd_L5 l0 x4_1).length : Int) := of_decide_eq_true (by first | (with_reducible assumption) | assumption)
          obtain ⟨ad1116, A1116_2, c1116_2, e1116, hx1116_0, hx1116_1, hx1116_2, hl1116_2, hi1116_2⟩ := at_T64 HR1115_0.out x5_2 p1116 q1116
          have hw1116_2 := hx1116_2
          have hw1116_1 := hx1116_1
          have hw1116_0 := hx1116_0
          cases e1116
          replace hx1116_0 := (HB.out.cell (World.block_lt_of_cell? w _ hx1116_0)).trans hx1116_0
          replace hx1116_1 := (HB.out.cell (World.block_lt_of_cell? w _ hx1116_1)).trans hx1116_1
          replace hx1116_2 := (HB.out.cell (World.block_lt_of_cell? w _ hx1116_2)).trans hx1116_2
          have HR1116_2 := Aside0.mk hi1116_2
          have HC1116_2 := Aside0.mk hl1116_2
          clear hi1116_2 hl1116_2
          replace p1116 := eq_true p1116
          replace q1116 := eq_true q1116
          have p1118 : 0 ≤ (x4_1 : Int) := of_decide_eq_true (by first | (with_reducible assumption) | assumption)
          have q1118 : x4_1 < (l0.length : Int) := of_decide_eq_true (by first | (with_reducible assumption) | assumption)
          obtain ⟨ad1118, A1118_0, c1118_0, e1118, hx1118_0, hl1118_0, hi1118_0⟩ := at_L5 HR0.out x4_1 p1118 q1118
          have hw1118_0 := hx1118_0
          obtain rfl : ad1114 = ad1118 := (by injection e1118)
          replace hx1118_0 := (HB.out.cell (World.block_lt_of_cell? w _ hx1118_0)).trans hx1118_0
          have HR1118_0 := Aside0.mk hi1118_0
          have HC1118_0 := Aside0.mk hl1118_0
          clear hi1118_0 hl1118_0
          replace p1118 := eq_true p1118
          replace q1118 := eq_true q1118
          have ea_ := Option.some.inj (hx1115_0.symm.trans hx1118_0)
          injection ea_ with ea_ en_ ec_
          subst ea_
          subst ec_
          clear en_
          have p1119 : 0 ≤ (x5_2 : Int) := of_decide_eq_true (by first | (with_reducible assumption) | assumption)
          have q1119 : x5_2 < ((rd_L5 l0 x4_1).length : Int) := of_decide_eq_true (by first | (with_reducible assumption) | assumption)
          obtain ⟨ad1119, A1119_2, c1119_2, e1119, hx1119_0, hx1119_1, hx1119_2, hl1119_2, hi1119_2⟩ := at_T64 HR1118_0.out x5_2 p1119 q1119
          have hw1119_2 := hx1119_2
          have hw1119_1 := hx1119_1
          have hw1119_0 := hx1119_0
          cases e1119
          replace hx1119_0 := (HB.out.cell (World.block_lt_of_cell? w _ hx1119_0)).trans hx1119_0
          replace hx1119_1 := (HB.out.cell (World.block_lt_of_cell? w _ hx1119_1)).trans hx1119_1
          replace hx1119_2 := (HB.out.cell (World.block_lt_of_cell? w _ hx1119_2)).trans hx1119_2
          have HR1119_2 := Aside0.mk hi1119_2
          have HC1119_2 := Aside0.mk hl1119_2
          clear hi1119_2 hl1119_2
          replace p1119 := eq_true p1119
          replace q1119 := eq_true q1119
          have ea_ := Option.some.inj (hx1116_2.symm.trans hx1119_2)
          injection ea_ with ea_ en_ ec_
          subst ea_
          subst ec_
          clear en_
          refine start_ (n := 22) (S := fun w' => w'.cell? (ad1114.add (x4_1).toNat) = some (.slice (some ad1116) (rd_L5 l0 x4_1).length c1115_0) ∧ w'.cell? (ad1116.add ((x5_2).toNat * 3)) = some (.string ((rd_T64 (rd_L5 l0 x4_1) x5_2).f0)) ∧ w'.cell? ⟨(ad1116.add ((x5_2).toNat * 3)).block, (ad1116.add ((x5_2).toNat * 3)).off + 1, none⟩ = some (.int .i64 ((rd_T64 (rd_L5 l0 x4_1) x5_2).f1)) ∧ w'.cell? ⟨(ad1116.add ((x5_2).toNat * 3)).block, (ad1116.add ((x5_2).toNat * 3)).off + 2, none⟩ = some (.slice A1116_2 ((rd_T64 (rd_L5 l0 x4_1) x5_2).f2).length c1116_2) ∧ w'.cell? (ad1114.add (x4_1).toNat) = some (.slice (some ad1116) (rd_L5 l0 x4_1).length c1115_0) ∧ w'.cell? (ad1116.add ((x5_2).toNat * 3)) = some (.string ((rd_T64 (rd_L5 l0 x4_1) x5_2).f0)) ∧ w'.cell? ⟨(ad1116.add ((x5_2).toNat * 3)).block, (ad1116.add ((x5_2).toNat * 3)).off + 1, none⟩ = some (.int .i64 ((rd_T64 (rd_L5 l0 x4_1) x5_2).f1)) ∧ w'.cell? ⟨(ad1116.add ((x5_2).toNat * 3)).block, (ad1116.add ((x5_2).toNat * 3)).off + 2, none⟩ = some (.slice A1116_2 ((rd_T64 (rd_L5 l0 x4_1) x5_2).f2).length c1116_2)) (ds := []) #[false, false, false, false, false, false, false, false, false, false, false, false, false, false, false, false, false, false, false, false, false, false] (by kernel_rfl) rfl rfl ⟨((HB.out.cell (World.block_lt_of_cell? w _ hw1115_0)).trans hw1115_0), ((HB.out.cell (World.block_lt_of_cell? w _ hw1116_0)).trans hw1116_0), ((HB.out.cell (World.block_lt_of_cell? w _ hw1116_1)).trans hw1116_1), ((HB.out.cell (World.block_lt_of_cell? w _ hw1116_2)).trans hw1116_2), ((HB.out.cell (World.block_lt_of_cell? w _ hw1118_0)).trans hw1118_0), ((HB.out.cell (World.block_lt_of_cell? w _ hw1119_0)).trans hw1119_0), ((HB.out.cell (World.block_lt_of_cell? w _ hw1119_1)).trans hw1119_1), ((HB.out.cell (World.block_lt_of_cell? w _ hw1119_2)).trans hw1119_2)⟩ (fun hHeld => ?_); refine with_tabW chirographref07_Show.tab10 chirographref07_Show.bits10 (fun HT_ HW_ => ?_)
          generalize wr.drew = w14 at HB HR1115_0 HR1116_2 HR1118_0 HR1119_2 hx1115_0 hx1116_0 hx1116_1 hx1116_2 hx1118_0 hx1119_0 hx1119_1 hx1119_2 hHeld ⊢
          refine pure_ (i := 0) (N := some 26) (v := ?_) (a' := ?_) #[true, false, false, false, false, false, false, false, false, false, false, false, false, false, false, false, false, false, false, false, false, false] rfl rfl (any_of HT_.out (by kernel_rfl)) (fun _ _ _ h => h) (Or.inl ⟨by rfl, ?_⟩) ?_ ?_; rotate_left; (intro w'; go_simp; with_reducible rfl); rotate_left; (simp only [Act.put, List.setIfInBounds_toArray, List.set_cons_zero, List.set_cons_succ, i64_w, i32_w]; rfl)
          refine pure_ (i := 1) (N := some 27) (v := ?_) (a' := ?_) #[true, true, false, false, false, false, false, false, false, false, false, false, false, false, false, false, false, false, false, false, false, false] rfl rfl (any_of HT_.out (by kernel_rfl)) (fun _ _ _ h => h) (Or.inl ⟨by rfl, ?_⟩) ?_ ?_; rotate_left; (intro w'; go_simp; with_reducible rfl); rotate_left; (simp only [Act.put, List.setIfInBounds_toArray, List.set_cons_zero, List.set_cons_succ, i64_w, i32_w]; rfl)
          refine pure_ (i := 2) (N := some 28) (v := ?_) (a' := ?_) #[true, true, true, false, false, false, false, false, false, false, false, false, false, false, false, false, false, false, false, false, false, false] rfl rfl (any_of HT_.out (by kernel_rfl)) (fun _ _ _ h => h) (Or.inl ⟨by rfl, ?_⟩) ?_ ?_; rotate_left; (intro w'; go_simp; with_reducible rfl); rotate_left; (simp only [Act.put, List.setIfInBounds_toArray, List.set_cons_zero, List.set_cons_succ, i64_w, i32_w]; rfl)
          refine pure_ (i := 3) (N := some 29) (v := ?_) (a' := ?_) #[true, true, true, true, false, false, false, false, false, false, false, false, false, false, false, false, false, false, false, false, false, false] rfl rfl (any_of HT_.out (by kernel_rfl)) (fun _ _ _ h => h) (Or.inl ⟨by rfl, ?_⟩) ?_ ?_; rotate_left; (intro w'; go_simp; with_reducible rfl); rotate_left; (simp only [Act.put, List.setIfInBounds_toArray, List.set_cons_zero, List.set_cons_succ, i64_w, i32_w]; rfl)
          refine pure_ (i := 5) (N := some 31) (v := ?_) (a' := ?_) #[true, true, true, true, false, true, false, false, false, false, false, false, false, false, false, false, false, false, false, false, false, false] rfl rfl (any_of HT_.out (by kernel_rfl)) (fun _ _ _ h => h) (Or.inl ⟨by rfl, ?_⟩) ?_ ?_; rotate_left; (intro w'; go_simp; with_reducible rfl); rotate_left; (simp only [Act.put, List.setIfInBounds_toArray, List.set_cons_zero, List.set_cons_succ, i64_w, i32_w]; rfl)
          refine pure_ (i := 12) (N := some 38) (v := ?_) (a' := ?_) #[true, true, true, true, false, true, false, false, false, false, false, false, true, false, false, false, false, false, false, false, false, false] rfl rfl (any_of HT_.out (by kernel_rfl)) (fun _ _ _ h => h) (Or.inl ⟨by rfl, ?_⟩) ?_ ?_; rotate_left; (intro w'; go_simp; with_reducible rfl); rotate_left; (simp only [Act.put, List.setIfInBounds_toArray, List.set_cons_zero, List.set_cons_succ, i64_w, i32_w]; rfl)
          refine pure_ (i := 13) (N := some 39) (v := ?_) (a' := ?_) #[true, true, true, true, false, true, false, false, false, false, false, false, true, true, false, false, false, false, false, false, false, false] rfl rfl (any_of HT_.out (by kernel_rfl)) (fun _ _ _ h => h) (Or.inl ⟨by rfl, ?_⟩) ?_ ?_; rotate_left; (intro w'; go_simp; with_reducible rfl); rotate_left; (simp only [Act.put, List.setIfInBounds_toArray, List.set_cons_zero, List.set_cons_succ, i64_w, i32_w]; rfl)
          refine pure_ (i := 14) (N := some 40) (v := ?_) (a' := ?_) #[true, true, true, true, false, true, false, false, false, false, false, false, true, true, true, false, false, false, false, false, false, false] rfl rfl (any_of HT_.out (by kernel_rfl)) (fun _ _ _ h => h) (Or.inl ⟨by rfl, ?_⟩) ?_ ?_; rotate_left; (intro w'; go_simp; with_reducible rfl); rotate_left; (simp only [Act.put, List.setIfInBounds_toArray, List.set_cons_zero, List.set_cons_succ, i64_w, i32_w]; rfl)
          refine pure_ (i := 16) (N := some 42) (v := ?_) (a' := ?_) #[true, true, true, true, false, true, false, false, false, false, false, false, true, true, true, false, true, false, false, false, false, false] rfl rfl (any_of HT_.out (by kernel_rfl)) (fun _ _ _ h => h) (Or.inl ⟨by rfl, ?_⟩) ?_ ?_; rotate_left; (intro w'; go_simp; with_reducible rfl); rotate_left; (simp only [Act.put, List.setIfInBounds_toArray, List.set_cons_zero, List.set_cons_succ, i64_w, i32_w]; rfl)
          refine take_ (i := 4) (N := some 30) (v := ?_) (a' := ?_) #[true, true, true, true, true, true, false, false, false, false, false, false, true, true, true, false, true, false, false, false, false, false] rfl rfl (take_ofW HT_.out HW_.out (by kernel_rfl)) (fun _ _ _ h => h) (Or.inl ⟨by rfl, ?_⟩) hHeld ?_ ?_; rotate_left; (rintro w' ⟨s0, s1, s2, s3, s4, s5, s6, s7⟩; go_simp; with_reducible rfl); rotate_left; (simp only [Act.put, List.setIfInBounds_toArray, List.set_cons_zero, List.set_cons_succ, i64_w, i32_w]; rfl)
          refine pure_ (i := 6) (N := some 32) (v := ?_) (a' := ?_) #[true, true, true, true, true, true, true, false, false, false, false, false, true, true, true, false, true, false, false, false, false, false] rfl rfl (any_of HT_.out (by kernel_rfl)) (fun _ _ _ h => h) (Or.inl ⟨by rfl, ?_⟩) ?_ ?_; rotate_left; (intro w'; go_simp; with_reducible rfl); rotate_left; (simp only [Act.put, List.setIfInBounds_toArray, List.set_cons_zero, List.set_cons_succ, i64_w, i32_w]; rfl)
          refine pure_ (i := 7) (N := some 33) (v := ?_) (a' := ?_) #[true, true, true, true, true, true, true, true, false, false, false, false, true, true, true, false, true, false, false, false, false, false] rfl rfl (any_of HT_.out (by kernel_rfl)) (fun _ _ _ h => h) (Or.inl ⟨by rfl, ?_⟩) ?_ ?_; rotate_left; (intro w'; go_simp; with_reducible rfl); rotate_left; (simp only [Act.put, List.setIfInBounds_toArray, List.set_cons_zero, List.set_cons_succ, i64_w, i32_w]; rfl)
          refine take_ (i := 8) (N := some 34) (v := ?_) (a' := ?_) #[true, true, true, true, true, true, true, true, true, false, false, false, true, true, true, false, true, false, false, false, false, false] rfl rfl (take_ofW HT_.out HW_.out (by kernel_rfl)) (fun _ _ _ h => h) (Or.inl ⟨by rfl, ?_⟩) hHeld ?_ ?_; rotate_left; (rintro w' ⟨s0, s1, s2, s3, s4, s5, s6, s7⟩; go_simp; with_reducible rfl); rotate_left; (simp only [Act.put, List.setIfInBounds_toArray, List.set_cons_zero, List.set_cons_succ, i64_w, i32_w]; rfl)
          refine take_ (i := 15) (N := some 41) (v := ?_) (a' := ?_) #[true, true, true, true, true, true, true, true, true, false, false, false, true, true, true, true, true, false, false, false, false, false] rfl rfl (take_ofW HT_.out HW_.out (by kernel_rfl)) (fun _ _ _ h => h) (Or.inl ⟨by rfl, ?_⟩) hHeld ?_ ?_; rotate_left; (rintro w' ⟨s0, s1, s2, s3, s4, s5, s6, s7⟩; go_simp; with_reducible rfl); rotate_left; (simp only [Act.put, List.setIfInBounds_toArray, List.set_cons_zero, List.set_cons_succ, i64_w, i32_w]; rfl)
          refine pure_ (i := 17) (N := some 43) (v := ?_) (a' := ?_) #[true, true, true, true, true, true, true, true, true, false, false, false, true, true, true, true, true, true, false, false, false, false] rfl rfl (any_of HT_.out (by kernel_rfl)) (fun _ _ _ h => h) (Or.inl ⟨by rfl, ?_⟩) ?_ ?_; rotate_left; (intro w'; go_simp; with_reducible rfl); rotate_left; (simp only [Act.put, List.setIfInBounds_toArray, List.set_cons_zero, List.set_cons_succ, i64_w, i32_w]; rfl)
          refine take_ (i := 18) (N := some 44) (v := ?_) (a' := ?_) #[true, true, true, true, true, true, true, true, true, false, false, false, true, true, true, true, true, true, true, false, false, false] rfl rfl (take_ofW HT_.out HW_.out (by kernel_rfl)) (fun _ _ _ h => h) (Or.inl ⟨by rfl, ?_⟩) hHeld ?_ ?_; rotate_left; (rintro w' ⟨s0, s1, s2, s3, s4, s5, s6, s7⟩; go_simp; with_reducible rfl); rotate_left; (simp only [Act.put, List.setIfInBounds_toArray, List.set_cons_zero, List.set_cons_succ, i64_w, i32_w]; rfl)
          refine one_ (i := 9) (N := some 35) #[true, true, true, true, true, true, true, true, true, true, false, false, true, true, true, true, true, true, true, false, false, false] rfl rfl (one_of HT_.out (by kernel_rfl)) (by decide) (fun K hK => ?_)
          refine goes_ Tryz.func90 (by kernel_rfl) rfl #[.string ((rd_T64 (rd_L5 l0 x4_1) x5_2).f0)] (by rfl) rfl rfl (by (try simp only [List.map_toArray, List.map_cons, List.map_nil]); first | done | rfl | (simp only [List.length_drop, List.length_take]; rfl)) ?_
          with_reducible refine (chirographref07_letters.calls ((rd_T64 (rd_L5 l0 x4_1) x5_2).f0) t1117 _ A9.out).mono ?_
          rintro e w' ⟨rfl, ⟨nd, rfl⟩⟩
          refine ⟨_, rfl, ?_⟩
          refine hK.out _ _ ⟨((HB.out.cell (World.block_lt_of_cell? w _ hw1115_0)).trans hw1115_0), ((HB.out.cell (World.block_lt_of_cell? w _ hw1116_0)).trans hw1116_0), ((HB.out.cell (World.block_lt_of_cell? w _ hw1116_1)).trans hw1116_1), ((HB.out.cell (World.block_lt_of_cell? w _ hw1116_2)).trans hw1116_2), ((HB.out.cell (World.block_lt_of_cell? w _ hw1118_0)).trans hw1118_0), ((HB.out.cell (World.block_lt_of_cell? w _ hw1119_0)).trans hw1119_0), ((HB.out.cell (World.block_lt_of_cell? w _ hw1119_1)).trans hw1119_1), ((HB.out.cell (World.block_lt_of_cell? w _ hw1119_2)).trans hw1119_2)⟩ (fun hHeld => ?_)
          clear hK K
          refine norm_ (a' := ?_) ?_ ?_; rotate_left; (show Act.put _ (some 35) _ = _; simp only [Act.put, List.setIfInBounds_toArray, List.set_cons_zero, List.set_cons_succ, i64_w, i32_w]; rfl)
          refine pure_ (i := 10) (N := some 36) (v := ?_) (a' := ?_) #[true, true, true, true, true, true, true, true, true, true, true, false, true, true, true, true, true, true, true, false, false, false] rfl rfl (any_of HT_.out (by kernel_rfl)) (fun _ _ _ h => h) (Or.inl ⟨by rfl, ?_⟩) ?_ ?_; rotate_left; (intro w'; go_simp; with_reducible rfl); rotate_left; (simp only [Act.put, List.setIfInBounds_toArray, List.set_cons_zero, List.set_cons_succ, i64_w, i32_w]; rfl)
          refine pure_ (i := 11) (N := some 37) (v := ?_) (a' := ?_) #[true, true, true, true, true, true, true, true, true, true, true, true, true, true, true, true, true, true, true, false, false, false] rfl rfl (any_of HT_.out (by kernel_rfl)) (fun _ _ _ h => h) (Or.inl ⟨by rfl, ?_⟩) ?_ ?_; rotate_left; (intro w'; go_simp; with_reducible rfl); rotate_left; (simp only [Act.put, List.setIfInBounds_toArray, List.set_cons_zero, List.set_cons_succ, i64_w, i32_w]; rfl)
          refine one_ (i := 19) (N := some 45) #[true, true, true, true, true, true, true, true, true, true, true, true, true, true, true, true, true, true, true, true, false, false] rfl rfl (one_of HT_.out (by kernel_rfl)) (by decide) (fun K hK => ?_)
          refine goes_ Tryz.func91 (by kernel_rfl) rfl #[.agg #[.string ((rd_T64 (rd_L5 l0 x4_1) x5_2).f0), .int .i64 ((rd_T64 (rd_L5 l0 x4_1) x5_2).f1), .slice A1116_2 ((rd_T64 (rd_L5 l0 x4_1) x5_2).f2).length c1116_2]] (by rfl) rfl rfl (by (try simp only [List.map_toArray, List.map_cons, List.map_nil]); first | done | rfl | (simp only [List.length_drop, List.length_take]; rfl)) ?_
          with_reducible refine (chirographref07_value.calls k2 ((rd_T64 (rd_L5 l0 x4_1) x5_2).f0) ((rd_T64 (rd_L5 l0 x4_1) x5_2).f1) _ _ ((rd_T64 (rd_L5 l0 x4_1) x5_2).f2) t1120 _ ?side1 ?side2 A12.out).mono ?_
          (case side1 => repeat (first | exact (Kd.C_below HR1119_2.out (by repeat (first | (with_reducible first | exact HB.out | apply below_alloc | apply pw_below_drewN | apply below_drew1) | exact HB.out))) | (with_reducible refine Kd.C_alloc ?_ _) | (with_reducible refine Kd.C_drewN ?_ _) | (with_reducible refine Kd.C_drew ?_)))
          (case side2 => exact HC1119_2.out)
          rintro e w15 ⟨rfl, hb⟩
          refine ⟨_, rfl, ?_⟩
          have n0_ := Aside0.mk (below_step (by repeat (first | (with_reducible first | exact HB.out | apply below_alloc | apply pw_below_drewN | apply below_drew1) | exact HB.out)) hb)
          clear HB
          have HB := n0_
          clear n0_
          (try clear hb)
          (try clear hb2)
          (try clear hk)
          (try clear hi)
          refine hK.out _ _ ⟨((HB.out.cell (World.block_lt_of_cell? w _ hw1115_0)).trans hw1115_0), ((HB.out.cell (World.block_lt_of_cell? w _ hw1116_0)).trans hw1116_0), ((HB.out.cell (World.block_lt_of_cell? w _ hw1116_1)).trans hw1116_1), ((HB.out.cell (World.block_lt_of_cell? w _ hw1116_2)).trans hw1116_2), ((HB.out.cell (World.block_lt_of_cell? w _ hw1118_0)).trans hw1118_0), ((HB.out.cell (World.block_lt_of_cell? w _ hw1119_0)).trans hw1119_0), ((HB.out.cell (World.block_lt_of_cell? w _ hw1119_1)).trans hw1119_1), ((HB.out.cell (World.block_lt_of_cell? w _ hw1119_2)).trans hw1119_2)⟩ (fun hHeld => ?_)
          clear hK K
          refine norm_ (a' := ?_) ?_ ?_; rotate_left; (show Act.put _ (some 45) _ = _; simp only [Act.put, List.setIfInBounds_toArray, List.set_cons_zero, List.set_cons_succ, i64_w, i32_w]; rfl)
          refine pure_ (i := 20) (N := some 46) (v := ?_) (a' := ?_) #[true, true, true, true, true, true, true, true, true, true, true, true, true, true, true, true, true, true, true, true, true, false] rfl rfl (any_of HT_.out (by kernel_rfl)) (fun _ _ _ h => h) (Or.inl ⟨by rfl, ?_⟩) ?_ ?_; rotate_left; (intro w'; go_simp; with_reducible rfl); rotate_left; (simp only [Act.put, List.setIfInBounds_toArray, List.set_cons_zero, List.set_cons_succ, i64_w, i32_w]; rfl)
          refine pure_ (i := 21) (N := some 3) (v := ?_) (a' := ?_) #[true, true, true, true, true, true, true, true, true, true, true, true, true, true, true, true, true, true, true, true, true, true] rfl rfl (any_of HT_.out (by kernel_rfl)) (fun _ _ _ h => h) (Or.inl ⟨by rfl, ?_⟩) ?_ ?_; rotate_left; (intro w'; go_simp; with_reducible rfl); rotate_left; (simp only [Act.put, List.setIfInBounds_toArray, List.set_cons_zero, List.set_cons_succ, i64_w, i32_w]; rfl)
          refine done_ (done_of HT_.out (by kernel_rfl)) ?_
          try go_wp2
          go_roundg k2
          case measure => have := HK1.out; have := HK2.out; omega
          case rel => exact ⟨((((x3_2 ++ (⟨#[43]⟩ : ByteArray)) ++ t1117) ++ (⟨#[61]⟩ : ByteArray)) ++ t1120), (wrap64 (x5_2 + 1)), (by first | rfl | (simp; done) | (simp [*]; done)), (by first | rfl | (simp; done) | (simp [*]; done)), H', ⟨by have := HK1.out; have := HK2.out; omega⟩, ⟨by repeat (first | (with_reducible first | exact HB.out | apply below_alloc | apply pw_below_drewN | apply below_drew1) | exact HB.out)⟩⟩
end Go.Proofs.YtkioddjjfifadaaGreatDoor.P
namespace Go.Proofs.YtkioddjjfifadaaGreatDoor.P
open Go.RowKit Go.Proofs.YtkioddjjfifadaaGreatDoorW.PrintWords
/-- A part that is not huge. -/
def ShowP (p : S64) : Prop := p.f0.size ≤ 8192 ∧ p.f2.length ≤ 8192 ∧ p.f2.all isByte = true
def letB (s : ByteArray) : ByteArray := (chirographref07_letters.f s).getD ⟨#[]⟩
def valB (p : S64) : ByteArray := (name_value.f 60000 p.f0 p.f1 p.f2).getD ⟨#[]⟩
def prt (p : S64) : ByteArray := (letB p.f0 ++ ⟨#[61]⟩) ++ valB p
theorem let_at (s : ByteArray) : chirographref07_letters.f s = some (letB s) ∧ (letB s).size ≤ s.size + 2 := by
  have key : ∃ t, chirographref07_letters.f s = some t ∧ t.size ≤ s.size + 2 := by
    unfold chirographref07_letters.f
    have z : ∀ a : UInt8, (⟨#[a]⟩ : ByteArray).size = 1 := fun _ => rfl
    have z2 : ∀ a b : UInt8, (⟨#[a, b]⟩ : ByteArray).size = 2 := fun _ _ => rfl
    repeat' split
    all_goals exact ⟨_, rfl, by first | (simp only [z, z2]; omega) | exact Nat.le_add_right _ _⟩
  obtain ⟨t, h1, h2⟩ := key
  have : letB s = t := by unfold letB; rw [h1]; rfl
  rw [this]
  exact ⟨h1, h2⟩
theorem val_at (p : S64) (hp : ShowP p) (k : Nat) (hk : 60000 ≤ k) : name_value.f k p.f0 p.f1 p.f2 = some (valB p) ∧ chirographref07_value.f k p.f0 p.f1 p.f2 = some (valB p) ∧ (valB p).size ≤ 60000 := by
  obtain ⟨v, h1, h2, h3⟩ := value_eq p.f0 p.f1 p.f2 hp.2.2 hp.2.1 60000 k (Nat.le_refl _) hk
  obtain ⟨v', g1, g2, g3⟩ := value_eq p.f0 p.f1 p.f2 hp.2.2 hp.2.1 k k hk hk
  have hv : valB p = v := by unfold valB; rw [h1]; rfl
  rw [h2] at g2
  obtain rfl := Option.some.inj g2
  rw [hv]
  exact ⟨g1, h2, h3⟩
theorem prt_size (p : S64) (hp : ShowP p) : (prt p).size ≤ 70000 := by
  unfold prt
  have h1 := (let_at p.f0).2
  have h2 := (val_at p hp 60000 (Nat.le_refl _)).2.2
  have h3 := hp.1
  have z : (⟨#[61]⟩ : ByteArray).size = 1 := rfl
  rw [ByteArray.size_append, ByteArray.size_append]
  omega
/-- Joined. -/
def jB (sep : ByteArray) (xs : List ByteArray) : ByteArray := ⟨(Lib.join (xs.map (·.data.toList)) sep.data.toList).toArray⟩
def tailB (sep : ByteArray) : List ByteArray → ByteArray
  | [] => ⟨#[]⟩
  | y :: r => sep ++ (y ++ tailB sep r)
theorem ba_self (x : ByteArray) : (⟨x.data.toList.toArray⟩ : ByteArray) = x := by cases x; simp
theorem tail_eq (sep : ByteArray) : ∀ r : List ByteArray, (⟨(Lib.joinTail sep.data.toList (r.map (·.data.toList))).toArray⟩ : ByteArray) = tailB sep r
  | [] => rfl
  | y :: r => by
    have ih := tail_eq sep r
    unfold Lib.joinTail at ih ⊢
    rw [List.map_cons, List.map_cons, List.flatten_cons, ← ba_mk_append, ih, ← ba_mk_append, ba_self, ba_self, tailB, ByteArray.append_assoc]
theorem jB_nil (sep : ByteArray) : jB sep [] = ⟨#[]⟩ := rfl
theorem jB_cons (sep x : ByteArray) (r : List ByteArray) : jB sep (x :: r) = x ++ tailB sep r := by
  unfold jB
  rw [List.map_cons, Lib.join_cons, ← ba_mk_append, ba_self, tail_eq]
theorem tailB_size (sep : ByteArray) (B : Nat) : ∀ r : List ByteArray, (∀ x ∈ r, x.size ≤ B) → (tailB sep r).size ≤ r.length * (B + sep.size)
  | [], _ => by simp [tailB]; rfl
  | y :: r, h => by
    have h1 := tailB_size sep B r (fun x hx => h x (List.mem_cons_of_mem _ hx))
    have h2 := h y List.mem_cons_self
    rw [tailB, ByteArray.size_append, ByteArray.size_append, List.length_cons, Nat.add_mul]
    omega
theorem jB_size (sep : ByteArray) (B : Nat) : ∀ r : List ByteArray, (∀ x ∈ r, x.size ≤ B) → (jB sep r).size ≤ r.length * (B + sep.size)
  | [], _ => by rw [jB_nil]; exact Nat.zero_le _
  | y :: r, h => by
    have h1 := tailB_size sep B r (fun x hx => h x (List.mem_cons_of_mem _ hx))
    have h2 := h y List.mem_cons_self
    rw [jB_cons, ByteArray.size_append, List.length_cons, Nat.add_mul]
    omega
theorem join_at (sep : ByteArray) (hs : sep.size = 1) (B : Nat) (hB : B ≤ 14000300) (xs : List ByteArray) (hl : xs.length ≤ 200) (h : ∀ x ∈ xs, x.size ≤ B) : strings_Join.f xs sep = some (jB sep xs) := by
  have hz := jB_size sep B xs h
  have hz2 : (jB sep xs).size = (Lib.join (xs.map (·.data.toList)) sep.data.toList).length := by simp [jB, ByteArray.size]
  have : xs.length * (B + sep.size) ≤ 200 * (14000300 + 1) := Nat.mul_le_mul hl (by omega)
  unfold strings_Join.f
  rw [if_pos ⟨by omega, by omega⟩]
  rfl
abbrev plusB : ByteArray := ⟨#[43]⟩
abbrev commaB : ByteArray := ⟨#[44]⟩
def setB (s : List S64) : ByteArray := jB plusB (s.map prt)
/-- A name that is not huge. -/
def ShowN (n : List (List S64)) : Prop := n.length ≤ 200 ∧ ∀ s ∈ n, s.length ≤ 200 ∧ ∀ p ∈ s, ShowP p
theorem setB_size (s : List S64) (hl : s.length ≤ 200) (h : ∀ p ∈ s, ShowP p) : (setB s).size ≤ 14000200 := by
  have h1 := jB_size plusB 70000 (s.map prt) (fun x hx => by obtain ⟨p, hp, rfl⟩ := List.mem_map.1 hx; exact prt_size p (h p hp))
  have z : plusB.size = 1 := rfl
  rw [List.length_map, z] at h1
  have : s.length * (70000 + 1) ≤ 200 * 70001 := Nat.mul_le_mul hl (Nat.le_refl _)
  unfold setB
  omega
theorem drop_rd64 (l : List S64) (i : Int) (h0 : 0 ≤ i) (h1 : i < (l.length : Int)) : l.drop i.toNat = rd_T64 l i :: l.drop (i + 1).toNat := by
  have hi : i.toNat < l.length := by omega
  rw [show (i + 1).toNat = i.toNat + 1 by omega, List.drop_eq_getElem_cons hi]
  congr 1
  show _ = l.getD i.toNat z64
  rw [List.getD_eq_getElem?_getD, List.getElem?_eq_getElem hi]
  rfl
theorem drop_rdL (l : List (List S64)) (i : Int) (h0 : 0 ≤ i) (h1 : i < (l.length : Int)) : l.drop i.toNat = rd_L5 l i :: l.drop (i + 1).toNat := by
  have hi : i.toNat < l.length := by omega
  rw [show (i + 1).toNat = i.toNat + 1 by omega, List.drop_eq_getElem_cons hi]
  congr 1
  show _ = l.getD i.toNat []
  rw [List.getD_eq_getElem?_getD, List.getElem?_eq_getElem hi]
  rfl
theorem ns_l1 (x4 : List ByteArray) (n : List (List S64)) (N i : Int) (s : List S64) (hs : s.length ≤ 200) (hg : ∀ p ∈ s, ShowP p) (hx : x4.length ≤ 200) (k : Nat) (hk : 60000 ≤ k) : ∀ (m : Nat) (acc : List ByteArray) (j : Int), 0 ≤ j → (s.length : Int) - j = m → acc.length + m ≤ 200 → (∀ a ∈ acc, a.size ≤ 70000) →
    name_Show.l1 (k + m + 1) x4 acc n N i s (s.length : Int) j = name_Show.l0 k (x4 ++ [jB plusB (acc ++ (s.drop j.toNat).map prt)]) n N (wrap64 (i + 1))
  | 0, acc, j, h0, hm, ha, hb => by
    rw [name_Show.l1, if_neg (by omega), List.drop_eq_nil_of_le (by omega), List.map_nil, List.append_nil, join_at plusB rfl 70000 (by omega) acc (by omega) hb, Option.bind_some, if_pos (by omega)]
  | m + 1, acc, j, h0, hm, ha, hb => by
    have hp : rd_T64 s j ∈ s := getD_mem s z64 j h0 (by omega)
    have hq := hg _ hp
    obtain ⟨v1, _, v3⟩ := val_at _ hq (k + m + 1) (by omega)
    obtain ⟨l1, l2⟩ := let_at (rd_T64 s j).f0
    have z : (⟨#[61]⟩ : ByteArray).size = 1 := rfl
    have hw : wrap64 (j + 1) = j + 1 := w64'' (by omega) (by omega)
    have h8 := hq.1
    rw [show k + (m + 1) + 1 = (k + m + 1) + 1 by omega, name_Show.l1, if_pos (by omega), if_pos h0, if_pos (by omega), l1, Option.bind_some, if_pos (by omega), v1, Option.bind_some, if_pos (by rw [ByteArray.size_append]; omega), if_pos (by omega), hw,
      ns_l1 x4 n N i s hs hg hx k hk m _ (j + 1) (by omega) (by omega) (by rw [List.length_append, List.length_cons, List.length_nil]; omega) (fun a ha => by
        rcases List.mem_append.1 ha with ha | ha
        · exact hb a ha
        · rw [List.mem_singleton.1 ha]; exact prt_size _ hq), drop_rd64 s j h0 (by omega), List.map_cons, List.append_assoc]
    rfl
theorem ns_l0 (n : List (List S64)) (hn : ShowN n) : ∀ (q k : Nat) (x4 : List ByteArray) (i : Int), 0 ≤ i → (n.length : Int) - i = q → q * 202 + 60001 ≤ k → x4.length + q ≤ 200 → (∀ a ∈ x4, a.size ≤ 14000300) →
    name_Show.l0 k x4 n (n.length : Int) i = some (jB commaB (x4 ++ (n.drop i.toNat).map setB).reverse)
  | 0, k, x4, i, h0, hq, hk, hx, ha => by
    obtain ⟨k1, rfl⟩ : ∃ k1, k = k1 + 1 := ⟨k - 1, by omega⟩
    rw [name_Show.l0, if_neg (by omega), List.drop_eq_nil_of_le (by omega), List.map_nil, List.append_nil]
    unfold slices_Reverse.f
    rw [if_pos (by omega), Option.bind_some, join_at commaB rfl 14000300 (by omega) _ (by rw [List.length_reverse]; omega) (fun a h => ha a (List.mem_reverse.1 h)), Option.bind_some]
  | q + 1, k, x4, i, h0, hq, hk, hx, ha => by
    have hm : rd_L5 n i ∈ n := getD_mem n [] i h0 (by omega)
    obtain ⟨s1, s2⟩ := hn.2 _ hm
    obtain ⟨k1, rfl⟩ : ∃ k1, k = (k1 + (rd_L5 n i).length + 1) + 1 := ⟨k - (rd_L5 n i).length - 2, by omega⟩
    have hw : wrap64 (i + 1) = i + 1 := w64'' (by have := hn.1; omega) (by have := hn.1; omega)
    rw [name_Show.l0, if_pos (by omega), if_pos h0, if_pos (by omega), ns_l1 x4 n _ i _ s1 s2 (by omega) k1 (by omega) (rd_L5 n i).length [] 0 (by omega) (by omega) (by simp only [List.length_nil]; omega) (fun _ h => by cases h), hw,
      ns_l0 n hn q k1 _ (i + 1) (by omega) (by omega) (by omega) (by rw [List.length_append, List.length_cons, List.length_nil]; omega) (fun a h => by
        rcases List.mem_append.1 h with h | h
        · exact ha a h
        · rw [List.mem_singleton.1 h]
          have := setB_size _ s1 s2
          unfold setB at this
          show (jB plusB (((rd_L5 n i).drop 0).map prt)).size ≤ _
          rw [List.drop_zero]
          omega), drop_rdL n i h0 (by omega), List.map_cons, List.append_assoc]
    rfl
/-- What is behind, from a place on. -/
def restB (j : Int) (l : List ByteArray) : ByteArray := if j > 0 then tailB plusB l else jB plusB l
def afterB (i : Int) (a : ByteArray) : ByteArray := if i > 0 then a ++ commaB else a
theorem rs_l1 (n : List (List S64)) (i : Int) (h0i : 0 ≤ i) (hin : i < (n.length : Int)) (hs : (rd_L5 n i).length ≤ 200) (hg : ∀ p ∈ rd_L5 n i, ShowP p) (k : Nat) (hk : 60000 ≤ k) : ∀ (m : Nat) (acc : ByteArray) (j : Int), 0 ≤ j → ((rd_L5 n i).length : Int) - j = m → acc.size + m * 70001 ≤ 9000000000000000000 →
    chirographref07_Show.l1 (k + m + 1) n acc i j = chirographref07_Show.l0 k n (afterB i (acc ++ restB j (((rd_L5 n i).drop j.toNat).map prt))) (wrap64 (i - 1))
  | 0, acc, j, h0, hm, ha => by
    have e : restB j (((rd_L5 n i).drop j.toNat).map prt) = ⟨#[]⟩ := by
      rw [List.drop_eq_nil_of_le (by omega), List.map_nil]
      unfold restB
      split <;> rfl
    have e2 : acc ++ (⟨#[]⟩ : ByteArray) = acc := ByteArray.append_empty
    rw [chirographref07_Show.l1, if_pos h0i, if_pos hin, if_neg (by omega), e, e2]
    unfold afterB
    by_cases h : i > 0
    · rw [if_pos h, if_pos h, if_pos (by omega)]
    · rw [if_neg h, if_neg h]
  | m + 1, acc, j, h0, hm, ha => by
    have hp : rd_T64 (rd_L5 n i) j ∈ rd_L5 n i := getD_mem _ z64 j h0 (by omega)
    have hq := hg _ hp
    obtain ⟨_, v1, v3⟩ := val_at _ hq (k + m + 1) (by omega)
    obtain ⟨l1, l2⟩ := let_at (rd_T64 (rd_L5 n i) j).f0
    have z : (⟨#[61]⟩ : ByteArray).size = 1 := rfl
    have z2 : (⟨#[43]⟩ : ByteArray).size = 1 := rfl
    have hw : wrap64 (j + 1) = j + 1 := w64'' (by omega) (by omega)
    have h8 := hq.1
    have hps := prt_size _ hq
    have hr : restB (j + 1) = tailB plusB := by funext l; unfold restB; rw [if_pos (by omega)]
    rw [show k + (m + 1) + 1 = (k + m + 1) + 1 by omega, chirographref07_Show.l1, if_pos h0i, if_pos hin, if_pos (by omega), l1, Option.bind_some, Option.bind_some, v1, Option.bind_some, Option.bind_some, hw, drop_rd64 _ j h0 (by omega), List.map_cons]
    by_cases hj : j > 0
    · have ih := rs_l1 n i h0i hin hs hg k hk m (acc ++ (plusB ++ prt (rd_T64 (rd_L5 n i) j))) (j + 1) (by omega) (by omega) (by rw [ByteArray.size_append, ByteArray.size_append]; have : plusB.size = 1 := rfl; omega)
      have e : (((acc ++ (⟨#[43]⟩ : ByteArray)) ++ letB (rd_T64 (rd_L5 n i) j).f0) ++ (⟨#[61]⟩ : ByteArray)) ++ valB (rd_T64 (rd_L5 n i) j) = acc ++ (plusB ++ prt (rd_T64 (rd_L5 n i) j)) := by
        unfold prt
        simp only [ByteArray.append_assoc]
      rw [if_pos hj, if_pos (by omega), if_pos h0, if_pos (by simp only [ByteArray.size_append]; omega), if_pos (by simp only [ByteArray.size_append]; omega), if_pos (by simp only [ByteArray.size_append]; omega), e, ih, hr]
      have e3 : restB j (prt (rd_T64 (rd_L5 n i) j) :: ((rd_L5 n i).drop (j + 1).toNat).map prt) = plusB ++ (prt (rd_T64 (rd_L5 n i) j) ++ tailB plusB (((rd_L5 n i).drop (j + 1).toNat).map prt)) := by
        unfold restB; rw [if_pos hj, tailB]
      rw [e3]
      simp only [ByteArray.append_assoc]
    · have ih := rs_l1 n i h0i hin hs hg k hk m (acc ++ prt (rd_T64 (rd_L5 n i) j)) (j + 1) (by omega) (by omega) (by rw [ByteArray.size_append]; omega)
      have e : ((acc ++ letB (rd_T64 (rd_L5 n i) j).f0) ++ (⟨#[61]⟩ : ByteArray)) ++ valB (rd_T64 (rd_L5 n i) j) = acc ++ prt (rd_T64 (rd_L5 n i) j) := by
        unfold prt
        simp only [ByteArray.append_assoc]
      rw [if_neg hj, if_pos h0, if_pos (by omega), if_pos (by simp only [ByteArray.size_append]; omega), if_pos (by simp only [ByteArray.size_append]; omega), e, ih, hr]
      have e3 : restB j (prt (rd_T64 (rd_L5 n i) j) :: ((rd_L5 n i).drop (j + 1).toNat).map prt) = prt (rd_T64 (rd_L5 n i) j) ++ tailB plusB (((rd_L5 n i).drop (j + 1).toNat).map prt) := by
        unfold restB; rw [if_neg hj, jB_cons]
      rw [e3]
      simp only [ByteArray.append_assoc]
set_option maxRecDepth 100000 in
theorem rs_l0 (n : List (List S64)) (hn : ShowN n) (B : Nat) (hB : 14000201 ≤ B) : ∀ (q k : Nat) (acc : ByteArray), q ≤ n.length → q * 202 + 60001 ≤ k → acc.size + q * B ≤ 8000000000000000000 →
    chirographref07_Show.l0 k n acc ((q : Int) - 1) = some (acc ++ jB commaB ((n.take q).map setB).reverse)
  | 0, k, acc, hq, hk, ha => by
    obtain ⟨k1, rfl⟩ : ∃ k1, k = k1 + 1 := ⟨k - 1, by omega⟩
    rw [chirographref07_Show.l0, if_neg (by omega)]
    exact congrArg some ByteArray.append_empty.symm
  | q + 1, k, acc, hq, hk, ha => by
    have hi : ((q + 1 : Nat) : Int) - 1 = (q : Int) := by omega
    rw [Nat.add_mul, Nat.one_mul, ← Nat.add_assoc] at ha
    generalize hC : q * B = C at ha
    have hm : rd_L5 n (q : Int) ∈ n := getD_mem n [] (q : Int) (by omega) (by omega)
    obtain ⟨s1, s2⟩ := hn.2 _ hm
    obtain ⟨k1, rfl⟩ : ∃ k1, k = (k1 + (rd_L5 n (q : Int)).length + 1) + 1 := ⟨k - (rd_L5 n (q : Int)).length - 2, by omega⟩
    have hw : wrap64 ((q : Int) - 1) = (q : Int) - 1 := w64'' (by omega) (by have := hn.1; omega)
    have hz := setB_size _ s1 s2
    have hsz : acc.size + (rd_L5 n (q : Int)).length * 70001 ≤ 9000000000000000000 := by
      have h1 : (rd_L5 n (q : Int)).length * 70001 ≤ 200 * 70001 := Nat.mul_le_mul_right _ s1
      clear hz hw
      omega
    have ez : restB 0 (((rd_L5 n (q : Int)).drop (0 : Int).toNat).map prt) = setB (rd_L5 n (q : Int)) := rfl
    have et : ((n.take (q + 1)).map setB).reverse = setB (rd_L5 n (q : Int)) :: ((n.take q).map setB).reverse := by
      have : n.take (q + 1) = n.take q ++ [rd_L5 n (q : Int)] := by
        rw [List.take_add_one, List.getElem?_eq_getElem (by omega)]
        congr 1
        show [_] = [n.getD (q : Int).toNat []]
        rw [Int.toNat_natCast, List.getD_eq_getElem?_getD, List.getElem?_eq_getElem (by omega)]
        rfl
      rw [this, List.map_append, List.reverse_append]
      rfl
    rw [hi, chirographref07_Show.l0, if_pos (by omega), rs_l1 n q (by omega) (by omega) s1 s2 k1 (by omega) (rd_L5 n (q : Int)).length acc 0 (by omega) (by omega) hsz, hw, ez, et, jB_cons]
    have cz : commaB.size = 1 := rfl
    rw [rs_l0 n hn B hB q k1 _ (by omega) (by omega) (by rw [hC]; unfold afterB; split <;> simp only [ByteArray.size_append] <;> omega)]
    unfold afterB
    cases q with
    | zero => rw [if_neg (by omega), List.take_zero, ByteArray.append_assoc]; rfl
    | succ q =>
      rw [if_pos (by omega)]
      have hne : ∃ x r, ((n.take (q + 1)).map setB).reverse = x :: r := by
        cases h : ((n.take (q + 1)).map setB).reverse with
        | nil =>
          have := congrArg List.length h
          rw [List.length_reverse, List.length_map, List.length_take] at this
          simp only [List.length_nil] at this
          omega
        | cons x r => exact ⟨x, r, rfl⟩
      obtain ⟨x, r, hr⟩ := hne
      rw [hr, jB_cons, tailB]
      simp only [ByteArray.append_assoc]
theorem show_eq (n : List (List S64)) (hn : ShowN n) (k K : Nat) (hk : 101000 ≤ k) (hK : 101000 ≤ K) : ∃ v, name_Show.f k n = some v ∧ chirographref07_Show.f K n = some v := by
  have hl := hn.1
  unfold name_Show.f chirographref07_Show.f
  rw [ns_l0 n hn n.length k [] 0 (by omega) (by omega) (by omega) (by simp only [List.length_nil]; omega) (fun _ h => by cases h), w64'' (by omega) (by omega), rs_l0 n hn 14000201 (Nat.le_refl _) n.length K ⟨#[]⟩ (Nat.le_refl _) (by omega) (by have h0 : (⟨#[]⟩ : ByteArray).size = 0 := rfl; have h1 : n.length * 14000201 ≤ 200 * 14000201 := Nat.mul_le_mul_right _ hl; rw [h0]; exact Nat.le_trans (Nat.le_of_eq (Nat.zero_add _)) (Nat.le_trans h1 (by decide)))]
  refine ⟨_, rfl, ?_⟩
  rw [List.take_length, List.nil_append]
  exact congrArg some ByteArray.empty_append
end Go.Proofs.YtkioddjjfifadaaGreatDoor.P
namespace Go.Proofs.YtkioddjjfifadaaGreatDoor.P
open Go.RowKit Go.Proofs.YtkioddjjfifadaaGreatDoorW.PrintWords Go.Proofs.YtkioddjjfifadaaGreatDoorW.PrintLast Go.Proofs.YtkioddjjfifadaaGreatDoorW.PrintMore
theorem drop_at' {α : Type} (l : List α) (d : α) (i : Int) (h0 : 0 ≤ i) (h1 : i < (l.length : Int)) : l.drop i.toNat = l.getD i.toNat d :: l.drop (i + 1).toNat := by
  have hi : i.toNat < l.length := by omega
  rw [show (i + 1).toNat = i.toNat + 1 by omega, List.drop_eq_getElem_cons hi]
  simp [List.getD, List.getElem?_eq_getElem hi]
/-- What an argument's part is. -/
def PartOk (p : S64) : Prop := p.f0.size ≤ 4611686018427387904 ∧ p.f2.length ≤ 4611686018427387904 ∧ p.f2.all isByte = true ∧ -9223372036854775808 ≤ p.f1 ∧ p.f1 ≤ 9223372036854775807
def Small8 (p : S64) : Prop := p.f0.size ≤ 8192 ∧ p.f2.length ≤ 8192
theorem huge8_loop (n : List (List S64)) (hn : n.length ≤ 200) (hb : ∀ s ∈ n, ∀ p ∈ s, p.f0.size ≤ 4611686018427387904 ∧ p.f2.length ≤ 4611686018427387904) : ∀ (k : Nat),
    (∀ (s i : Int), 0 ≤ i → 0 ≤ s → s ≤ 8192 → ((n.length : Int) - i) * 203 + 1 < k → 0 < k → ∃ b, chirographref07_Huge.l0 k n 8192 s i = some b ∧ (b = false → ∀ t ∈ n.drop i.toNat, t.length ≤ 200 ∧ ∀ p ∈ t, Small8 p)) ∧
    (∀ (s i j : Int), 0 ≤ i → i < (n.length : Int) → 0 ≤ j → 0 ≤ s → s ≤ 8192 → (rd_L5 n i).length ≤ 200 → ((n.length : Int) - i - 1) * 203 + (((rd_L5 n i).length : Int) - j) + 2 < k → j ≤ ((rd_L5 n i).length : Int) → 0 < k →
      ∃ b, chirographref07_Huge.l1 k n 8192 s i j = some b ∧ (b = false → (∀ p ∈ (rd_L5 n i).drop j.toNat, Small8 p) ∧ ∀ t ∈ n.drop (i + 1).toNat, t.length ≤ 200 ∧ ∀ p ∈ t, Small8 p))
  | 0 => ⟨fun s i _ _ _ _ h => absurd h (Nat.lt_irrefl 0), fun s i j _ _ _ _ _ _ _ _ h => absurd h (Nat.lt_irrefl 0)⟩
  | k + 1 => by
    obtain ⟨ih0, ih1⟩ := huge8_loop n hn hb k
    refine ⟨fun s i h0 hs0 hs1 hk _ => ?_, fun s i j h0 hi hj hs0 hs1 hlen hk hjl _ => ?_⟩
    · rw [chirographref07_Huge.l0]
      by_cases hi : i < (n.length : Int)
      · rw [if_pos hi, if_pos h0]
        by_cases hl : ((rd_L5 n i).length : Int) > 200
        · rw [if_pos hl]
          exact ⟨true, rfl, fun h => by cases h⟩
        · rw [if_neg hl]
          obtain ⟨b, h1, h2⟩ := ih1 s i 0 h0 hi (by omega) hs0 hs1 (by omega) (by omega) (by omega) (by omega)
          refine ⟨b, h1, fun hbf => ?_⟩
          obtain ⟨h3, h4⟩ := h2 hbf
          rw [drop_at' n [] i h0 hi]
          intro t ht
          rcases List.mem_cons.1 ht with rfl | ht
          · exact ⟨by have : (rd_L5 n i).length ≤ 200 := by omega
                      exact this, by rw [show (0 : Int).toNat = 0 from rfl, List.drop_zero] at h3; exact h3⟩
          · exact h4 t ht
      · rw [if_neg hi]
        refine ⟨false, rfl, fun _ => ?_⟩
        rw [List.drop_eq_nil_of_le (by omega)]
        intro t ht
        cases ht
    · rw [chirographref07_Huge.l1, if_pos h0, if_pos hi]
      by_cases hj1 : j < ((rd_L5 n i).length : Int)
      · rw [if_pos hj1, if_pos hj]
        have hm1 : rd_L5 n i ∈ n := getD_mem n [] i h0 hi
        have hm2 : rd_T64 (rd_L5 n i) j ∈ rd_L5 n i := getD_mem (rd_L5 n i) z64 j hj hj1
        obtain ⟨b1, b2⟩ := hb _ hm1 _ hm2
        have hd := drop_at' (rd_L5 n i) z64 j hj hj1
        have hrd : (rd_L5 n i).getD j.toNat z64 = rd_T64 (rd_L5 n i) j := rfl
        rw [hrd] at hd
        generalize rd_T64 (rd_L5 n i) j = p at *
        have w1 : wrap64 (8192 - s) = 8192 - s := by unfold wrap64; omega
        rw [w1]
        by_cases ha : (p.f2.length : Int) > 8192 - s
        · rw [if_pos ha]
          exact ⟨true, rfl, fun h => by cases h⟩
        · rw [if_neg ha]
          have w2 : wrap64 (s + (p.f2.length : Int)) = s + (p.f2.length : Int) := by unfold wrap64; omega
          rw [w2]
          have w3 : wrap64 (8192 - (s + (p.f2.length : Int))) = 8192 - (s + (p.f2.length : Int)) := by unfold wrap64; omega
          rw [w3]
          by_cases hc : (p.f0.size : Int) > 8192 - (s + (p.f2.length : Int))
          · rw [if_pos hc]
            exact ⟨true, rfl, fun h => by cases h⟩
          · rw [if_neg hc]
            have w4 : wrap64 (s + (p.f2.length : Int) + (p.f0.size : Int)) = s + (p.f2.length : Int) + (p.f0.size : Int) := by unfold wrap64; omega
            have w5 : wrap64 (j + 1) = j + 1 := by unfold wrap64; omega
            rw [w4, w5]
            obtain ⟨b, h1, h2⟩ := ih1 (s + (p.f2.length : Int) + (p.f0.size : Int)) i (j + 1) h0 hi (by omega) (by omega) (by omega) hlen (by omega) (by omega) (by omega)
            refine ⟨b, h1, fun hbf => ?_⟩
            obtain ⟨h3, h4⟩ := h2 hbf
            refine ⟨?_, h4⟩
            rw [hd]
            intro q hq
            rcases List.mem_cons.1 hq with rfl | hq
            · exact ⟨by omega, by omega⟩
            · exact h3 q hq
      · rw [if_neg hj1]
        have w5 : wrap64 (i + 1) = i + 1 := by unfold wrap64; omega
        rw [w5]
        obtain ⟨b, h1, h2⟩ := ih0 s (i + 1) (by omega) hs0 hs1 (by omega) (by omega)
        refine ⟨b, h1, fun hbf => ⟨?_, h2 hbf⟩⟩
        rw [List.drop_eq_nil_of_le (by omega)]
        intro q hq
        cases hq
theorem huge8_total (k : Nat) (hk : 50000 < k) (n : List (List S64)) (hb : ∀ s ∈ n, ∀ p ∈ s, p.f0.size ≤ 4611686018427387904 ∧ p.f2.length ≤ 4611686018427387904) : ∃ b, chirographref07_Huge.f k n 8192 = some b ∧ (b = false → n.length ≤ 200 ∧ ∀ s ∈ n, s.length ≤ 200 ∧ ∀ p ∈ s, Small8 p) := by
  unfold chirographref07_Huge.f
  by_cases h : (n.length : Int) > 200
  · rw [if_pos h]
    exact ⟨true, rfl, fun h => by cases h⟩
  rw [if_neg h]
  obtain ⟨b, h1, h2⟩ := (huge8_loop n (by omega) hb k).1 0 0 (by omega) (by omega) (by omega) (by omega) (by omega)
  exact ⟨b, h1, fun hbf => ⟨by omega, by simpa using h2 hbf⟩⟩
end Go.Proofs.YtkioddjjfifadaaGreatDoor.P
namespace Go.Proofs.YtkioddjjfifadaaGreatDoor.P
open Go.RowKit Go.Extern.Stop Go.Stop Go.Extern Go.Proofs.YtkioddjjfifadaaGreatDoorW.PrintWords Go.Proofs.YtkioddjjfifadaaGreatDoorW.PrintLast Go.Proofs.YtkioddjjfifadaaGreatDoorW.PrintMore
/-- An error of package name: what a lower layer told; a fault; a fault in a part. -/
inductive NE where
  | low (e : Int)
  | flt (f : Int)
  | part (i : Int) (x : NE)
def NE.val : NE → Value
  | .low e => .iface 222 (.agg #[.int .i64 e])
  | .flt f => .iface 225 (.int .i64 f)
  | .part i x => .iface 229 (.agg #[.int .i64 i, x.val])
def NE.leaf : NE → NE
  | .part _ x => x.leaf
  | x => x
def NE.num : NE → Int
  | .low e => e
  | .flt f => if f = 1 then 4 else if f = 2 then 5 else if f = 4 then 1 else 30
  | .part _ x => x.num
def NE.depth : NE → Nat
  | .part _ x => x.depth + 1
  | _ => 0
def NE.isLow : NE → Option Int
  | .low e => some e
  | .flt _ => none
  | .part _ x => x.isLow
def NE.isFlt (g : Int) : NE → Bool
  | .low _ => false
  | .flt f => f == g
  | .part _ x => x.isFlt g
theorem NE.val_iface (x : NE) : ∃ t v, x.val = .iface t v ∧ (t = 222 ∨ t = 225 ∨ t = 229) := by
  cases x <;> exact ⟨_, _, rfl, by simp⟩
theorem Nm.valueOf231 (t : Addr) (w : World) : (ReflectliteValue.unpack (.iface 231 (.pointer (some t)))).run Tryz.prog w
    = .ok (.agg #[.pointer (some ⟨7, 231, none⟩), .pointer (some ⟨w.heap.size, 0, none⟩), .int .u64 150]) (w.alloc (.cells #[.pointer (some t)] 231)) := by kernel_rfl
theorem Nm.type231 (a : Addr) (w : World) : (ReflectliteValue.methodAny (ReflectliteValue.valueError "reflectlite.Value.Type" 0) (fun t _ _ _ => ReflectliteType.toType t) #[.agg #[.pointer (some ⟨7, 231, none⟩), .pointer (some a), .int .u64 150]]).run Tryz.prog w
    = .ok (.iface 336 (.agg #[.pointer (some ⟨7, 231, none⟩)])) w := by kernel_rfl
theorem Nm.kind231 (w : World) : ((ReflectliteType.abiMethod fun t => (fun a : Nat => Value.int IntKind.u8 (a : Int)) <$> Rtype.kind t) #[.pointer (some ⟨7, 231, none⟩)]).run Tryz.prog w = .ok (.int .u8 22) w := by kernel_rfl
theorem Nm.kind222 (w : World) : ((ReflectliteType.abiMethod fun t => (fun a : Nat => Value.int IntKind.u8 (a : Int)) <$> Rtype.kind t) #[.pointer (some ⟨7, 222, none⟩)]).run Tryz.prog w = .ok (.int .u8 25) w := by kernel_rfl
theorem Nm.parts231 (a : Addr) (w : World) : (ReflectliteValue.parts (.agg #[.pointer (some ⟨7, 231, none⟩), .pointer (some a), .int .u64 150])).run Tryz.prog w = .ok (some (231, a, 150)) w := by kernel_rfl
theorem Nm.isNil231 (a p : Addr) (W : World) (ha : W.cell? a = some (.pointer (some p))) :
    (ReflectliteValue.method (ReflectliteValue.valueError "reflectlite.Value.IsNil" 0) ReflectliteValue.isNil #[.agg #[.pointer (some ⟨7, 231, none⟩), .pointer (some a), .int .u64 150]]).run Tryz.prog W = .ok (.bool false) W := by
  rw [rlm]
  simp only [Sem.run_bind, Nm.parts231, Result.andThen]
  simp [ReflectliteValue.isNil, loadVar, isAgg, underlying, Tryz.underlying231, ha, Result.andThen]
theorem Nm.elem231 (w : World) : (ReflectliteType.method ReflectliteType.elem #[.agg #[.pointer (some ⟨7, 231, none⟩)]]).run Tryz.prog w = .ok (.iface 336 (.agg #[.pointer (some ⟨7, 222, none⟩)])) w := by kernel_rfl
theorem Nm.implements222 (w : World) : (ReflectliteType.relation "Implements" ReflectliteType.implements_ #[.agg #[.pointer (some ⟨7, 222, none⟩)], .iface 336 (.agg #[.pointer (some ⟨7, 132, none⟩)])]).run Tryz.prog w = .ok (.bool true) w := by kernel_rfl
theorem Nm.typeOf222 (v : Value) (w : World) : (ReflectliteType.typeOf #[.iface 222 v]).run Tryz.prog w = .ok (.iface 336 (.agg #[.pointer (some ⟨7, 222, none⟩)])) w := by kernel_rfl
theorem Nm.typeOf225 (v : Value) (w : World) : (ReflectliteType.typeOf #[.iface 225 v]).run Tryz.prog w = .ok (.iface 336 (.agg #[.pointer (some ⟨7, 225, none⟩)])) w := by kernel_rfl
theorem Nm.typeOf229 (v : Value) (w : World) : (ReflectliteType.typeOf #[.iface 229 v]).run Tryz.prog w = .ok (.iface 336 (.agg #[.pointer (some ⟨7, 229, none⟩)])) w := by kernel_rfl
theorem Nm.assignable222 (w : World) : (ReflectliteType.relation "AssignableTo" ReflectliteType.assignableTo #[.agg #[.pointer (some ⟨7, 222, none⟩)], .iface 336 (.agg #[.pointer (some ⟨7, 222, none⟩)])]).run Tryz.prog w = .ok (.bool true) w := by kernel_rfl
theorem Nm.assignable225 (w : World) : (ReflectliteType.relation "AssignableTo" ReflectliteType.assignableTo #[.agg #[.pointer (some ⟨7, 225, none⟩)], .iface 336 (.agg #[.pointer (some ⟨7, 222, none⟩)])]).run Tryz.prog w = .ok (.bool false) w := by kernel_rfl
theorem Nm.assignable229 (w : World) : (ReflectliteType.relation "AssignableTo" ReflectliteType.assignableTo #[.agg #[.pointer (some ⟨7, 229, none⟩)], .iface 336 (.agg #[.pointer (some ⟨7, 222, none⟩)])]).run Tryz.prog w = .ok (.bool false) w := by kernel_rfl
theorem Nm.valueOf222 (e : Int) (w : World) : (ReflectliteValue.unpack (.iface 222 (.agg #[.int .i64 e]))).run Tryz.prog w
    = .ok (.agg #[.pointer (some ⟨7, 222, none⟩), .pointer (some ⟨w.heap.size, 0, none⟩), .int .u64 153]) (w.alloc (.cells #[.int .i64 e] 222)) := by kernel_rfl
theorem Nm.elemOf231 (w : World) : (Rtype.elem? 231).run Tryz.prog w = .ok (some 222) w := by kernel_rfl
theorem Nm.mk222 (p : Addr) (w : World) : (ReflectliteValue.mk 222 p ReflectliteValue.flagAddr).run Tryz.prog w = .ok (.agg #[.pointer (some ⟨7, 222, none⟩), .pointer (some p), .int .u64 409]) w := by kernel_rfl
theorem Nm.elemV231 (a p : Addr) (W : World) (ha : W.cell? a = some (.pointer (some p))) :
    (ReflectliteValue.method (ReflectliteValue.valueError "reflectlite.Value.Elem" 0) ReflectliteValue.elem #[.agg #[.pointer (some ⟨7, 231, none⟩), .pointer (some a), .int .u64 150]]).run Tryz.prog W
      = .ok (.agg #[.pointer (some ⟨7, 222, none⟩), .pointer (some p), .int .u64 409]) W := by
  rw [rlm]
  simp only [Sem.run_bind, Nm.parts231, Result.andThen]
  simp [ReflectliteValue.elem, loadVar, isAgg, underlying, Tryz.underlying231, ha, Result.andThen, Nm.elemOf231, Nm.mk222]
theorem Nm.parts222a (a : Addr) (w : World) : (ReflectliteValue.parts (.agg #[.pointer (some ⟨7, 222, none⟩), .pointer (some a), .int .u64 409])).run Tryz.prog w = .ok (some (222, a, 409)) w := by kernel_rfl
theorem Nm.parts222 (a : Addr) (w : World) : (ReflectliteValue.parts (.agg #[.pointer (some ⟨7, 222, none⟩), .pointer (some a), .int .u64 153])).run Tryz.prog w = .ok (some (222, a, 153)) w := by kernel_rfl
theorem Nm.direct222 (w : World) : (Rtype.directlyAssignable 222 222).run Tryz.prog w = .ok true w := by kernel_rfl
theorem Nm.size222 (w : World) : (sizeOf 222).run Tryz.prog w = .ok 1 w := by kernel_rfl
theorem Nm.set222 (ta b : Addr) (e : Int) (old : Value) (W : World) (hb : W.cell? b = some (.int .i64 e)) (ht : W.cell? ta = some old) (hf : W.frozen? ta = false) :
    (ReflectliteValue.set #[.agg #[.pointer (some ⟨7, 222, none⟩), .pointer (some ta), .int .u64 409], .agg #[.pointer (some ⟨7, 222, none⟩), .pointer (some b), .int .u64 153]]).run Tryz.prog W
      = .ok (.tuple #[]) (W.setCell ta (.int .i64 e)) := by
  have hl : (loadVar 222 b).run Tryz.prog W = .ok (.agg #[.int .i64 e]) W := by
    have hc : (loadCells b 1).run Tryz.prog W = .ok #[.int .i64 e] W := run_loadCells_list (P := Tryz.prog) W b [.int .i64 e] (fun j u hj => by
      cases j with
      | zero => cases hj; rw [show b.add 0 = b from rfl]; exact hb
      | succ n => cases hj)
    simp [loadVar, isAgg, underlying, Tryz.underlying222, Result.andThen, Nm.size222, hc]
  rw [rls]
  simp only [Sem.run_bind, Nm.parts222a, Nm.parts222, Result.andThen]
  simp [ReflectliteValue.flagAddr, hl, Result.andThen, Nm.direct222, storeVar, Value.cells, storeCells, Addr.add]
  rw [run_store Tryz.prog W ta _ _ (by rfl)]
  simp [ht, hf]
theorem Nm.methodUnwrap (v : Value) (w : World) : (Go.method 558 229 v "Unwrap").run Tryz.prog w = .ok (340, v) w := by kernel_rfl
theorem Nm.methodComparable (h : Value) (w : World) : (Go.method 558 336 h "Comparable").run Tryz.prog w = .ok (348, h) w := by kernel_rfl
theorem Nm.comparable225 (w : World) : ((ReflectliteType.method fun t => do Rtype.noPackHeld "Comparable" t; (fun a => Value.bool a.comparable) <$> typeInfo t) #[.agg #[.pointer (some ⟨7, 225, none⟩)]]).run Tryz.prog w = .ok (.bool true) w := by kernel_rfl
theorem Nm.noAs (t : TypeId) (ht : t = 222 ∨ t = 225 ∨ t = 229) (v : Value) (xT : TypeId) (w : World) : (Instr.typeAssert (.iface t v) xT 340 true).run Tryz.prog w = .ok (.tuple #[.nilIface, .bool false]) w := by
  rcases ht with rfl | rfl | rfl <;> exact run_typeAssert_lacksB Tryz.underlying340 (by kernel_rfl) (by kernel_rfl) v xT w
theorem Nm.noIs (t : TypeId) (ht : t = 222 ∨ t = 225 ∨ t = 229) (v : Value) (xT : TypeId) (w : World) : (Instr.typeAssert (.iface t v) xT 348 true).run Tryz.prog w = .ok (.tuple #[.nilIface, .bool false]) w := by
  rcases ht with rfl | rfl | rfl <;> exact run_typeAssert_lacksB Tryz.underlying348 (by kernel_rfl) (by kernel_rfl) v xT w
theorem Nm.noUnwraps (t : TypeId) (ht : t = 222 ∨ t = 225 ∨ t = 229) (v : Value) (xT : TypeId) (w : World) : (Instr.typeAssert (.iface t v) xT 345 true).run Tryz.prog w = .ok (.tuple #[.nilIface, .bool false]) w := by
  rcases ht with rfl | rfl | rfl <;> exact run_typeAssert_lacksB Tryz.underlying345 (by kernel_rfl) (by kernel_rfl) v xT w
theorem Nm.noUnwrap (t : TypeId) (ht : t = 222 ∨ t = 225) (v : Value) (xT : TypeId) (w : World) : (Instr.typeAssert (.iface t v) xT 343 true).run Tryz.prog w = .ok (.tuple #[.nilIface, .bool false]) w := by
  rcases ht with rfl | rfl <;> exact run_typeAssert_lacksB Tryz.underlying343 (by kernel_rfl) (by kernel_rfl) v xT w
theorem Nm.hasUnwrap (v : Value) (xT : TypeId) (w : World) : (Instr.typeAssert (.iface 229 v) xT 343 true).run Tryz.prog w = .ok (.tuple #[.iface 229 v, .bool true]) w := run_typeAssert_hasB Tryz.underlying343 (by kernel_rfl) v xT w
theorem Nm.eql_flt (f g : Int) (w : World) : (binOp .eql 132 (.iface 225 (.int .i64 f)) (.iface 225 (.int .i64 g))).run Tryz.prog w = .ok (.bool (f == g)) w := by kernel_rfl
theorem Nm.eql_low (v : Value) (g : Int) (w : World) : (binOp .eql 132 (.iface 222 v) (.iface 225 (.int .i64 g))).run Tryz.prog w = .ok (.bool false) w := run_eql_iface_types 222 225 v _ Tryz.underlying132 (by decide) w
theorem Nm.eql_part (v : Value) (g : Int) (w : World) : (binOp .eql 132 (.iface 229 v) (.iface 225 (.int .i64 g))).run Tryz.prog w = .ok (.bool false) w := run_eql_iface_types 229 225 v _ Tryz.underlying132 (by decide) w
theorem unwrap_calls (i : Int) (v : Value) (hv : v.oneCell' = true) (w : World) : Calls Tryz.prog 340 #[.agg #[.int .i64 i, v]] w fun e w' => e = .returned v ∧ Below w.heap.size w w' := by
  have HV := Aside0.mk hv
  clear hv
  go_enter Tryz.func340, Tryz.ntmps340
  go_wp2_with (first | ((with_reducible refine gate_dst (N := 1) rfl ?_); refine box_event ?hg (N := 1) ?hd (cs := #[.int .i64 i, v]) (t := 229) ?hr ?_; (case hd => rfl); (case hg => rfl); (case hr => first | (go_simp; done) | (go_simp; rfl)); intro gb hg w4 hbox hb; have HB := Aside0.mk hb; have hcz : w4.cell? ⟨gb, 1, none⟩ = some v := (blk_cell hbox 1).trans rfl; clear hg hbox hb))
  go_ret
  exact ⟨rfl, HB.out⟩
set_option maxRecDepth 100000 in
set_option maxHeartbeats 4000000 in
theorem is_ne (x : NE) (g : Int) (w : World) :
    Calls Tryz.prog 195 #[x.val, .iface 225 (.int .i64 g), .bool true] w fun e w' => e = .returned (.bool (x.isFlt g)) ∧ Below w.heap.size w w' := by
  have HB := Aside0.mk (Below.refl w.heap.size w)
  go_enter Tryz.func195, Tryz.ntmps195
  go_wp2_with fail
  go_loopg [0] (x.depth + 1) (fun kq v0 w' => ∃ (y : NE), v0 = y.val ∧ Aside0 (y.isFlt g = x.isFlt g) ∧ Aside0 (y.depth < kq) ∧ Aside0 (Below w.heap.size w w'))
  case atStart => exact ⟨x, rfl, ⟨rfl⟩, ⟨by omega⟩, HB⟩
  case round =>
    clear HB
    obtain ⟨y, rfl, HF, HD, HB⟩ := hrel
    cases gk with
    | zero => exact absurd HD.out (by omega)
    | succ g1 =>
      cases y with
      | low e =>
        have q1 := Nm.noIs 222 (by simp) (.agg #[.int .i64 e]) 132 wr
        have q2 := Nm.noUnwrap 222 (by simp) (.agg #[.int .i64 e]) 132 wr
        have q3 := Nm.noUnwraps 222 (by simp) (.agg #[.int .i64 e]) 132 wr
        have q4 := Nm.eql_low (.agg #[.int .i64 e]) g wr
        simp only [NE.val] at *
        go_wp2_with fail
        go_ret
        exact ⟨by rw [← HF.out]; rfl, HB.out⟩
      | flt f =>
        have q1 := Nm.noIs 225 (by simp) (.int .i64 f) 132 wr
        have q2 := Nm.noUnwrap 225 (by simp) (.int .i64 f) 132 wr
        have q3 := Nm.noUnwraps 225 (by simp) (.int .i64 f) 132 wr
        have q4 := Nm.eql_flt f g wr
        have hf : (f == g) = x.isFlt g := HF.out
        clear HF
        rw [hf] at q4
        clear hf
        obtain ⟨bb, hbb⟩ : ∃ bb, x.isFlt g = bb := ⟨_, rfl⟩
        rw [hbb] at q4
        have HH := Aside0.mk hbb
        clear hbb
        simp only [NE.val] at *
        cases bb
        all_goals
          go_wp2_with fail
          go_ret
          exact ⟨by rw [HH.out]; rfl, HB.out⟩
      | part i z =>
        obtain ⟨zt, zv, hz, hzt⟩ := z.val_iface
        have q1 := Nm.noIs 229 (by simp) (.agg #[.int .i64 i, .iface zt zv]) 132 wr
        have q2 := Nm.hasUnwrap (.agg #[.int .i64 i, .iface zt zv]) 132 wr
        have q4 := Nm.eql_part (.agg #[.int .i64 i, .iface zt zv]) g wr
        have q5 := Nm.methodUnwrap
        have HZ := Aside0.mk hz
        have hz' : NE.val (.part i z) = .iface 229 (.agg #[.int .i64 i, .iface zt zv]) := by rw [NE.val, hz]
        rw [hz'] at *
        clear hz hz'
        go_wp2_with ((with_reducible refine (unwrap_calls i (.iface zt zv) rfl _).mono ?_); rintro e w4 ⟨rfl, hb⟩; have n0 := Aside0.mk (below_step HB.out hb); clear hb HB; have HB := n0; clear n0)
        go_roundg g1
        case measure => exact Nat.lt_succ_self _
        case rel => exact ⟨z, HZ.out.symm, ⟨HF.out⟩, ⟨by have := HD.out; simp only [NE.depth] at this; omega⟩, HB⟩
set_option maxRecDepth 100000 in
set_option maxHeartbeats 4000000 in
theorem errors_Is_ne (x : NE) (g : Int) (w : World) :
    Calls Tryz.prog 144 #[x.val, .iface 225 (.int .i64 g)] w fun e w' => e = .returned (.bool (x.isFlt g)) ∧ Below w.heap.size w w' := by
  have h8 := @run_callFunc_extern Tryz.prog 194 _ ReflectliteType.typeOf Tryz.func194 (by kernel_rfl) (by kernel_rfl) (by kernel_rfl) (by kernel_rfl)
  have h32 := @run_callFunc_extern Tryz.prog 348 _ (ReflectliteType.method fun t => do Rtype.noPackHeld "Comparable" t; pure (.bool (← typeInfo t).comparable)) Tryz.func348 (by kernel_rfl) (by kernel_rfl) (by kernel_rfl) (by kernel_rfl)
  have tT := Nm.typeOf225
  have cT := Nm.comparable225
  have mR := Nm.methodComparable
  obtain ⟨zt, zv, hz, hzt⟩ := x.val_iface
  have HZ := Aside0.mk hz
  rw [hz]
  clear hz hzt
  go_enter Tryz.func144, Tryz.ntmps144
  go_wp2_with (go_at_call 195; rw [← HZ.out]; (with_reducible refine (is_ne x g _).mono ?_); rintro e w4 ⟨rfl, hb⟩; have HB := Aside0.mk hb; clear hb)
  go_ret
  exact ⟨rfl, HB.out⟩
set_option maxRecDepth 100000 in
set_option maxHeartbeats 4000000 in
theorem as_ne (x : NE) (g b t : Nat) (w0 w : World) (hB : Below w0.heap.size w0 w) (hg : w0.heap.size ≤ g) (ht : w.heap[g]? = some (.cells #[.int .i64 0] 222 (0, 0))) (hb : w.heap[b]? = some (.cells #[.pointer (some ⟨g, 0, none⟩)] 231 (0, 0))) (hgb : b ≠ g) :
    Calls Tryz.prog 193 #[x.val, .iface 231 (.pointer (some ⟨g, 0, none⟩)), .agg #[.pointer (some ⟨7, 231, none⟩), .pointer (some ⟨b, 0, none⟩), .int .u64 150], .iface 336 (.agg #[.pointer (some ⟨7, 222, none⟩)])] w fun e w' =>
      e = .returned (.bool x.isLow.isSome) ∧ w'.heap[g]? = some (.cells #[.int .i64 (x.isLow.getD 0)] 222 (0, 0)) ∧ Below w0.heap.size w0 w' := by
  have h6 := @run_callFunc_extern Tryz.prog 190 _ (fun args => ReflectliteValue.unpack (args.getD 0 (.tuple #[]))) Tryz.func190 (by kernel_rfl) (by kernel_rfl) (by kernel_rfl) (by kernel_rfl)
  have h10 := @run_callFunc_extern Tryz.prog 194 _ ReflectliteType.typeOf Tryz.func194 (by kernel_rfl) (by kernel_rfl) (by kernel_rfl) (by kernel_rfl)
  have h35 := @run_callFunc_extern Tryz.prog 347 _ (ReflectliteType.relation "AssignableTo" ReflectliteType.assignableTo) Tryz.func347 (by kernel_rfl) (by kernel_rfl) (by kernel_rfl) (by kernel_rfl)
  have h11 := @run_callFunc_extern Tryz.prog 236 _ (ReflectliteValue.method (ReflectliteValue.valueError "reflectlite.Value.Elem" 0) ReflectliteValue.elem) Tryz.func236 (by kernel_rfl) (by kernel_rfl) (by kernel_rfl) (by kernel_rfl)
  have h12 := @run_callFunc_extern Tryz.prog 237 _ ReflectliteValue.set Tryz.func237 (by kernel_rfl) (by kernel_rfl) (by kernel_rfl) (by kernel_rfl)
  have mA := Ref.methodAssignableTo
  have HB := Aside0.mk hB
  have HG := Aside0.mk hg
  have HT := Aside0.mk ht
  have HBK := Aside0.mk hb
  have HN := Aside0.mk hgb
  clear hB hg ht hb hgb
  go_enter Tryz.func193, Tryz.ntmps193
  go_wp2_with (first | ((with_reducible refine gate_dst (N := 6) rfl ?_); refine box_event ?hg (N := 6) ?hd (cs := #[.pointer (some ⟨7, 231, none⟩), .pointer (some ⟨b, 0, none⟩), .int .u64 150]) (t := 289) ?hr ?_; (case hd => rfl); (case hg => rfl); (case hr => first | (go_simp; done) | (go_simp; rfl)); intro gb hgq w4 hbox hb; have HB6 := Aside0.mk hbox; have n1 := Aside0.mk (below_step HB.out hb); have n2 := Aside0.mk (blk_below HT.out hb); have n3 := Aside0.mk (blk_below HBK.out hb); have HGB := Aside0.mk (show w0.heap.size ≤ gb by rw [hgq]; exact HB.out.size); clear hbox hb hgq HB HT HBK; have HB := n1; have HT := n2; have HBK := n3; clear n1 n2 n3))
  go_loopg [0] (x.depth + 1) (fun kq v0 w' => ∃ (y : NE), v0 = y.val ∧ Aside0 (y.isLow = x.isLow) ∧ Aside0 (y.depth < kq) ∧ Aside0 (Below w0.heap.size w0 w') ∧ Aside0 (w'.heap[g]? = some (.cells #[.int .i64 0] 222 (0, 0))) ∧ Aside0 (w'.heap[b]? = some (.cells #[.pointer (some ⟨g, 0, none⟩)] 231 (0, 0))) ∧ Aside0 (w'.heap[gb]? = some (.cells #[.pointer (some ⟨7, 231, none⟩), .pointer (some ⟨b, 0, none⟩), .int .u64 150] 289 (0, 0))))
  case atStart => exact ⟨x, rfl, ⟨rfl⟩, ⟨by omega⟩, HB, HT, HBK, HB6⟩
  case round =>
    clear HB HT HBK HB6
    obtain ⟨y, rfl, HF, HD, HB, HT, HBK, HB6⟩ := hrel
    cases gk with
    | zero => exact absurd HD.out (by omega)
    | succ g1 =>
      cases y with
      | low e =>
        have tO := Nm.typeOf222 (.agg #[.int .i64 e]) wr
        have a25 := Nm.assignable222 wr
        have v25 := Nm.valueOf222 e wr
        have z0 : wr.cell? ⟨gb, 0, none⟩ = some (.pointer (some ⟨7, 231, none⟩)) := (blk_cell HB6.out 0).trans rfl
        have z1 : wr.cell? ⟨gb, 1, none⟩ = some (.pointer (some ⟨b, 0, none⟩)) := (blk_cell HB6.out 1).trans rfl
        have z2 : wr.cell? ⟨gb, 2, none⟩ = some (.int .u64 150) := (blk_cell HB6.out 2).trans rfl
        have el := Nm.elemV231 ⟨b, 0, none⟩ ⟨g, 0, none⟩ wr ((blk_cell HBK.out 0).trans rfl)
        have HT2 := Aside0.mk (blk_alloc HT.out (.cells #[.int .i64 e] 222))
        have st := Nm.set222 ⟨g, 0, none⟩ ⟨wr.heap.size, 0, none⟩ e (.int .i64 0) (wr.alloc (.cells #[.int .i64 e] 222)) ((blk_cell (heap_alloc_new wr _) 0).trans rfl) ((blk_cell HT2.out 0).trans rfl) (blk_frozen HT2.out 0)
        simp only [NE.val] at *
        go_wp2_with fail
        go_ret
        refine ⟨by rw [← HF.out]; rfl, ?_, ?_⟩
        rotate_left
        · exact below_set (below_alloc HB.out _) HG.out
        rw [← HF.out]
        exact blk_put HT2.out 0 (.int .i64 e) rfl
      | flt f =>
        have tO := Nm.typeOf225 (.int .i64 f) wr
        have a25 := Nm.assignable225 wr
        have q1 := Nm.noAs 225 (by simp) (.int .i64 f) 132 wr
        have q2 := Nm.noUnwrap 225 (by simp) (.int .i64 f) 132 wr
        have q3 := Nm.noUnwraps 225 (by simp) (.int .i64 f) 132 wr
        simp only [NE.val] at *
        go_wp2_with fail
        go_ret
        exact ⟨by rw [← HF.out]; rfl, by rw [← HF.out]; exact HT.out, HB.out⟩
      | part i z =>
        obtain ⟨zt, zv, hz, hzt⟩ := z.val_iface
        have tO := Nm.typeOf229 (.agg #[.int .i64 i, .iface zt zv]) wr
        have a25 := Nm.assignable229 wr
        have q1 := Nm.noAs 229 (by simp) (.agg #[.int .i64 i, .iface zt zv]) 132 wr
        have q2 := Nm.hasUnwrap (.agg #[.int .i64 i, .iface zt zv]) 132 wr
        have q5 := Nm.methodUnwrap
        have HZ := Aside0.mk hz
        have hz' : NE.val (.part i z) = .iface 229 (.agg #[.int .i64 i, .iface zt zv]) := by rw [NE.val, hz]
        rw [hz'] at *
        clear hz hz'
        go_wp2_with ((with_reducible refine (unwrap_calls i (.iface zt zv) rfl _).mono ?_); rintro e w4 ⟨rfl, hb⟩; have n0 := Aside0.mk (below_step HB.out hb); have n1 := Aside0.mk (blk_below HT.out hb); have n2 := Aside0.mk (blk_below HBK.out hb); have n3 := Aside0.mk (blk_below HB6.out hb); clear hb HB HT HBK HB6; have HB := n0; have HT := n1; have HBK := n2; have HB6 := n3; clear n0 n1 n2 n3)
        go_roundg g1
        case measure => exact Nat.lt_succ_self _
        case rel => exact ⟨z, HZ.out.symm, ⟨HF.out⟩, ⟨by have := HD.out; simp only [NE.depth] at this; omega⟩, HB, HT, HBK, HB6⟩
set_option maxRecDepth 100000 in
set_option maxHeartbeats 4000000 in
theorem errors_As_ne (x : NE) (g : Nat) (w0 w : World) (hB : Below w0.heap.size w0 w) (hH : Hd w) (hg : w0.heap.size ≤ g) (ht : w.heap[g]? = some (.cells #[.int .i64 0] 222 (0, 0))) :
    Calls Tryz.prog 143 #[x.val, .iface 231 (.pointer (some ⟨g, 0, none⟩))] w fun e w' =>
      e = .returned (.bool x.isLow.isSome) ∧ w'.heap[g]? = some (.cells #[.int .i64 (x.isLow.getD 0)] 222 (0, 0)) ∧ Below w0.heap.size w0 w' := by
  have h6 := @run_callFunc_extern Tryz.prog 190 _ (fun args => ReflectliteValue.unpack (args.getD 0 (.tuple #[]))) Tryz.func190 (by kernel_rfl) (by kernel_rfl) (by kernel_rfl) (by kernel_rfl)
  have h7 := @run_callFunc_extern Tryz.prog 191 _ (ReflectliteValue.methodAny (ReflectliteValue.valueError "reflectlite.Value.Type" 0) (fun t _ _ _ => ReflectliteType.toType t)) Tryz.func191 (by kernel_rfl) (by kernel_rfl) (by kernel_rfl) (by kernel_rfl)
  have h8 := @run_callFunc_extern Tryz.prog 192 _ (ReflectliteValue.method (ReflectliteValue.valueError "reflectlite.Value.IsNil" 0) ReflectliteValue.isNil) Tryz.func192 (by kernel_rfl) (by kernel_rfl) (by kernel_rfl) (by kernel_rfl)
  have h27 := @run_callFunc_extern Tryz.prog 333 _ (ReflectliteType.abiMethod fun t => do pure (.int .u8 (← Rtype.kind t))) Tryz.func333 (by kernel_rfl) (by kernel_rfl) (by kernel_rfl) (by kernel_rfl)
  have h37 := @run_callFunc_extern Tryz.prog 349 _ (ReflectliteType.method ReflectliteType.elem) Tryz.func349 (by kernel_rfl) (by kernel_rfl) (by kernel_rfl) (by kernel_rfl)
  have h38 := @run_callFunc_extern Tryz.prog 350 _ (ReflectliteType.relation "Implements" ReflectliteType.implements_) Tryz.func350 (by kernel_rfl) (by kernel_rfl) (by kernel_rfl) (by kernel_rfl)
  have f6 := Nm.valueOf231
  have f7 := Nm.type231
  have mK := Ref.methodKind
  have mE := Ref.methodElem
  have mI := Ref.methodImplements
  have k27 := Nm.kind231
  have k25 := Nm.kind222
  have e27 := Nm.elem231
  have i25 := Nm.implements222
  obtain ⟨zt, zv, hz, hzt⟩ := x.val_iface
  have HZ := Aside0.mk hz
  rw [hz]
  have n8 := Nm.isNil231 ⟨w.heap.size, 0, none⟩ ⟨g, 0, none⟩ ((w.alloc (.cells #[.pointer (some ⟨g, 0, none⟩)] 231)).alloc (.cells #[.pointer (some ⟨7, 231, none⟩), .pointer (some ⟨w.heap.size, 0, none⟩), .int .u64 150] 289)) (by simp)
  have hg2 : ((w.alloc (.cells #[.pointer (some ⟨g, 0, none⟩)] 231)).alloc (.cells #[.pointer (some ⟨7, 231, none⟩), .pointer (some ⟨w.heap.size, 0, none⟩), .int .u64 150] 289)).cell? ⟨0, 0, none⟩ = some (.iface 336 (.agg #[.pointer (some ⟨7, 132, none⟩)])) := by
    rw [World.cell?_alloc_lt _ _ ⟨0, 0, none⟩ (by simp), World.cell?_alloc_lt _ _ ⟨0, 0, none⟩ hH.lt]
    exact hH
  have HBK := Aside0.mk (blk_alloc (heap_alloc_new w (.cells #[.pointer (some ⟨g, 0, none⟩)] 231)) (.cells #[.pointer (some ⟨7, 231, none⟩), .pointer (some ⟨w.heap.size, 0, none⟩), .int .u64 150] 289))
  have HT := Aside0.mk (blk_alloc (blk_alloc ht (.cells #[.pointer (some ⟨g, 0, none⟩)] 231)) (.cells #[.pointer (some ⟨7, 231, none⟩), .pointer (some ⟨w.heap.size, 0, none⟩), .int .u64 150] 289))
  have HB := Aside0.mk (below_alloc (below_alloc hB (.cells #[.pointer (some ⟨g, 0, none⟩)] 231)) (.cells #[.pointer (some ⟨7, 231, none⟩), .pointer (some ⟨w.heap.size, 0, none⟩), .int .u64 150] 289))
  have HG := Aside0.mk hg
  have HN := Aside0.mk (show w.heap.size ≠ g from fun h => by have := blk_lt ht; omega)
  clear hz hzt hB hH hg ht
  go_enter Tryz.func143, Tryz.ntmps143
  go_wp2_with (go_at_call 193; rw [← HZ.out]; (with_reducible refine (as_ne x g w.heap.size 0 w0 _ HB.out HG.out HT.out HBK.out HN.out).mono ?_); rintro e w4 ⟨rfl, ht, hb⟩; have HT2 := Aside0.mk ht; have HB2 := Aside0.mk hb; clear ht hb)
  go_ret
  exact ⟨rfl, HT2.out, HB2.out⟩
theorem NE.num_of (x : NE) : x.num = match x.isLow with
    | some e => e
    | none => if x.isFlt 1 = true then 4 else if x.isFlt 2 = true then 5 else if x.isFlt 4 = true then 1 else 30 := by
  induction x with
  | low e => rfl
  | flt f => simp [NE.num, NE.isLow, NE.isFlt]
  | part i x ih => exact ih
set_option maxRecDepth 100000 in
set_option maxHeartbeats 4000000 in
theorem name_number_ne (x : NE) (w : World) (hH : Hd w) : Calls Tryz.prog 80 #[x.val] w fun e w' => e = .returned (.int .i64 x.num) ∧ Below w.heap.size w w' := by
  obtain ⟨zt, zv, hz, hzt⟩ := x.val_iface
  have HZ := Aside0.mk hz
  rw [hz]
  have HX := Aside0.mk x.num_of
  have HB := Aside0.mk (below_alloc (Below.refl w.heap.size w) (.cells #[.int .i64 0] 222))
  have HT := Aside0.mk (heap_alloc_new w (.cells #[.int .i64 0] 222))
  have HH := Aside0.mk (hH.below (below_alloc (Below.refl w.heap.size w) (.cells #[.int .i64 0] 222)))
  clear hz hzt hH
  obtain ⟨lo, hlo⟩ : ∃ lo, x.isLow = lo := ⟨_, rfl⟩
  obtain ⟨f1, hf1⟩ : ∃ lo, x.isFlt 1 = lo := ⟨_, rfl⟩
  obtain ⟨f2, hf2⟩ : ∃ lo, x.isFlt 2 = lo := ⟨_, rfl⟩
  obtain ⟨f4, hf4⟩ : ∃ lo, x.isFlt 4 = lo := ⟨_, rfl⟩
  have HL := Aside0.mk hlo
  have HF1 := Aside0.mk hf1
  have HF2 := Aside0.mk hf2
  have HF4 := Aside0.mk hf4
  clear hlo hf1 hf2 hf4
  cases lo with
  | some e =>
    go_enter Tryz.func80, Tryz.ntmps80
    go_wp2_with (first | (go_at_call 143; rw [← HZ.out]; (with_reducible refine (errors_As_ne x w.heap.size w _ HB.out HH.out (Nat.le_refl _) HT.out).mono ?_); rintro e_ w4 ⟨rfl, ht, hb⟩; rw [HL.out] at ht ⊢; have HB2 := Aside0.mk hb; have z0 : w4.cell? ⟨w.heap.size, 0, none⟩ = some (.int .i64 e) := (blk_cell ht 0).trans rfl; clear ht hb))
    go_ret
    exact ⟨by rw [HX.out, HL.out]; rfl, HB2.out⟩
  | none =>
    have ARM : ∀ (g : Int) (bb : Bool), x.isFlt g = bb → ∀ W : World, Calls Tryz.prog 144 #[x.val, .iface 225 (.int .i64 g)] W fun e w' => e = .returned (.bool bb) ∧ Below W.heap.size W w' := fun g bb h W => h ▸ errors_Is_ne x g W
    cases f1 <;> cases f2 <;> cases f4
    all_goals
      go_enter Tryz.func80, Tryz.ntmps80
      go_wp2_with (first | (go_at_call 143; rw [← HZ.out]; (with_reducible refine (errors_As_ne x w.heap.size w _ HB.out HH.out (Nat.le_refl _) HT.out).mono ?_); rintro e_ w4 ⟨rfl, ht, hb⟩; rw [HL.out] at ht ⊢; have HB2 := Aside0.mk hb; clear ht hb) | ((with_reducible refine (ARM 1 _ HF1.out _).mono ?_); rintro e_ w5 ⟨rfl, hb⟩; have n0 := Aside0.mk (below_step HB2.out hb); clear hb HB2; have HB2 := n0; clear n0) | ((with_reducible refine (ARM 2 _ HF2.out _).mono ?_); rintro e_ w5 ⟨rfl, hb⟩; have n0 := Aside0.mk (below_step HB2.out hb); clear hb HB2; have HB2 := n0; clear n0) | ((with_reducible refine (ARM 4 _ HF4.out _).mono ?_); rintro e_ w5 ⟨rfl, hb⟩; have n0 := Aside0.mk (below_step HB2.out hb); clear hb HB2; have HB2 := n0; clear n0))
      go_ret
      exact ⟨by rw [HX.out, HL.out]; simp only [HF1.out, HF2.out, HF4.out]; rfl, HB2.out⟩
end Go.Proofs.YtkioddjjfifadaaGreatDoor.P
namespace Go.Proofs.YtkioddjjfifadaaGreatDoor.P
open Go.RowKit Go.Proofs.YtkioddjjfifadaaGreatDoorW.PrintWords Go.Proofs.YtkioddjjfifadaaGreatDoorW.PrintLast Go.Proofs.YtkioddjjfifadaaGreatDoorW.PrintMore
/-- v is the error of the number n: none at 0. -/
def EV (v : Value) (n : Int) : Prop := (n = 0 ∧ v = .nilIface) ∨ (n ≠ 0 ∧ ∃ x : NE, v = x.val ∧ x.num = n)
theorem EV.nil : EV .nilIface 0 := Or.inl ⟨rfl, rfl⟩
theorem EV.f30 : EV (.iface 225 (.int .i64 3)) 30 := Or.inr ⟨by decide, .flt 3, rfl, rfl⟩
theorem EV.f1 : EV (.iface 225 (.int .i64 4)) 1 := Or.inr ⟨by decide, .flt 4, rfl, rfl⟩
theorem EV.low {e : Int} (h : ¬ e = 0) : EV (.iface 222 (.agg #[.int .i64 e])) e := Or.inr ⟨h, .low e, rfl, rfl⟩
theorem EV.part {i n : Int} {t : TypeId} {u : Value} (h : EV (.iface t u) n) : EV (.iface 229 (.agg #[.int .i64 i, .iface t u])) n := by
  rcases h with ⟨_, h⟩ | ⟨hn, x, hx, hm⟩
  rotate_left
  · exact Or.inr ⟨hn, .part i x, by rw [NE.val, hx], hm⟩
  cases h
theorem EV.nil_of {v : Value} {n : Int} (h : EV v n) (hn : (n == 0) = true) : v = .nilIface := by
  rcases h with ⟨_, h⟩ | ⟨h, _⟩
  rotate_left
  · exact absurd (beq_iff_eq.mp hn) h
  exact h
theorem name_number_nil (w : World) : Calls Tryz.prog 80 #[.nilIface] w fun e w' => e = .returned (.int .i64 0) ∧ Below w.heap.size w w' := by
  have HB := Aside0.mk (below_alloc (Below.refl w.heap.size w) (.cells #[.int .i64 0] 222))
  go_enter Tryz.func80, Tryz.ntmps80
  go_wp2_with fail
  go_ret
  exact ⟨rfl, HB.out⟩
theorem name_number_ev {v : Value} {n : Int} (h : EV v n) (w : World) (hH : Hd w) : Calls Tryz.prog 80 #[v] w fun e w' => e = .returned (.int .i64 n) ∧ Below w.heap.size w w' := by
  rcases h with ⟨rfl, rfl⟩ | ⟨_, x, rfl, rfl⟩
  rotate_left
  · exact name_number_ne x w hH
  exact name_number_nil w
end Go.Proofs.YtkioddjjfifadaaGreatDoor.P
namespace Go.Proofs.YtkioddjjfifadaaGreatDoor.P
open Go.RowKit Go.Proofs.YtkioddjjfifadaaGreatDoorW.PrintWords Go.Proofs.YtkioddjjfifadaaGreatDoorW.PrintLast Go.Proofs.YtkioddjjfifadaaGreatDoorW.PrintMore
attribute [local go_sem] max2_int min2_int max_two min_two max_three min_three max_four min_four   -- for this text's walks alone
set_option linter.unusedVariables false
set_option linter.unusedSimpArgs false
def name_inside.j0 : Nat → Bool → Int → Int → Bool → List Int → List Int → Option ((List (S77)) × Int)
  | 0, _, _, _, _, _, _ => none
  | k + 1, x22, x162000, x162001, x162002, x162003, x162004 => if x22 = true then (some (([] : List (S77)), 30)) else ((der_Split.f k x162003).bind fun bt162 => (if bt162.2.1 = 0 then (some (bt162.1, 0)) else (some (([] : List (S77)), bt162.2.1))))
def name_inside.f (k : Nat) (a0_0 : Int) (a0_1 : Int) (a0_2 : Bool) (l0_3 : List Int) (l0_4 : List Int) (a1 : Int) : Option ((List (S77)) × Int) := if a0_0 = 0 then (if a0_1 = a1 then (name_inside.j0 k (!a0_2) a0_0 a0_1 a0_2 l0_3 l0_4) else (name_inside.j0 k true a0_0 a0_1 a0_2 l0_3 l0_4)) else (name_inside.j0 k true a0_0 a0_1 a0_2 l0_3 l0_4)
set_option maxHeartbeats 8000000 in
set_option maxRecDepth 100000 in
theorem name_inside.calls (k : Nat) (a0_0 : Int) (a0_1 : Int) (a0_2 : Bool) (A0_3 : Option Addr) (c0_3 : Nat) (l0_3 : List Int) (A0_4 : Option Addr) (c0_4 : Nat) (l0_4 : List Int) (a1 : Int) (r1 : List (S77)) (r2 : Int) (w : World) (hr0_3 : Kd.C (Kd.int .u8) w A0_3 l0_3.length l0_3) (hc0_3 : l0_3.length ≤ c0_3) (hr0_4 : Kd.C (Kd.int .u8) w A0_4 l0_4.length l0_4) (hc0_4 : l0_4.length ≤ c0_4) (h : name_inside.f k a0_0 a0_1 a0_2 l0_3 l0_4 a1 = some (r1, r2)) :
    Calls Tryz.prog 141 #[.agg #[.int .i64 a0_0, .int .i64 a0_1, .bool a0_2, .slice A0_3 l0_3.length c0_3, .slice A0_4 l0_4.length c0_4], .int .i64 a1] w fun e w' => ∃ v0_ ev_ : Value, e = .returned (.tuple #[v0_, ev_]) ∧ EV ev_ r2 ∧ Kd.S k77 77 w' w.heap.size (fun _ => True) v0_ r1 ∧ Below w.heap.size w w' := by
  have hu77 := Tryz.underlying77
  have HR0_3 := Aside0.mk hr0_3
  have HC0_3 := Aside0.mk hc0_3
  clear hr0_3 hc0_3
  have HR0_4 := Aside0.mk hr0_4
  have HC0_4 := Aside0.mk hc0_4
  clear hr0_4 hc0_4
  have HB := Aside0.mk (Below.refl w.heap.size w)
  have H : (if a0_0 = 0 then (if a0_1 = a1 then (name_inside.j0 k (!a0_2) a0_0 a0_1 a0_2 l0_3 l0_4) else (name_inside.j0 k true a0_0 a0_1 a0_2 l0_3 l0_4)) else (name_inside.j0 k true a0_0 a0_1 a0_2 l0_3 l0_4)) = some (r1, r2) := h
  clear h
  have HC3 := Aside0.mk H
  clear H
  go_enter Tryz.func141, Tryz.ntmps141
  go_upto_region 1 with (first | ((with_reducible refine gate_dst (N := 2) rfl ?_); refine box_event ?hg (N := 2) ?hd (cs := #[.int .i64 a0_0, .int .i64 a0_1, .bool a0_2, .slice A0_3 l0_3.length c0_3, .slice A0_4 l0_4.length c0_4]) (t := 77) ?hr ?_; (case hd => rfl); (case hg => rfl); (case hr => first | (go_simp; done) | (go_simp; rfl)); intro gb161 hg w4 hbox hb; have n0_ := Aside0.mk (below_step (by repeat (first | (with_reducible first | exact HB.out | apply below_alloc | apply pw_below_drewN | apply below_drew1) | exact HB.out)) hb); have n1_ := Aside0.mk (hbox); have n2_ := Aside0.mk ((by rw [hg]; exact (below_size (by repeat (first | (with_reducible first | exact HB.out | apply below_alloc | apply pw_below_drewN | apply below_drew1) | exact HB.out))) : w.heap.size ≤ gb161)); have n3_ := Aside0.mk ((by rw [hg]; exact (below_size (by repeat (first | (with_reducible first | exact HB.out | apply below_alloc | apply pw_below_drewN | apply below_drew1) | exact HB.out))) : w.heap.size ≤ gb161)); clear HB; have HB := n0_; have BK161 := n1_; have GW161 := n2_; have GE161 := n3_; clear n0_ n1_ n2_ n3_; clear hb hbox hg))
  (try simp only [Act.put, List.setIfInBounds_toArray, List.set_cons_zero, List.set_cons_succ])
  go_cut [22] (fun v22 wc => ∃ (kq : Nat) (x22_2 : Bool), v22 = .bool x22_2 ∧ Aside0 (name_inside.j0 kq x22_2 a0_0 a0_1 a0_2 l0_3 l0_4 = some (r1, r2)) ∧ Aside0 (kq ≤ k) ∧ Aside0 (wc.heap[gb161]? = some (.cells #[.int .i64 a0_0, .int .i64 a0_1, .bool a0_2, (.slice A0_3 l0_3.length c0_3), (.slice A0_4 l0_4.length c0_4)] 77 (0, 0))) ∧ Aside0 (Below w.heap.size w wc))
  case first =>
    have H := HC3.out
    clear HC3
    by_cases c5 : a0_0 = 0
    rotate_left
    · rw [if_neg c5] at H
      have c5b0 : (a0_0 == 0) = false := beq_eq_false_iff_ne.mpr c5
      have c5b1 : (a0_0 != 0) = true := bne_iff_ne.mpr c5
      (first | rw [c5b0] | (simp only [i64_w, i32_w]; rw [c5b0]) | skip)
      have H' := Aside0.mk H
      clear H
      have hcz9_0 : w4.cell? ⟨gb161, 0, none⟩ = some (.int .i64 a0_0) := (blk_cell BK161.out 0).trans rfl
      have hcz9_1 : w4.cell? ⟨gb161, 1, none⟩ = some (.int .i64 a0_1) := (blk_cell BK161.out 1).trans rfl
      have hcz9_2 : w4.cell? ⟨gb161, 2, none⟩ = some (.bool a0_2) := (blk_cell BK161.out 2).trans rfl
      have hcz9_3 : w4.cell? ⟨gb161, 3, none⟩ = some (.slice A0_3 l0_3.length c0_3) := (blk_cell BK161.out 3).trans rfl
      have hcz9_4 : w4.cell? ⟨gb161, 4, none⟩ = some (.slice A0_4 l0_4.length c0_4) := (blk_cell BK161.out 4).trans rfl
      have hfz9_0 := blk_frozen BK161.out 0
      have hfz9_1 := blk_frozen BK161.out 1
      have hfz9_2 := blk_frozen BK161.out 2
      have hfz9_3 := blk_frozen BK161.out 3
      have hfz9_4 := blk_frozen BK161.out 4
      go_wp2
      go_meet
      case rel => exact ⟨_, (true), (by first | rfl | (simp; done) | (simp [*]; done)), H', ⟨by first | omega | exact Nat.le_refl _⟩, ⟨by (with_reducible repeat (first | refine blk_drewN ?_ _ | refine blk_drew ?_ | refine blk_alloc ?_ _)); exact BK161.out⟩, ⟨by repeat (first | (with_reducible first | exact HB.out | apply below_alloc | apply pw_below_drewN | apply below_drew1 | refine below_set ?_ GE161.out) | exact HB.out)⟩⟩
    rw [if_pos c5] at H
    have c5b0 : (a0_0 == 0) = true := beq_iff_eq.mpr c5
    have c5b1 : (a0_0 != 0) = false := bne_eq_false_iff_eq.mpr c5
    clear c5
    (first | rw [c5b0] | (simp only [i64_w, i32_w]; rw [c5b0]) | skip)
    by_cases c6 : a0_1 = a1
    rotate_left
    · rw [if_neg c6] at H
      have c6b0 : (a0_1 == a1) = false := beq_eq_false_iff_ne.mpr c6
      have c6b1 : (a0_1 != a1) = true := bne_iff_ne.mpr c6
      have H' := Aside0.mk H
      clear H
      have hcz8_0 : w4.cell? ⟨gb161, 0, none⟩ = some (.int .i64 a0_0) := (blk_cell BK161.out 0).trans rfl
      have hcz8_1 : w4.cell? ⟨gb161, 1, none⟩ = some (.int .i64 a0_1) := (blk_cell BK161.out 1).trans rfl
      have hcz8_2 : w4.cell? ⟨gb161, 2, none⟩ = some (.bool a0_2) := (blk_cell BK161.out 2).trans rfl
      have hcz8_3 : w4.cell? ⟨gb161, 3, none⟩ = some (.slice A0_3 l0_3.length c0_3) := (blk_cell BK161.out 3).trans rfl
      have hcz8_4 : w4.cell? ⟨gb161, 4, none⟩ = some (.slice A0_4 l0_4.length c0_4) := (blk_cell BK161.out 4).trans rfl
      have hfz8_0 := blk_frozen BK161.out 0
      have hfz8_1 := blk_frozen BK161.out 1
      have hfz8_2 := blk_frozen BK161.out 2
      have hfz8_3 := blk_frozen BK161.out 3
      have hfz8_4 := blk_frozen BK161.out 4
      go_wp2
      go_meet
      case rel => exact ⟨_, (true), (by first | rfl | (simp; done) | (simp [*]; done)), H', ⟨by first | omega | exact Nat.le_refl _⟩, ⟨by (with_reducible repeat (first | refine blk_drewN ?_ _ | refine blk_drew ?_ | refine blk_alloc ?_ _)); exact BK161.out⟩, ⟨by repeat (first | (with_reducible first | exact HB.out | apply below_alloc | apply pw_below_drewN | apply below_drew1 | refine below_set ?_ GE161.out) | exact HB.out)⟩⟩
    rw [if_pos c6] at H
    have c6b0 : (a0_1 == a1) = true := beq_iff_eq.mpr c6
    have c6b1 : (a0_1 != a1) = false := bne_eq_false_iff_eq.mpr c6
    clear c6
    have H' := Aside0.mk H
    clear H
    have hcz7_0 : w4.cell? ⟨gb161, 0, none⟩ = some (.int .i64 a0_0) := (blk_cell BK161.out 0).trans rfl
    have hcz7_1 : w4.cell? ⟨gb161, 1, none⟩ = some (.int .i64 a0_1) := (blk_cell BK161.out 1).trans rfl
    have hcz7_2 : w4.cell? ⟨gb161, 2, none⟩ = some (.bool a0_2) := (blk_cell BK161.out 2).trans rfl
    have hcz7_3 : w4.cell? ⟨gb161, 3, none⟩ = some (.slice A0_3 l0_3.length c0_3) := (blk_cell BK161.out 3).trans rfl
    have hcz7_4 : w4.cell? ⟨gb161, 4, none⟩ = some (.slice A0_4 l0_4.length c0_4) := (blk_cell BK161.out 4).trans rfl
    have hfz7_0 := blk_frozen BK161.out 0
    have hfz7_1 := blk_frozen BK161.out 1
    have hfz7_2 := blk_frozen BK161.out 2
    have hfz7_3 := blk_frozen BK161.out 3
    have hfz7_4 := blk_frozen BK161.out 4
    go_wp2
    go_meet
    case rel => exact ⟨_, (!a0_2), (by first | rfl | (simp; done) | (simp [*]; done)), H', ⟨by first | omega | exact Nat.le_refl _⟩, ⟨by (with_reducible repeat (first | refine blk_drewN ?_ _ | refine blk_drew ?_ | refine blk_alloc ?_ _)); exact BK161.out⟩, ⟨by repeat (first | (with_reducible first | exact HB.out | apply below_alloc | apply pw_below_drewN | apply below_drew1 | refine below_set ?_ GE161.out) | exact HB.out)⟩⟩
  clear HC3
  obtain ⟨kq, x22_2, rfl, HA, HJ2, BK161, HB⟩ := hcut
  cases kq with
  | zero => exact absurd HA.out (by simp [name_inside.j0])
  | succ kj2 =>
    have H := HA.out
    clear HA
    simp only [name_inside.j0] at H
    by_cases c10 : x22_2 = true
    · subst c10
      have H1 : (some (([] : List (S77)), 30)) = some (r1, r2) := by rw [if_pos rfl] at H; exact H
      clear H
      have H := H1
      clear H1
      simp only [Option.some.injEq, Prod.mk.injEq] at H
      obtain ⟨rfl, rfl⟩ := H
      go_wp2
      go_ret2
      exact ⟨_, _, by first | rfl | (simp [errW_none, errW_some] <;> rfl) | (simp [*, errW_none, errW_some] <;> rfl), (by first | exact EV.nil | exact EV.f30 | exact EV.f5 | exact EV.f4 | exact EV.f1 | exact EV.low (by assumption) | exact HEV_.out | exact EV.part HEV_.out), by first | exact Kd.S_nil _ _ _ _ _ | exact Kd.N_nil _ _ _ _ _ | exact Kd.V_nil _ _ _ _ _ | exact Kd.Q_nil _ _ _ _ _ | exact Kd.R_nil _ _ _ _ _, by repeat (first | (with_reducible first | exact HB.out | apply below_alloc | apply pw_below_drewN | apply below_drew1 | refine below_set ?_ GE161.out) | exact HB.out)⟩
    replace c10 := Bool.eq_false_iff.mpr c10
    subst c10
    have H1 : ((der_Split.f kj2 l0_3).bind fun bt162 => (if bt162.2.1 = 0 then (some (bt162.1, 0)) else (some (([] : List (S77)), bt162.2.1)))) = some (r1, r2) := by rw [if_neg (show ¬ (false = true) by decide)] at H; exact H
    clear H
    have H := H1
    clear H1
    replace H := Option.bind_eq_some_iff.mp H
    obtain ⟨⟨t162, t163, t164⟩, A110, H⟩ := H
    replace H : (if t163 = 0 then (some (t162, 0)) else (some (([] : List (S77)), t163))) = some (r1, r2) := H
    have A11 := Aside0.mk A110
    clear A110
    by_cases c12 : t163 = 0
    rotate_left
    · rw [if_neg c12] at H
      have c12b0 : (t163 == 0) = false := beq_eq_false_iff_ne.mpr c12
      have c12b1 : (t163 != 0) = true := bne_iff_ne.mpr c12
      simp only [Option.some.injEq, Prod.mk.injEq] at H
      obtain ⟨rfl, rfl⟩ := H
      have hcz15_0 : wc.cell? ⟨gb161, 0, none⟩ = some (.int .i64 a0_0) := (blk_cell BK161.out 0).trans rfl
      have hcz15_1 : wc.cell? ⟨gb161, 1, none⟩ = some (.int .i64 a0_1) := (blk_cell BK161.out 1).trans rfl
      have hcz15_2 : wc.cell? ⟨gb161, 2, none⟩ = some (.bool a0_2) := (blk_cell BK161.out 2).trans rfl
      have hcz15_3 : wc.cell? ⟨gb161, 3, none⟩ = some (.slice A0_3 l0_3.length c0_3) := (blk_cell BK161.out 3).trans rfl
      have hcz15_4 : wc.cell? ⟨gb161, 4, none⟩ = some (.slice A0_4 l0_4.length c0_4) := (blk_cell BK161.out 4).trans rfl
      have hfz15_0 := blk_frozen BK161.out 0
      have hfz15_1 := blk_frozen BK161.out 1
      have hfz15_2 := blk_frozen BK161.out 2
      have hfz15_3 := blk_frozen BK161.out 3
      have hfz15_4 := blk_frozen BK161.out 4
      go_wp2_with (first | ((with_reducible refine gate_callee (f := 162) rfl ?_); refine goesL_ (some 27) rfl rfl Tryz.func162 (by kernel_rfl) rfl #[.slice A0_3 l0_3.length c0_3] rfl (by (try simp only [List.map_toArray, List.map_cons, List.map_nil]); first | done | rfl | (simp only [List.length_drop, List.length_take]; rfl)) ?_; (with_reducible refine (der_Split.calls kj2 _ _ l0_3 t162 t163 t164 _ ?side1 ?side2 A11.out).mono ?_); (case side1 => repeat (first | exact (Kd.C_below HR0_3.out HB.out) | (with_reducible refine Kd.C_alloc ?_ _) | (with_reducible refine Kd.C_drewN ?_ _) | (with_reducible refine Kd.C_drew ?_))); (case side2 => exact HC0_3.out); rintro e w16 ⟨v165, rfl, ho0, hb⟩; refine ⟨_, rfl, ?_⟩; have n0_ := Aside0.mk (Kd.S_lower (Kd.S_newB ho0 (g := gb161) (o := .cells #[.int .i64 a0_0, .int .i64 a0_1, .bool a0_2, .slice A0_3 l0_3.length c0_3, .slice A0_4 l0_4.length c0_4] 77 (0, 0)) (by (with_reducible repeat (first | refine blk_drewN ?_ _ | refine blk_drew ?_ | refine blk_alloc ?_ _)); exact BK161.out)) (below_size (by repeat (first | (with_reducible first | exact HB.out | apply below_alloc | apply pw_below_drewN | apply below_drew1 | refine below_set ?_ GE161.out) | exact HB.out)))); have n1_ := Aside0.mk (blk_below (g := gb161) (o := .cells #[.int .i64 a0_0, .int .i64 a0_1, .bool a0_2, .slice A0_3 l0_3.length c0_3, .slice A0_4 l0_4.length c0_4] 77 (0, 0)) (by (with_reducible repeat (first | refine blk_drewN ?_ _ | refine blk_drew ?_ | refine blk_alloc ?_ _)); exact BK161.out) hb); have n2_ := Aside0.mk (below_step (by repeat (first | (with_reducible first | exact HB.out | apply below_alloc | apply pw_below_drewN | apply below_drew1 | refine below_set ?_ GE161.out) | exact HB.out)) hb); clear BK161; clear HB; have HO166 := n0_; have BK161 := n1_; have HB := n2_; clear n0_ n1_ n2_; (try clear hb); (try clear hb2); (try clear hk); (try clear hi); (try clear ho0)))
      go_ret2
      exact ⟨_, _, by first | rfl | (simp [errW_none, errW_some] <;> rfl) | (simp [*, errW_none, errW_some] <;> rfl), (by first | exact EV.nil | exact EV.f30 | exact EV.f5 | exact EV.f4 | exact EV.f1 | exact EV.low (by assumption) | exact HEV_.out | exact EV.part HEV_.out), by first | exact Kd.S_nil _ _ _ _ _ | exact Kd.N_nil _ _ _ _ _ | exact Kd.V_nil _ _ _ _ _ | exact Kd.Q_nil _ _ _ _ _ | exact Kd.R_nil _ _ _ _ _, by repeat (first | (with_reducible first | exact HB.out | apply below_alloc | apply pw_below_drewN | apply below_drew1 | refine below_set ?_ GE161.out) | exact HB.out)⟩
    rw [if_pos c12] at H
    have c12b0 : (t163 == 0) = true := beq_iff_eq.mpr c12
    have c12b1 : (t163 != 0) = false := bne_eq_false_iff_eq.mpr c12
    clear c12
    simp only [Option.some.injEq, Prod.mk.injEq] at H
    obtain ⟨rfl, rfl⟩ := H
    have hcz13_0 : wc.cell? ⟨gb161, 0, none⟩ = some (.int .i64 a0_0) := (blk_cell BK161.out 0).trans rfl
    have hcz13_1 : wc.cell? ⟨gb161, 1, none⟩ = some (.int .i64 a0_1) := (blk_cell BK161.out 1).trans rfl
    have hcz13_2 : wc.cell? ⟨gb161, 2, none⟩ = some (.bool a0_2) := (blk_cell BK161.out 2).trans rfl
    have hcz13_3 : wc.cell? ⟨gb161, 3, none⟩ = some (.slice A0_3 l0_3.length c0_3) := (blk_cell BK161.out 3).trans rfl
    have hcz13_4 : wc.cell? ⟨gb161, 4, none⟩ = some (.slice A0_4 l0_4.length c0_4) := (blk_cell BK161.out 4).trans rfl
    have hfz13_0 := blk_frozen BK161.out 0
    have hfz13_1 := blk_frozen BK161.out 1
    have hfz13_2 := blk_frozen BK161.out 2
    have hfz13_3 := blk_frozen BK161.out 3
    have hfz13_4 := blk_frozen BK161.out 4
    go_wp2_with (first | ((with_reducible refine gate_callee (f := 162) rfl ?_); refine goesL_ (some 27) rfl rfl Tryz.func162 (by kernel_rfl) rfl #[.slice A0_3 l0_3.length c0_3] rfl (by (try simp only [List.map_toArray, List.map_cons, List.map_nil]); first | done | rfl | (simp only [List.length_drop, List.length_take]; rfl)) ?_; (with_reducible refine (der_Split.calls kj2 _ _ l0_3 t162 t163 t164 _ ?side1 ?side2 A11.out).mono ?_); (case side1 => repeat (first | exact (Kd.C_below HR0_3.out HB.out) | (with_reducible refine Kd.C_alloc ?_ _) | (with_reducible refine Kd.C_drewN ?_ _) | (with_reducible refine Kd.C_drew ?_))); (case side2 => exact HC0_3.out); rintro e w14 ⟨v165, rfl, ho0, hb⟩; refine ⟨_, rfl, ?_⟩; have n0_ := Aside0.mk (Kd.S_lower (Kd.S_newB ho0 (g := gb161) (o := .cells #[.int .i64 a0_0, .int .i64 a0_1, .bool a0_2, .slice A0_3 l0_3.length c0_3, .slice A0_4 l0_4.length c0_4] 77 (0, 0)) (by (with_reducible repeat (first | refine blk_drewN ?_ _ | refine blk_drew ?_ | refine blk_alloc ?_ _)); exact BK161.out)) (below_size (by repeat (first | (with_reducible first | exact HB.out | apply below_alloc | apply pw_below_drewN | apply below_drew1 | refine below_set ?_ GE161.out) | exact HB.out)))); have n1_ := Aside0.mk (blk_below (g := gb161) (o := .cells #[.int .i64 a0_0, .int .i64 a0_1, .bool a0_2, .slice A0_3 l0_3.length c0_3, .slice A0_4 l0_4.length c0_4] 77 (0, 0)) (by (with_reducible repeat (first | refine blk_drewN ?_ _ | refine blk_drew ?_ | refine blk_alloc ?_ _)); exact BK161.out) hb); have n2_ := Aside0.mk (below_step (by repeat (first | (with_reducible first | exact HB.out | apply below_alloc | apply pw_below_drewN | apply below_drew1 | refine below_set ?_ GE161.out) | exact HB.out)) hb); clear BK161; clear HB; have HO166 := n0_; have BK161 := n1_; have HB := n2_; clear n0_ n1_ n2_; (try clear hb); (try clear hb2); (try clear hk); (try clear hi); (try clear ho0)))
    go_ret2
    exact ⟨_, _, by first | rfl | (simp [errW_none, errW_some] <;> rfl) | (simp [*, errW_none, errW_some] <;> rfl), (by first | exact EV.nil | exact EV.f30 | exact EV.f5 | exact EV.f4 | exact EV.f1 | exact EV.low (by assumption) | exact HEV_.out | exact EV.part HEV_.out), by (with_reducible repeat (first | apply Kd.S_alloc | apply Kd.S_drewN | apply Kd.S_drew)); exact Kd.S_mono HO166.out (fun _ hk => trivial), by repeat (first | (with_reducible first | exact HB.out | apply below_alloc | apply pw_below_drewN | apply below_drew1 | refine below_set ?_ GE161.out) | exact HB.out)⟩
end Go.Proofs.YtkioddjjfifadaaGreatDoor.P
