/- What the proof of NameOwn needs of: He0, He1, Pxf141, Shl, Ht0, Pxf163, Pxf189, Pxf142. -/
import Derived.Shelf.Strings.Builder1
import Derived.Shelf.Strings.Builder2
import Derived.Shelf.Strings.OnBuilder
import Derived.Shelf.Small.Bits
import Derived.Shelf.Small.Strs
import Derived.Shelf.Strings.BuilderF
import Derived.Shelf.Strings.BuilderK
import Derived.Shelf.Utf8.AppendRunePlain
import Derived.Shelf.Strconv.Itoa0
import Derived.Shelf.Strconv.Itoa1
import Derived.Shelf.LaysM
import Derived.Shelf.Strconv.Itoa2
import Derived.Shelf.Strconv.Itoa3
import Derived.Shelf.Strings.Search1
import Derived.Shelf.Strings.Search2
import Derived.Shelf.Strings.Search3
import Derived.Shelf.Strings.Cut
import Derived.Shelf.Strings.Shaped
import Derived.Shelf.Sort.Plain
import Derived.Shelf.Unicode.Decode
import Derived.Shelf.Unicode.DecodeSlow
import Derived.Shelf.Unicode.DecodeAny
import Derived.Ground.Names2Prog
import Derived.Shelf.Slices.ReverseS
import Derived.Shelf.Slices.Cells
import Derived.Shelf.Slices.In.SortNone
import Derived.Test.YtkioddjjfifadaaGreatDoorProg
import Derived.Lib.AppendIntMem
import Derived.Test.YtkioddjjfifadaaGreatDoorNo2
import Derived.Test.YtkioddjjfifadaaGreatDoorNo4
set_option linter.unusedVariables false
set_option linter.unusedSimpArgs false
namespace Go.Proofs.YtkioddjjfifadaaGreatDoor.P
open Go.RowKit Go.Extern.Stop Go.Stop Go.Extern Go.Proofs.YtkioddjjfifadaaGreatDoorW.PrintWords Go.Proofs.YtkioddjjfifadaaGreatDoorW.PrintLast Go.Proofs.YtkioddjjfifadaaGreatDoorW.PrintMore
/-- An error of package name: what a lower layer told; a fault; a fault in a part. -/
inductive NE where
  | low (e : Int)
  | flt (f : Int)
  | part (i : Int) (x : NE)
def NE.val : NE → Value
  | .low e => .iface 222 (.agg #[.int .i64 e])
  | .flt f => .iface 225 (.int .i64 f)
  | .part i x => .iface 229 (.agg #[.int .i64 i, x.val])
def NE.leaf : NE → NE
  | .part _ x => x.leaf
  | x => x
def NE.num : NE → Int
  | .low e => e
  | .flt f => if f = 1 then 4 else if f = 2 then 5 else if f = 4 then 1 else 30
  | .part _ x => x.num
def NE.depth : NE → Nat
  | .part _ x => x.depth + 1
  | _ => 0
def NE.isLow : NE → Option Int
  | .low e => some e
  | .flt _ => none
  | .part _ x => x.isLow
def NE.isFlt (g : Int) : NE → Bool
  | .low _ => false
  | .flt f => f == g
  | .part _ x => x.isFlt g
theorem NE.val_iface (x : NE) : ∃ t v, x.val = .iface t v ∧ (t = 222 ∨ t = 225 ∨ t = 229) := by
  cases x <;> exact ⟨_, _, rfl, by simp⟩
theorem Nm.valueOf231 (t : Addr) (w : World) : (ReflectliteValue.unpack (.iface 231 (.pointer (some t)))).run Tryz.prog w
    = .ok (.agg #[.pointer (some ⟨7, 231, none⟩), .pointer (some ⟨w.heap.size, 0, none⟩), .int .u64 150]) (w.alloc (.cells #[.pointer (some t)] 231)) := by kernel_rfl
theorem Nm.type231 (a : Addr) (w : World) : (ReflectliteValue.methodAny (ReflectliteValue.valueError "reflectlite.Value.Type" 0) (fun t _ _ _ => ReflectliteType.toType t) #[.agg #[.pointer (some ⟨7, 231, none⟩), .pointer (some a), .int .u64 150]]).run Tryz.prog w
    = .ok (.iface 336 (.agg #[.pointer (some ⟨7, 231, none⟩)])) w := by kernel_rfl
theorem Nm.kind231 (w : World) : ((ReflectliteType.abiMethod fun t => (fun a : Nat => Value.int IntKind.u8 (a : Int)) <$> Rtype.kind t) #[.pointer (some ⟨7, 231, none⟩)]).run Tryz.prog w = .ok (.int .u8 22) w := by kernel_rfl
theorem Nm.kind222 (w : World) : ((ReflectliteType.abiMethod fun t => (fun a : Nat => Value.int IntKind.u8 (a : Int)) <$> Rtype.kind t) #[.pointer (some ⟨7, 222, none⟩)]).run Tryz.prog w = .ok (.int .u8 25) w := by kernel_rfl
theorem Nm.parts231 (a : Addr) (w : World) : (ReflectliteValue.parts (.agg #[.pointer (some ⟨7, 231, none⟩), .pointer (some a), .int .u64 150])).run Tryz.prog w = .ok (some (231, a, 150)) w := by kernel_rfl
theorem Nm.isNil231 (a p : Addr) (W : World) (ha : W.cell? a = some (.pointer (some p))) :
    (ReflectliteValue.method (ReflectliteValue.valueError "reflectlite.Value.IsNil" 0) ReflectliteValue.isNil #[.agg #[.pointer (some ⟨7, 231, none⟩), .pointer (some a), .int .u64 150]]).run Tryz.prog W = .ok (.bool false) W := by
  rw [rlm]
  simp only [Sem.run_bind, Nm.parts231, Result.andThen]
  simp [ReflectliteValue.isNil, loadVar, isAgg, underlying, Tryz.underlying231, ha, Result.andThen]
theorem Nm.elem231 (w : World) : (ReflectliteType.method ReflectliteType.elem #[.agg #[.pointer (some ⟨7, 231, none⟩)]]).run Tryz.prog w = .ok (.iface 336 (.agg #[.pointer (some ⟨7, 222, none⟩)])) w := by kernel_rfl
theorem Nm.implements222 (w : World) : (ReflectliteType.relation "Implements" ReflectliteType.implements_ #[.agg #[.pointer (some ⟨7, 222, none⟩)], .iface 336 (.agg #[.pointer (some ⟨7, 132, none⟩)])]).run Tryz.prog w = .ok (.bool true) w := by kernel_rfl
theorem Nm.typeOf222 (v : Value) (w : World) : (ReflectliteType.typeOf #[.iface 222 v]).run Tryz.prog w = .ok (.iface 336 (.agg #[.pointer (some ⟨7, 222, none⟩)])) w := by kernel_rfl
theorem Nm.typeOf225 (v : Value) (w : World) : (ReflectliteType.typeOf #[.iface 225 v]).run Tryz.prog w = .ok (.iface 336 (.agg #[.pointer (some ⟨7, 225, none⟩)])) w := by kernel_rfl
theorem Nm.typeOf229 (v : Value) (w : World) : (ReflectliteType.typeOf #[.iface 229 v]).run Tryz.prog w = .ok (.iface 336 (.agg #[.pointer (some ⟨7, 229, none⟩)])) w := by kernel_rfl
theorem Nm.assignable222 (w : World) : (ReflectliteType.relation "AssignableTo" ReflectliteType.assignableTo #[.agg #[.pointer (some ⟨7, 222, none⟩)], .iface 336 (.agg #[.pointer (some ⟨7, 222, none⟩)])]).run Tryz.prog w = .ok (.bool true) w := by kernel_rfl
theorem Nm.assignable225 (w : World) : (ReflectliteType.relation "AssignableTo" ReflectliteType.assignableTo #[.agg #[.pointer (some ⟨7, 225, none⟩)], .iface 336 (.agg #[.pointer (some ⟨7, 222, none⟩)])]).run Tryz.prog w = .ok (.bool false) w := by kernel_rfl
theorem Nm.assignable229 (w : World) : (ReflectliteType.relation "AssignableTo" ReflectliteType.assignableTo #[.agg #[.pointer (some ⟨7, 229, none⟩)], .iface 336 (.agg #[.pointer (some ⟨7, 222, none⟩)])]).run Tryz.prog w = .ok (.bool false) w := by kernel_rfl
theorem Nm.valueOf222 (e : Int) (w : World) : (ReflectliteValue.unpack (.iface 222 (.agg #[.int .i64 e]))).run Tryz.prog w
    = .ok (.agg #[.pointer (some ⟨7, 222, none⟩), .pointer (some ⟨w.heap.size, 0, none⟩), .int .u64 153]) (w.alloc (.cells #[.int .i64 e] 222)) := by kernel_rfl
theorem Nm.elemOf231 (w : World) : (Rtype.elem? 231).run Tryz.prog w = .ok (some 222) w := by kernel_rfl
theorem Nm.mk222 (p : Addr) (w : World) : (ReflectliteValue.mk 222 p ReflectliteValue.flagAddr).run Tryz.prog w = .ok (.agg #[.pointer (some ⟨7, 222, none⟩), .pointer (some p), .int .u64 409]) w := by kernel_rfl
theorem Nm.elemV231 (a p : Addr) (W : World) (ha : W.cell? a = some (.pointer (some p))) :
    (ReflectliteValue.method (ReflectliteValue.valueError "reflectlite.Value.Elem" 0) ReflectliteValue.elem #[.agg #[.pointer (some ⟨7, 231, none⟩), .pointer (some a), .int .u64 150]]).run Tryz.prog W
      = .ok (.agg #[.pointer (some ⟨7, 222, none⟩), .pointer (some p), .int .u64 409]) W := by
  rw [rlm]
  simp only [Sem.run_bind, Nm.parts231, Result.andThen]
  simp [ReflectliteValue.elem, loadVar, isAgg, underlying, Tryz.underlying231, ha, Result.andThen, Nm.elemOf231, Nm.mk222]
theorem Nm.parts222a (a : Addr) (w : World) : (ReflectliteValue.parts (.agg #[.pointer (some ⟨7, 222, none⟩), .pointer (some a), .int .u64 409])).run Tryz.prog w = .ok (some (222, a, 409)) w := by kernel_rfl
theorem Nm.parts222 (a : Addr) (w : World) : (ReflectliteValue.parts (.agg #[.pointer (some ⟨7, 222, none⟩), .pointer (some a), .int .u64 153])).run Tryz.prog w = .ok (some (222, a, 153)) w := by kernel_rfl
theorem Nm.direct222 (w : World) : (Rtype.directlyAssignable 222 222).run Tryz.prog w = .ok true w := by kernel_rfl
theorem Nm.size222 (w : World) : (sizeOf 222).run Tryz.prog w = .ok 1 w := by kernel_rfl
theorem Nm.set222 (ta b : Addr) (e : Int) (old : Value) (W : World) (hb : W.cell? b = some (.int .i64 e)) (ht : W.cell? ta = some old) (hf : W.frozen? ta = false) :
    (ReflectliteValue.set #[.agg #[.pointer (some ⟨7, 222, none⟩), .pointer (some ta), .int .u64 409], .agg #[.pointer (some ⟨7, 222, none⟩), .pointer (some b), .int .u64 153]]).run Tryz.prog W
      = .ok (.tuple #[]) (W.setCell ta (.int .i64 e)) := by
  have hl : (loadVar 222 b).run Tryz.prog W = .ok (.agg #[.int .i64 e]) W := by
    have hc : (loadCells b 1).run Tryz.prog W = .ok #[.int .i64 e] W := run_loadCells_list (P := Tryz.prog) W b [.int .i64 e] (fun j u hj => by
      cases j with
      | zero => cases hj; rw [show b.add 0 = b from rfl]; exact hb
      | succ n => cases hj)
    simp [loadVar, isAgg, underlying, Tryz.underlying222, Result.andThen, Nm.size222, hc]
  rw [rls]
  simp only [Sem.run_bind, Nm.parts222a, Nm.parts222, Result.andThen]
  simp [ReflectliteValue.flagAddr, hl, Result.andThen, Nm.direct222, storeVar, Value.cells, storeCells, Addr.add]
  rw [run_store Tryz.prog W ta _ _ (by rfl)]
  simp [ht, hf]
theorem Nm.methodUnwrap (v : Value) (w : World) : (Go.method 558 229 v "Unwrap").run Tryz.prog w = .ok (340, v) w := by kernel_rfl
theorem Nm.methodComparable (h : Value) (w : World) : (Go.method 558 336 h "Comparable").run Tryz.prog w = .ok (348, h) w := by kernel_rfl
theorem Nm.comparable225 (w : World) : ((ReflectliteType.method fun t => do Rtype.noPackHeld "Comparable" t; (fun a => Value.bool a.comparable) <$> typeInfo t) #[.agg #[.pointer (some ⟨7, 225, none⟩)]]).run Tryz.prog w = .ok (.bool true) w := by kernel_rfl
theorem Nm.noAs (t : TypeId) (ht : t = 222 ∨ t = 225 ∨ t = 229) (v : Value) (xT : TypeId) (w : World) : (Instr.typeAssert (.iface t v) xT 340 true).run Tryz.prog w = .ok (.tuple #[.nilIface, .bool false]) w := by
  rcases ht with rfl | rfl | rfl <;> exact run_typeAssert_lacksB Tryz.underlying340 (by kernel_rfl) (by kernel_rfl) v xT w
theorem Nm.noIs (t : TypeId) (ht : t = 222 ∨ t = 225 ∨ t = 229) (v : Value) (xT : TypeId) (w : World) : (Instr.typeAssert (.iface t v) xT 348 true).run Tryz.prog w = .ok (.tuple #[.nilIface, .bool false]) w := by
  rcases ht with rfl | rfl | rfl <;> exact run_typeAssert_lacksB Tryz.underlying348 (by kernel_rfl) (by kernel_rfl) v xT w
theorem Nm.noUnwraps (t : TypeId) (ht : t = 222 ∨ t = 225 ∨ t = 229) (v : Value) (xT : TypeId) (w : World) : (Instr.typeAssert (.iface t v) xT 345 true).run Tryz.prog w = .ok (.tuple #[.nilIface, .bool false]) w := by
  rcases ht with rfl | rfl | rfl <;> exact run_typeAssert_lacksB Tryz.underlying345 (by kernel_rfl) (by kernel_rfl) v xT w
theorem Nm.noUnwrap (t : TypeId) (ht : t = 222 ∨ t = 225) (v : Value) (xT : TypeId) (w : World) : (Instr.typeAssert (.iface t v) xT 343 true).run Tryz.prog w = .ok (.tuple #[.nilIface, .bool false]) w := by
  rcases ht with rfl | rfl <;> exact run_typeAssert_lacksB Tryz.underlying343 (by kernel_rfl) (by kernel_rfl) v xT w
theorem Nm.hasUnwrap (v : Value) (xT : TypeId) (w : World) : (Instr.typeAssert (.iface 229 v) xT 343 true).run Tryz.prog w = .ok (.tuple #[.iface 229 v, .bool true]) w := run_typeAssert_hasB Tryz.underlying343 (by kernel_rfl) v xT w
theorem Nm.eql_flt (f g : Int) (w : World) : (binOp .eql 132 (.iface 225 (.int .i64 f)) (.iface 225 (.int .i64 g))).run Tryz.prog w = .ok (.bool (f == g)) w := by kernel_rfl
theorem Nm.eql_low (v : Value) (g : Int) (w : World) : (binOp .eql 132 (.iface 222 v) (.iface 225 (.int .i64 g))).run Tryz.prog w = .ok (.bool false) w := run_eql_iface_types 222 225 v _ Tryz.underlying132 (by decide) w
theorem Nm.eql_part (v : Value) (g : Int) (w : World) : (binOp .eql 132 (.iface 229 v) (.iface 225 (.int .i64 g))).run Tryz.prog w = .ok (.bool false) w := run_eql_iface_types 229 225 v _ Tryz.underlying132 (by decide) w
theorem unwrap_calls (i : Int) (v : Value) (hv : v.oneCell' = true) (w : World) : Calls Tryz.prog 340 #[.agg #[.int .i64 i, v]] w fun e w' => e = .returned v ∧ Below w.heap.size w w' := by
  have HV := Aside0.mk hv
  clear hv
  go_enter Tryz.func340, Tryz.ntmps340
  go_wp2_with (first | ((with_reducible refine gate_dst (N := 1) rfl ?_); refine box_event ?hg (N := 1) ?hd (cs := #[.int .i64 i, v]) (t := 229) ?hr ?_; (case hd => rfl); (case hg => rfl); (case hr => first | (go_simp; done) | (go_simp; rfl)); intro gb hg w4 hbox hb; have HB := Aside0.mk hb; have hcz : w4.cell? ⟨gb, 1, none⟩ = some v := (blk_cell hbox 1).trans rfl; clear hg hbox hb))
  go_ret
  exact ⟨rfl, HB.out⟩
set_option maxRecDepth 100000 in
set_option maxHeartbeats 4000000 in
theorem is_ne (x : NE) (g : Int) (w : World) :
    Calls Tryz.prog 195 #[x.val, .iface 225 (.int .i64 g), .bool true] w fun e w' => e = .returned (.bool (x.isFlt g)) ∧ Below w.heap.size w w' := by
  have HB := Aside0.mk (Below.refl w.heap.size w)
  go_enter Tryz.func195, Tryz.ntmps195
  go_wp2_with fail
  go_loopg [0] (x.depth + 1) (fun kq v0 w' => ∃ (y : NE), v0 = y.val ∧ Aside0 (y.isFlt g = x.isFlt g) ∧ Aside0 (y.depth < kq) ∧ Aside0 (Below w.heap.size w w'))
  case atStart => exact ⟨x, rfl, ⟨rfl⟩, ⟨by omega⟩, HB⟩
  case round =>
    clear HB
    obtain ⟨y, rfl, HF, HD, HB⟩ := hrel
    cases gk with
    | zero => exact absurd HD.out (by omega)
    | succ g1 =>
      cases y with
      | low e =>
        have q1 := Nm.noIs 222 (by simp) (.agg #[.int .i64 e]) 132 wr
        have q2 := Nm.noUnwrap 222 (by simp) (.agg #[.int .i64 e]) 132 wr
        have q3 := Nm.noUnwraps 222 (by simp) (.agg #[.int .i64 e]) 132 wr
        have q4 := Nm.eql_low (.agg #[.int .i64 e]) g wr
        simp only [NE.val] at *
        go_wp2_with fail
        go_ret
        exact ⟨by rw [← HF.out]; rfl, HB.out⟩
      | flt f =>
        have q1 := Nm.noIs 225 (by simp) (.int .i64 f) 132 wr
        have q2 := Nm.noUnwrap 225 (by simp) (.int .i64 f) 132 wr
        have q3 := Nm.noUnwraps 225 (by simp) (.int .i64 f) 132 wr
        have q4 := Nm.eql_flt f g wr
        have hf : (f == g) = x.isFlt g := HF.out
        clear HF
        rw [hf] at q4
        clear hf
        obtain ⟨bb, hbb⟩ : ∃ bb, x.isFlt g = bb := ⟨_, rfl⟩
        rw [hbb] at q4
        have HH := Aside0.mk hbb
        clear hbb
        simp only [NE.val] at *
        cases bb
        all_goals
          go_wp2_with fail
          go_ret
          exact ⟨by rw [HH.out]; rfl, HB.out⟩
      | part i z =>
        obtain ⟨zt, zv, hz, hzt⟩ := z.val_iface
        have q1 := Nm.noIs 229 (by simp) (.agg #[.int .i64 i, .iface zt zv]) 132 wr
        have q2 := Nm.hasUnwrap (.agg #[.int .i64 i, .iface zt zv]) 132 wr
        have q4 := Nm.eql_part (.agg #[.int .i64 i, .iface zt zv]) g wr
        have q5 := Nm.methodUnwrap
        have HZ := Aside0.mk hz
        have hz' : NE.val (.part i z) = .iface 229 (.agg #[.int .i64 i, .iface zt zv]) := by rw [NE.val, hz]
        rw [hz'] at *
        clear hz hz'
        go_wp2_with ((with_reducible refine (unwrap_calls i (.iface zt zv) rfl _).mono ?_); rintro e w4 ⟨rfl, hb⟩; have n0 := Aside0.mk (below_step HB.out hb); clear hb HB; have HB := n0; clear n0)
        go_roundg g1
        case measure => exact Nat.lt_succ_self _
        case rel => exact ⟨z, HZ.out.symm, ⟨HF.out⟩, ⟨by have := HD.out; simp only [NE.depth] at this; omega⟩, HB⟩
set_option maxRecDepth 100000 in
set_option maxHeartbeats 4000000 in
theorem errors_Is_ne (x : NE) (g : Int) (w : World) :
    Calls Tryz.prog 144 #[x.val, .iface 225 (.int .i64 g)] w fun e w' => e = .returned (.bool (x.isFlt g)) ∧ Below w.heap.size w w' := by
  have h8 := @run_callFunc_extern Tryz.prog 194 _ ReflectliteType.typeOf Tryz.func194 (by kernel_rfl) (by kernel_rfl) (by kernel_rfl) (by kernel_rfl)
  have h32 := @run_callFunc_extern Tryz.prog 348 _ (ReflectliteType.method fun t => do Rtype.noPackHeld "Comparable" t; pure (.bool (← typeInfo t).comparable)) Tryz.func348 (by kernel_rfl) (by kernel_rfl) (by kernel_rfl) (by kernel_rfl)
  have tT := Nm.typeOf225
  have cT := Nm.comparable225
  have mR := Nm.methodComparable
  obtain ⟨zt, zv, hz, hzt⟩ := x.val_iface
  have HZ := Aside0.mk hz
  rw [hz]
  clear hz hzt
  go_enter Tryz.func144, Tryz.ntmps144
  go_wp2_with (go_at_call 195; rw [← HZ.out]; (with_reducible refine (is_ne x g _).mono ?_); rintro e w4 ⟨rfl, hb⟩; have HB := Aside0.mk hb; clear hb)
  go_ret
  exact ⟨rfl, HB.out⟩
set_option maxRecDepth 100000 in
set_option maxHeartbeats 4000000 in
theorem as_ne (x : NE) (g b t : Nat) (w0 w : World) (hB : Below w0.heap.size w0 w) (hg : w0.heap.size ≤ g) (ht : w.heap[g]? = some (.cells #[.int .i64 0] 222 (0, 0))) (hb : w.heap[b]? = some (.cells #[.pointer (some ⟨g, 0, none⟩)] 231 (0, 0))) (hgb : b ≠ g) :
    Calls Tryz.prog 193 #[x.val, .iface 231 (.pointer (some ⟨g, 0, none⟩)), .agg #[.pointer (some ⟨7, 231, none⟩), .pointer (some ⟨b, 0, none⟩), .int .u64 150], .iface 336 (.agg #[.pointer (some ⟨7, 222, none⟩)])] w fun e w' =>
      e = .returned (.bool x.isLow.isSome) ∧ w'.heap[g]? = some (.cells #[.int .i64 (x.isLow.getD 0)] 222 (0, 0)) ∧ Below w0.heap.size w0 w' := by
  have h6 := @run_callFunc_extern Tryz.prog 190 _ (fun args => ReflectliteValue.unpack (args.getD 0 (.tuple #[]))) Tryz.func190 (by kernel_rfl) (by kernel_rfl) (by kernel_rfl) (by kernel_rfl)
  have h10 := @run_callFunc_extern Tryz.prog 194 _ ReflectliteType.typeOf Tryz.func194 (by kernel_rfl) (by kernel_rfl) (by kernel_rfl) (by kernel_rfl)
  have h35 := @run_callFunc_extern Tryz.prog 347 _ (ReflectliteType.relation "AssignableTo" ReflectliteType.assignableTo) Tryz.func347 (by kernel_rfl) (by kernel_rfl) (by kernel_rfl) (by kernel_rfl)
  have h11 := @run_callFunc_extern Tryz.prog 236 _ (ReflectliteValue.method (ReflectliteValue.valueError "reflectlite.Value.Elem" 0) ReflectliteValue.elem) Tryz.func236 (by kernel_rfl) (by kernel_rfl) (by kernel_rfl) (by kernel_rfl)
  have h12 := @run_callFunc_extern Tryz.prog 237 _ ReflectliteValue.set Tryz.func237 (by kernel_rfl) (by kernel_rfl) (by kernel_rfl) (by kernel_rfl)
  have mA := Ref.methodAssignableTo
  have HB := Aside0.mk hB
  have HG := Aside0.mk hg
  have HT := Aside0.mk ht
  have HBK := Aside0.mk hb
  have HN := Aside0.mk hgb
  clear hB hg ht hb hgb
  go_enter Tryz.func193, Tryz.ntmps193
  go_wp2_with (first | ((with_reducible refine gate_dst (N := 6) rfl ?_); refine box_event ?hg (N := 6) ?hd (cs := #[.pointer (some ⟨7, 231, none⟩), .pointer (some ⟨b, 0, none⟩), .int .u64 150]) (t := 289) ?hr ?_; (case hd => rfl); (case hg => rfl); (case hr => first | (go_simp; done) | (go_simp; rfl)); intro gb hgq w4 hbox hb; have HB6 := Aside0.mk hbox; have n1 := Aside0.mk (below_step HB.out hb); have n2 := Aside0.mk (blk_below HT.out hb); have n3 := Aside0.mk (blk_below HBK.out hb); have HGB := Aside0.mk (show w0.heap.size ≤ gb by rw [hgq]; exact HB.out.size); clear hbox hb hgq HB HT HBK; have HB := n1; have HT := n2; have HBK := n3; clear n1 n2 n3))
  go_loopg [0] (x.depth + 1) (fun kq v0 w' => ∃ (y : NE), v0 = y.val ∧ Aside0 (y.isLow = x.isLow) ∧ Aside0 (y.depth < kq) ∧ Aside0 (Below w0.heap.size w0 w') ∧ Aside0 (w'.heap[g]? = some (.cells #[.int .i64 0] 222 (0, 0))) ∧ Aside0 (w'.heap[b]? = some (.cells #[.pointer (some ⟨g, 0, none⟩)] 231 (0, 0))) ∧ Aside0 (w'.heap[gb]? = some (.cells #[.pointer (some ⟨7, 231, none⟩), .pointer (some ⟨b, 0, none⟩), .int .u64 150] 289 (0, 0))))
  case atStart => exact ⟨x, rfl, ⟨rfl⟩, ⟨by omega⟩, HB, HT, HBK, HB6⟩
  case round =>
    clear HB HT HBK HB6
    obtain ⟨y, rfl, HF, HD, HB, HT, HBK, HB6⟩ := hrel
    cases gk with
    | zero => exact absurd HD.out (by omega)
    | succ g1 =>
      cases y with
      | low e =>
        have tO := Nm.typeOf222 (.agg #[.int .i64 e]) wr
        have a25 := Nm.assignable222 wr
        have v25 := Nm.valueOf222 e wr
        have z0 : wr.cell? ⟨gb, 0, none⟩ = some (.pointer (some ⟨7, 231, none⟩)) := (blk_cell HB6.out 0).trans rfl
        have z1 : wr.cell? ⟨gb, 1, none⟩ = some (.pointer (some ⟨b, 0, none⟩)) := (blk_cell HB6.out 1).trans rfl
        have z2 : wr.cell? ⟨gb, 2, none⟩ = some (.int .u64 150) := (blk_cell HB6.out 2).trans rfl
        have el := Nm.elemV231 ⟨b, 0, none⟩ ⟨g, 0, none⟩ wr ((blk_cell HBK.out 0).trans rfl)
        have HT2 := Aside0.mk (blk_alloc HT.out (.cells #[.int .i64 e] 222))
        have st := Nm.set222 ⟨g, 0, none⟩ ⟨wr.heap.size, 0, none⟩ e (.int .i64 0) (wr.alloc (.cells #[.int .i64 e] 222)) ((blk_cell (heap_alloc_new wr _) 0).trans rfl) ((blk_cell HT2.out 0).trans rfl) (blk_frozen HT2.out 0)
        simp only [NE.val] at *
        go_wp2_with fail
        go_ret
        refine ⟨by rw [← HF.out]; rfl, ?_, ?_⟩
        · rw [← HF.out]
          exact blk_put HT2.out 0 (.int .i64 e) rfl
        · exact below_set (below_alloc HB.out _) HG.out
      | flt f =>
        have tO := Nm.typeOf225 (.int .i64 f) wr
        have a25 := Nm.assignable225 wr
        have q1 := Nm.noAs 225 (by simp) (.int .i64 f) 132 wr
        have q2 := Nm.noUnwrap 225 (by simp) (.int .i64 f) 132 wr
        have q3 := Nm.noUnwraps 225 (by simp) (.int .i64 f) 132 wr
        simp only [NE.val] at *
        go_wp2_with fail
        go_ret
        exact ⟨by rw [← HF.out]; rfl, by rw [← HF.out]; exact HT.out, HB.out⟩
      | part i z =>
        obtain ⟨zt, zv, hz, hzt⟩ := z.val_iface
        have tO := Nm.typeOf229 (.agg #[.int .i64 i, .iface zt zv]) wr
        have a25 := Nm.assignable229 wr
        have q1 := Nm.noAs 229 (by simp) (.agg #[.int .i64 i, .iface zt zv]) 132 wr
        have q2 := Nm.hasUnwrap (.agg #[.int .i64 i, .iface zt zv]) 132 wr
        have q5 := Nm.methodUnwrap
        have HZ := Aside0.mk hz
        have hz' : NE.val (.part i z) = .iface 229 (.agg #[.int .i64 i, .iface zt zv]) := by rw [NE.val, hz]
        rw [hz'] at *
        clear hz hz'
        go_wp2_with ((with_reducible refine (unwrap_calls i (.iface zt zv) rfl _).mono ?_); rintro e w4 ⟨rfl, hb⟩; have n0 := Aside0.mk (below_step HB.out hb); have n1 := Aside0.mk (blk_below HT.out hb); have n2 := Aside0.mk (blk_below HBK.out hb); have n3 := Aside0.mk (blk_below HB6.out hb); clear hb HB HT HBK HB6; have HB := n0; have HT := n1; have HBK := n2; have HB6 := n3; clear n0 n1 n2 n3)
        go_roundg g1
        case measure => exact Nat.lt_succ_self _
        case rel => exact ⟨z, HZ.out.symm, ⟨HF.out⟩, ⟨by have := HD.out; simp only [NE.depth] at this; omega⟩, HB, HT, HBK, HB6⟩
set_option maxRecDepth 100000 in
set_option maxHeartbeats 4000000 in
theorem errors_As_ne (x : NE) (g : Nat) (w0 w : World) (hB : Below w0.heap.size w0 w) (hH : Hd w) (hg : w0.heap.size ≤ g) (ht : w.heap[g]? = some (.cells #[.int .i64 0] 222 (0, 0))) :
    Calls Tryz.prog 143 #[x.val, .iface 231 (.pointer (some ⟨g, 0, none⟩))] w fun e w' =>
      e = .returned (.bool x.isLow.isSome) ∧ w'.heap[g]? = some (.cells #[.int .i64 (x.isLow.getD 0)] 222 (0, 0)) ∧ Below w0.heap.size w0 w' := by
  have h6 := @run_callFunc_extern Tryz.prog 190 _ (fun args => ReflectliteValue.unpack (args.getD 0 (.tuple #[]))) Tryz.func190 (by kernel_rfl) (by kernel_rfl) (by kernel_rfl) (by kernel_rfl)
  have h7 := @run_callFunc_extern Tryz.prog 191 _ (ReflectliteValue.methodAny (ReflectliteValue.valueError "reflectlite.Value.Type" 0) (fun t _ _ _ => ReflectliteType.toType t)) Tryz.func191 (by kernel_rfl) (by kernel_rfl) (by kernel_rfl) (by kernel_rfl)
  have h8 := @run_callFunc_extern Tryz.prog 192 _ (ReflectliteValue.method (ReflectliteValue.valueError "reflectlite.Value.IsNil" 0) ReflectliteValue.isNil) Tryz.func192 (by kernel_rfl) (by kernel_rfl) (by kernel_rfl) (by kernel_rfl)
  have h27 := @run_callFunc_extern Tryz.prog 333 _ (ReflectliteType.abiMethod fun t => do pure (.int .u8 (← Rtype.kind t))) Tryz.func333 (by kernel_rfl) (by kernel_rfl) (by kernel_rfl) (by kernel_rfl)
  have h37 := @run_callFunc_extern Tryz.prog 349 _ (ReflectliteType.method ReflectliteType.elem) Tryz.func349 (by kernel_rfl) (by kernel_rfl) (by kernel_rfl) (by kernel_rfl)
  have h38 := @run_callFunc_extern Tryz.prog 350 _ (ReflectliteType.relation "Implements" ReflectliteType.implements_) Tryz.func350 (by kernel_rfl) (by kernel_rfl) (by kernel_rfl) (by kernel_rfl)
  have f6 := Nm.valueOf231
  have f7 := Nm.type231
  have mK := Ref.methodKind
  have mE := Ref.methodElem
  have mI := Ref.methodImplements
  have k27 := Nm.kind231
  have k25 := Nm.kind222
  have e27 := Nm.elem231
  have i25 := Nm.implements222
  obtain ⟨zt, zv, hz, hzt⟩ := x.val_iface
  have HZ := Aside0.mk hz
  rw [hz]
  have n8 := Nm.isNil231 ⟨w.heap.size, 0, none⟩ ⟨g, 0, none⟩ ((w.alloc (.cells #[.pointer (some ⟨g, 0, none⟩)] 231)).alloc (.cells #[.pointer (some ⟨7, 231, none⟩), .pointer (some ⟨w.heap.size, 0, none⟩), .int .u64 150] 289)) (by simp)
  have hg2 : ((w.alloc (.cells #[.pointer (some ⟨g, 0, none⟩)] 231)).alloc (.cells #[.pointer (some ⟨7, 231, none⟩), .pointer (some ⟨w.heap.size, 0, none⟩), .int .u64 150] 289)).cell? ⟨0, 0, none⟩ = some (.iface 336 (.agg #[.pointer (some ⟨7, 132, none⟩)])) := by
    rw [World.cell?_alloc_lt _ _ ⟨0, 0, none⟩ (by simp), World.cell?_alloc_lt _ _ ⟨0, 0, none⟩ hH.lt]
    exact hH
  have HBK := Aside0.mk (blk_alloc (heap_alloc_new w (.cells #[.pointer (some ⟨g, 0, none⟩)] 231)) (.cells #[.pointer (some ⟨7, 231, none⟩), .pointer (some ⟨w.heap.size, 0, none⟩), .int .u64 150] 289))
  have HT := Aside0.mk (blk_alloc (blk_alloc ht (.cells #[.pointer (some ⟨g, 0, none⟩)] 231)) (.cells #[.pointer (some ⟨7, 231, none⟩), .pointer (some ⟨w.heap.size, 0, none⟩), .int .u64 150] 289))
  have HB := Aside0.mk (below_alloc (below_alloc hB (.cells #[.pointer (some ⟨g, 0, none⟩)] 231)) (.cells #[.pointer (some ⟨7, 231, none⟩), .pointer (some ⟨w.heap.size, 0, none⟩), .int .u64 150] 289))
  have HG := Aside0.mk hg
  have HN := Aside0.mk (show w.heap.size ≠ g from fun h => by have := blk_lt ht; omega)
  clear hz hzt hB hH hg ht
  go_enter Tryz.func143, Tryz.ntmps143
  go_wp2_with (go_at_call 193; rw [← HZ.out]; (with_reducible refine (as_ne x g w.heap.size 0 w0 _ HB.out HG.out HT.out HBK.out HN.out).mono ?_); rintro e w4 ⟨rfl, ht, hb⟩; have HT2 := Aside0.mk ht; have HB2 := Aside0.mk hb; clear ht hb)
  go_ret
  exact ⟨rfl, HT2.out, HB2.out⟩
theorem NE.num_of (x : NE) : x.num = match x.isLow with
    | some e => e
    | none => if x.isFlt 1 = true then 4 else if x.isFlt 2 = true then 5 else if x.isFlt 4 = true then 1 else 30 := by
  induction x with
  | low e => rfl
  | flt f => simp [NE.num, NE.isLow, NE.isFlt]
  | part i x ih => exact ih
set_option maxRecDepth 100000 in
set_option maxHeartbeats 4000000 in
theorem name_number_ne (x : NE) (w : World) (hH : Hd w) : Calls Tryz.prog 80 #[x.val] w fun e w' => e = .returned (.int .i64 x.num) ∧ Below w.heap.size w w' := by
  obtain ⟨zt, zv, hz, hzt⟩ := x.val_iface
  have HZ := Aside0.mk hz
  rw [hz]
  have HX := Aside0.mk x.num_of
  have HB := Aside0.mk (below_alloc (Below.refl w.heap.size w) (.cells #[.int .i64 0] 222))
  have HT := Aside0.mk (heap_alloc_new w (.cells #[.int .i64 0] 222))
  have HH := Aside0.mk (hH.below (below_alloc (Below.refl w.heap.size w) (.cells #[.int .i64 0] 222)))
  clear hz hzt hH
  obtain ⟨lo, hlo⟩ : ∃ lo, x.isLow = lo := ⟨_, rfl⟩
  obtain ⟨f1, hf1⟩ : ∃ lo, x.isFlt 1 = lo := ⟨_, rfl⟩
  obtain ⟨f2, hf2⟩ : ∃ lo, x.isFlt 2 = lo := ⟨_, rfl⟩
  obtain ⟨f4, hf4⟩ : ∃ lo, x.isFlt 4 = lo := ⟨_, rfl⟩
  have HL := Aside0.mk hlo
  have HF1 := Aside0.mk hf1
  have HF2 := Aside0.mk hf2
  have HF4 := Aside0.mk hf4
  clear hlo hf1 hf2 hf4
  cases lo with
  | some e =>
    go_enter Tryz.func80, Tryz.ntmps80
    go_wp2_with (first | (go_at_call 143; rw [← HZ.out]; (with_reducible refine (errors_As_ne x w.heap.size w _ HB.out HH.out (Nat.le_refl _) HT.out).mono ?_); rintro e_ w4 ⟨rfl, ht, hb⟩; rw [HL.out] at ht ⊢; have HB2 := Aside0.mk hb; have z0 : w4.cell? ⟨w.heap.size, 0, none⟩ = some (.int .i64 e) := (blk_cell ht 0).trans rfl; clear ht hb))
    go_ret
    exact ⟨by rw [HX.out, HL.out]; rfl, HB2.out⟩
  | none =>
    have ARM : ∀ (g : Int) (bb : Bool), x.isFlt g = bb → ∀ W : World, Calls Tryz.prog 144 #[x.val, .iface 225 (.int .i64 g)] W fun e w' => e = .returned (.bool bb) ∧ Below W.heap.size W w' := fun g bb h W => h ▸ errors_Is_ne x g W
    cases f1 <;> cases f2 <;> cases f4
    all_goals
      go_enter Tryz.func80, Tryz.ntmps80
      go_wp2_with (first | (go_at_call 143; rw [← HZ.out]; (with_reducible refine (errors_As_ne x w.heap.size w _ HB.out HH.out (Nat.le_refl _) HT.out).mono ?_); rintro e_ w4 ⟨rfl, ht, hb⟩; rw [HL.out] at ht ⊢; have HB2 := Aside0.mk hb; clear ht hb) | ((with_reducible refine (ARM 1 _ HF1.out _).mono ?_); rintro e_ w5 ⟨rfl, hb⟩; have n0 := Aside0.mk (below_step HB2.out hb); clear hb HB2; have HB2 := n0; clear n0) | ((with_reducible refine (ARM 2 _ HF2.out _).mono ?_); rintro e_ w5 ⟨rfl, hb⟩; have n0 := Aside0.mk (below_step HB2.out hb); clear hb HB2; have HB2 := n0; clear n0) | ((with_reducible refine (ARM 4 _ HF4.out _).mono ?_); rintro e_ w5 ⟨rfl, hb⟩; have n0 := Aside0.mk (below_step HB2.out hb); clear hb HB2; have HB2 := n0; clear n0))
      go_ret
      exact ⟨by rw [HX.out, HL.out]; simp only [HF1.out, HF2.out, HF4.out]; rfl, HB2.out⟩
end Go.Proofs.YtkioddjjfifadaaGreatDoor.P
set_option linter.unusedVariables false
set_option linter.unusedSimpArgs false
namespace Go.Proofs.YtkioddjjfifadaaGreatDoor.P
open Go.RowKit Go.Proofs.YtkioddjjfifadaaGreatDoorW.PrintWords Go.Proofs.YtkioddjjfifadaaGreatDoorW.PrintLast Go.Proofs.YtkioddjjfifadaaGreatDoorW.PrintMore
/-- v is the error of the number n: none at 0. -/
def EV (v : Value) (n : Int) : Prop := (n = 0 ∧ v = .nilIface) ∨ (n ≠ 0 ∧ ∃ x : NE, v = x.val ∧ x.num = n)
theorem EV.nil : EV .nilIface 0 := Or.inl ⟨rfl, rfl⟩
theorem EV.f30 : EV (.iface 225 (.int .i64 3)) 30 := Or.inr ⟨by decide, .flt 3, rfl, rfl⟩
theorem EV.f5 : EV (.iface 225 (.int .i64 2)) 5 := Or.inr ⟨by decide, .flt 2, rfl, rfl⟩
theorem EV.f4 : EV (.iface 225 (.int .i64 1)) 4 := Or.inr ⟨by decide, .flt 1, rfl, rfl⟩
theorem EV.f1 : EV (.iface 225 (.int .i64 4)) 1 := Or.inr ⟨by decide, .flt 4, rfl, rfl⟩
theorem EV.low {e : Int} (h : ¬ e = 0) : EV (.iface 222 (.agg #[.int .i64 e])) e := Or.inr ⟨h, .low e, rfl, rfl⟩
theorem EV.part {i n : Int} {t : TypeId} {u : Value} (h : EV (.iface t u) n) : EV (.iface 229 (.agg #[.int .i64 i, .iface t u])) n := by
  rcases h with ⟨_, h⟩ | ⟨hn, x, hx, hm⟩
  · cases h
  · exact Or.inr ⟨hn, .part i x, by rw [NE.val, hx], hm⟩
theorem EV.nil_of {v : Value} {n : Int} (h : EV v n) (hn : (n == 0) = true) : v = .nilIface := by
  rcases h with ⟨_, h⟩ | ⟨h, _⟩
  · exact h
  · exact absurd (beq_iff_eq.mp hn) h
theorem EV.some_of {v : Value} {n : Int} (h : EV v n) (hn : (n == 0) = false) : ∃ t u, v = .iface t u := by
  rcases h with ⟨h, _⟩ | ⟨_, x, h, _⟩
  · exact absurd h (beq_eq_false_iff_ne.mp hn)
  · obtain ⟨t, u, hx, _⟩ := x.val_iface
    exact ⟨t, u, h.trans hx⟩
theorem name_number_nil (w : World) : Calls Tryz.prog 80 #[.nilIface] w fun e w' => e = .returned (.int .i64 0) ∧ Below w.heap.size w w' := by
  have HB := Aside0.mk (below_alloc (Below.refl w.heap.size w) (.cells #[.int .i64 0] 222))
  go_enter Tryz.func80, Tryz.ntmps80
  go_wp2_with fail
  go_ret
  exact ⟨rfl, HB.out⟩
theorem name_number_ev {v : Value} {n : Int} (h : EV v n) (w : World) (hH : Hd w) : Calls Tryz.prog 80 #[v] w fun e w' => e = .returned (.int .i64 n) ∧ Below w.heap.size w w' := by
  rcases h with ⟨rfl, rfl⟩ | ⟨_, x, rfl, rfl⟩
  · exact name_number_nil w
  · exact name_number_ne x w hH
end Go.Proofs.YtkioddjjfifadaaGreatDoor.P
namespace Go.Proofs.YtkioddjjfifadaaGreatDoor.P
open Go.RowKit Go.Proofs.YtkioddjjfifadaaGreatDoorW.PrintWords Go.Proofs.YtkioddjjfifadaaGreatDoorW.PrintLast Go.Proofs.YtkioddjjfifadaaGreatDoorW.PrintMore
attribute [local go_sem] max2_int min2_int max_two min_two max_three min_three max_four min_four   -- for this text's walks alone
set_option linter.unusedVariables false
set_option linter.unusedSimpArgs false
def name_inside.j0 : Nat → Bool → Int → Int → Bool → List Int → List Int → Option ((List (S77)) × Int)
  | 0, _, _, _, _, _, _ => none
  | k + 1, x22, x162000, x162001, x162002, x162003, x162004 => if x22 = true then (some (([] : List (S77)), 30)) else ((der_Split.f k x162003).bind fun bt162 => (if bt162.2.1 = 0 then (some (bt162.1, 0)) else (some (([] : List (S77)), bt162.2.1))))
def name_inside.f (k : Nat) (a0_0 : Int) (a0_1 : Int) (a0_2 : Bool) (l0_3 : List Int) (l0_4 : List Int) (a1 : Int) : Option ((List (S77)) × Int) := if a0_0 = 0 then (if a0_1 = a1 then (name_inside.j0 k (!a0_2) a0_0 a0_1 a0_2 l0_3 l0_4) else (name_inside.j0 k true a0_0 a0_1 a0_2 l0_3 l0_4)) else (name_inside.j0 k true a0_0 a0_1 a0_2 l0_3 l0_4)
set_option maxHeartbeats 8000000 in
set_option maxRecDepth 100000 in
theorem name_inside.calls (k : Nat) (a0_0 : Int) (a0_1 : Int) (a0_2 : Bool) (A0_3 : Option Addr) (c0_3 : Nat) (l0_3 : List Int) (A0_4 : Option Addr) (c0_4 : Nat) (l0_4 : List Int) (a1 : Int) (r1 : List (S77)) (r2 : Int) (w : World) (hr0_3 : Kd.C (Kd.int .u8) w A0_3 l0_3.length l0_3) (hc0_3 : l0_3.length ≤ c0_3) (hr0_4 : Kd.C (Kd.int .u8) w A0_4 l0_4.length l0_4) (hc0_4 : l0_4.length ≤ c0_4) (h : name_inside.f k a0_0 a0_1 a0_2 l0_3 l0_4 a1 = some (r1, r2)) :
    Calls Tryz.prog 141 #[.agg #[.int .i64 a0_0, .int .i64 a0_1, .bool a0_2, .slice A0_3 l0_3.length c0_3, .slice A0_4 l0_4.length c0_4], .int .i64 a1] w fun e w' => ∃ v0_ ev_ : Value, e = .returned (.tuple #[v0_, ev_]) ∧ EV ev_ r2 ∧ Kd.S k77 77 w' w.heap.size (fun _ => True) v0_ r1 ∧ Below w.heap.size w w' := by
  have hu77 := Tryz.underlying77
  have HR0_3 := Aside0.mk hr0_3
  have HC0_3 := Aside0.mk hc0_3
  clear hr0_3 hc0_3
  have HR0_4 := Aside0.mk hr0_4
  have HC0_4 := Aside0.mk hc0_4
  clear hr0_4 hc0_4
  have HB := Aside0.mk (Below.refl w.heap.size w)
  have H : (if a0_0 = 0 then (if a0_1 = a1 then (name_inside.j0 k (!a0_2) a0_0 a0_1 a0_2 l0_3 l0_4) else (name_inside.j0 k true a0_0 a0_1 a0_2 l0_3 l0_4)) else (name_inside.j0 k true a0_0 a0_1 a0_2 l0_3 l0_4)) = some (r1, r2) := h
  clear h
  have HC3 := Aside0.mk H
  clear H
  go_enter Tryz.func141, Tryz.ntmps141
  go_upto_region 1 with (first | ((with_reducible refine gate_dst (N := 2) rfl ?_); refine box_event ?hg (N := 2) ?hd (cs := #[.int .i64 a0_0, .int .i64 a0_1, .bool a0_2, .slice A0_3 l0_3.length c0_3, .slice A0_4 l0_4.length c0_4]) (t := 77) ?hr ?_; (case hd => rfl); (case hg => rfl); (case hr => first | (go_simp; done) | (go_simp; rfl)); intro gb161 hg w4 hbox hb; have n0_ := Aside0.mk (below_step (by repeat (first | (with_reducible first | exact HB.out | apply below_alloc | apply pw_below_drewN | apply below_drew1) | exact HB.out)) hb); have n1_ := Aside0.mk (hbox); have n2_ := Aside0.mk ((by rw [hg]; exact (below_size (by repeat (first | (with_reducible first | exact HB.out | apply below_alloc | apply pw_below_drewN | apply below_drew1) | exact HB.out))) : w.heap.size ≤ gb161)); have n3_ := Aside0.mk ((by rw [hg]; exact (below_size (by repeat (first | (with_reducible first | exact HB.out | apply below_alloc | apply pw_below_drewN | apply below_drew1) | exact HB.out))) : w.heap.size ≤ gb161)); clear HB; have HB := n0_; have BK161 := n1_; have GW161 := n2_; have GE161 := n3_; clear n0_ n1_ n2_ n3_; clear hb hbox hg))
  (try simp only [Act.put, List.setIfInBounds_toArray, List.set_cons_zero, List.set_cons_succ])
  go_cut [22] (fun v22 wc => ∃ (kq : Nat) (x22_2 : Bool), v22 = .bool x22_2 ∧ Aside0 (name_inside.j0 kq x22_2 a0_0 a0_1 a0_2 l0_3 l0_4 = some (r1, r2)) ∧ Aside0 (kq ≤ k) ∧ Aside0 (wc.heap[gb161]? = some (.cells #[.int .i64 a0_0, .int .i64 a0_1, .bool a0_2, (.slice A0_3 l0_3.length c0_3), (.slice A0_4 l0_4.length c0_4)] 77 (0, 0))) ∧ Aside0 (Below w.heap.size w wc))
  case first =>
    have H := HC3.out
    clear HC3
    by_cases c5 : a0_0 = 0
    · rw [if_pos c5] at H
      have c5b0 : (a0_0 == 0) = true := beq_iff_eq.mpr c5
      have c5b1 : (a0_0 != 0) = false := bne_eq_false_iff_eq.mpr c5
      clear c5
      (first | rw [c5b0] | (simp only [i64_w, i32_w]; rw [c5b0]) | skip)
      by_cases c6 : a0_1 = a1
      · rw [if_pos c6] at H
        have c6b0 : (a0_1 == a1) = true := beq_iff_eq.mpr c6
        have c6b1 : (a0_1 != a1) = false := bne_eq_false_iff_eq.mpr c6
        clear c6
        have H' := Aside0.mk H
        clear H
        have hcz7_0 : w4.cell? ⟨gb161, 0, none⟩ = some (.int .i64 a0_0) := (blk_cell BK161.out 0).trans rfl
        have hcz7_1 : w4.cell? ⟨gb161, 1, none⟩ = some (.int .i64 a0_1) := (blk_cell BK161.out 1).trans rfl
        have hcz7_2 : w4.cell? ⟨gb161, 2, none⟩ = some (.bool a0_2) := (blk_cell BK161.out 2).trans rfl
        have hcz7_3 : w4.cell? ⟨gb161, 3, none⟩ = some (.slice A0_3 l0_3.length c0_3) := (blk_cell BK161.out 3).trans rfl
        have hcz7_4 : w4.cell? ⟨gb161, 4, none⟩ = some (.slice A0_4 l0_4.length c0_4) := (blk_cell BK161.out 4).trans rfl
        have hfz7_0 := blk_frozen BK161.out 0
        have hfz7_1 := blk_frozen BK161.out 1
        have hfz7_2 := blk_frozen BK161.out 2
        have hfz7_3 := blk_frozen BK161.out 3
        have hfz7_4 := blk_frozen BK161.out 4
        go_wp2
        go_meet
        case rel => exact ⟨_, (!a0_2), (by first | rfl | (simp; done) | (simp [*]; done)), H', ⟨by first | omega | exact Nat.le_refl _⟩, ⟨by (with_reducible repeat (first | refine blk_drewN ?_ _ | refine blk_drew ?_ | refine blk_alloc ?_ _)); exact BK161.out⟩, ⟨by repeat (first | (with_reducible first | exact HB.out | apply below_alloc | apply pw_below_drewN | apply below_drew1 | refine below_set ?_ GE161.out) | exact HB.out)⟩⟩
      · rw [if_neg c6] at H
        have c6b0 : (a0_1 == a1) = false := beq_eq_false_iff_ne.mpr c6
        have c6b1 : (a0_1 != a1) = true := bne_iff_ne.mpr c6
        have H' := Aside0.mk H
        clear H
        have hcz8_0 : w4.cell? ⟨gb161, 0, none⟩ = some (.int .i64 a0_0) := (blk_cell BK161.out 0).trans rfl
        have hcz8_1 : w4.cell? ⟨gb161, 1, none⟩ = some (.int .i64 a0_1) := (blk_cell BK161.out 1).trans rfl
        have hcz8_2 : w4.cell? ⟨gb161, 2, none⟩ = some (.bool a0_2) := (blk_cell BK161.out 2).trans rfl
        have hcz8_3 : w4.cell? ⟨gb161, 3, none⟩ = some (.slice A0_3 l0_3.length c0_3) := (blk_cell BK161.out 3).trans rfl
        have hcz8_4 : w4.cell? ⟨gb161, 4, none⟩ = some (.slice A0_4 l0_4.length c0_4) := (blk_cell BK161.out 4).trans rfl
        have hfz8_0 := blk_frozen BK161.out 0
        have hfz8_1 := blk_frozen BK161.out 1
        have hfz8_2 := blk_frozen BK161.out 2
        have hfz8_3 := blk_frozen BK161.out 3
        have hfz8_4 := blk_frozen BK161.out 4
        go_wp2
        go_meet
        case rel => exact ⟨_, (true), (by first | rfl | (simp; done) | (simp [*]; done)), H', ⟨by first | omega | exact Nat.le_refl _⟩, ⟨by (with_reducible repeat (first | refine blk_drewN ?_ _ | refine blk_drew ?_ | refine blk_alloc ?_ _)); exact BK161.out⟩, ⟨by repeat (first | (with_reducible first | exact HB.out | apply below_alloc | apply pw_below_drewN | apply below_drew1 | refine below_set ?_ GE161.out) | exact HB.out)⟩⟩
    · rw [if_neg c5] at H
      have c5b0 : (a0_0 == 0) = false := beq_eq_false_iff_ne.mpr c5
      have c5b1 : (a0_0 != 0) = true := bne_iff_ne.mpr c5
      (first | rw [c5b0] | (simp only [i64_w, i32_w]; rw [c5b0]) | skip)
      have H' := Aside0.mk H
      clear H
      have hcz9_0 : w4.cell? ⟨gb161, 0, none⟩ = some (.int .i64 a0_0) := (blk_cell BK161.out 0).trans rfl
      have hcz9_1 : w4.cell? ⟨gb161, 1, none⟩ = some (.int .i64 a0_1) := (blk_cell BK161.out 1).trans rfl
      have hcz9_2 : w4.cell? ⟨gb161, 2, none⟩ = some (.bool a0_2) := (blk_cell BK161.out 2).trans rfl
      have hcz9_3 : w4.cell? ⟨gb161, 3, none⟩ = some (.slice A0_3 l0_3.length c0_3) := (blk_cell BK161.out 3).trans rfl
      have hcz9_4 : w4.cell? ⟨gb161, 4, none⟩ = some (.slice A0_4 l0_4.length c0_4) := (blk_cell BK161.out 4).trans rfl
      have hfz9_0 := blk_frozen BK161.out 0
      have hfz9_1 := blk_frozen BK161.out 1
      have hfz9_2 := blk_frozen BK161.out 2
      have hfz9_3 := blk_frozen BK161.out 3
      have hfz9_4 := blk_frozen BK161.out 4
      go_wp2
      go_meet
      case rel => exact ⟨_, (true), (by first | rfl | (simp; done) | (simp [*]; done)), H', ⟨by first | omega | exact Nat.le_refl _⟩, ⟨by (with_reducible repeat (first | refine blk_drewN ?_ _ | refine blk_drew ?_ | refine blk_alloc ?_ _)); exact BK161.out⟩, ⟨by repeat (first | (with_reducible first | exact HB.out | apply below_alloc | apply pw_below_drewN | apply below_drew1 | refine below_set ?_ GE161.out) | exact HB.out)⟩⟩
  case rest =>
    clear HC3
    try clear c1
    try clear p2
    try clear c5
    try clear c5b0
    try clear c5b1
    try clear c6
    try clear c6b0
    try clear c6b1
    try clear hcz7_0
    try clear hcz7_1
    try clear hcz7_2
    try clear hcz7_3
    try clear hcz7_4
    try clear hcz8_0
    try clear hcz8_1
    try clear hcz8_2
    try clear hcz8_3
    try clear hcz8_4
    try clear hcz9_0
    try clear hcz9_1
    try clear hcz9_2
    try clear hcz9_3
    try clear hcz9_4
    try clear hfz7_0
    try clear hfz7_1
    try clear hfz7_2
    try clear hfz7_3
    try clear hfz7_4
    try clear hfz8_0
    try clear hfz8_1
    try clear hfz8_2
    try clear hfz8_3
    try clear hfz8_4
    try clear hfz9_0
    try clear hfz9_1
    try clear hfz9_2
    try clear hfz9_3
    try clear hfz9_4
    obtain ⟨kq, x22_2, rfl, HA, HJ2, BK161, HB⟩ := hcut
    cases kq with
    | zero => exact absurd HA.out (by simp [name_inside.j0])
    | succ kj2 =>
      have H := HA.out
      clear HA
      simp only [name_inside.j0] at H
      by_cases c10 : x22_2 = true
      · subst c10
        have H1 : (some (([] : List (S77)), 30)) = some (r1, r2) := by rw [if_pos rfl] at H; exact H
        clear H
        have H := H1
        clear H1
        simp only [Option.some.injEq, Prod.mk.injEq] at H
        obtain ⟨rfl, rfl⟩ := H
        go_wp2
        go_ret2
        exact ⟨_, _, by first | rfl | (simp [errW_none, errW_some] <;> rfl) | (simp [*, errW_none, errW_some] <;> rfl), (by first | exact EV.nil | exact EV.f30 | exact EV.f5 | exact EV.f4 | exact EV.f1 | exact EV.low (by assumption) | exact HEV_.out | exact EV.part HEV_.out), by first | exact Kd.S_nil _ _ _ _ _ | exact Kd.N_nil _ _ _ _ _ | exact Kd.V_nil _ _ _ _ _ | exact Kd.Q_nil _ _ _ _ _ | exact Kd.R_nil _ _ _ _ _, by repeat (first | (with_reducible first | exact HB.out | apply below_alloc | apply pw_below_drewN | apply below_drew1 | refine below_set ?_ GE161.out) | exact HB.out)⟩
      · replace c10 := Bool.eq_false_iff.mpr c10
        subst c10
        have H1 : ((der_Split.f kj2 l0_3).bind fun bt162 => (if bt162.2.1 = 0 then (some (bt162.1, 0)) else (some (([] : List (S77)), bt162.2.1)))) = some (r1, r2) := by rw [if_neg (show ¬ (false = true) by decide)] at H; exact H
        clear H
        have H := H1
        clear H1
        replace H := Option.bind_eq_some_iff.mp H
        obtain ⟨⟨t162, t163, t164⟩, A110, H⟩ := H
        replace H : (if t163 = 0 then (some (t162, 0)) else (some (([] : List (S77)), t163))) = some (r1, r2) := H
        have A11 := Aside0.mk A110
        clear A110
        by_cases c12 : t163 = 0
        · rw [if_pos c12] at H
          have c12b0 : (t163 == 0) = true := beq_iff_eq.mpr c12
          have c12b1 : (t163 != 0) = false := bne_eq_false_iff_eq.mpr c12
          clear c12
          simp only [Option.some.injEq, Prod.mk.injEq] at H
          obtain ⟨rfl, rfl⟩ := H
          have hcz13_0 : wc.cell? ⟨gb161, 0, none⟩ = some (.int .i64 a0_0) := (blk_cell BK161.out 0).trans rfl
          have hcz13_1 : wc.cell? ⟨gb161, 1, none⟩ = some (.int .i64 a0_1) := (blk_cell BK161.out 1).trans rfl
          have hcz13_2 : wc.cell? ⟨gb161, 2, none⟩ = some (.bool a0_2) := (blk_cell BK161.out 2).trans rfl
          have hcz13_3 : wc.cell? ⟨gb161, 3, none⟩ = some (.slice A0_3 l0_3.length c0_3) := (blk_cell BK161.out 3).trans rfl
          have hcz13_4 : wc.cell? ⟨gb161, 4, none⟩ = some (.slice A0_4 l0_4.length c0_4) := (blk_cell BK161.out 4).trans rfl
          have hfz13_0 := blk_frozen BK161.out 0
          have hfz13_1 := blk_frozen BK161.out 1
          have hfz13_2 := blk_frozen BK161.out 2
          have hfz13_3 := blk_frozen BK161.out 3
          have hfz13_4 := blk_frozen BK161.out 4
          go_wp2_with (first | ((with_reducible refine gate_callee (f := 162) rfl ?_); refine goesL_ (some 27) rfl rfl Tryz.func162 (by kernel_rfl) rfl #[.slice A0_3 l0_3.length c0_3] rfl (by (try simp only [List.map_toArray, List.map_cons, List.map_nil]); first | done | rfl | (simp only [List.length_drop, List.length_take]; rfl)) ?_; (with_reducible refine (der_Split.calls kj2 _ _ l0_3 t162 t163 t164 _ ?side1 ?side2 A11.out).mono ?_); (case side1 => repeat (first | exact (Kd.C_below HR0_3.out HB.out) | (with_reducible refine Kd.C_alloc ?_ _) | (with_reducible refine Kd.C_drewN ?_ _) | (with_reducible refine Kd.C_drew ?_))); (case side2 => exact HC0_3.out); rintro e w14 ⟨v165, rfl, ho0, hb⟩; refine ⟨_, rfl, ?_⟩; have n0_ := Aside0.mk (Kd.S_lower (Kd.S_newB ho0 (g := gb161) (o := .cells #[.int .i64 a0_0, .int .i64 a0_1, .bool a0_2, .slice A0_3 l0_3.length c0_3, .slice A0_4 l0_4.length c0_4] 77 (0, 0)) (by (with_reducible repeat (first | refine blk_drewN ?_ _ | refine blk_drew ?_ | refine blk_alloc ?_ _)); exact BK161.out)) (below_size (by repeat (first | (with_reducible first | exact HB.out | apply below_alloc | apply pw_below_drewN | apply below_drew1 | refine below_set ?_ GE161.out) | exact HB.out)))); have n1_ := Aside0.mk (blk_below (g := gb161) (o := .cells #[.int .i64 a0_0, .int .i64 a0_1, .bool a0_2, .slice A0_3 l0_3.length c0_3, .slice A0_4 l0_4.length c0_4] 77 (0, 0)) (by (with_reducible repeat (first | refine blk_drewN ?_ _ | refine blk_drew ?_ | refine blk_alloc ?_ _)); exact BK161.out) hb); have n2_ := Aside0.mk (below_step (by repeat (first | (with_reducible first | exact HB.out | apply below_alloc | apply pw_below_drewN | apply below_drew1 | refine below_set ?_ GE161.out) | exact HB.out)) hb); clear BK161; clear HB; have HO166 := n0_; have BK161 := n1_; have HB := n2_; clear n0_ n1_ n2_; (try clear hb); (try clear hb2); (try clear hk); (try clear hi); (try clear ho0)))
          go_ret2
          exact ⟨_, _, by first | rfl | (simp [errW_none, errW_some] <;> rfl) | (simp [*, errW_none, errW_some] <;> rfl), (by first | exact EV.nil | exact EV.f30 | exact EV.f5 | exact EV.f4 | exact EV.f1 | exact EV.low (by assumption) | exact HEV_.out | exact EV.part HEV_.out), by (with_reducible repeat (first | apply Kd.S_alloc | apply Kd.S_drewN | apply Kd.S_drew)); exact Kd.S_mono HO166.out (fun _ hk => trivial), by repeat (first | (with_reducible first | exact HB.out | apply below_alloc | apply pw_below_drewN | apply below_drew1 | refine below_set ?_ GE161.out) | exact HB.out)⟩
        · rw [if_neg c12] at H
          have c12b0 : (t163 == 0) = false := beq_eq_false_iff_ne.mpr c12
          have c12b1 : (t163 != 0) = true := bne_iff_ne.mpr c12
          simp only [Option.some.injEq, Prod.mk.injEq] at H
          obtain ⟨rfl, rfl⟩ := H
          have hcz15_0 : wc.cell? ⟨gb161, 0, none⟩ = some (.int .i64 a0_0) := (blk_cell BK161.out 0).trans rfl
          have hcz15_1 : wc.cell? ⟨gb161, 1, none⟩ = some (.int .i64 a0_1) := (blk_cell BK161.out 1).trans rfl
          have hcz15_2 : wc.cell? ⟨gb161, 2, none⟩ = some (.bool a0_2) := (blk_cell BK161.out 2).trans rfl
          have hcz15_3 : wc.cell? ⟨gb161, 3, none⟩ = some (.slice A0_3 l0_3.length c0_3) := (blk_cell BK161.out 3).trans rfl
          have hcz15_4 : wc.cell? ⟨gb161, 4, none⟩ = some (.slice A0_4 l0_4.length c0_4) := (blk_cell BK161.out 4).trans rfl
          have hfz15_0 := blk_frozen BK161.out 0
          have hfz15_1 := blk_frozen BK161.out 1
          have hfz15_2 := blk_frozen BK161.out 2
          have hfz15_3 := blk_frozen BK161.out 3
          have hfz15_4 := blk_frozen BK161.out 4
          go_wp2_with (first | ((with_reducible refine gate_callee (f := 162) rfl ?_); refine goesL_ (some 27) rfl rfl Tryz.func162 (by kernel_rfl) rfl #[.slice A0_3 l0_3.length c0_3] rfl (by (try simp only [List.map_toArray, List.map_cons, List.map_nil]); first | done | rfl | (simp only [List.length_drop, List.length_take]; rfl)) ?_; (with_reducible refine (der_Split.calls kj2 _ _ l0_3 t162 t163 t164 _ ?side1 ?side2 A11.out).mono ?_); (case side1 => repeat (first | exact (Kd.C_below HR0_3.out HB.out) | (with_reducible refine Kd.C_alloc ?_ _) | (with_reducible refine Kd.C_drewN ?_ _) | (with_reducible refine Kd.C_drew ?_))); (case side2 => exact HC0_3.out); rintro e w16 ⟨v165, rfl, ho0, hb⟩; refine ⟨_, rfl, ?_⟩; have n0_ := Aside0.mk (Kd.S_lower (Kd.S_newB ho0 (g := gb161) (o := .cells #[.int .i64 a0_0, .int .i64 a0_1, .bool a0_2, .slice A0_3 l0_3.length c0_3, .slice A0_4 l0_4.length c0_4] 77 (0, 0)) (by (with_reducible repeat (first | refine blk_drewN ?_ _ | refine blk_drew ?_ | refine blk_alloc ?_ _)); exact BK161.out)) (below_size (by repeat (first | (with_reducible first | exact HB.out | apply below_alloc | apply pw_below_drewN | apply below_drew1 | refine below_set ?_ GE161.out) | exact HB.out)))); have n1_ := Aside0.mk (blk_below (g := gb161) (o := .cells #[.int .i64 a0_0, .int .i64 a0_1, .bool a0_2, .slice A0_3 l0_3.length c0_3, .slice A0_4 l0_4.length c0_4] 77 (0, 0)) (by (with_reducible repeat (first | refine blk_drewN ?_ _ | refine blk_drew ?_ | refine blk_alloc ?_ _)); exact BK161.out) hb); have n2_ := Aside0.mk (below_step (by repeat (first | (with_reducible first | exact HB.out | apply below_alloc | apply pw_below_drewN | apply below_drew1 | refine below_set ?_ GE161.out) | exact HB.out)) hb); clear BK161; clear HB; have HO166 := n0_; have BK161 := n1_; have HB := n2_; clear n0_ n1_ n2_; (try clear hb); (try clear hb2); (try clear hk); (try clear hi); (try clear ho0)))
          go_ret2
          exact ⟨_, _, by first | rfl | (simp [errW_none, errW_some] <;> rfl) | (simp [*, errW_none, errW_some] <;> rfl), (by first | exact EV.nil | exact EV.f30 | exact EV.f5 | exact EV.f4 | exact EV.f1 | exact EV.low (by assumption) | exact HEV_.out | exact EV.part HEV_.out), by first | exact Kd.S_nil _ _ _ _ _ | exact Kd.N_nil _ _ _ _ _ | exact Kd.V_nil _ _ _ _ _ | exact Kd.Q_nil _ _ _ _ _ | exact Kd.R_nil _ _ _ _ _, by repeat (first | (with_reducible first | exact HB.out | apply below_alloc | apply pw_below_drewN | apply below_drew1 | refine below_set ?_ GE161.out) | exact HB.out)⟩
end Go.Proofs.YtkioddjjfifadaaGreatDoor.P
namespace Go.Proofs
open Go.Shelf
def Tryz.lays169_ren : Go.Shelf.Ren := ⟨fun | 169 => 94 | n => n, fun | 70 => 155 | 9 => 9 | 0 => 0 | 72 => 157 | 37 => 22 | 127 => 252 | 3 => 3 | 5 => 5 | n => n, fun | n => n⟩
theorem Tryz.lays169 : Go.Proofs.Lays.n169 Tryz.prog Tryz.lays169_ren := {
  mixed := by kernel_rfl
  f169 := Tryz.func94.trans (congrArg some (by kernel_rfl))
  t0 := Tryz.underlying0
  a0 := Tryz.isAgg0
  z0 := Tryz.sizeOf0
  v0 := Tryz.zeroValue0
  t3 := Tryz.underlying3
  a3 := Tryz.isAgg3
  z3 := Tryz.sizeOf3
  v3 := Tryz.zeroValue3
  t9 := Tryz.underlying9
  a9 := Tryz.isAgg9
  z9 := Tryz.sizeOf9
  v9 := Tryz.zeroValue9
  t37 := Tryz.underlying22
  a37 := Tryz.isAgg22
  z37 := Tryz.sizeOf22
  v37 := Tryz.zeroValue22
  t70 := Tryz.underlying155
  a70 := Tryz.isAgg155
  z70 := Tryz.sizeOf155
  v70 := Tryz.zeroValue155
  t72 := Tryz.underlying157
  a72 := Tryz.isAgg157
  z72 := Tryz.sizeOf157
  v72 := Tryz.zeroValue157
  t127 := Tryz.underlying252
  a127 := Tryz.isAgg252
  z127 := Tryz.sizeOf252
  v127 := Tryz.zeroValue252 }
theorem Tryz.Builder_Extra_169 : Builder.Extra Tryz.prog Tryz.lays169_ren := {
  sizeBuilder := by kernel_rfl
  liesBuilder := by kernel_rfl
  t5 := Tryz.underlying5
  a5 := Tryz.isAgg5
  z5 := Tryz.sizeOf5
  v5 := Tryz.zeroValue5
  infoByte := by kernel_rfl
  cellsByte := by kernel_rfl
  sizeByte := by kernel_rfl
  neB5 := by decide }
open Go.RowKit in
/-- (*strings.Builder).String: "String returns the accumulated string.": WHATEVER THE BUILDER HOLDS. (LAID: no walk: one application.) -/
theorem Tryz.Builder_String_any (B b : Nat) (l : List UInt8) (w : World) (h : Lib.IsBuilder 157 5 B b (Lib.byteCells l) w) (hBw : B ≤ w.heap.size) :
    Calls Tryz.prog 94 #[.pointer (some ⟨b, 0, none⟩)] w fun e w' => e = .returned (.string ⟨l.toArray⟩) ∧ Below B w w' := Any.Builder_String_any Tryz.lays169 Tryz.Builder_Extra_169 B b l w h hBw
def Tryz.lays156_ren : Go.Shelf.Ren := ⟨fun | 156 => 88 | 165 => 155 | 166 => 92 | 169 => 94 | 240 => 158 | 241 => 207 | 276 => 210 | 277 => 252 | n => n, fun | 31 => 102 | 9 => 9 | 3 => 3 | 4 => 4 | 0 => 0 | 20 => 20 | 72 => 157 | 76 => 158 | 70 => 155 | 37 => 22 | 75 => 132 | 127 => 252 | 164 => 286 | 5 => 5 | 80 => 161 | n => n, fun | n => n⟩
theorem Tryz.lays156 : Go.Proofs.Lays.n156 Tryz.prog Tryz.lays156_ren := {
  mixed := by kernel_rfl
  f156 := Tryz.func88.trans (congrArg some (by kernel_rfl))
  f165 := Tryz.func155.trans (congrArg some (by kernel_rfl))
  f166 := Tryz.func92.trans (congrArg some (by kernel_rfl))
  f169 := Tryz.func94.trans (congrArg some (by kernel_rfl))
  f240 := Tryz.func158.trans (congrArg some (by kernel_rfl))
  f241 := Tryz.func207.trans (congrArg some (by kernel_rfl))
  f276 := Tryz.func210.trans (congrArg some (by kernel_rfl))
  f277 := Tryz.func252.trans (congrArg some (by kernel_rfl))
  t0 := Tryz.underlying0
  a0 := Tryz.isAgg0
  z0 := Tryz.sizeOf0
  v0 := Tryz.zeroValue0
  t3 := Tryz.underlying3
  a3 := Tryz.isAgg3
  z3 := Tryz.sizeOf3
  v3 := Tryz.zeroValue3
  t4 := Tryz.underlying4
  a4 := Tryz.isAgg4
  z4 := Tryz.sizeOf4
  v4 := Tryz.zeroValue4
  t9 := Tryz.underlying9
  a9 := Tryz.isAgg9
  z9 := Tryz.sizeOf9
  v9 := Tryz.zeroValue9
  t20 := Tryz.underlying20
  a20 := Tryz.isAgg20
  z20 := Tryz.sizeOf20
  v20 := Tryz.zeroValue20
  t31 := Tryz.underlying102
  a31 := Tryz.isAgg102
  z31 := Tryz.sizeOf102
  v31 := Tryz.zeroValue102
  t37 := Tryz.underlying22
  a37 := Tryz.isAgg22
  z37 := Tryz.sizeOf22
  v37 := Tryz.zeroValue22
  t70 := Tryz.underlying155
  a70 := Tryz.isAgg155
  z70 := Tryz.sizeOf155
  v70 := Tryz.zeroValue155
  t72 := Tryz.underlying157
  a72 := Tryz.isAgg157
  z72 := Tryz.sizeOf157
  v72 := Tryz.zeroValue157
  t75 := Tryz.underlying132
  a75 := Tryz.isAgg132
  z75 := Tryz.sizeOf132
  v75 := Tryz.zeroValue132
  t76 := Tryz.underlying158
  a76 := Tryz.isAgg158
  z76 := Tryz.sizeOf158
  v76 := Tryz.zeroValue158
  t127 := Tryz.underlying252
  a127 := Tryz.isAgg252
  z127 := Tryz.sizeOf252
  v127 := Tryz.zeroValue252
  t164 := Tryz.underlying286
  a164 := Tryz.isAgg286
  z164 := Tryz.sizeOf286
  v164 := Tryz.zeroValue286 }
theorem Tryz.Builder_Extra_156 : Builder.Extra Tryz.prog Tryz.lays156_ren := {
  sizeBuilder := by kernel_rfl
  liesBuilder := by kernel_rfl
  t5 := Tryz.underlying5
  a5 := Tryz.isAgg5
  z5 := Tryz.sizeOf5
  v5 := Tryz.zeroValue5
  infoByte := by kernel_rfl
  cellsByte := by kernel_rfl
  sizeByte := by kernel_rfl
  neB5 := by decide }
open Go.RowKit in
/-- No element: the empty string; the world is as it was. (Whatever the slice's address and capacity: a nil slice too.) (LAID: no walk: one application.) -/
theorem Tryz.strings_Join_none (a : Option Addr) (c : Nat) (sep : ByteArray) (w : World) :
    Calls Tryz.prog 88 #[.slice a 0 c, .string sep] w fun e w' => e = .returned (.string ⟨#[]⟩) ∧ w' = w := Any.strings_Join_none Tryz.lays156 Tryz.Builder_Extra_156 a c sep w
open Go.RowKit in
/-- strings.Join: "Join concatenates the elements of its first argument to create a single string. The separator string sep is placed between elements in the resulting string.": HOWEVER MANY ELEMENTS. Below the heap's end the world is as it was. (LAID: no walk: one application.) -/
theorem Tryz.strings_Join (bk o c : Nat) (xs : List ByteArray) (sep : ByteArray) (w : World) (hcells : ∀ (j : Nat) x, xs[j]? = some x → w.cell? ⟨bk, o + j, none⟩ = some (.string x)) (hbk : bk < w.heap.size) (hN : xs.length ≤ 140737488355328) (hcap : xs.length ≤ c) (hlen : (Lib.join (xs.map (·.data.toList)) sep.data.toList).length ≤ 140737488355328) :
    Calls Tryz.prog 88 #[.slice (some ⟨bk, o, none⟩) xs.length c, .string sep] w fun e w' => e = .returned (.string ⟨(Lib.join (xs.map (·.data.toList)) sep.data.toList).toArray⟩) ∧ Below w.heap.size w w' := Any.strings_Join Tryz.lays156 Tryz.Builder_Extra_156 bk o c xs sep w hcells hbk hN hcap hlen
def Tryz.lays137_ren : Go.Shelf.Ren := ⟨fun | 137 => 154 | 217 => 206 | 266 => 251 | n => n, fun | 9 => 9 | 5 => 5 | 3 => 3 | n => n, fun | n => n⟩
theorem Tryz.lays137 : Go.Proofs.Lays.n137 Tryz.prog Tryz.lays137_ren := {
  mixed := by kernel_rfl
  f137 := Tryz.func154.trans (congrArg some (by kernel_rfl))
  f217 := Tryz.func206.trans (congrArg some (by kernel_rfl))
  f266 := Tryz.func251.trans (congrArg some (by kernel_rfl))
  t3 := Tryz.underlying3
  a3 := Tryz.isAgg3
  z3 := Tryz.sizeOf3
  v3 := Tryz.zeroValue3
  t5 := Tryz.underlying5
  a5 := Tryz.isAgg5
  z5 := Tryz.sizeOf5
  v5 := Tryz.zeroValue5
  t9 := Tryz.underlying9
  a9 := Tryz.isAgg9
  z9 := Tryz.sizeOf9
  v9 := Tryz.zeroValue9 }
open Go.RowKit in
/-- strings.IndexByte: "IndexByte returns the index of the first instance of c in s, or -1 if c is not present in s.": IT RETURNS 'Lib.indexByte s c'; the world is as it was. (LAID: no walk: one application.) -/
theorem Tryz.strings_IndexByte (s : ByteArray) (c : Int) (w : World) :
    Calls Tryz.prog 154 #[.string s, .int .u8 c] w fun e w' => e = .returned (.int .i64 (Lib.indexByte s.data.toList c.toNat.toUInt8)) ∧ w' = w := Any.strings_IndexByte Tryz.lays137 s c w
def Tryz.lays242_ren : Go.Shelf.Ren := ⟨fun | 242 => 249 | 278 => 285 | n => n, fun | 37 => 22 | 21 => 21 | 51 => 323 | 4 => 4 | 5 => 5 | 46 => 245 | n => n, fun | n => n⟩
theorem Tryz.lays242 : Go.Proofs.Lays.n242 Tryz.prog Tryz.lays242_ren := {
  mixed := by kernel_rfl
  f242 := Tryz.func249.trans (congrArg some (by kernel_rfl))
  f278 := Tryz.func285.trans (congrArg some (by kernel_rfl))
  t4 := Tryz.underlying4
  a4 := Tryz.isAgg4
  z4 := Tryz.sizeOf4
  v4 := Tryz.zeroValue4
  t5 := Tryz.underlying5
  a5 := Tryz.isAgg5
  z5 := Tryz.sizeOf5
  v5 := Tryz.zeroValue5
  t21 := Tryz.underlying21
  a21 := Tryz.isAgg21
  z21 := Tryz.sizeOf21
  v21 := Tryz.zeroValue21
  t37 := Tryz.underlying22
  a37 := Tryz.isAgg22
  z37 := Tryz.sizeOf22
  v37 := Tryz.zeroValue22
  t46 := Tryz.underlying245
  a46 := Tryz.isAgg245
  z46 := Tryz.sizeOf245
  v46 := Tryz.zeroValue245
  t51 := Tryz.underlying323
  a51 := Tryz.isAgg323
  z51 := Tryz.sizeOf323
  v51 := Tryz.zeroValue323 }
open Go.RowKit in
/-- unicode/utf8.AppendRune: "AppendRune appends the UTF-8 encoding of r to the end of p and returns the extended buffer. If the rune is out of range, it appends the encoding of RuneError.": ONTO A ROW OF BYTES THAT THE CALL OWNS (its head frozen or not): EVERY int32: 'Lib.runeCells r' goes in behind what the row holds; the world: one new block (the bytes as the call's variadic argument), then what 'append' does to the row. (LAID: no walk: one application.) -/
theorem Tryz.utf8_AppendRune_plain (B : Nat) (v : Value) (n : Nat) (xs : List Value) (r : Int) (hr0 : -2147483648 ≤ r) (hr1 : r ≤ 2147483647) (w : World) (hown : w.ownsRow B 5 1 v n xs) (hlen : n + 4 ≤ 140737488355328) (hBw : B ≤ w.heap.size) :
    Calls Tryz.prog 249 #[v, .int .i32 r] w fun e w' => ∃ v', e = .returned v' ∧ w'.ownsRow B 5 1 v' (n + (Lib.runeCells r).length) (xs ++ Lib.runeCells r) ∧ ∃ o, (w.alloc o).grownBy w' v.ownBlock := Any.utf8_AppendRune_plain Tryz.lays242 (by kernel_rfl) B v n xs r hr0 hr1 w hown hlen hBw
def Tryz.laysM171_ren : Go.Shelf.Ren := ⟨fun | 171 => 160 | 243 => 212 | 246 => 255 | 283 => 287 | 284 => 288 | 285 => 289 | 286 => 290 | 129 => 248 | 317 => 304 | 318 => 305 | 319 => 306 | 320 => 307 | 337 => 316 | 338 => 317 | n => n, fun | 3 => 3 | 9 => 9 | 2 => 2 | 4 => 4 | 171 => 404 | 0 => 0 | 53 => 278 | 37 => 22 | 5 => 5 | 173 => 406 | 212 => 419 | 51 => 323 | 20 => 20 | 213 => 420 | 46 => 245 | 232 => 427 | 233 => 428 | n => n, fun | 17 => 4 | 18 => 5 | 19 => 6 | n => n⟩
theorem Tryz.laysM171 : Go.Proofs.LaysM.n171 Tryz.prog Tryz.laysM171_ren := {
  mixed := by kernel_rfl
  f129 := Tryz.func248.trans (congrArg some (by kernel_rfl))
  f171 := Tryz.func160.trans (congrArg some (by kernel_rfl))
  f243 := Tryz.func212.trans (congrArg some (by kernel_rfl))
  f246 := Tryz.func255.trans (congrArg some (by kernel_rfl))
  f283 := Tryz.func287.trans (congrArg some (by kernel_rfl))
  f284 := Tryz.func288.trans (congrArg some (by kernel_rfl))
  f285 := Tryz.func289.trans (congrArg some (by kernel_rfl))
  f286 := Tryz.func290.trans (congrArg some (by kernel_rfl))
  f317 := Tryz.func304.trans (congrArg some (by kernel_rfl))
  f318 := Tryz.func305.trans (congrArg some (by kernel_rfl))
  f319 := Tryz.func306.trans (congrArg some (by kernel_rfl))
  f320 := Tryz.func307.trans (congrArg some (by kernel_rfl))
  f337 := Tryz.func316.trans (congrArg some (by kernel_rfl))
  f338 := Tryz.func317.trans (congrArg some (by kernel_rfl))
  t0 := Tryz.underlying0
  a0 := Tryz.isAgg0
  z0 := Tryz.sizeOf0
  v0 := Tryz.zeroValue0
  t2 := Tryz.underlying2
  a2 := Tryz.isAgg2
  z2 := Tryz.sizeOf2
  v2 := Tryz.zeroValue2
  t3 := Tryz.underlying3
  a3 := Tryz.isAgg3
  z3 := Tryz.sizeOf3
  v3 := Tryz.zeroValue3
  t4 := Tryz.underlying4
  a4 := Tryz.isAgg4
  z4 := Tryz.sizeOf4
  v4 := Tryz.zeroValue4
  t5 := Tryz.underlying5
  a5 := Tryz.isAgg5
  z5 := Tryz.sizeOf5
  v5 := Tryz.zeroValue5
  t9 := Tryz.underlying9
  a9 := Tryz.isAgg9
  z9 := Tryz.sizeOf9
  v9 := Tryz.zeroValue9
  t20 := Tryz.underlying20
  a20 := Tryz.isAgg20
  z20 := Tryz.sizeOf20
  v20 := Tryz.zeroValue20
  t37 := Tryz.underlying22
  a37 := Tryz.isAgg22
  z37 := Tryz.sizeOf22
  v37 := Tryz.zeroValue22
  t46 := Tryz.underlying245
  a46 := Tryz.isAgg245
  z46 := Tryz.sizeOf245
  v46 := Tryz.zeroValue245
  t51 := Tryz.underlying323
  a51 := Tryz.isAgg323
  z51 := Tryz.sizeOf323
  v51 := Tryz.zeroValue323
  t53 := Tryz.underlying278
  a53 := Tryz.isAgg278
  z53 := Tryz.sizeOf278
  v53 := Tryz.zeroValue278
  t171 := Tryz.underlying404
  a171 := Tryz.isAgg404
  z171 := Tryz.sizeOf404
  v171 := Tryz.zeroValue404
  t173 := Tryz.underlying406
  a173 := Tryz.isAgg406
  z173 := Tryz.sizeOf406
  v173 := Tryz.zeroValue406
  t212 := Tryz.underlying419
  a212 := Tryz.isAgg419
  z212 := Tryz.sizeOf419
  v212 := Tryz.zeroValue419
  t213 := Tryz.underlying420
  a213 := Tryz.isAgg420
  z213 := Tryz.sizeOf420
  t232 := Tryz.underlying427
  a232 := Tryz.isAgg427
  z232 := Tryz.sizeOf427
  v232 := Tryz.zeroValue427
  t233 := Tryz.underlying428
  a233 := Tryz.isAgg428
  z233 := Tryz.sizeOf428
  v233 := Tryz.zeroValue428
  g17 := by kernel_rfl
  g18 := by kernel_rfl
  g19 := by kernel_rfl
  i0 := by kernel_rfl
  i2 := by kernel_rfl
  i3 := by kernel_rfl
  i4 := by kernel_rfl
  i5 := by kernel_rfl
  i9 := by kernel_rfl
  i20 := by kernel_rfl
  i37 := by kernel_rfl
  i46 := by kernel_rfl
  i51 := by kernel_rfl
  i53 := by kernel_rfl
  i171 := by kernel_rfl
  i173 := by kernel_rfl
  i212 := by kernel_rfl
  i232 := by kernel_rfl
  i233 := by kernel_rfl
  m17 := by kernel_rfl
  m18 := by kernel_rfl
  m19 := by kernel_rfl }
open Go.RowKit Go.Sort Go.Lib in
/-- strconv.Itoa: "Itoa is equivalent to FormatInt(int64(i), 10).": i's DECIMAL NUMERAL ('Lib.itoa': a '-' where i is negative, then the digits), FOR EVERY int. The world behind the call: the world before it, new blocks behind the heap (the library's 'var a [24]byte'), draws. (LAID: no walk: one application.) -/
theorem Tryz.strconv_Itoa (n : Int) (h0 : -9223372036854775808 ≤ n) (h1 : n ≤ 9223372036854775807) (w : World) (htab : Lib.TabIs Tryz.prog w "internal/strconv.uint64pow10" .u64 Lib.pow10Tab) :
    Calls Tryz.prog 160 #[.int .i64 n] w fun e w' => e = .returned (.string ⟨(Lib.itoa n).toArray⟩) ∧ ∃ k os, w' = grow (w.drewN k) os := Any.strconv_Itoa Tryz.laysM171 n h0 h1 w htab
def Tryz.lays190_ren : Go.Shelf.Ren := ⟨fun | 190 => 161 | 125 => 201 | 258 => 213 | 128 => 247 | 129 => 248 | 302 => 256 | 303 => 257 | 304 => 258 | 305 => 259 | 306 => 260 | 307 => 261 | 308 => 262 | 309 => 263 | 310 => 264 | 333 => 291 | 329 => 281 | 330 => 282 | 334 => 292 | 335 => 293 | 336 => 294 | 344 => 308 | n => n, fun | 31 => 102 | 9 => 9 | 3 => 3 | 46 => 245 | 0 => 0 | 51 => 323 | 53 => 278 | 4 => 4 | 183 => 355 | 182 => 354 | 131 => 359 | 5 => 5 | 218 => 398 | 222 => 402 | 228 => 416 | 229 => 195 | n => n, fun | n => n⟩
theorem Tryz.lays190 : Go.Proofs.Lays.n190 Tryz.prog Tryz.lays190_ren := {
  mixed := by kernel_rfl
  f125 := Tryz.func201.trans (congrArg some (by kernel_rfl))
  f128 := Tryz.func247.trans (congrArg some (by kernel_rfl))
  f129 := Tryz.func248.trans (congrArg some (by kernel_rfl))
  f190 := Tryz.func161.trans (congrArg some (by kernel_rfl))
  f258 := Tryz.func213.trans (congrArg some (by kernel_rfl))
  f302 := Tryz.func256.trans (congrArg some (by kernel_rfl))
  f303 := Tryz.func257.trans (congrArg some (by kernel_rfl))
  f304 := Tryz.func258.trans (congrArg some (by kernel_rfl))
  f305 := Tryz.func259.trans (congrArg some (by kernel_rfl))
  f306 := Tryz.func260.trans (congrArg some (by kernel_rfl))
  f307 := Tryz.func261.trans (congrArg some (by kernel_rfl))
  f308 := Tryz.func262.trans (congrArg some (by kernel_rfl))
  f309 := Tryz.func263.trans (congrArg some (by kernel_rfl))
  f310 := Tryz.func264.trans (congrArg some (by kernel_rfl))
  f329 := Tryz.func281.trans (congrArg some (by kernel_rfl))
  f330 := Tryz.func282.trans (congrArg some (by kernel_rfl))
  f333 := Tryz.func291.trans (congrArg some (by kernel_rfl))
  f334 := Tryz.func292.trans (congrArg some (by kernel_rfl))
  f335 := Tryz.func293.trans (congrArg some (by kernel_rfl))
  f336 := Tryz.func294.trans (congrArg some (by kernel_rfl))
  f344 := Tryz.func308.trans (congrArg some (by kernel_rfl))
  t0 := Tryz.underlying0
  a0 := Tryz.isAgg0
  z0 := Tryz.sizeOf0
  v0 := Tryz.zeroValue0
  t3 := Tryz.underlying3
  a3 := Tryz.isAgg3
  z3 := Tryz.sizeOf3
  v3 := Tryz.zeroValue3
  t4 := Tryz.underlying4
  a4 := Tryz.isAgg4
  z4 := Tryz.sizeOf4
  v4 := Tryz.zeroValue4
  t5 := Tryz.underlying5
  a5 := Tryz.isAgg5
  z5 := Tryz.sizeOf5
  v5 := Tryz.zeroValue5
  t9 := Tryz.underlying9
  a9 := Tryz.isAgg9
  z9 := Tryz.sizeOf9
  v9 := Tryz.zeroValue9
  t31 := Tryz.underlying102
  a31 := Tryz.isAgg102
  z31 := Tryz.sizeOf102
  v31 := Tryz.zeroValue102
  t46 := Tryz.underlying245
  a46 := Tryz.isAgg245
  z46 := Tryz.sizeOf245
  v46 := Tryz.zeroValue245
  t51 := Tryz.underlying323
  a51 := Tryz.isAgg323
  z51 := Tryz.sizeOf323
  v51 := Tryz.zeroValue323
  t53 := Tryz.underlying278
  a53 := Tryz.isAgg278
  z53 := Tryz.sizeOf278
  v53 := Tryz.zeroValue278
  t131 := Tryz.underlying359
  a131 := Tryz.isAgg359
  z131 := Tryz.sizeOf359
  v131 := Tryz.zeroValue359
  t182 := Tryz.underlying354
  a182 := Tryz.isAgg354
  z182 := Tryz.sizeOf354
  v182 := Tryz.zeroValue354
  t183 := Tryz.underlying355
  a183 := Tryz.isAgg355
  z183 := Tryz.sizeOf355
  v183 := Tryz.zeroValue355
  t218 := Tryz.underlying398
  a218 := Tryz.isAgg398
  z218 := Tryz.sizeOf398
  v218 := Tryz.zeroValue398
  t222 := Tryz.underlying402
  a222 := Tryz.isAgg402
  z222 := Tryz.sizeOf402
  v222 := Tryz.zeroValue402
  t228 := Tryz.underlying416
  a228 := Tryz.isAgg416
  z228 := Tryz.sizeOf416
  v228 := Tryz.zeroValue416
  t229 := Tryz.underlying195
  a229 := Tryz.isAgg195
  z229 := Tryz.sizeOf195
  v229 := Tryz.zeroValue195 }
open Go.Sort Go.RowKit in
theorem Tryz.slices_Sort_string (blk off cap : Nat) (ss : List (List UInt8)) (w : World) (hH : Holds encStr w blk off ss.toArray) (hblk : blk < w.heap.size) (hsz : ss.length < 4611686018427387904) :
    Calls Tryz.prog 161 #[.slice (some ⟨blk, off, none⟩) ss.length cap] w fun e w' =>
      e = .returned (.tuple #[]) ∧ ∃ n os, w' = grow (putRow encStr (Sort.ahead w n) blk off (ss.mergeSort fun x y => decide (x ≤ y)).toArray) os := Any.slices_Sort_string Tryz.lays190 blk off cap ss w hH hblk hsz
def Tryz.lays197_ren : Go.Shelf.Ren := ⟨fun | 197 => 254 | 260 => 286 | n => n, fun | 9 => 9 | 21 => 21 | 3 => 3 | 4 => 4 | 5 => 5 | 105 => 370 | 119 => 365 | 0 => 0 | 46 => 245 | 139 => 368 | 138 => 367 | n => n, fun | 3 => 2 | 4 => 3 | n => n⟩
theorem Tryz.lays197 : Go.Proofs.Lays.n197 Tryz.prog Tryz.lays197_ren := {
  mixed := by kernel_rfl
  f197 := Tryz.func254.trans (congrArg some (by kernel_rfl))
  f260 := Tryz.func286.trans (congrArg some (by kernel_rfl))
  t0 := Tryz.underlying0
  a0 := Tryz.isAgg0
  z0 := Tryz.sizeOf0
  v0 := Tryz.zeroValue0
  t3 := Tryz.underlying3
  a3 := Tryz.isAgg3
  z3 := Tryz.sizeOf3
  v3 := Tryz.zeroValue3
  t4 := Tryz.underlying4
  a4 := Tryz.isAgg4
  z4 := Tryz.sizeOf4
  v4 := Tryz.zeroValue4
  t5 := Tryz.underlying5
  a5 := Tryz.isAgg5
  z5 := Tryz.sizeOf5
  v5 := Tryz.zeroValue5
  t9 := Tryz.underlying9
  a9 := Tryz.isAgg9
  z9 := Tryz.sizeOf9
  v9 := Tryz.zeroValue9
  t21 := Tryz.underlying21
  a21 := Tryz.isAgg21
  z21 := Tryz.sizeOf21
  v21 := Tryz.zeroValue21
  t46 := Tryz.underlying245
  a46 := Tryz.isAgg245
  z46 := Tryz.sizeOf245
  v46 := Tryz.zeroValue245
  t105 := Tryz.underlying370
  a105 := Tryz.isAgg370
  z105 := Tryz.sizeOf370
  v105 := Tryz.zeroValue370
  t119 := Tryz.underlying365
  a119 := Tryz.isAgg365
  z119 := Tryz.sizeOf365
  t138 := Tryz.underlying367
  a138 := Tryz.isAgg367
  z138 := Tryz.sizeOf367
  v138 := Tryz.zeroValue367
  t139 := Tryz.underlying368
  a139 := Tryz.isAgg368
  z139 := Tryz.sizeOf368
  v139 := Tryz.zeroValue368
  g3 := by kernel_rfl
  g4 := by kernel_rfl }
open Go.RowKit Go.Lib in
/-- **unicode/utf8.DecodeRuneInString AT EVERY STRING.** (LAID: no walk: one application.) -/
theorem Tryz.utf8_DecodeRuneInString (s : ByteArray) (w : World) (hT : Lib.Utf8Tabs 2 3 w) :
    Calls Tryz.prog 254 #[.string s] w fun e w' => e = .returned (.tuple #[.int .i32 (Lib.decodeGo s).1, .int .i64 (Lib.decodeGo s).2]) ∧ Below w.heap.size w w' := Any.utf8_DecodeRuneInString Tryz.lays197 s w hT
open Go.RowKit Go.Sort in
/-- .. and plain. (LAID: no walk: one application.) -/
theorem Tryz.slices_Sort_string_none (p : Option Addr) (cap : Nat) (w : World) :
    Calls Tryz.prog 161 #[.slice p 0 cap] w fun e w' => e = .returned (.tuple #[]) ∧ w' = w := Any.slices_Sort_string_none Tryz.lays190 p cap w
end Go.Proofs
namespace Go.Proofs.YtkioddjjfifadaaGreatDoor.P
open Go.RowKit Go.Proofs.YtkioddjjfifadaaGreatDoorW.PrintWords Go.Proofs.YtkioddjjfifadaaGreatDoorW.PrintLast Go.Proofs.YtkioddjjfifadaaGreatDoorW.PrintMore
/-- The tables of internal/strconv and of unicode/utf8 hold what their initialisers say. -/
structure Tb (w : World) : Prop where
  pow : Lib.TabIs Tryz.prog w "internal/strconv.uint64pow10" .u64 Lib.pow10Tab
  utf : Lib.Utf8Tabs 2 3 w
  big : 7 ≤ w.heap.size
theorem Tb.below {w w1 : World} (h : Tb w) (hb : Below w.heap.size w w1) : Tb w1 := by
  refine ⟨?_, Go.Proofs.Utf8Tabs_below h.utf hb, Nat.le_trans h.big hb.size⟩
  have h0 := h.pow
  unfold Lib.TabIs World.var? at h0 ⊢
  rw [show Tryz.prog.globalNamed "internal/strconv.uint64pow10" = some 4 by kernel_rfl, Option.bind_some] at h0 ⊢
  rw [hb.block 4 (by have := h.big; omega)]
  exact h0
def strings_IndexByte.f (a0 : ByteArray) (a1 : Int) : Option Int := some (Lib.indexByte a0.data.toList a1.toNat.toUInt8)
theorem strings_IndexByte.calls (a0 : ByteArray) (a1 : Int) (r : Int) (w : World) (h : strings_IndexByte.f a0 a1 = some r) :
    Calls Tryz.prog 154 #[.string a0, .int .u8 a1] w fun e w' => e = .returned (.int .i64 r) ∧ Below w.heap.size w w' := by
  obtain rfl := Option.some.inj h
  refine (Tryz.strings_IndexByte a0 a1 w).mono ?_
  rintro e w' ⟨rfl, rfl⟩
  exact ⟨rfl, Below.refl _ _⟩
def strconv_Itoa.f (a0 : Int) : Option ByteArray := if -9223372036854775808 ≤ a0 ∧ a0 ≤ 9223372036854775807 then some ⟨(Lib.itoa a0).toArray⟩ else none
theorem strconv_Itoa.calls (a0 : Int) (r : ByteArray) (w : World) (h : strconv_Itoa.f a0 = some r) (hH : Tb w) :
    Calls Tryz.prog 160 #[.int .i64 a0] w fun e w' => e = .returned (.string r) ∧ Below w.heap.size w w' := by
  unfold strconv_Itoa.f at h
  split at h
  · rename_i hr
    obtain rfl := Option.some.inj h
    refine (Tryz.strconv_Itoa a0 hr.1 hr.2 w hH.pow).mono ?_
    rintro e w' ⟨rfl, k, os, rfl⟩
    exact ⟨rfl, Lib.below_grow _ w (Nat.le_refl _) k os⟩
  · cases h
end Go.Proofs.YtkioddjjfifadaaGreatDoor.P
namespace Go.Proofs.YtkioddjjfifadaaGreatDoor.P
open Go.RowKit Go.Proofs.YtkioddjjfifadaaGreatDoorW.PrintWords Go.Proofs.YtkioddjjfifadaaGreatDoorW.PrintLast Go.Proofs.YtkioddjjfifadaaGreatDoorW.PrintMore
attribute [local go_sem] max2_int min2_int max_two min_two max_three min_three max_four min_four   -- for this text's walks alone
set_option linter.unusedVariables false
set_option linter.unusedSimpArgs false
mutual
def der_Oid.j0 : Nat → List Int → Bool → Option (ByteArray × Int)
  | 0, _, _ => none
  | k + 1, x0, x22 => if x22 = true then (some ((⟨#[]⟩ : ByteArray), 6)) else (der_Oid.l0 k x0 x0 (x0.length : Int) 0)
def der_Oid.l0 : Nat → List Int → List Int → Int → Int → Option (ByteArray × Int)
  | 0, _, _, _, _ => none
  | k + 1, x0, x23, x24, x25 => if x25 < x24 then (if 0 ≤ x25 then (if x25 < (x23.length : Int) then (if (rd x23 x25) = 128 then (if x25 = 0 then (some ((⟨#[]⟩ : ByteArray), 6)) else (if 0 ≤ (wrap64 (x25 - 1)) then (if (wrap64 (x25 - 1)) < (x0.length : Int) then (if (rd x0 (wrap64 (x25 - 1))) < 128 then (some ((⟨#[]⟩ : ByteArray), 6)) else (der_Oid.l0 k x0 x23 x24 (wrap64 (x25 + 1)))) else (none)) else (none))) else (der_Oid.l0 k x0 x23 x24 (wrap64 (x25 + 1)))) else (none)) else (none)) else (der_Oid.l1 k (⟨#[]⟩ : ByteArray) 0 x0 (x0.length : Int) 0)
def der_Oid.l1 : Nat → ByteArray → Int → List Int → Int → Int → Option (ByteArray × Int)
  | 0, _, _, _, _, _ => none
  | k + 1, x6, x7, x45, x46, x47 => if x47 < x46 then (if 0 ≤ x47 then (if x47 < (x45.length : Int) then (if (rd x45 x47) ≥ 128 then (der_Oid.l1 k x6 (mn (Go.bits .or .u64 (IntKind.u64.wrap (x7 * 128)) (IntKind.u64.wrap (Go.bits .and .u8 (rd x45 x47) 127))) 1099511627776) x45 x46 (wrap64 (x47 + 1))) else (if x6.toList = ([] : List UInt8) then ((strconv_Itoa.f (wrap64 (mn (IntKind.u64.wrap (Int.tdiv (mn (Go.bits .or .u64 (IntKind.u64.wrap (x7 * 128)) (IntKind.u64.wrap (Go.bits .and .u8 (rd x45 x47) 127))) 1099511627776) 40)) 2))).bind fun t179 => (if (IntKind.u64.wrap ((mn (Go.bits .or .u64 (IntKind.u64.wrap (x7 * 128)) (IntKind.u64.wrap (Go.bits .and .u8 (rd x45 x47) 127))) 1099511627776) - (IntKind.u64.wrap (40 * (mn (IntKind.u64.wrap (Int.tdiv (mn (Go.bits .or .u64 (IntKind.u64.wrap (x7 * 128)) (IntKind.u64.wrap (Go.bits .and .u8 (rd x45 x47) 127))) 1099511627776) 40)) 2))))) > 2147483647 then (some ((⟨#[]⟩ : ByteArray), 3)) else ((strconv_Itoa.f (wrap64 (IntKind.u64.wrap ((mn (Go.bits .or .u64 (IntKind.u64.wrap (x7 * 128)) (IntKind.u64.wrap (Go.bits .and .u8 (rd x45 x47) 127))) 1099511627776) - (IntKind.u64.wrap (40 * (mn (IntKind.u64.wrap (Int.tdiv (mn (Go.bits .or .u64 (IntKind.u64.wrap (x7 * 128)) (IntKind.u64.wrap (Go.bits .and .u8 (rd x45 x47) 127))) 1099511627776) 40)) 2))))))).bind fun t180 => (if 1 + t180.size ≤ 9223372036854775807 then (if t179.size + ((⟨#[46]⟩ : ByteArray) ++ t180).size ≤ 9223372036854775807 then (der_Oid.l1 k (t179 ++ ((⟨#[46]⟩ : ByteArray) ++ t180)) 0 x45 x46 (wrap64 (x47 + 1))) else (none)) else (none))))) else (if (mn (Go.bits .or .u64 (IntKind.u64.wrap (x7 * 128)) (IntKind.u64.wrap (Go.bits .and .u8 (rd x45 x47) 127))) 1099511627776) > 2147483647 then (some ((⟨#[]⟩ : ByteArray), 3)) else ((strconv_Itoa.f (wrap64 (mn (Go.bits .or .u64 (IntKind.u64.wrap (x7 * 128)) (IntKind.u64.wrap (Go.bits .and .u8 (rd x45 x47) 127))) 1099511627776))).bind fun t181 => (if 1 + t181.size ≤ 9223372036854775807 then (if x6.size + ((⟨#[46]⟩ : ByteArray) ++ t181).size ≤ 9223372036854775807 then (der_Oid.l1 k (x6 ++ ((⟨#[46]⟩ : ByteArray) ++ t181)) 0 x45 x46 (wrap64 (x47 + 1))) else (none)) else (none)))))) else (none)) else (none)) else (some (x6, 0))
end
def der_Oid.f (k : Nat) (l0 : List Int) : Option (ByteArray × Int) := if (l0.length : Int) = 0 then (der_Oid.j0 k l0 true) else (if 0 ≤ (wrap64 ((l0.length : Int) - 1)) then (if (wrap64 ((l0.length : Int) - 1)) < (l0.length : Int) then (der_Oid.j0 k l0 (decide ((rd l0 (wrap64 ((l0.length : Int) - 1))) ≥ 128))) else (none)) else (none))
set_option maxHeartbeats 8000000 in
set_option maxRecDepth 100000 in
theorem der_Oid.calls (k : Nat) (A0 : Option Addr) (c0 : Nat) (l0 : List Int) (r1 : ByteArray) (r2 : Int) (w : World) (hr0 : Kd.C (Kd.int .u8) w A0 l0.length l0) (hc0 : l0.length ≤ c0) (h : der_Oid.f k l0 = some (r1, r2)) (hH : Tb w) :
    Calls Tryz.prog 163 #[.slice A0 l0.length c0] w fun e w' => e = .returned (.tuple #[.string r1, .int .i64 r2]) ∧ Below w.heap.size w w' := by
  have HR0 := Aside0.mk hr0
  have HC0 := Aside0.mk hc0
  clear hr0 hc0
  have HB := Aside0.mk (Below.refl w.heap.size w)
  have HHd := Aside0.mk hH
  clear hH
  have H : (if (l0.length : Int) = 0 then (der_Oid.j0 k l0 true) else (if 0 ≤ (wrap64 ((l0.length : Int) - 1)) then (if (wrap64 ((l0.length : Int) - 1)) < (l0.length : Int) then (der_Oid.j0 k l0 (decide ((rd l0 (wrap64 ((l0.length : Int) - 1))) ≥ 128))) else (none)) else (none))) = some (r1, r2) := h
  clear h
  have HC2 := Aside0.mk H
  clear H
  go_enter Tryz.func163, Tryz.ntmps163
  go_upto_region 1 with (fail)
  go_cut [22] (fun v22 wc => ∃ (kq : Nat) (x22_1 : Bool), v22 = .bool x22_1 ∧ Aside0 (der_Oid.j0 kq l0 x22_1 = some (r1, r2)) ∧ Aside0 (kq ≤ k) ∧ Aside0 (Below w.heap.size w wc))
  case first =>
    have H := HC2.out
    clear HC2
    by_cases c3 : (l0.length : Int) = 0
    · rw [if_pos c3] at H
      have c3b0 : ((l0.length : Int) == 0) = true := beq_iff_eq.mpr c3
      have c3b1 : ((l0.length : Int) != 0) = false := bne_eq_false_iff_eq.mpr c3
      clear c3
      (first | rw [c3b0] | (simp only [i64_w, i32_w]; rw [c3b0]) | skip)
      have H' := Aside0.mk H
      clear H
      go_wp2
      go_meet
      case rel => exact ⟨_, (true), (by first | rfl | (simp; done) | (simp [*]; done)), H', ⟨by first | omega | exact Nat.le_refl _⟩, ⟨by repeat (first | (with_reducible first | exact HB.out | apply below_alloc | apply pw_below_drewN | apply below_drew1) | exact HB.out)⟩⟩
    · rw [if_neg c3] at H
      have c3b0 : ((l0.length : Int) == 0) = false := beq_eq_false_iff_ne.mpr c3
      have c3b1 : ((l0.length : Int) != 0) = true := bne_iff_ne.mpr c3
      have c3b2 : ¬ (l0 = []) := fun h_ => c3 (by rw [h_]; rfl)
      (first | rw [c3b0] | (simp only [i64_w, i32_w]; rw [c3b0]) | skip)
      by_cases c4 : 0 ≤ (wrap64 ((l0.length : Int) - 1))
      · rw [if_pos c4] at H
        have c4b0 : decide (0 ≤ (wrap64 ((l0.length : Int) - 1))) = true := decide_eq_true c4
        clear c4
        by_cases c5 : (wrap64 ((l0.length : Int) - 1)) < (l0.length : Int)
        · rw [if_pos c5] at H
          have c5b0 : decide ((wrap64 ((l0.length : Int) - 1)) < (l0.length : Int)) = true := decide_eq_true c5
          clear c5
          have H' := Aside0.mk H
          clear H
          have p175 : 0 ≤ ((wrap64 ((l0.length : Int) - 1)) : Int) := of_decide_eq_true (by first | (with_reducible assumption) | assumption)
          have q175 : (wrap64 ((l0.length : Int) - 1)) < (l0.length : Int) := of_decide_eq_true (by first | (with_reducible assumption) | assumption)
          obtain ⟨ad175, e175, hx175_0⟩ := Kd.at_int HR0.out (wrap64 ((l0.length : Int) - 1)) p175 q175
          cases e175
          replace hx175_0 := (HB.out.cell (World.block_lt_of_cell? w _ hx175_0)).trans hx175_0
          replace p175 := eq_true p175
          replace q175 := eq_true q175
          go_wp2
          go_meet
          case rel => exact ⟨_, (decide ((rd l0 (wrap64 ((l0.length : Int) - 1))) ≥ 128)), (by first | rfl | (simp; done) | (simp [*]; done)), H', ⟨by first | omega | exact Nat.le_refl _⟩, ⟨by repeat (first | (with_reducible first | exact HB.out | apply below_alloc | apply pw_below_drewN | apply below_drew1) | exact HB.out)⟩⟩
        · rw [if_neg c5] at H
          exact absurd H (by simp)
      · rw [if_neg c4] at H
        exact absurd H (by simp)
  case rest =>
    clear HC2
    try clear c1
    try clear p1
    try clear q1
    try clear hx1
    try clear p2
    try clear c3
    try clear c3b0
    try clear c3b1
    try clear c3b2
    try clear c4
    try clear c4b0
    try clear c5
    try clear c5b0
    try clear hx175_0
    try clear p175
    try clear q175
    obtain ⟨kq, x22_1, rfl, HA, HJ1, HB⟩ := hcut
    cases kq with
    | zero => exact absurd HA.out (by simp [der_Oid.j0])
    | succ kj1 =>
      have H := HA.out
      clear HA
      simp only [der_Oid.j0] at H
      by_cases c6 : x22_1 = true
      · subst c6
        have H1 : (some ((⟨#[]⟩ : ByteArray), 6)) = some (r1, r2) := by rw [if_pos rfl] at H; exact H
        clear H
        have H := H1
        clear H1
        simp only [Option.some.injEq, Prod.mk.injEq] at H
        obtain ⟨rfl, rfl⟩ := H
        go_wp2
        go_ret2
        exact ⟨by first | rfl | (simp [errW_none, errW_some] <;> rfl) | (simp [*, errW_none, errW_some] <;> rfl), by repeat (first | (with_reducible first | exact HB.out | apply below_alloc | apply pw_below_drewN | apply below_drew1) | exact HB.out)⟩
      · replace c6 := Bool.eq_false_iff.mpr c6
        subst c6
        have H1 : (der_Oid.l0 kj1 l0 l0 (l0.length : Int) 0) = some (r1, r2) := by rw [if_neg (show ¬ (false = true) by decide)] at H; exact H
        clear H
        have H := H1
        clear H1
        have H' := Aside0.mk H
        clear H
        go_wp2
        go_loopg [25] kj1 (fun kq v25 w' => ∃ (x25_2 : Int), v25 = .int .i64 x25_2 ∧ Aside0 (der_Oid.l0 kq l0 l0 (l0.length : Int) x25_2 = some (r1, r2)) ∧ Aside0 (kq ≤ kj1) ∧ Aside0 (Below w.heap.size w w'))
        case atStart => exact ⟨(0), (by first | rfl | (simp; done) | (simp [*]; done)), H', ⟨Nat.le_refl _⟩, ⟨by repeat (first | (with_reducible first | exact HB.out | apply below_alloc | apply pw_below_drewN | apply below_drew1) | exact HB.out)⟩⟩
        case round =>
          clear H'
          try clear c1
          try clear p1
          try clear q1
          try clear hx1
          try clear p2
          try clear c3
          try clear c3b0
          try clear c3b1
          try clear c3b2
          try clear c4
          try clear c4b0
          try clear c5
          try clear c5b0
          try clear c6
          try clear p6
          try clear hx175_0
          try clear p1
          try clear p175
          try clear p2
          try clear q1
          try clear q175
          obtain ⟨x25_2, rfl, HA, HK2, HB⟩ := hrel
          cases gk with
          | zero => exact absurd HA.out (by simp [der_Oid.l0])
          | succ k2 =>
            have H := HA.out
            clear HA
            simp only [der_Oid.l0] at H
            by_cases c7 : x25_2 < (l0.length : Int)
            · rw [if_pos c7] at H
              have c7b0 : decide (x25_2 < (l0.length : Int)) = true := decide_eq_true c7
              clear c7
              by_cases c8 : 0 ≤ x25_2
              · rw [if_pos c8] at H
                have c8b0 : decide (0 ≤ x25_2) = true := decide_eq_true c8
                clear c8
                by_cases c9 : x25_2 < (l0.length : Int)
                · rw [if_pos c9] at H
                  have c9b0 : decide (x25_2 < (l0.length : Int)) = true := decide_eq_true c9
                  clear c9
                  by_cases c10 : (rd l0 x25_2) = 128
                  · rw [if_pos c10] at H
                    have c10b0 : ((rd l0 x25_2) == 128) = true := beq_iff_eq.mpr c10
                    have c10b1 : ((rd l0 x25_2) != 128) = false := bne_eq_false_iff_eq.mpr c10
                    clear c10
                    by_cases c11 : x25_2 = 0
                    · rw [if_pos c11] at H
                      have c11b0 : (x25_2 == 0) = true := beq_iff_eq.mpr c11
                      have c11b1 : (x25_2 != 0) = false := bne_eq_false_iff_eq.mpr c11
                      clear c11
                      simp only [Option.some.injEq, Prod.mk.injEq] at H
                      obtain ⟨rfl, rfl⟩ := H
                      have p176 : 0 ≤ (x25_2 : Int) := of_decide_eq_true (by first | (with_reducible assumption) | assumption)
                      have q176 : x25_2 < (l0.length : Int) := of_decide_eq_true (by first | (with_reducible assumption) | assumption)
                      obtain ⟨ad176, e176, hx176_0⟩ := Kd.at_int HR0.out x25_2 p176 q176
                      cases e176
                      replace hx176_0 := (HB.out.cell (World.block_lt_of_cell? w _ hx176_0)).trans hx176_0
                      replace p176 := eq_true p176
                      replace q176 := eq_true q176
                      go_wp2
                      go_ret2
                      exact ⟨by first | rfl | (simp [errW_none, errW_some] <;> rfl) | (simp [*, errW_none, errW_some] <;> rfl), by repeat (first | (with_reducible first | exact HB.out | apply below_alloc | apply pw_below_drewN | apply below_drew1) | exact HB.out)⟩
                    · rw [if_neg c11] at H
                      have c11b0 : (x25_2 == 0) = false := beq_eq_false_iff_ne.mpr c11
                      have c11b1 : (x25_2 != 0) = true := bne_iff_ne.mpr c11
                      by_cases c12 : 0 ≤ (wrap64 (x25_2 - 1))
                      · rw [if_pos c12] at H
                        have c12b0 : decide (0 ≤ (wrap64 (x25_2 - 1))) = true := decide_eq_true c12
                        clear c12
                        by_cases c13 : (wrap64 (x25_2 - 1)) < (l0.length : Int)
                        · rw [if_pos c13] at H
                          have c13b0 : decide ((wrap64 (x25_2 - 1)) < (l0.length : Int)) = true := decide_eq_true c13
                          clear c13
                          by_cases c14 : (rd l0 (wrap64 (x25_2 - 1))) < 128
                          · rw [if_pos c14] at H
                            have c14b0 : decide ((rd l0 (wrap64 (x25_2 - 1))) < 128) = true := decide_eq_true c14
                            clear c14
                            simp only [Option.some.injEq, Prod.mk.injEq] at H
                            obtain ⟨rfl, rfl⟩ := H
                            have p176 : 0 ≤ (x25_2 : Int) := of_decide_eq_true (by first | (with_reducible assumption) | assumption)
                            have q176 : x25_2 < (l0.length : Int) := of_decide_eq_true (by first | (with_reducible assumption) | assumption)
                            obtain ⟨ad176, e176, hx176_0⟩ := Kd.at_int HR0.out x25_2 p176 q176
                            cases e176
                            replace hx176_0 := (HB.out.cell (World.block_lt_of_cell? w _ hx176_0)).trans hx176_0
                            replace p176 := eq_true p176
                            replace q176 := eq_true q176
                            have p177 : 0 ≤ ((wrap64 (x25_2 - 1)) : Int) := of_decide_eq_true (by first | (with_reducible assumption) | assumption)
                            have q177 : (wrap64 (x25_2 - 1)) < (l0.length : Int) := of_decide_eq_true (by first | (with_reducible assumption) | assumption)
                            obtain ⟨ad177, e177, hx177_0⟩ := Kd.at_int HR0.out (wrap64 (x25_2 - 1)) p177 q177
                            obtain rfl : ad176 = ad177 := (by injection e177)
                            replace hx177_0 := (HB.out.cell (World.block_lt_of_cell? w _ hx177_0)).trans hx177_0
                            replace p177 := eq_true p177
                            replace q177 := eq_true q177
                            go_wp2
                            go_ret2
                            exact ⟨by first | rfl | (simp [errW_none, errW_some] <;> rfl) | (simp [*, errW_none, errW_some] <;> rfl), by repeat (first | (with_reducible first | exact HB.out | apply below_alloc | apply pw_below_drewN | apply below_drew1) | exact HB.out)⟩
                          · rw [if_neg c14] at H
                            have c14b0 : decide ((rd l0 (wrap64 (x25_2 - 1))) < 128) = false := decide_eq_false c14
                            clear c14
                            have H' := Aside0.mk H
                            clear H
                            have p176 : 0 ≤ (x25_2 : Int) := of_decide_eq_true (by first | (with_reducible assumption) | assumption)
                            have q176 : x25_2 < (l0.length : Int) := of_decide_eq_true (by first | (with_reducible assumption) | assumption)
                            obtain ⟨ad176, e176, hx176_0⟩ := Kd.at_int HR0.out x25_2 p176 q176
                            cases e176
                            replace hx176_0 := (HB.out.cell (World.block_lt_of_cell? w _ hx176_0)).trans hx176_0
                            replace p176 := eq_true p176
                            replace q176 := eq_true q176
                            have p177 : 0 ≤ ((wrap64 (x25_2 - 1)) : Int) := of_decide_eq_true (by first | (with_reducible assumption) | assumption)
                            have q177 : (wrap64 (x25_2 - 1)) < (l0.length : Int) := of_decide_eq_true (by first | (with_reducible assumption) | assumption)
                            obtain ⟨ad177, e177, hx177_0⟩ := Kd.at_int HR0.out (wrap64 (x25_2 - 1)) p177 q177
                            obtain rfl : ad176 = ad177 := (by injection e177)
                            replace hx177_0 := (HB.out.cell (World.block_lt_of_cell? w _ hx177_0)).trans hx177_0
                            replace p177 := eq_true p177
                            replace q177 := eq_true q177
                            go_wp2
                            go_roundg k2
                            case measure => have := HJ1.out; have := HK2.out; omega
                            case rel => exact ⟨(wrap64 (x25_2 + 1)), (by first | rfl | (simp; done) | (simp [*]; done)), H', ⟨by have := HJ1.out; have := HK2.out; omega⟩, ⟨by repeat (first | (with_reducible first | exact HB.out | apply below_alloc | apply pw_below_drewN | apply below_drew1) | exact HB.out)⟩⟩
                        · rw [if_neg c13] at H
                          exact absurd H (by simp)
                      · rw [if_neg c12] at H
                        exact absurd H (by simp)
                  · rw [if_neg c10] at H
                    have c10b0 : ((rd l0 x25_2) == 128) = false := beq_eq_false_iff_ne.mpr c10
                    have c10b1 : ((rd l0 x25_2) != 128) = true := bne_iff_ne.mpr c10
                    have H' := Aside0.mk H
                    clear H
                    have p176 : 0 ≤ (x25_2 : Int) := of_decide_eq_true (by first | (with_reducible assumption) | assumption)
                    have q176 : x25_2 < (l0.length : Int) := of_decide_eq_true (by first | (with_reducible assumption) | assumption)
                    obtain ⟨ad176, e176, hx176_0⟩ := Kd.at_int HR0.out x25_2 p176 q176
                    cases e176
                    replace hx176_0 := (HB.out.cell (World.block_lt_of_cell? w _ hx176_0)).trans hx176_0
                    replace p176 := eq_true p176
                    replace q176 := eq_true q176
                    go_wp2
                    go_roundg k2
                    case measure => have := HJ1.out; have := HK2.out; omega
                    case rel => exact ⟨(wrap64 (x25_2 + 1)), (by first | rfl | (simp; done) | (simp [*]; done)), H', ⟨by have := HJ1.out; have := HK2.out; omega⟩, ⟨by repeat (first | (with_reducible first | exact HB.out | apply below_alloc | apply pw_below_drewN | apply below_drew1) | exact HB.out)⟩⟩
                · rw [if_neg c9] at H
                  exact absurd H (by simp)
              · rw [if_neg c8] at H
                exact absurd H (by simp)
            · rw [if_neg c7] at H
              have c7b0 : decide (x25_2 < (l0.length : Int)) = false := decide_eq_false c7
              clear c7
              have H' := Aside0.mk H
              clear H
              go_wp2
              go_loopg [6, 7, 47] k2 (fun kq v6 v7 v47 w' => ∃ (x6_3 : ByteArray) (x7_3 : Int) (x47_3 : Int), v6 = .string x6_3 ∧ v7 = .int .u64 x7_3 ∧ v47 = .int .i64 x47_3 ∧ Aside0 (der_Oid.l1 kq x6_3 x7_3 l0 (l0.length : Int) x47_3 = some (r1, r2)) ∧ Aside0 (kq ≤ k2) ∧ Aside0 (Below w.heap.size w w'))
              case atStart => exact ⟨((⟨#[]⟩ : ByteArray)), (0), (0), (by first | rfl | (simp; done) | (simp [*]; done)), (by first | rfl | (simp; done) | (simp [*]; done)), (by first | rfl | (simp; done) | (simp [*]; done)), H', ⟨Nat.le_refl _⟩, ⟨by repeat (first | (with_reducible first | exact HB.out | apply below_alloc | apply pw_below_drewN | apply below_drew1) | exact HB.out)⟩⟩
              case round =>
                clear H'
                try clear c1
                try clear p1
                try clear q1
                try clear hx1
                try clear p2
                try clear c3
                try clear c3b0
                try clear c3b1
                try clear c3b2
                try clear c4
                try clear c4b0
                try clear c5
                try clear c5b0
                try clear c6
                try clear p6
                try clear c7
                try clear c7b0
                try clear c8
                try clear c8b0
                try clear c9
                try clear c9b0
                try clear c10
                try clear c10b0
                try clear c10b1
                try clear c11
                try clear c11b0
                try clear c11b1
                try clear c12
                try clear c12b0
                try clear c13
                try clear c13b0
                try clear c14
                try clear c14b0
                try clear hx175_0
                try clear hx176_0
                try clear hx177_0
                try clear p1
                try clear p175
                try clear p176
                try clear p177
                try clear p2
                try clear p6
                try clear q1
                try clear q175
                try clear q176
                try clear q177
                obtain ⟨x6_3, x7_3, x47_3, rfl, rfl, rfl, HA, HK3, HB⟩ := hrel
                cases gk with
                | zero => exact absurd HA.out (by simp [der_Oid.l1])
                | succ k3 =>
                  have H := HA.out
                  clear HA
                  simp only [der_Oid.l1] at H
                  by_cases c15 : x47_3 < (l0.length : Int)
                  · rw [if_pos c15] at H
                    have c15b0 : decide (x47_3 < (l0.length : Int)) = true := decide_eq_true c15
                    clear c15
                    by_cases c16 : 0 ≤ x47_3
                    · rw [if_pos c16] at H
                      have c16b0 : decide (0 ≤ x47_3) = true := decide_eq_true c16
                      clear c16
                      by_cases c17 : x47_3 < (l0.length : Int)
                      · rw [if_pos c17] at H
                        have c17b0 : decide (x47_3 < (l0.length : Int)) = true := decide_eq_true c17
                        clear c17
                        obtain ⟨ji18, hji18⟩ : ∃ j_ : Int, (mn (Go.bits .or .u64 (IntKind.u64.wrap (x7_3 * 128)) (IntKind.u64.wrap (Go.bits .and .u8 (rd l0 x47_3) 127))) 1099511627776) = j_ := ⟨_, rfl⟩
                        replace H : (if (rd l0 x47_3) ≥ 128 then (der_Oid.l1 k3 x6_3 ji18 l0 (l0.length : Int) (wrap64 (x47_3 + 1))) else (if x6_3.toList = ([] : List UInt8) then ((strconv_Itoa.f (wrap64 (mn (IntKind.u64.wrap (Int.tdiv (ji18) 40)) 2))).bind fun t179 => (if (IntKind.u64.wrap ((ji18) - (IntKind.u64.wrap (40 * (mn (IntKind.u64.wrap (Int.tdiv (ji18) 40)) 2))))) > 2147483647 then (some ((⟨#[]⟩ : ByteArray), 3)) else ((strconv_Itoa.f (wrap64 (IntKind.u64.wrap ((ji18) - (IntKind.u64.wrap (40 * (mn (IntKind.u64.wrap (Int.tdiv (ji18) 40)) 2))))))).bind fun t180 => (if 1 + t180.size ≤ 9223372036854775807 then (if t179.size + ((⟨#[46]⟩ : ByteArray) ++ t180).size ≤ 9223372036854775807 then (der_Oid.l1 k3 (t179 ++ ((⟨#[46]⟩ : ByteArray) ++ t180)) 0 l0 (l0.length : Int) (wrap64 (x47_3 + 1))) else (none)) else (none))))) else (if (ji18) > 2147483647 then (some ((⟨#[]⟩ : ByteArray), 3)) else ((strconv_Itoa.f (wrap64 (ji18))).bind fun t181 => (if 1 + t181.size ≤ 9223372036854775807 then (if x6_3.size + ((⟨#[46]⟩ : ByteArray) ++ t181).size ≤ 9223372036854775807 then (der_Oid.l1 k3 (x6_3 ++ ((⟨#[46]⟩ : ByteArray) ++ t181)) 0 l0 (l0.length : Int) (wrap64 (x47_3 + 1))) else (none)) else (none)))))) = some (r1, r2) := by first | (rw [hji18] at H; exact H) | (simp only [hji18] at H ⊢; exact H)
                        have hji18_ : (if 1099511627776 < (Go.bits .or .u64 (IntKind.u64.wrap (x7_3 * 128)) (IntKind.u64.wrap (Go.bits .and .u8 (rd l0 x47_3) 127))) then 1099511627776 else (Go.bits .or .u64 (IntKind.u64.wrap (x7_3 * 128)) (IntKind.u64.wrap (Go.bits .and .u8 (rd l0 x47_3) 127)))) = ji18 := hji18
                        by_cases c19 : (rd l0 x47_3) ≥ 128
                        · rw [if_pos c19] at H
                          have c19b0 : decide (128 ≤ (rd l0 x47_3)) = true := decide_eq_true c19
                          clear c19
                          have H' := Aside0.mk H
                          clear H
                          have p178 : 0 ≤ (x47_3 : Int) := of_decide_eq_true (by first | (with_reducible assumption) | assumption)
                          have q178 : x47_3 < (l0.length : Int) := of_decide_eq_true (by first | (with_reducible assumption) | assumption)
                          obtain ⟨ad178, e178, hx178_0⟩ := Kd.at_int HR0.out x47_3 p178 q178
                          cases e178
                          replace hx178_0 := (HB.out.cell (World.block_lt_of_cell? w _ hx178_0)).trans hx178_0
                          replace p178 := eq_true p178
                          replace q178 := eq_true q178
                          go_wp2
                          go_roundg k3
                          case measure => have := HJ1.out; have := HK2.out; have := HK3.out; omega
                          case rel => exact ⟨(x6_3), (ji18), (wrap64 (x47_3 + 1)), (by first | rfl | (simp; done) | (simp [*]; done)), (by first | rfl | (simp; done) | (simp only [← hji18] <;> (first | rfl | simp)) | (simp [*]; done)), (by first | rfl | (simp; done) | (simp [*]; done)), H', ⟨by have := HJ1.out; have := HK2.out; have := HK3.out; omega⟩, ⟨by repeat (first | (with_reducible first | exact HB.out | apply below_alloc | apply pw_below_drewN | apply below_drew1) | exact HB.out)⟩⟩
                        · rw [if_neg c19] at H
                          have c19b0 : decide (128 ≤ (rd l0 x47_3)) = false := decide_eq_false c19
                          clear c19
                          by_cases c20 : x6_3.toList = ([] : List UInt8)
                          · rw [if_pos c20] at H
                            have c20b0 : (x6_3.toList == ([] : List UInt8)) = true := beq_iff_eq.mpr c20
                            have c20b1 : (x6_3.toList != ([] : List UInt8)) = false := bne_eq_false_iff_eq.mpr c20
                            clear c20
                            obtain ⟨ji21, hji21⟩ : ∃ j_ : Int, (mn (IntKind.u64.wrap (Int.tdiv (ji18) 40)) 2) = j_ := ⟨_, rfl⟩
                            replace H : ((strconv_Itoa.f (wrap64 (ji21))).bind fun t179 => (if (IntKind.u64.wrap ((ji18) - (IntKind.u64.wrap (40 * (ji21))))) > 2147483647 then (some ((⟨#[]⟩ : ByteArray), 3)) else ((strconv_Itoa.f (wrap64 (IntKind.u64.wrap ((ji18) - (IntKind.u64.wrap (40 * (ji21))))))).bind fun t180 => (if 1 + t180.size ≤ 9223372036854775807 then (if t179.size + ((⟨#[46]⟩ : ByteArray) ++ t180).size ≤ 9223372036854775807 then (der_Oid.l1 k3 (t179 ++ ((⟨#[46]⟩ : ByteArray) ++ t180)) 0 l0 (l0.length : Int) (wrap64 (x47_3 + 1))) else (none)) else (none))))) = some (r1, r2) := by first | (rw [hji21] at H; exact H) | (simp only [hji21] at H ⊢; exact H)
                            have hji21_ : (if 2 < (IntKind.u64.wrap (Int.tdiv (ji18) 40)) then 2 else (IntKind.u64.wrap (Int.tdiv (ji18) 40))) = ji21 := hji21
                            replace H := Option.bind_eq_some_iff.mp H
                            obtain ⟨t179, A220, H⟩ := H
                            replace H : (if (IntKind.u64.wrap ((ji18) - (IntKind.u64.wrap (40 * (ji21))))) > 2147483647 then (some ((⟨#[]⟩ : ByteArray), 3)) else ((strconv_Itoa.f (wrap64 (IntKind.u64.wrap ((ji18) - (IntKind.u64.wrap (40 * (ji21))))))).bind fun t180 => (if 1 + t180.size ≤ 9223372036854775807 then (if t179.size + ((⟨#[46]⟩ : ByteArray) ++ t180).size ≤ 9223372036854775807 then (der_Oid.l1 k3 (t179 ++ ((⟨#[46]⟩ : ByteArray) ++ t180)) 0 l0 (l0.length : Int) (wrap64 (x47_3 + 1))) else (none)) else (none)))) = some (r1, r2) := H
                            have A22 := Aside0.mk A220
                            clear A220
                            by_cases c23 : (IntKind.u64.wrap ((ji18) - (IntKind.u64.wrap (40 * (ji21))))) > 2147483647
                            · rw [if_pos c23] at H
                              have c23b0 : decide (2147483647 < (IntKind.u64.wrap ((ji18) - (IntKind.u64.wrap (40 * (ji21)))))) = true := decide_eq_true c23
                              clear c23
                              simp only [Option.some.injEq, Prod.mk.injEq] at H
                              obtain ⟨rfl, rfl⟩ := H
                              have p178 : 0 ≤ (x47_3 : Int) := of_decide_eq_true (by first | (with_reducible assumption) | assumption)
                              have q178 : x47_3 < (l0.length : Int) := of_decide_eq_true (by first | (with_reducible assumption) | assumption)
                              obtain ⟨ad178, e178, hx178_0⟩ := Kd.at_int HR0.out x47_3 p178 q178
                              cases e178
                              replace hx178_0 := (HB.out.cell (World.block_lt_of_cell? w _ hx178_0)).trans hx178_0
                              replace p178 := eq_true p178
                              replace q178 := eq_true q178
                              go_wp2_with (first | ((with_reducible refine gate_callee (f := 160) rfl ?_); refine goesL_ (some 67) rfl rfl Tryz.func160 (by kernel_rfl) rfl #[.int .i64 (wrap64 (ji21))] rfl (by (try simp only [List.map_toArray, List.map_cons, List.map_nil]); first | done | (simp only [hji21]; rfl) | rfl | (simp only [List.length_drop, List.length_take]; rfl)) ?_; (with_reducible refine (strconv_Itoa.calls (wrap64 (ji21)) t179 _ A22.out (Tb.below HHd.out (by repeat (first | (with_reducible first | exact HB.out | apply below_alloc | apply pw_below_drewN | apply below_drew1) | exact HB.out)))).mono ?_); rintro e w24 ⟨rfl, hb⟩; refine ⟨_, rfl, ?_⟩; have n0_ := Aside0.mk (below_step (by repeat (first | (with_reducible first | exact HB.out | apply below_alloc | apply pw_below_drewN | apply below_drew1) | exact HB.out)) hb); clear HB; have HB := n0_; clear n0_; (try clear hb); (try clear hb2); (try clear hk); (try clear hi)))
                              go_ret2
                              exact ⟨by first | rfl | (simp [errW_none, errW_some] <;> rfl) | (simp only [← hji18, ← hji21]; first | rfl | (simp [errW_none, errW_some] <;> rfl)) | (simp [*, errW_none, errW_some] <;> rfl), by repeat (first | (with_reducible first | exact HB.out | apply below_alloc | apply pw_below_drewN | apply below_drew1) | exact HB.out)⟩
                            · rw [if_neg c23] at H
                              have c23b0 : decide (2147483647 < (IntKind.u64.wrap ((ji18) - (IntKind.u64.wrap (40 * (ji21)))))) = false := decide_eq_false c23
                              clear c23
                              replace H := Option.bind_eq_some_iff.mp H
                              obtain ⟨t180, A250, H⟩ := H
                              replace H : (if 1 + t180.size ≤ 9223372036854775807 then (if t179.size + ((⟨#[46]⟩ : ByteArray) ++ t180).size ≤ 9223372036854775807 then (der_Oid.l1 k3 (t179 ++ ((⟨#[46]⟩ : ByteArray) ++ t180)) 0 l0 (l0.length : Int) (wrap64 (x47_3 + 1))) else (none)) else (none)) = some (r1, r2) := H
                              have A25 := Aside0.mk A250
                              clear A250
                              by_cases c26 : 1 + t180.size ≤ 9223372036854775807
                              · rw [if_pos c26] at H
                                have c26b0 := eq_true c26
                                have c26b1 : decide (1 + t180.size ≤ 9223372036854775807) = true := decide_eq_true c26
                                try have c26b2 : (9223372036854775807 < 1 + t180.size) = False := eq_false (Nat.not_lt.2 c26)
                                by_cases c27 : t179.size + ((⟨#[46]⟩ : ByteArray) ++ t180).size ≤ 9223372036854775807
                                · rw [if_pos c27] at H
                                  have c27b0 := eq_true c27
                                  have c27b1 : decide (t179.size + ((⟨#[46]⟩ : ByteArray) ++ t180).size ≤ 9223372036854775807) = true := decide_eq_true c27
                                  try have c27b2 : (9223372036854775807 < t179.size + ((⟨#[46]⟩ : ByteArray) ++ t180).size) = False := eq_false (Nat.not_lt.2 c27)
                                  have H' := Aside0.mk H
                                  clear H
                                  have p178 : 0 ≤ (x47_3 : Int) := of_decide_eq_true (by first | (with_reducible assumption) | assumption)
                                  have q178 : x47_3 < (l0.length : Int) := of_decide_eq_true (by first | (with_reducible assumption) | assumption)
                                  obtain ⟨ad178, e178, hx178_0⟩ := Kd.at_int HR0.out x47_3 p178 q178
                                  cases e178
                                  replace hx178_0 := (HB.out.cell (World.block_lt_of_cell? w _ hx178_0)).trans hx178_0
                                  replace p178 := eq_true p178
                                  replace q178 := eq_true q178
                                  go_wp2_with (first | ((with_reducible refine gate_callee (f := 160) rfl ?_); refine goesL_ (some 67) rfl rfl Tryz.func160 (by kernel_rfl) rfl #[.int .i64 (wrap64 (ji21))] rfl (by (try simp only [List.map_toArray, List.map_cons, List.map_nil]); first | done | (simp only [hji21]; rfl) | rfl | (simp only [List.length_drop, List.length_take]; rfl)) ?_; (with_reducible refine (strconv_Itoa.calls (wrap64 (ji21)) t179 _ A22.out (Tb.below HHd.out (by repeat (first | (with_reducible first | exact HB.out | apply below_alloc | apply pw_below_drewN | apply below_drew1) | exact HB.out)))).mono ?_); rintro e w28 ⟨rfl, hb⟩; refine ⟨_, rfl, ?_⟩; have n0_ := Aside0.mk (below_step (by repeat (first | (with_reducible first | exact HB.out | apply below_alloc | apply pw_below_drewN | apply below_drew1) | exact HB.out)) hb); clear HB; have HB := n0_; clear n0_; (try clear hb); (try clear hb2); (try clear hk); (try clear hi)) | ((with_reducible refine gate_callee (f := 160) rfl ?_); refine goesL_ (some 77) rfl rfl Tryz.func160 (by kernel_rfl) rfl #[.int .i64 (wrap64 (IntKind.u64.wrap ((ji18) - (IntKind.u64.wrap (40 * (ji21))))))] rfl (by (try simp only [List.map_toArray, List.map_cons, List.map_nil]); first | done | (simp only [hji18, hji21]; rfl) | rfl | (simp only [List.length_drop, List.length_take]; rfl)) ?_; (with_reducible refine (strconv_Itoa.calls (wrap64 (IntKind.u64.wrap ((ji18) - (IntKind.u64.wrap (40 * (ji21)))))) t180 _ A25.out (Tb.below HHd.out (by repeat (first | (with_reducible first | exact HB.out | apply below_alloc | apply pw_below_drewN | apply below_drew1) | exact HB.out)))).mono ?_); rintro e w29 ⟨rfl, hb⟩; refine ⟨_, rfl, ?_⟩; have n0_ := Aside0.mk (below_step (by repeat (first | (with_reducible first | exact HB.out | apply below_alloc | apply pw_below_drewN | apply below_drew1) | exact HB.out)) hb); clear HB; have HB := n0_; clear n0_; (try clear hb); (try clear hb2); (try clear hk); (try clear hi)))
                                  go_roundg k3
                                  case measure => have := HJ1.out; have := HK2.out; have := HK3.out; omega
                                  case rel => exact ⟨(t179 ++ ((⟨#[46]⟩ : ByteArray) ++ t180)), (0), (wrap64 (x47_3 + 1)), (by first | rfl | (simp; done) | (simp [*]; done)), (by first | rfl | (simp; done) | (simp [*]; done)), (by first | rfl | (simp; done) | (simp [*]; done)), H', ⟨by have := HJ1.out; have := HK2.out; have := HK3.out; omega⟩, ⟨by repeat (first | (with_reducible first | exact HB.out | apply below_alloc | apply pw_below_drewN | apply below_drew1) | exact HB.out)⟩⟩
                                · rw [if_neg c27] at H
                                  exact absurd H (by simp)
                              · rw [if_neg c26] at H
                                exact absurd H (by simp)
                          · rw [if_neg c20] at H
                            have c20b0 : (x6_3.toList == ([] : List UInt8)) = false := beq_eq_false_iff_ne.mpr c20
                            have c20b1 : (x6_3.toList != ([] : List UInt8)) = true := bne_iff_ne.mpr c20
                            by_cases c30 : (ji18) > 2147483647
                            · rw [if_pos c30] at H
                              have c30b0 : decide (2147483647 < (ji18)) = true := decide_eq_true c30
                              clear c30
                              simp only [Option.some.injEq, Prod.mk.injEq] at H
                              obtain ⟨rfl, rfl⟩ := H
                              have p178 : 0 ≤ (x47_3 : Int) := of_decide_eq_true (by first | (with_reducible assumption) | assumption)
                              have q178 : x47_3 < (l0.length : Int) := of_decide_eq_true (by first | (with_reducible assumption) | assumption)
                              obtain ⟨ad178, e178, hx178_0⟩ := Kd.at_int HR0.out x47_3 p178 q178
                              cases e178
                              replace hx178_0 := (HB.out.cell (World.block_lt_of_cell? w _ hx178_0)).trans hx178_0
                              replace p178 := eq_true p178
                              replace q178 := eq_true q178
                              go_wp2
                              go_ret2
                              exact ⟨by first | rfl | (simp [errW_none, errW_some] <;> rfl) | (simp only [← hji18]; first | rfl | (simp [errW_none, errW_some] <;> rfl)) | (simp [*, errW_none, errW_some] <;> rfl), by repeat (first | (with_reducible first | exact HB.out | apply below_alloc | apply pw_below_drewN | apply below_drew1) | exact HB.out)⟩
                            · rw [if_neg c30] at H
                              have c30b0 : decide (2147483647 < (ji18)) = false := decide_eq_false c30
                              clear c30
                              replace H := Option.bind_eq_some_iff.mp H
                              obtain ⟨t181, A310, H⟩ := H
                              replace H : (if 1 + t181.size ≤ 9223372036854775807 then (if x6_3.size + ((⟨#[46]⟩ : ByteArray) ++ t181).size ≤ 9223372036854775807 then (der_Oid.l1 k3 (x6_3 ++ ((⟨#[46]⟩ : ByteArray) ++ t181)) 0 l0 (l0.length : Int) (wrap64 (x47_3 + 1))) else (none)) else (none)) = some (r1, r2) := H
                              have A31 := Aside0.mk A310
                              clear A310
                              by_cases c32 : 1 + t181.size ≤ 9223372036854775807
                              · rw [if_pos c32] at H
                                have c32b0 := eq_true c32
                                have c32b1 : decide (1 + t181.size ≤ 9223372036854775807) = true := decide_eq_true c32
                                try have c32b2 : (9223372036854775807 < 1 + t181.size) = False := eq_false (Nat.not_lt.2 c32)
                                by_cases c33 : x6_3.size + ((⟨#[46]⟩ : ByteArray) ++ t181).size ≤ 9223372036854775807
                                · rw [if_pos c33] at H
                                  have c33b0 := eq_true c33
                                  have c33b1 : decide (x6_3.size + ((⟨#[46]⟩ : ByteArray) ++ t181).size ≤ 9223372036854775807) = true := decide_eq_true c33
                                  try have c33b2 : (9223372036854775807 < x6_3.size + ((⟨#[46]⟩ : ByteArray) ++ t181).size) = False := eq_false (Nat.not_lt.2 c33)
                                  have H' := Aside0.mk H
                                  clear H
                                  have p178 : 0 ≤ (x47_3 : Int) := of_decide_eq_true (by first | (with_reducible assumption) | assumption)
                                  have q178 : x47_3 < (l0.length : Int) := of_decide_eq_true (by first | (with_reducible assumption) | assumption)
                                  obtain ⟨ad178, e178, hx178_0⟩ := Kd.at_int HR0.out x47_3 p178 q178
                                  cases e178
                                  replace hx178_0 := (HB.out.cell (World.block_lt_of_cell? w _ hx178_0)).trans hx178_0
                                  replace p178 := eq_true p178
                                  replace q178 := eq_true q178
                                  go_wp2_with (first | ((with_reducible refine gate_callee (f := 160) rfl ?_); refine goesL_ (some 77) rfl rfl Tryz.func160 (by kernel_rfl) rfl #[.int .i64 (wrap64 (ji18))] rfl (by (try simp only [List.map_toArray, List.map_cons, List.map_nil]); first | done | (simp only [hji18]; rfl) | rfl | (simp only [List.length_drop, List.length_take]; rfl)) ?_; (with_reducible refine (strconv_Itoa.calls (wrap64 (ji18)) t181 _ A31.out (Tb.below HHd.out (by repeat (first | (with_reducible first | exact HB.out | apply below_alloc | apply pw_below_drewN | apply below_drew1) | exact HB.out)))).mono ?_); rintro e w34 ⟨rfl, hb⟩; refine ⟨_, rfl, ?_⟩; have n0_ := Aside0.mk (below_step (by repeat (first | (with_reducible first | exact HB.out | apply below_alloc | apply pw_below_drewN | apply below_drew1) | exact HB.out)) hb); clear HB; have HB := n0_; clear n0_; (try clear hb); (try clear hb2); (try clear hk); (try clear hi)))
                                  go_roundg k3
                                  case measure => have := HJ1.out; have := HK2.out; have := HK3.out; omega
                                  case rel => exact ⟨(x6_3 ++ ((⟨#[46]⟩ : ByteArray) ++ t181)), (0), (wrap64 (x47_3 + 1)), (by first | rfl | (simp; done) | (simp [*]; done)), (by first | rfl | (simp; done) | (simp [*]; done)), (by first | rfl | (simp; done) | (simp [*]; done)), H', ⟨by have := HJ1.out; have := HK2.out; have := HK3.out; omega⟩, ⟨by repeat (first | (with_reducible first | exact HB.out | apply below_alloc | apply pw_below_drewN | apply below_drew1) | exact HB.out)⟩⟩
                                · rw [if_neg c33] at H
                                  exact absurd H (by simp)
                              · rw [if_neg c32] at H
                                exact absurd H (by simp)
                      · rw [if_neg c17] at H
                        exact absurd H (by simp)
                    · rw [if_neg c16] at H
                      exact absurd H (by simp)
                  · rw [if_neg c15] at H
                    have c15b0 : decide (x47_3 < (l0.length : Int)) = false := decide_eq_false c15
                    clear c15
                    simp only [Option.some.injEq, Prod.mk.injEq] at H
                    obtain ⟨rfl, rfl⟩ := H
                    go_wp2
                    go_ret2
                    exact ⟨by first | rfl | (simp [errW_none, errW_some] <;> rfl) | (simp [*, errW_none, errW_some] <;> rfl), by repeat (first | (with_reducible first | exact HB.out | apply below_alloc | apply pw_below_drewN | apply below_drew1) | exact HB.out)⟩
end Go.Proofs.YtkioddjjfifadaaGreatDoor.P
namespace Go.Proofs.YtkioddjjfifadaaGreatDoor.P
open Go.RowKit Go.Proofs.YtkioddjjfifadaaGreatDoorW.PrintWords Go.Proofs.YtkioddjjfifadaaGreatDoorW.PrintLast Go.Proofs.YtkioddjjfifadaaGreatDoorW.PrintMore
attribute [local go_sem] max2_int min2_int max_two min_two max_three min_three max_four min_four   -- for this text's walks alone
set_option linter.unusedVariables false
set_option linter.unusedSimpArgs false
def name_part.j0 : Nat → List (S77) → Bool → Option (ByteArray × Int × List Int × Int)
  | 0, _, _ => none
  | k + 1, x4, x50 => if x50 = true then (some ((⟨#[]⟩ : ByteArray), 0, ([] : List Int), 30)) else (if 0 < (x4.length : Int) then ((der_Oid.f k ((rd_T77 x4 0).f3)).bind fun bt205 => (if bt205.2 = 0 then (if 1 < (x4.length : Int) then (some (bt205.1, (rd_T77 x4 1).f1, (rd_T77 x4 1).f3, 0)) else (none)) else (some ((⟨#[]⟩ : ByteArray), 0, ([] : List Int), bt205.2)))) else (none))
def name_part.f (k : Nat) (a0_0 : Int) (a0_1 : Int) (a0_2 : Bool) (l0_3 : List Int) (l0_4 : List Int) : Option (ByteArray × Int × List Int × Int) := (name_inside.f k a0_0 a0_1 a0_2 l0_3 l0_4 16).bind fun bt195 => (if bt195.2 = 0 then (if (bt195.1.length : Int) = 2 then (if 0 < (bt195.1.length : Int) then (if 1 < (bt195.1.length : Int) then (if (wrap64 (((rd_T77 bt195.1 0).f0) + ((rd_T77 bt195.1 1).f0))) = 0 then (if ((rd_T77 bt195.1 0).f1) = 6 then (if (rd_T77 bt195.1 0).f2 = true then (name_part.j0 k bt195.1 true) else (name_part.j0 k bt195.1 ((rd_T77 bt195.1 1).f2))) else (name_part.j0 k bt195.1 true)) else (name_part.j0 k bt195.1 true)) else (none)) else (none)) else (name_part.j0 k bt195.1 true)) else (some ((⟨#[]⟩ : ByteArray), 0, ([] : List Int), bt195.2)))
def name_part.T9 : Bool × List (List Nat × List Nat) := (true, [([], []), ([], []), ([1], [1]), ([2], [2]), ([3], [3]), ([], []), ([5], [5]), ([6], [6]), ([7], [7]), ([0, 4, 8], [0, 4, 8]), ([9, 0, 1, 2, 3, 4, 5, 6, 7, 8, 9], [9]), ([10, 0, 1, 2, 3, 4, 5, 6, 7, 8, 9, 10], [])])
def name_part.B9 : List Nat := [0, 0, 2, 6, 14, 0, 32, 96, 224, 511, 1023, 2047]
theorem name_part.tab9 : rtab .any (opsOf Tryz.f189 9) = name_part.T9 := by kernel_rfl
theorem name_part.bits9 : waitsOk name_part.T9.2 name_part.B9 = true := by kernel_rfl
set_option maxHeartbeats 8000000 in
set_option maxRecDepth 100000 in
theorem name_part.calls (k : Nat) (a0_0 : Int) (a0_1 : Int) (a0_2 : Bool) (A0_3 : Option Addr) (c0_3 : Nat) (l0_3 : List Int) (A0_4 : Option Addr) (c0_4 : Nat) (l0_4 : List Int) (r1 : ByteArray) (r2 : Int) (r3 : List Int) (r4 : Int) (w : World) (hr0_3 : Kd.C (Kd.int .u8) w A0_3 l0_3.length l0_3) (hc0_3 : l0_3.length ≤ c0_3) (hr0_4 : Kd.C (Kd.int .u8) w A0_4 l0_4.length l0_4) (hc0_4 : l0_4.length ≤ c0_4) (h : name_part.f k a0_0 a0_1 a0_2 l0_3 l0_4 = some (r1, r2, r3, r4)) (hH : Tb w) :
    Calls Tryz.prog 189 #[.agg #[.int .i64 a0_0, .int .i64 a0_1, .bool a0_2, .slice A0_3 l0_3.length c0_3, .slice A0_4 l0_4.length c0_4]] w fun e w' => ∃ v2_ ev_ : Value, e = .returned (.tuple #[.agg #[.string r1, .int .i64 r2, v2_], ev_]) ∧ EV ev_ r4 ∧ Kd.R (Kd.int .u8) 5 w' w.heap.size (fun _ => True) v2_ r3 ∧ Below w.heap.size w w' := by
  have hu77 := Tryz.underlying77
  have hu64 := Tryz.underlying64
  have HR0_3 := Aside0.mk hr0_3
  have HC0_3 := Aside0.mk hc0_3
  clear hr0_3 hc0_3
  have HR0_4 := Aside0.mk hr0_4
  have HC0_4 := Aside0.mk hc0_4
  clear hr0_4 hc0_4
  have HB := Aside0.mk (Below.refl w.heap.size w)
  have HHd := Aside0.mk hH
  clear hH
  have H : ((name_inside.f k a0_0 a0_1 a0_2 l0_3 l0_4 16).bind fun bt195 => (if bt195.2 = 0 then (if (bt195.1.length : Int) = 2 then (if 0 < (bt195.1.length : Int) then (if 1 < (bt195.1.length : Int) then (if (wrap64 (((rd_T77 bt195.1 0).f0) + ((rd_T77 bt195.1 1).f0))) = 0 then (if ((rd_T77 bt195.1 0).f1) = 6 then (if (rd_T77 bt195.1 0).f2 = true then (name_part.j0 k bt195.1 true) else (name_part.j0 k bt195.1 ((rd_T77 bt195.1 1).f2))) else (name_part.j0 k bt195.1 true)) else (name_part.j0 k bt195.1 true)) else (none)) else (none)) else (name_part.j0 k bt195.1 true)) else (some ((⟨#[]⟩ : ByteArray), 0, ([] : List Int), bt195.2)))) = some (r1, r2, r3, r4) := h
  clear h
  replace H := Option.bind_eq_some_iff.mp H
  obtain ⟨⟨t195, t198⟩, A20, H⟩ := H
  replace H : (if t198 = 0 then (if (t195.length : Int) = 2 then (if 0 < (t195.length : Int) then (if 1 < (t195.length : Int) then (if (wrap64 (((rd_T77 t195 0).f0) + ((rd_T77 t195 1).f0))) = 0 then (if ((rd_T77 t195 0).f1) = 6 then (if (rd_T77 t195 0).f2 = true then (name_part.j0 k t195 true) else (name_part.j0 k t195 ((rd_T77 t195 1).f2))) else (name_part.j0 k t195 true)) else (name_part.j0 k t195 true)) else (none)) else (none)) else (name_part.j0 k t195 true)) else (some ((⟨#[]⟩ : ByteArray), 0, ([] : List Int), t198))) = some (r1, r2, r3, r4) := H
  have A2 := Aside0.mk A20
  clear A20
  by_cases c3 : t198 = 0
  · rw [if_pos c3] at H
    have c3b0 : (t198 == 0) = true := beq_iff_eq.mpr c3
    have c3b1 : (t198 != 0) = false := bne_eq_false_iff_eq.mpr c3
    clear c3
    have HC4 := Aside0.mk H
    clear H
    go_enter Tryz.func189, Tryz.ntmps189
    go_upto_region 4 with (first | ((with_reducible refine gate_dst (N := 1) rfl ?_); refine box_event ?hg (N := 1) ?hd (cs := #[.int .i64 a0_0, .int .i64 a0_1, .bool a0_2, .slice A0_3 l0_3.length c0_3, .slice A0_4 l0_4.length c0_4]) (t := 77) ?hr ?_; (case hd => rfl); (case hg => rfl); (case hr => first | (go_simp; done) | (go_simp; rfl)); intro gb193 hg w5 hbox hb; have n0_ := Aside0.mk (below_step (by repeat (first | (with_reducible first | exact HB.out | apply below_alloc | apply pw_below_drewN | apply below_drew1) | exact HB.out)) hb); have n1_ := Aside0.mk (hbox); have n2_ := Aside0.mk ((by rw [hg]; exact (below_size (by repeat (first | (with_reducible first | exact HB.out | apply below_alloc | apply pw_below_drewN | apply below_drew1) | exact HB.out))) : w.heap.size ≤ gb193)); have n3_ := Aside0.mk ((by rw [hg]; exact (below_size (by repeat (first | (with_reducible first | exact HB.out | apply below_alloc | apply pw_below_drewN | apply below_drew1) | exact HB.out))) : w.heap.size ≤ gb193)); clear HB; have HB := n0_; have BK193 := n1_; have GW193 := n2_; have GE193 := n3_; clear n0_ n1_ n2_ n3_; clear hb hbox hg) | ((with_reducible refine gate_dst (N := 2) rfl ?_); refine box_event ?hg (N := 2) ?hd (cs := #[.string (⟨#[]⟩ : ByteArray), .int .i64 0, .slice none 0 0]) (t := 64) ?hr ?_; (case hd => rfl); (case hg => rfl); (case hr => first | (go_simp; done) | (go_simp; rfl)); intro gb194 hg w6 hbox hb; have n0_ := Aside0.mk (blk_below (g := gb193) (o := .cells #[.int .i64 a0_0, .int .i64 a0_1, .bool a0_2, .slice A0_3 l0_3.length c0_3, .slice A0_4 l0_4.length c0_4] 77 (0, 0)) (by (with_reducible repeat (first | refine blk_drewN ?_ _ | refine blk_drew ?_ | refine blk_alloc ?_ _)); exact BK193.out) hb); have n1_ := Aside0.mk (below_step (by repeat (first | (with_reducible first | exact HB.out | apply below_alloc | apply pw_below_drewN | apply below_drew1 | refine below_set ?_ GE193.out) | exact HB.out)) hb); have n2_ := Aside0.mk (hbox); have n3_ := Aside0.mk ((by rw [hg]; exact (below_size (by repeat (first | (with_reducible first | exact HB.out | apply below_alloc | apply pw_below_drewN | apply below_drew1 | refine below_set ?_ GE193.out) | exact HB.out))) : w.heap.size ≤ gb194)); have n4_ := Aside0.mk ((by rw [hg]; exact (below_size (by repeat (first | (with_reducible first | exact HB.out | apply below_alloc | apply pw_below_drewN | apply below_drew1 | refine below_set ?_ GE193.out) | exact HB.out))) : w.heap.size ≤ gb194)); have n5_ := Aside0.mk ((by rw [hg]; exact Nat.ne_of_lt (blk_lt (g := gb193) (o := .cells #[.int .i64 a0_0, .int .i64 a0_1, .bool a0_2, .slice A0_3 l0_3.length c0_3, .slice A0_4 l0_4.length c0_4] 77 (0, 0)) (by (with_reducible repeat (first | refine blk_drewN ?_ _ | refine blk_drew ?_ | refine blk_alloc ?_ _)); exact BK193.out)) : gb193 ≠ gb194)); have n6_ := Aside0.mk ((by rw [hg]; exact Nat.ne_of_gt (blk_lt (g := gb193) (o := .cells #[.int .i64 a0_0, .int .i64 a0_1, .bool a0_2, .slice A0_3 l0_3.length c0_3, .slice A0_4 l0_4.length c0_4] 77 (0, 0)) (by (with_reducible repeat (first | refine blk_drewN ?_ _ | refine blk_drew ?_ | refine blk_alloc ?_ _)); exact BK193.out)) : gb194 ≠ gb193)); clear BK193; clear HB; have BK193 := n0_; have HB := n1_; have BK194 := n2_; have GW194 := n3_; have GE194 := n4_; have NB193_194 := n5_; have NB194_193 := n6_; clear n0_ n1_ n2_ n3_ n4_ n5_ n6_; clear hb hbox hg; have hnb7 := NB193_194.out; have hnc7 := NB194_193.out; have hcz8_0 : w6.cell? ⟨gb193, 0, none⟩ = some (.int .i64 a0_0) := (blk_cell BK193.out 0).trans rfl; have hcz8_1 : w6.cell? ⟨gb193, 1, none⟩ = some (.int .i64 a0_1) := (blk_cell BK193.out 1).trans rfl; have hcz8_2 : w6.cell? ⟨gb193, 2, none⟩ = some (.bool a0_2) := (blk_cell BK193.out 2).trans rfl; have hcz8_3 : w6.cell? ⟨gb193, 3, none⟩ = some (.slice A0_3 l0_3.length c0_3) := (blk_cell BK193.out 3).trans rfl; have hcz8_4 : w6.cell? ⟨gb193, 4, none⟩ = some (.slice A0_4 l0_4.length c0_4) := (blk_cell BK193.out 4).trans rfl; have hfz8_0 := blk_frozen BK193.out 0; have hfz8_1 := blk_frozen BK193.out 1; have hfz8_2 := blk_frozen BK193.out 2; have hfz8_3 := blk_frozen BK193.out 3; have hfz8_4 := blk_frozen BK193.out 4) | ((with_reducible refine gate_callee (f := 141) rfl ?_); refine goesL_ (some 10) rfl rfl Tryz.func141 (by kernel_rfl) rfl #[.agg #[.int .i64 a0_0, .int .i64 a0_1, .bool a0_2, .slice A0_3 l0_3.length c0_3, .slice A0_4 l0_4.length c0_4], .int .i64 16] rfl (by (try simp only [List.map_toArray, List.map_cons, List.map_nil]); first | done | rfl | (simp only [List.length_drop, List.length_take]; rfl)) ?_; (with_reducible refine (name_inside.calls k a0_0 a0_1 a0_2 _ _ l0_3 _ _ l0_4 16 t195 t198 _ ?side1 ?side2 ?side3 ?side4 A2.out).mono ?_); (case side1 => repeat (first | exact (Kd.C_below HR0_3.out HB.out) | (with_reducible refine Kd.C_alloc ?_ _) | (with_reducible refine Kd.C_drewN ?_ _) | (with_reducible refine Kd.C_drew ?_))); (case side2 => exact HC0_3.out); (case side3 => repeat (first | exact (Kd.C_below HR0_4.out HB.out) | (with_reducible refine Kd.C_alloc ?_ _) | (with_reducible refine Kd.C_drewN ?_ _) | (with_reducible refine Kd.C_drew ?_))); (case side4 => exact HC0_4.out); rintro e w9 ⟨v196, ev_, rfl, hev_, ho0, hb⟩; obtain rfl := EV.nil_of hev_ c3b0; have HEV_ := Aside0.mk hev_; clear hev_; refine ⟨_, rfl, ?_⟩; have n0_ := Aside0.mk (Kd.S_lower (Kd.S_newB ho0 (g := gb193) (o := .cells #[.int .i64 a0_0, .int .i64 a0_1, .bool a0_2, .slice A0_3 l0_3.length c0_3, .slice A0_4 l0_4.length c0_4] 77 (0, 0)) (by (with_reducible repeat (first | refine blk_drewN ?_ _ | refine blk_drew ?_ | refine blk_alloc ?_ _)); exact BK193.out)) (below_size (by repeat (first | (with_reducible first | exact HB.out | apply below_alloc | apply pw_below_drewN | apply below_drew1 | refine below_set ?_ GE193.out | refine below_set ?_ GE194.out) | exact HB.out)))); have n1_ := Aside0.mk (blk_below (g := gb193) (o := .cells #[.int .i64 a0_0, .int .i64 a0_1, .bool a0_2, .slice A0_3 l0_3.length c0_3, .slice A0_4 l0_4.length c0_4] 77 (0, 0)) (by (with_reducible repeat (first | refine blk_drewN ?_ _ | refine blk_drew ?_ | refine blk_alloc ?_ _)); exact BK193.out) hb); have n2_ := Aside0.mk (blk_below (g := gb194) (o := .cells #[.string (⟨#[]⟩ : ByteArray), .int .i64 0, .slice none 0 0] 64 (0, 0)) (by (with_reducible repeat (first | refine blk_drewN ?_ _ | refine blk_drew ?_ | refine blk_alloc ?_ _)); exact BK194.out) hb); have n3_ := Aside0.mk (below_step (by repeat (first | (with_reducible first | exact HB.out | apply below_alloc | apply pw_below_drewN | apply below_drew1 | refine below_set ?_ GE193.out | refine below_set ?_ GE194.out) | exact HB.out)) hb); clear BK193; clear BK194; clear HB; have HO197 := n0_; have BK193 := n1_; have BK194 := n2_; have HB := n3_; clear n0_ n1_ n2_ n3_; (try clear hb); (try clear hb2); (try clear hk); (try clear hi); (try clear ho0)))
    (try simp only [Act.put, List.setIfInBounds_toArray, List.set_cons_zero, List.set_cons_succ])
    go_cut [50] (fun v50 wc => ∃ (kq : Nat) (x50_3 : Bool), v50 = .bool x50_3 ∧ Aside0 (name_part.j0 kq t195 x50_3 = some (r1, r2, r3, r4)) ∧ Aside0 (kq ≤ k) ∧ Aside0 (Kd.S k77 77 wc w.heap.size (fun k_ => k_ ≠ gb193) v196 t195) ∧ Aside0 (wc.heap[gb193]? = some (.cells #[.int .i64 a0_0, .int .i64 a0_1, .bool a0_2, (.slice A0_3 l0_3.length c0_3), (.slice A0_4 l0_4.length c0_4)] 77 (0, 0))) ∧ Aside0 (wc.heap[gb194]? = some (.cells #[.string (⟨#[]⟩ : ByteArray), .int .i64 0, (.slice none 0 0)] 64 (0, 0))) ∧ Aside0 (Below w.heap.size w wc))
    case first =>
      have H := HC4.out
      clear HC4
      obtain ⟨Ao18, co18, eo18⟩ := Kd.S_slice HO197.out
      (first | subst eo18 | (injection eo18 with f1_ f2_ f3_; have f4_ := f1_.symm; have f5_ := f3_.symm; clear f1_ f2_ f3_; subst f4_; subst f5_))
      by_cases c10 : (t195.length : Int) = 2
      · rw [if_pos c10, if_pos (by omega), if_pos (by omega)] at H
        have c10b0 : ((t195.length : Int) == 2) = true := beq_iff_eq.mpr c10
        have c10b1 : ((t195.length : Int) != 2) = false := bne_eq_false_iff_eq.mpr c10
        have p199 : 0 ≤ (0 : Int) := (by omega)
        have q199 : 0 < (t195.length : Int) := by omega
        obtain ⟨ad199, A199_3, c199_3, A199_4, c199_4, e199, hx199_0, hx199_1, hx199_2, hx199_3, hx199_4, hl199_3, hi199_3, hl199_4, hi199_4⟩ := at_T77 (Kd.S_reads' HO197.out).2.2 0 p199 q199
        cases e199
        have qi199 : (0 < t195.length) = True := eq_true (by omega)
        (try rw [show ((0 : Int)).toNat = 0 from rfl] at hx199_0)
        (try rw [show 0 * 5 = 0 from rfl] at hx199_0)
        (try rw [Addr.add_zero'] at hx199_0)
        (try rw [show ((0 : Int)).toNat = 0 from rfl] at hx199_1)
        (try rw [show 0 * 5 = 0 from rfl] at hx199_1)
        (try rw [Addr.add_zero'] at hx199_1)
        (try rw [show ((0 : Int)).toNat = 0 from rfl] at hx199_2)
        (try rw [show 0 * 5 = 0 from rfl] at hx199_2)
        (try rw [Addr.add_zero'] at hx199_2)
        clear hi199_3 hl199_3 hi199_4 hl199_4 hx199_3 hx199_4
        replace p199 := eq_true p199
        replace q199 := eq_true q199
        have p200 : 0 ≤ (1 : Int) := (by omega)
        have q200 : 1 < (t195.length : Int) := by omega
        obtain ⟨ad200, A200_3, c200_3, A200_4, c200_4, e200, hx200_0, hx200_1, hx200_2, hx200_3, hx200_4, hl200_3, hi200_3, hl200_4, hi200_4⟩ := at_T77 (Kd.S_reads' HO197.out).2.2 1 p200 q200
        obtain rfl : ad199 = ad200 := (by injection e200)
        (try simp only [show (1 : Int).toNat = 1 from rfl, Nat.reduceMul, Nat.reduceEqDiff, Go.Addr.add, ↓reduceIte] at hx200_0)
        (try simp only [show (1 : Int).toNat = 1 from rfl, Nat.reduceMul, Nat.reduceEqDiff, Go.Addr.add, ↓reduceIte] at hx200_1)
        (try simp only [show (1 : Int).toNat = 1 from rfl, Nat.reduceMul, Nat.reduceEqDiff, Go.Addr.add, ↓reduceIte] at hx200_2)
        have qi200 : (1 < t195.length) = True := eq_true (by omega)
        (try rw [show ((1 : Int)).toNat = 1 from rfl] at hx200_0)
        (try rw [show 1 * 5 = 5 from rfl] at hx200_0)
        (try rw [show ((1 : Int)).toNat = 1 from rfl] at hx200_1)
        (try rw [show 1 * 5 = 5 from rfl] at hx200_1)
        (try rw [show ((1 : Int)).toNat = 1 from rfl] at hx200_2)
        (try rw [show 1 * 5 = 5 from rfl] at hx200_2)
        clear hi200_3 hl200_3 hi200_4 hl200_4 hx200_3 hx200_4
        replace p200 := eq_true p200
        replace q200 := eq_true q200
        clear c10
        generalize (rd_T77 t195 0).f0 = a0f0 at *
        generalize (rd_T77 t195 1).f0 = a1f0 at *
        generalize (rd_T77 t195 0).f1 = a0f1 at *
        generalize (rd_T77 t195 0).f2 = a0f2 at *
        generalize (rd_T77 t195 1).f2 = a1f2 at *
        by_cases c13 : (wrap64 (a0f0 + a1f0)) = 0
        · rw [if_pos c13] at H
          have c13b0 : ((wrap64 (a0f0 + a1f0)) == 0) = true := beq_iff_eq.mpr c13
          have c13b1 : ((wrap64 (a0f0 + a1f0)) != 0) = false := bne_eq_false_iff_eq.mpr c13
          clear c13
          by_cases c14 : a0f1 = 6
          · rw [if_pos c14] at H
            have c14b0 : (a0f1 == 6) = true := beq_iff_eq.mpr c14
            have c14b1 : (a0f1 != 6) = false := bne_eq_false_iff_eq.mpr c14
            clear c14
            cases a0f2 with
            | true =>
              rw [if_pos rfl] at H
              have H' := Aside0.mk H
              clear H
              go_quiet (fail)
              try go_wp2
              go_meet
              case rel => exact ⟨_, (true), (by first | rfl | (simp; done) | (simp [*]; done)), H', ⟨Nat.le_refl _⟩, ⟨by (with_reducible repeat (first | apply Kd.S_alloc | apply Kd.S_drewN | apply Kd.S_drew)); exact Kd.S_mono HO197.out (fun _ hk => hk.2)⟩, ⟨by (with_reducible repeat (first | refine blk_drewN ?_ _ | refine blk_drew ?_ | refine blk_alloc ?_ _)); exact BK193.out⟩, ⟨by (with_reducible repeat (first | refine blk_drewN ?_ _ | refine blk_drew ?_ | refine blk_alloc ?_ _)); exact BK194.out⟩, ⟨by repeat (first | (with_reducible first | exact HB.out | apply below_alloc | apply pw_below_drewN | apply below_drew1 | refine below_set ?_ GE193.out | refine below_set ?_ GE194.out) | exact HB.out)⟩⟩
            | false =>
              rw [if_neg (show ¬ (false = true) by decide)] at H
              have H' := Aside0.mk H
              clear H
              go_quiet (fail)
              try go_wp2
              go_meet
              case rel => exact ⟨_, (a1f2), (by first | rfl | (simp; done) | (simp [*]; done)), H', ⟨Nat.le_refl _⟩, ⟨by (with_reducible repeat (first | apply Kd.S_alloc | apply Kd.S_drewN | apply Kd.S_drew)); exact Kd.S_mono HO197.out (fun _ hk => hk.2)⟩, ⟨by (with_reducible repeat (first | refine blk_drewN ?_ _ | refine blk_drew ?_ | refine blk_alloc ?_ _)); exact BK193.out⟩, ⟨by (with_reducible repeat (first | refine blk_drewN ?_ _ | refine blk_drew ?_ | refine blk_alloc ?_ _)); exact BK194.out⟩, ⟨by repeat (first | (with_reducible first | exact HB.out | apply below_alloc | apply pw_below_drewN | apply below_drew1 | refine below_set ?_ GE193.out | refine below_set ?_ GE194.out) | exact HB.out)⟩⟩
          · rw [if_neg c14] at H
            have c14b0 : (a0f1 == 6) = false := beq_eq_false_iff_ne.mpr c14
            have c14b1 : (a0f1 != 6) = true := bne_iff_ne.mpr c14
            clear c14
            have H' := Aside0.mk H
            clear H
            go_quiet (fail)
            try go_wp2
            go_meet
            case rel => exact ⟨_, (true), (by first | rfl | (simp; done) | (simp [*]; done)), H', ⟨Nat.le_refl _⟩, ⟨by (with_reducible repeat (first | apply Kd.S_alloc | apply Kd.S_drewN | apply Kd.S_drew)); exact Kd.S_mono HO197.out (fun _ hk => hk.2)⟩, ⟨by (with_reducible repeat (first | refine blk_drewN ?_ _ | refine blk_drew ?_ | refine blk_alloc ?_ _)); exact BK193.out⟩, ⟨by (with_reducible repeat (first | refine blk_drewN ?_ _ | refine blk_drew ?_ | refine blk_alloc ?_ _)); exact BK194.out⟩, ⟨by repeat (first | (with_reducible first | exact HB.out | apply below_alloc | apply pw_below_drewN | apply below_drew1 | refine below_set ?_ GE193.out | refine below_set ?_ GE194.out) | exact HB.out)⟩⟩
        · rw [if_neg c13] at H
          have c13b0 : ((wrap64 (a0f0 + a1f0)) == 0) = false := beq_eq_false_iff_ne.mpr c13
          have c13b1 : ((wrap64 (a0f0 + a1f0)) != 0) = true := bne_iff_ne.mpr c13
          clear c13
          have H' := Aside0.mk H
          clear H
          go_quiet (fail)
          try go_wp2
          go_meet
          case rel => exact ⟨_, (true), (by first | rfl | (simp; done) | (simp [*]; done)), H', ⟨Nat.le_refl _⟩, ⟨by (with_reducible repeat (first | apply Kd.S_alloc | apply Kd.S_drewN | apply Kd.S_drew)); exact Kd.S_mono HO197.out (fun _ hk => hk.2)⟩, ⟨by (with_reducible repeat (first | refine blk_drewN ?_ _ | refine blk_drew ?_ | refine blk_alloc ?_ _)); exact BK193.out⟩, ⟨by (with_reducible repeat (first | refine blk_drewN ?_ _ | refine blk_drew ?_ | refine blk_alloc ?_ _)); exact BK194.out⟩, ⟨by repeat (first | (with_reducible first | exact HB.out | apply below_alloc | apply pw_below_drewN | apply below_drew1 | refine below_set ?_ GE193.out | refine below_set ?_ GE194.out) | exact HB.out)⟩⟩
      · rw [if_neg c10] at H
        have c10b0 : ((t195.length : Int) == 2) = false := beq_eq_false_iff_ne.mpr c10
        have c10b1 : ((t195.length : Int) != 2) = true := bne_iff_ne.mpr c10
        clear c10
        have H' := Aside0.mk H
        clear H
        go_quiet (fail)
        try go_wp2
        go_meet
        case rel => exact ⟨_, (true), (by first | rfl | (simp; done) | (simp [*]; done)), H', ⟨Nat.le_refl _⟩, ⟨by (with_reducible repeat (first | apply Kd.S_alloc | apply Kd.S_drewN | apply Kd.S_drew)); exact Kd.S_mono HO197.out (fun _ hk => hk.2)⟩, ⟨by (with_reducible repeat (first | refine blk_drewN ?_ _ | refine blk_drew ?_ | refine blk_alloc ?_ _)); exact BK193.out⟩, ⟨by (with_reducible repeat (first | refine blk_drewN ?_ _ | refine blk_drew ?_ | refine blk_alloc ?_ _)); exact BK194.out⟩, ⟨by repeat (first | (with_reducible first | exact HB.out | apply below_alloc | apply pw_below_drewN | apply below_drew1 | refine below_set ?_ GE193.out | refine below_set ?_ GE194.out) | exact HB.out)⟩⟩
    case rest =>
      clear HC4
      try clear c1
      try clear p1
      try clear q1
      try clear hx1
      try clear qi1
      try clear c2
      try clear p2
      try clear q2
      try clear hx2
      try clear qi2
      try clear p6
      try clear c10
      try clear c10b0
      try clear c10b1
      try clear c11
      try clear c12
      try clear c13
      try clear c13b0
      try clear c13b1
      try clear c19
      try clear p19
      try clear q19
      try clear hx19
      try clear qi19
      try clear c20
      try clear p20
      try clear q20
      try clear hx20
      try clear qi20
      try clear hx199_0
      try clear hx199_1
      try clear hx199_2
      try clear hx199_3
      try clear hx199_4
      try clear hx200_0
      try clear hx200_1
      try clear hx200_2
      try clear hx200_3
      try clear hx200_4
      try clear p199
      try clear p200
      try clear q199
      try clear q200
      obtain ⟨kq, x50_3, rfl, HA, HJ3, HO_4, BK193, BK194, HB⟩ := hcut
      cases kq with
      | zero => exact absurd HA.out (by simp [name_part.j0])
      | succ kj3 =>
        have H := HA.out
        clear HA
        simp only [name_part.j0] at H
        by_cases c27 : x50_3 = true
        · subst c27
          have H1 : (some ((⟨#[]⟩ : ByteArray), 0, ([] : List Int), 30)) = some (r1, r2, r3, r4) := by rw [if_pos rfl] at H; exact H
          clear H
          have H := H1
          clear H1
          simp only [Option.some.injEq, Prod.mk.injEq] at H
          obtain ⟨rfl, rfl, rfl, rfl⟩ := H
          have hnb28 := NB194_193.out
          have hnc28 := NB193_194.out
          have hcz29_0 : wc.cell? ⟨gb194, 0, none⟩ = some (.string (⟨#[]⟩ : ByteArray)) := (blk_cell BK194.out 0).trans rfl
          have hcz29_1 : wc.cell? ⟨gb194, 1, none⟩ = some (.int .i64 0) := (blk_cell BK194.out 1).trans rfl
          have hcz29_2 : wc.cell? ⟨gb194, 2, none⟩ = some (.slice none 0 0) := (blk_cell BK194.out 2).trans rfl
          have hfz29_0 := blk_frozen BK194.out 0
          have hfz29_1 := blk_frozen BK194.out 1
          have hfz29_2 := blk_frozen BK194.out 2
          go_wp2
          refine bodyPost_ret (results_ct rfl _ _ gb194 64 #[.string (⟨#[]⟩ : ByteArray), .int .i64 0, .slice none 0 0] (0, 0) _ rfl (by (with_reducible repeat (first | refine blk_drewN ?_ _ | refine blk_drew ?_ | refine blk_alloc ?_ _)); refine blk_put (cs := #[.string (⟨#[]⟩ : ByteArray), .int .i64 0, .slice none 0 0]) ?_ 2 _ rfl; (with_reducible repeat (first | refine blk_drewN ?_ _ | refine blk_drew ?_ | refine blk_alloc ?_ _)); refine blk_put (cs := #[.string (⟨#[]⟩ : ByteArray), .int .i64 0, .slice none 0 0]) ?_ 1 _ rfl; (with_reducible repeat (first | refine blk_drewN ?_ _ | refine blk_drew ?_ | refine blk_alloc ?_ _)); refine blk_put (cs := #[.string (⟨#[]⟩ : ByteArray), .int .i64 0, .slice none 0 0]) ?_ 0 _ rfl; (with_reducible repeat (first | refine blk_drewN ?_ _ | refine blk_drew ?_ | refine blk_alloc ?_ _)); exact BK194.out) Tryz.underlying64 rfl (by kernel_rfl)) rfl ?_
          exact ⟨_, _, by first | rfl | (simp [errW_none, errW_some] <;> rfl) | (simp [*, errW_none, errW_some] <;> rfl), (by first | exact EV.nil | exact EV.f30 | exact EV.f5 | exact EV.f4 | exact EV.f1 | exact EV.low (by assumption) | exact HEV_.out | exact EV.part HEV_.out), by first | exact Kd.R_nil _ _ _ _ _ | exact Kd.N_nil _ _ _ _ _ | exact Kd.V_nil _ _ _ _ _ | exact Kd.Q_nil _ _ _ _ _ | exact Kd.S_nil _ _ _ _ _, by repeat (first | (with_reducible first | exact HB.out | apply below_alloc | apply pw_below_drewN | apply below_drew1 | refine below_set ?_ GE193.out | refine below_set ?_ GE194.out) | exact HB.out)⟩
        · replace c27 := Bool.eq_false_iff.mpr c27
          subst c27
          have H1 : (if 0 < (t195.length : Int) then ((der_Oid.f kj3 ((rd_T77 t195 0).f3)).bind fun bt205 => (if bt205.2 = 0 then (if 1 < (t195.length : Int) then (some (bt205.1, (rd_T77 t195 1).f1, (rd_T77 t195 1).f3, 0)) else (none)) else (some ((⟨#[]⟩ : ByteArray), 0, ([] : List Int), bt205.2)))) else (none)) = some (r1, r2, r3, r4) := by rw [if_neg (show ¬ (false = true) by decide)] at H; exact H
          clear H
          have H := H1
          clear H1
          by_cases c30 : 0 < (t195.length : Int)
          · rw [if_pos c30] at H
            have c30b0 : decide (0 < (t195.length : Int)) = true := decide_eq_true c30
            have c30b1 : decide (0 < t195.length) = true := decide_eq_true (by omega)
            clear c30
            replace H := Option.bind_eq_some_iff.mp H
            obtain ⟨⟨t205, t206⟩, A310, H⟩ := H
            replace H : (if t206 = 0 then (if 1 < (t195.length : Int) then (some (t205, (rd_T77 t195 1).f1, (rd_T77 t195 1).f3, 0)) else (none)) else (some ((⟨#[]⟩ : ByteArray), 0, ([] : List Int), t206))) = some (r1, r2, r3, r4) := H
            have A31 := Aside0.mk A310
            clear A310
            by_cases c32 : t206 = 0
            · rw [if_pos c32] at H
              have c32b0 : (t206 == 0) = true := beq_iff_eq.mpr c32
              have c32b1 : (t206 != 0) = false := bne_eq_false_iff_eq.mpr c32
              clear c32
              by_cases c33 : 1 < (t195.length : Int)
              · rw [if_pos c33] at H
                have c33b0 : decide (1 < (t195.length : Int)) = true := decide_eq_true c33
                have c33b1 : decide (1 < t195.length) = true := decide_eq_true (by omega)
                clear c33
                simp only [Option.some.injEq, Prod.mk.injEq] at H
                obtain ⟨rfl, rfl, rfl, rfl⟩ := H
                obtain ⟨Ao34, co34, eo34⟩ := Kd.S_slice HO_4.out
                subst eo34
                have p204 : 0 ≤ (0 : Int) := (by omega)
                have q204 : 0 < (t195.length : Int) := of_decide_eq_true (by first | (with_reducible assumption) | assumption)
                obtain ⟨ad204, A204_3, c204_3, A204_4, c204_4, e204, hx204_0, hx204_1, hx204_2, hx204_3, hx204_4, hl204_3, hi204_3, hl204_4, hi204_4⟩ := at_T77 (Kd.S_reads' HO_4.out).2.2 0 p204 q204
                cases e204
                obtain ⟨ce204, hce204, hMe204, hcc204⟩ := Kd.S_get HO_4.out z77 0 p204 (by first | exact q204 | exact of_decide_eq_true (by first | (with_reducible assumption) | assumption) | (have e_ := (Kd.S_reads' HO_4.out).1; omega))
                obtain ⟨ve204_3, ve204_4, rfl, ge204_3, ge204_4⟩ := k77_openM hMe204
                have hv204_3 := hcc204 3 _ rfl
                rw [add_field _ _ 3 (by omega)] at hv204_3
                replace hv204_3 := Option.some.inj (hv204_3.symm.trans hx204_3)
                rw [hv204_3] at ge204_3
                have HL204_3 := Aside0.mk (show Kd.R (Kd.int .u8) 5 _ _ _ _ ((rd_T77 t195 0).f3) from ge204_3)
                clear hv204_3 ge204_3
                have hv204_4 := hcc204 4 _ rfl
                rw [add_field _ _ 4 (by omega)] at hv204_4
                replace hv204_4 := Option.some.inj (hv204_4.symm.trans hx204_4)
                rw [hv204_4] at ge204_4
                have HL204_4 := Aside0.mk (show Kd.R (Kd.int .u8) 5 _ _ _ _ ((rd_T77 t195 0).f4) from ge204_4)
                clear hv204_4 ge204_4
                clear hcc204 hce204
                have qi204 : (0 < t195.length) = True := eq_true (by omega)
                (try rw [show ((0 : Int)).toNat = 0 from rfl] at hx204_0)
                (try rw [show 0 * 5 = 0 from rfl] at hx204_0)
                (try rw [Addr.add_zero'] at hx204_0)
                (try rw [show ((0 : Int)).toNat = 0 from rfl] at hx204_1)
                (try rw [show 0 * 5 = 0 from rfl] at hx204_1)
                (try rw [Addr.add_zero'] at hx204_1)
                (try rw [show ((0 : Int)).toNat = 0 from rfl] at hx204_2)
                (try rw [show 0 * 5 = 0 from rfl] at hx204_2)
                (try rw [Addr.add_zero'] at hx204_2)
                (try rw [show ((0 : Int)).toNat = 0 from rfl] at hx204_3)
                (try rw [show 0 * 5 = 0 from rfl] at hx204_3)
                (try rw [Addr.add_zero'] at hx204_3)
                (try rw [show ((0 : Int)).toNat = 0 from rfl] at hx204_4)
                (try rw [show 0 * 5 = 0 from rfl] at hx204_4)
                (try rw [Addr.add_zero'] at hx204_4)
                have HR204_3 := Aside0.mk hi204_3
                have HC204_3 := Aside0.mk hl204_3
                clear hi204_3 hl204_3
                have HR204_4 := Aside0.mk hi204_4
                have HC204_4 := Aside0.mk hl204_4
                clear hi204_4 hl204_4
                replace p204 := eq_true p204
                replace q204 := eq_true q204
                try go_wp2_with (first | ((with_reducible refine gate_callee (f := 163) rfl ?_); refine goesL_ (some 58) rfl rfl Tryz.func163 (by kernel_rfl) rfl #[.slice A204_3 ((rd_T77 t195 0).f3).length c204_3] rfl (by (try simp only [List.map_toArray, List.map_cons, List.map_nil]); first | done | rfl | (simp only [List.length_drop, List.length_take]; rfl)) ?_; (with_reducible refine (der_Oid.calls kj3 _ _ ((rd_T77 t195 0).f3) t205 t206 _ ?side1 ?side2 A31.out (Tb.below HHd.out (by repeat (first | (with_reducible first | exact HB.out | apply below_alloc | apply pw_below_drewN | apply below_drew1 | refine below_set ?_ GE193.out | refine below_set ?_ GE194.out) | exact HB.out)))).mono ?_); (case side1 => repeat (first | exact (by repeat (first | (with_reducible exact HR204_3.out) | (with_reducible refine Kd.C_alloc ?_ _) | (with_reducible refine Kd.C_drewN ?_ _) | (with_reducible refine Kd.C_drew ?_) | exact HR204_3.out)) | (with_reducible refine Kd.C_alloc ?_ _) | (with_reducible refine Kd.C_drewN ?_ _) | (with_reducible refine Kd.C_drew ?_))); (case side2 => exact HC204_3.out); rintro e w35 ⟨rfl, hb⟩; refine ⟨_, rfl, ?_⟩; have n0_ := Aside0.mk (Kd.S_below (by (with_reducible repeat (first | apply Kd.S_alloc | apply Kd.S_drewN | apply Kd.S_drew)); exact HO_4.out) hb); have n1_ := Aside0.mk (Kd.R_below (by (with_reducible repeat (first | apply Kd.R_alloc | apply Kd.R_drewN | apply Kd.R_drew)); exact HL204_3.out) hb); have n2_ := Aside0.mk (Kd.R_below (by (with_reducible repeat (first | apply Kd.R_alloc | apply Kd.R_drewN | apply Kd.R_drew)); exact HL204_4.out) hb); have n3_ := Aside0.mk (blk_below (g := gb193) (o := .cells #[.int .i64 a0_0, .int .i64 a0_1, .bool a0_2, .slice A0_3 l0_3.length c0_3, .slice A0_4 l0_4.length c0_4] 77 (0, 0)) (by (with_reducible repeat (first | refine blk_drewN ?_ _ | refine blk_drew ?_ | refine blk_alloc ?_ _)); exact BK193.out) hb); have n4_ := Aside0.mk (blk_below (g := gb194) (o := .cells #[.string (⟨#[]⟩ : ByteArray), .int .i64 0, .slice none 0 0] 64 (0, 0)) (by (with_reducible repeat (first | refine blk_drewN ?_ _ | refine blk_drew ?_ | refine blk_alloc ?_ _)); exact BK194.out) hb); have n5_ := Aside0.mk (Kd.C_below (by repeat (first | (with_reducible exact HR204_3.out) | (with_reducible refine Kd.C_alloc ?_ _) | (with_reducible refine Kd.C_drewN ?_ _) | (with_reducible refine Kd.C_drew ?_) | exact HR204_3.out)) hb); have n6_ := Aside0.mk (Kd.C_below (by repeat (first | (with_reducible exact HR204_4.out) | (with_reducible refine Kd.C_alloc ?_ _) | (with_reducible refine Kd.C_drewN ?_ _) | (with_reducible refine Kd.C_drew ?_) | exact HR204_4.out)) hb); have n7_ := Aside0.mk (below_step (by repeat (first | (with_reducible first | exact HB.out | apply below_alloc | apply pw_below_drewN | apply below_drew1 | refine below_set ?_ GE193.out | refine below_set ?_ GE194.out) | exact HB.out)) hb); clear HO_4; clear HL204_3; clear HL204_4; clear BK193; clear BK194; clear HR204_3; clear HR204_4; clear HB; have HO_4 := n0_; have HL204_3 := n1_; have HL204_4 := n2_; have BK193 := n3_; have BK194 := n4_; have HR204_3 := n5_; have HR204_4 := n6_; have HB := n7_; clear n0_ n1_ n2_ n3_ n4_ n5_ n6_ n7_; (try clear hb); (try clear hb2); (try clear hk); (try clear hi)))
                have n0_ := Aside0.mk (Kd.S_drew HO_4.out)
                have n1_ := Aside0.mk (Kd.R_drew HL204_3.out)
                have n2_ := Aside0.mk (Kd.R_drew HL204_4.out)
                have n3_ := Aside0.mk (blk_drew BK193.out)
                have n4_ := Aside0.mk (blk_drew BK194.out)
                have n5_ := Aside0.mk (Kd.C_drew HR204_3.out)
                have n6_ := Aside0.mk (Kd.C_drew HR204_4.out)
                have n7_ := Aside0.mk (below_drew1 HB.out)
                clear HO_4
                clear HL204_3
                clear HL204_4
                clear BK193
                clear BK194
                clear HR204_3
                clear HR204_4
                clear HB
                have HO_4 := n0_
                have HL204_3 := n1_
                have HL204_4 := n2_
                have BK193 := n3_
                have BK194 := n4_
                have HR204_3 := n5_
                have HR204_4 := n6_
                have HB := n7_
                clear n0_ n1_ n2_ n3_ n4_ n5_ n6_ n7_
                have p207 : 0 ≤ (1 : Int) := (by omega)
                have q207 : 1 < (t195.length : Int) := of_decide_eq_true (by first | (with_reducible assumption) | assumption)
                obtain ⟨ad207, A207_3, c207_3, A207_4, c207_4, e207, hx207_0, hx207_1, hx207_2, hx207_3, hx207_4, hl207_3, hi207_3, hl207_4, hi207_4⟩ := at_T77 (Kd.S_reads' HO_4.out).2.2 1 p207 q207
                obtain rfl : ad204 = ad207 := (by injection e207)
                obtain ⟨ce207, hce207, hMe207, hcc207⟩ := Kd.S_get HO_4.out z77 1 p207 (by first | exact q207 | exact of_decide_eq_true (by first | (with_reducible assumption) | assumption) | (have e_ := (Kd.S_reads' HO_4.out).1; omega))
                obtain ⟨ve207_3, ve207_4, rfl, ge207_3, ge207_4⟩ := k77_openM hMe207
                have hv207_3 := hcc207 3 _ rfl
                rw [add_field _ _ 3 (by omega)] at hv207_3
                replace hv207_3 := Option.some.inj (hv207_3.symm.trans hx207_3)
                rw [hv207_3] at ge207_3
                have HL207_3 := Aside0.mk (show Kd.R (Kd.int .u8) 5 _ _ _ _ ((rd_T77 t195 1).f3) from ge207_3)
                clear hv207_3 ge207_3
                have hv207_4 := hcc207 4 _ rfl
                rw [add_field _ _ 4 (by omega)] at hv207_4
                replace hv207_4 := Option.some.inj (hv207_4.symm.trans hx207_4)
                rw [hv207_4] at ge207_4
                have HL207_4 := Aside0.mk (show Kd.R (Kd.int .u8) 5 _ _ _ _ ((rd_T77 t195 1).f4) from ge207_4)
                clear hv207_4 ge207_4
                clear hcc207 hce207
                (try simp only [show (1 : Int).toNat = 1 from rfl, Nat.reduceMul, Nat.reduceEqDiff, Go.Addr.add, ↓reduceIte] at hx207_0)
                (try simp only [show (1 : Int).toNat = 1 from rfl, Nat.reduceMul, Nat.reduceEqDiff, Go.Addr.add, ↓reduceIte] at hx207_1)
                (try simp only [show (1 : Int).toNat = 1 from rfl, Nat.reduceMul, Nat.reduceEqDiff, Go.Addr.add, ↓reduceIte] at hx207_2)
                (try simp only [show (1 : Int).toNat = 1 from rfl, Nat.reduceMul, Nat.reduceEqDiff, Go.Addr.add, ↓reduceIte] at hx207_3)
                (try simp only [show (1 : Int).toNat = 1 from rfl, Nat.reduceMul, Nat.reduceEqDiff, Go.Addr.add, ↓reduceIte] at hx207_4)
                have qi207 : (1 < t195.length) = True := eq_true (by omega)
                (try rw [show ((1 : Int)).toNat = 1 from rfl] at hx207_0)
                (try rw [show 1 * 5 = 5 from rfl] at hx207_0)
                (try rw [show ((1 : Int)).toNat = 1 from rfl] at hx207_1)
                (try rw [show 1 * 5 = 5 from rfl] at hx207_1)
                (try rw [show ((1 : Int)).toNat = 1 from rfl] at hx207_2)
                (try rw [show 1 * 5 = 5 from rfl] at hx207_2)
                (try rw [show ((1 : Int)).toNat = 1 from rfl] at hx207_3)
                (try rw [show 1 * 5 = 5 from rfl] at hx207_3)
                (try rw [show ((1 : Int)).toNat = 1 from rfl] at hx207_4)
                (try rw [show 1 * 5 = 5 from rfl] at hx207_4)
                have HR207_3 := Aside0.mk hi207_3
                have HC207_3 := Aside0.mk hl207_3
                clear hi207_3 hl207_3
                have HR207_4 := Aside0.mk hi207_4
                have HC207_4 := Aside0.mk hl207_4
                clear hi207_4 hl207_4
                replace p207 := eq_true p207
                replace q207 := eq_true q207
                have p208 : 0 ≤ (1 : Int) := (by omega)
                have q208 : 1 < (t195.length : Int) := of_decide_eq_true (by first | (with_reducible assumption) | assumption)
                obtain ⟨ad208, A208_3, c208_3, A208_4, c208_4, e208, hx208_0, hx208_1, hx208_2, hx208_3, hx208_4, hl208_3, hi208_3, hl208_4, hi208_4⟩ := at_T77 (Kd.S_reads' HO_4.out).2.2 1 p208 q208
                obtain rfl : ad204 = ad208 := (by injection e208)
                obtain ⟨ce208, hce208, hMe208, hcc208⟩ := Kd.S_get HO_4.out z77 1 p208 (by first | exact q208 | exact of_decide_eq_true (by first | (with_reducible assumption) | assumption) | (have e_ := (Kd.S_reads' HO_4.out).1; omega))
                obtain ⟨ve208_3, ve208_4, rfl, ge208_3, ge208_4⟩ := k77_openM hMe208
                have hv208_3 := hcc208 3 _ rfl
                rw [add_field _ _ 3 (by omega)] at hv208_3
                replace hv208_3 := Option.some.inj (hv208_3.symm.trans hx208_3)
                rw [hv208_3] at ge208_3
                have HL208_3 := Aside0.mk (show Kd.R (Kd.int .u8) 5 _ _ _ _ ((rd_T77 t195 1).f3) from ge208_3)
                clear hv208_3 ge208_3
                have hv208_4 := hcc208 4 _ rfl
                rw [add_field _ _ 4 (by omega)] at hv208_4
                replace hv208_4 := Option.some.inj (hv208_4.symm.trans hx208_4)
                rw [hv208_4] at ge208_4
                have HL208_4 := Aside0.mk (show Kd.R (Kd.int .u8) 5 _ _ _ _ ((rd_T77 t195 1).f4) from ge208_4)
                clear hv208_4 ge208_4
                clear hcc208 hce208
                (try simp only [show (1 : Int).toNat = 1 from rfl, Nat.reduceMul, Nat.reduceEqDiff, Go.Addr.add, ↓reduceIte] at hx208_0)
                (try simp only [show (1 : Int).toNat = 1 from rfl, Nat.reduceMul, Nat.reduceEqDiff, Go.Addr.add, ↓reduceIte] at hx208_1)
                (try simp only [show (1 : Int).toNat = 1 from rfl, Nat.reduceMul, Nat.reduceEqDiff, Go.Addr.add, ↓reduceIte] at hx208_2)
                (try simp only [show (1 : Int).toNat = 1 from rfl, Nat.reduceMul, Nat.reduceEqDiff, Go.Addr.add, ↓reduceIte] at hx208_3)
                (try simp only [show (1 : Int).toNat = 1 from rfl, Nat.reduceMul, Nat.reduceEqDiff, Go.Addr.add, ↓reduceIte] at hx208_4)
                have qi208 : (1 < t195.length) = True := eq_true (by omega)
                (try rw [show ((1 : Int)).toNat = 1 from rfl] at hx208_0)
                (try rw [show 1 * 5 = 5 from rfl] at hx208_0)
                (try rw [show ((1 : Int)).toNat = 1 from rfl] at hx208_1)
                (try rw [show 1 * 5 = 5 from rfl] at hx208_1)
                (try rw [show ((1 : Int)).toNat = 1 from rfl] at hx208_2)
                (try rw [show 1 * 5 = 5 from rfl] at hx208_2)
                (try rw [show ((1 : Int)).toNat = 1 from rfl] at hx208_3)
                (try rw [show 1 * 5 = 5 from rfl] at hx208_3)
                (try rw [show ((1 : Int)).toNat = 1 from rfl] at hx208_4)
                (try rw [show 1 * 5 = 5 from rfl] at hx208_4)
                have HR208_3 := Aside0.mk hi208_3
                have HC208_3 := Aside0.mk hl208_3
                clear hi208_3 hl208_3
                have HR208_4 := Aside0.mk hi208_4
                have HC208_4 := Aside0.mk hl208_4
                clear hi208_4 hl208_4
                replace p208 := eq_true p208
                replace q208 := eq_true q208
                have ea_ := Option.some.inj (hx207_3.symm.trans hx208_3)
                injection ea_ with ea_ en_ ec_
                subst ea_
                subst ec_
                clear en_
                have ea_ := Option.some.inj (hx207_4.symm.trans hx208_4)
                injection ea_ with ea_ en_ ec_
                subst ea_
                subst ec_
                clear en_
                refine start_ (n := 12) (S := fun w' => w'.cell? ⟨ad204.block, ad204.off + 5, none⟩ = some (.int .i64 ((rd_T77 t195 1).f0)) ∧ w'.cell? ⟨ad204.block, ad204.off + 5 + 1, none⟩ = some (.int .i64 ((rd_T77 t195 1).f1)) ∧ w'.cell? ⟨ad204.block, ad204.off + 5 + 2, none⟩ = some (.bool ((rd_T77 t195 1).f2)) ∧ w'.cell? ⟨ad204.block, ad204.off + 5 + 3, none⟩ = some (.slice A207_3 ((rd_T77 t195 1).f3).length c207_3) ∧ w'.cell? ⟨ad204.block, ad204.off + 5 + 4, none⟩ = some (.slice A207_4 ((rd_T77 t195 1).f4).length c207_4) ∧ w'.cell? ⟨ad204.block, ad204.off + 5, none⟩ = some (.int .i64 ((rd_T77 t195 1).f0)) ∧ w'.cell? ⟨ad204.block, ad204.off + 5 + 1, none⟩ = some (.int .i64 ((rd_T77 t195 1).f1)) ∧ w'.cell? ⟨ad204.block, ad204.off + 5 + 2, none⟩ = some (.bool ((rd_T77 t195 1).f2)) ∧ w'.cell? ⟨ad204.block, ad204.off + 5 + 3, none⟩ = some (.slice A207_3 ((rd_T77 t195 1).f3).length c207_3) ∧ w'.cell? ⟨ad204.block, ad204.off + 5 + 4, none⟩ = some (.slice A207_4 ((rd_T77 t195 1).f4).length c207_4)) (ds := []) #[false, false, false, false, false, false, false, false, false, false, false, false] (by kernel_rfl) rfl rfl ⟨hx207_0, hx207_1, hx207_2, hx207_3, hx207_4, hx208_0, hx208_1, hx208_2, hx208_3, hx208_4⟩ (fun hHeld => ?_); refine with_tabW name_part.tab9 name_part.bits9 (fun HT_ HW_ => ?_)
                generalize w35.drew = w36 at HO_4 HL204_3 HL204_4 BK193 BK194 HR204_3 HR204_4 HB HL207_3 HL207_4 HL208_3 HL208_4 HR207_3 HR207_4 HR208_3 HR208_4 hx207_0 hx207_1 hx207_2 hx207_3 hx207_4 hx208_0 hx208_1 hx208_2 hx208_3 hx208_4 hHeld ⊢
                refine pure_ (i := 0) (N := some 67) (v := ?_) (a' := ?_) #[true, false, false, false, false, false, false, false, false, false, false, false] rfl rfl (any_of HT_.out (by kernel_rfl)) (fun _ _ _ h => h) (Or.inl ⟨by rfl, ?_⟩) ?_ ?_; rotate_left; (intro w'; go_simp; with_reducible rfl); rotate_left; (simp only [Act.put, List.setIfInBounds_toArray, List.set_cons_zero, List.set_cons_succ, i64_w, i32_w]; rfl)
                refine pure_ (i := 1) (N := some 68) (v := ?_) (a' := ?_) #[true, true, false, false, false, false, false, false, false, false, false, false] rfl rfl (any_of HT_.out (by kernel_rfl)) (fun _ _ _ h => h) (Or.inl ⟨by rfl, ?_⟩) ?_ ?_; rotate_left; (intro w'; go_simp; with_reducible rfl); rotate_left; (simp only [Act.put, List.setIfInBounds_toArray, List.set_cons_zero, List.set_cons_succ, i64_w, i32_w]; rfl)
                refine pure_ (i := 2) (N := some 69) (v := ?_) (a' := ?_) #[true, true, true, false, false, false, false, false, false, false, false, false] rfl rfl (any_of HT_.out (by kernel_rfl)) (fun _ _ _ h => h) (Or.inl ⟨by rfl, ?_⟩) ?_ ?_; rotate_left; (intro w'; go_simp; with_reducible rfl); rotate_left; (simp only [Act.put, List.setIfInBounds_toArray, List.set_cons_zero, List.set_cons_succ, i64_w, i32_w]; rfl)
                refine pure_ (i := 3) (N := some 70) (v := ?_) (a' := ?_) #[true, true, true, true, false, false, false, false, false, false, false, false] rfl rfl (any_of HT_.out (by kernel_rfl)) (fun _ _ _ h => h) (Or.inl ⟨by rfl, ?_⟩) ?_ ?_; rotate_left; (intro w'; go_simp; with_reducible rfl); rotate_left; (simp only [Act.put, List.setIfInBounds_toArray, List.set_cons_zero, List.set_cons_succ, i64_w, i32_w]; rfl)
                refine pure_ (i := 5) (N := some 72) (v := ?_) (a' := ?_) #[true, true, true, true, false, true, false, false, false, false, false, false] rfl rfl (any_of HT_.out (by kernel_rfl)) (fun _ _ _ h => h) (Or.inl ⟨by rfl, ?_⟩) ?_ ?_; rotate_left; (intro w'; go_simp; with_reducible rfl); rotate_left; (simp only [Act.put, List.setIfInBounds_toArray, List.set_cons_zero, List.set_cons_succ, i64_w, i32_w]; rfl)
                refine pure_ (i := 6) (N := some 73) (v := ?_) (a' := ?_) #[true, true, true, true, false, true, true, false, false, false, false, false] rfl rfl (any_of HT_.out (by kernel_rfl)) (fun _ _ _ h => h) (Or.inl ⟨by rfl, ?_⟩) ?_ ?_; rotate_left; (intro w'; go_simp; with_reducible rfl); rotate_left; (simp only [Act.put, List.setIfInBounds_toArray, List.set_cons_zero, List.set_cons_succ, i64_w, i32_w]; rfl)
                refine pure_ (i := 7) (N := some 74) (v := ?_) (a' := ?_) #[true, true, true, true, false, true, true, true, false, false, false, false] rfl rfl (any_of HT_.out (by kernel_rfl)) (fun _ _ _ h => h) (Or.inl ⟨by rfl, ?_⟩) ?_ ?_; rotate_left; (intro w'; go_simp; with_reducible rfl); rotate_left; (simp only [Act.put, List.setIfInBounds_toArray, List.set_cons_zero, List.set_cons_succ, i64_w, i32_w]; rfl)
                refine take_ (i := 4) (N := some 71) (v := ?_) (a' := ?_) #[true, true, true, true, true, true, true, true, false, false, false, false] rfl rfl (take_ofW HT_.out HW_.out (by kernel_rfl)) (fun _ _ _ h => h) (Or.inl ⟨by rfl, ?_⟩) hHeld ?_ ?_; rotate_left; (rintro w' ⟨s0, s1, s2, s3, s4, s5, s6, s7, s8, s9⟩; go_simp; with_reducible rfl); rotate_left; (simp only [Act.put, List.setIfInBounds_toArray, List.set_cons_zero, List.set_cons_succ, i64_w, i32_w]; rfl)
                refine take_ (i := 8) (N := some 75) (v := ?_) (a' := ?_) #[true, true, true, true, true, true, true, true, true, false, false, false] rfl rfl (take_ofW HT_.out HW_.out (by kernel_rfl)) (fun _ _ _ h => h) (Or.inl ⟨by rfl, ?_⟩) hHeld ?_ ?_; rotate_left; (rintro w' ⟨s0, s1, s2, s3, s4, s5, s6, s7, s8, s9⟩; go_simp; with_reducible rfl); rotate_left; (simp only [Act.put, List.setIfInBounds_toArray, List.set_cons_zero, List.set_cons_succ, i64_w, i32_w]; rfl)
                refine pure_ (i := 9) (N := some 76) (v := ?_) (a' := ?_) #[true, true, true, true, true, true, true, true, true, true, false, false] rfl rfl (any_of HT_.out (by kernel_rfl)) (fun _ _ _ h => h) (Or.inl ⟨by rfl, ?_⟩) ?_ ?_; rotate_left; (intro w'; go_simp; with_reducible rfl); rotate_left; (simp only [Act.put, List.setIfInBounds_toArray, List.set_cons_zero, List.set_cons_succ, i64_w, i32_w]; rfl)
                refine one_ (i := 10) (N := none) #[true, true, true, true, true, true, true, true, true, true, true, false] rfl rfl (one_of HT_.out (by kernel_rfl)) (by decide) (fun K hK => ?_)
                have hs37 : w36.cell? ⟨gb194, 0, none⟩ = some (.string (⟨#[]⟩ : ByteArray)) := (blk_cell BK194.out 0).trans rfl
                have hfs37 := blk_frozen BK194.out 0
                have hns37_0 := NB193_194.out
                have hms37_0 := NB194_193.out
                have hs38 : w36.cell? ⟨gb194, 1, none⟩ = some (.int .i64 0) := (blk_cell BK194.out 1).trans rfl
                have hfs38 := blk_frozen BK194.out 1
                have hns38_0 := NB193_194.out
                have hms38_0 := NB194_193.out
                have hs39 : w36.cell? ⟨gb194, 2, none⟩ = some (.slice none 0 0) := (blk_cell BK194.out 2).trans rfl
                have hfs39 := blk_frozen BK194.out 2
                have hns39_0 := NB193_194.out
                have hms39_0 := NB194_193.out
                refine skip_ (w1 := ?_) (by rfl) rfl ?_ ?_; rotate_left; (go_simp; rfl)
                refine hK.out _ _ ⟨((cell_far (p := ⟨gb194, _, none⟩) (by first | exact Kd.own_blk (Kd.S_ne HO_4.out BK194.out (by decide)) | (rw [add_block]; exact Kd.own_blk (Kd.S_ne HO_4.out BK194.out (by decide))) | (show (Addr.add _ _).block ≠ _; rw [add_block]; exact Kd.own_blk (Kd.S_ne HO_4.out BK194.out (by decide))) | (dsimp only; exact Kd.own_blk (Kd.S_ne HO_4.out BK194.out (by decide)))) _).trans (((cell_far (p := ⟨gb194, _, none⟩) (by first | exact Kd.own_blk (Kd.S_ne HO_4.out BK194.out (by decide)) | (rw [add_block]; exact Kd.own_blk (Kd.S_ne HO_4.out BK194.out (by decide))) | (show (Addr.add _ _).block ≠ _; rw [add_block]; exact Kd.own_blk (Kd.S_ne HO_4.out BK194.out (by decide))) | (dsimp only; exact Kd.own_blk (Kd.S_ne HO_4.out BK194.out (by decide)))) _).trans (((cell_far (p := ⟨gb194, _, none⟩) (by first | exact Kd.own_blk (Kd.S_ne HO_4.out BK194.out (by decide)) | (rw [add_block]; exact Kd.own_blk (Kd.S_ne HO_4.out BK194.out (by decide))) | (show (Addr.add _ _).block ≠ _; rw [add_block]; exact Kd.own_blk (Kd.S_ne HO_4.out BK194.out (by decide))) | (dsimp only; exact Kd.own_blk (Kd.S_ne HO_4.out BK194.out (by decide)))) _).trans (hHeld.1)))))), ((cell_far (p := ⟨gb194, _, none⟩) (by first | exact Kd.own_blk (Kd.S_ne HO_4.out BK194.out (by decide)) | (rw [add_block]; exact Kd.own_blk (Kd.S_ne HO_4.out BK194.out (by decide))) | (show (Addr.add _ _).block ≠ _; rw [add_block]; exact Kd.own_blk (Kd.S_ne HO_4.out BK194.out (by decide))) | (dsimp only; exact Kd.own_blk (Kd.S_ne HO_4.out BK194.out (by decide)))) _).trans (((cell_far (p := ⟨gb194, _, none⟩) (by first | exact Kd.own_blk (Kd.S_ne HO_4.out BK194.out (by decide)) | (rw [add_block]; exact Kd.own_blk (Kd.S_ne HO_4.out BK194.out (by decide))) | (show (Addr.add _ _).block ≠ _; rw [add_block]; exact Kd.own_blk (Kd.S_ne HO_4.out BK194.out (by decide))) | (dsimp only; exact Kd.own_blk (Kd.S_ne HO_4.out BK194.out (by decide)))) _).trans (((cell_far (p := ⟨gb194, _, none⟩) (by first | exact Kd.own_blk (Kd.S_ne HO_4.out BK194.out (by decide)) | (rw [add_block]; exact Kd.own_blk (Kd.S_ne HO_4.out BK194.out (by decide))) | (show (Addr.add _ _).block ≠ _; rw [add_block]; exact Kd.own_blk (Kd.S_ne HO_4.out BK194.out (by decide))) | (dsimp only; exact Kd.own_blk (Kd.S_ne HO_4.out BK194.out (by decide)))) _).trans (hHeld.2.1)))))), ((cell_far (p := ⟨gb194, _, none⟩) (by first | exact Kd.own_blk (Kd.S_ne HO_4.out BK194.out (by decide)) | (rw [add_block]; exact Kd.own_blk (Kd.S_ne HO_4.out BK194.out (by decide))) | (show (Addr.add _ _).block ≠ _; rw [add_block]; exact Kd.own_blk (Kd.S_ne HO_4.out BK194.out (by decide))) | (dsimp only; exact Kd.own_blk (Kd.S_ne HO_4.out BK194.out (by decide)))) _).trans (((cell_far (p := ⟨gb194, _, none⟩) (by first | exact Kd.own_blk (Kd.S_ne HO_4.out BK194.out (by decide)) | (rw [add_block]; exact Kd.own_blk (Kd.S_ne HO_4.out BK194.out (by decide))) | (show (Addr.add _ _).block ≠ _; rw [add_block]; exact Kd.own_blk (Kd.S_ne HO_4.out BK194.out (by decide))) | (dsimp only; exact Kd.own_blk (Kd.S_ne HO_4.out BK194.out (by decide)))) _).trans (((cell_far (p := ⟨gb194, _, none⟩) (by first | exact Kd.own_blk (Kd.S_ne HO_4.out BK194.out (by decide)) | (rw [add_block]; exact Kd.own_blk (Kd.S_ne HO_4.out BK194.out (by decide))) | (show (Addr.add _ _).block ≠ _; rw [add_block]; exact Kd.own_blk (Kd.S_ne HO_4.out BK194.out (by decide))) | (dsimp only; exact Kd.own_blk (Kd.S_ne HO_4.out BK194.out (by decide)))) _).trans (hHeld.2.2.1)))))), ((cell_far (p := ⟨gb194, _, none⟩) (by first | exact Kd.own_blk (Kd.S_ne HO_4.out BK194.out (by decide)) | (rw [add_block]; exact Kd.own_blk (Kd.S_ne HO_4.out BK194.out (by decide))) | (show (Addr.add _ _).block ≠ _; rw [add_block]; exact Kd.own_blk (Kd.S_ne HO_4.out BK194.out (by decide))) | (dsimp only; exact Kd.own_blk (Kd.S_ne HO_4.out BK194.out (by decide)))) _).trans (((cell_far (p := ⟨gb194, _, none⟩) (by first | exact Kd.own_blk (Kd.S_ne HO_4.out BK194.out (by decide)) | (rw [add_block]; exact Kd.own_blk (Kd.S_ne HO_4.out BK194.out (by decide))) | (show (Addr.add _ _).block ≠ _; rw [add_block]; exact Kd.own_blk (Kd.S_ne HO_4.out BK194.out (by decide))) | (dsimp only; exact Kd.own_blk (Kd.S_ne HO_4.out BK194.out (by decide)))) _).trans (((cell_far (p := ⟨gb194, _, none⟩) (by first | exact Kd.own_blk (Kd.S_ne HO_4.out BK194.out (by decide)) | (rw [add_block]; exact Kd.own_blk (Kd.S_ne HO_4.out BK194.out (by decide))) | (show (Addr.add _ _).block ≠ _; rw [add_block]; exact Kd.own_blk (Kd.S_ne HO_4.out BK194.out (by decide))) | (dsimp only; exact Kd.own_blk (Kd.S_ne HO_4.out BK194.out (by decide)))) _).trans (hHeld.2.2.2.1)))))), ((cell_far (p := ⟨gb194, _, none⟩) (by first | exact Kd.own_blk (Kd.S_ne HO_4.out BK194.out (by decide)) | (rw [add_block]; exact Kd.own_blk (Kd.S_ne HO_4.out BK194.out (by decide))) | (show (Addr.add _ _).block ≠ _; rw [add_block]; exact Kd.own_blk (Kd.S_ne HO_4.out BK194.out (by decide))) | (dsimp only; exact Kd.own_blk (Kd.S_ne HO_4.out BK194.out (by decide)))) _).trans (((cell_far (p := ⟨gb194, _, none⟩) (by first | exact Kd.own_blk (Kd.S_ne HO_4.out BK194.out (by decide)) | (rw [add_block]; exact Kd.own_blk (Kd.S_ne HO_4.out BK194.out (by decide))) | (show (Addr.add _ _).block ≠ _; rw [add_block]; exact Kd.own_blk (Kd.S_ne HO_4.out BK194.out (by decide))) | (dsimp only; exact Kd.own_blk (Kd.S_ne HO_4.out BK194.out (by decide)))) _).trans (((cell_far (p := ⟨gb194, _, none⟩) (by first | exact Kd.own_blk (Kd.S_ne HO_4.out BK194.out (by decide)) | (rw [add_block]; exact Kd.own_blk (Kd.S_ne HO_4.out BK194.out (by decide))) | (show (Addr.add _ _).block ≠ _; rw [add_block]; exact Kd.own_blk (Kd.S_ne HO_4.out BK194.out (by decide))) | (dsimp only; exact Kd.own_blk (Kd.S_ne HO_4.out BK194.out (by decide)))) _).trans (hHeld.2.2.2.2.1)))))), ((cell_far (p := ⟨gb194, _, none⟩) (by first | exact Kd.own_blk (Kd.S_ne HO_4.out BK194.out (by decide)) | (rw [add_block]; exact Kd.own_blk (Kd.S_ne HO_4.out BK194.out (by decide))) | (show (Addr.add _ _).block ≠ _; rw [add_block]; exact Kd.own_blk (Kd.S_ne HO_4.out BK194.out (by decide))) | (dsimp only; exact Kd.own_blk (Kd.S_ne HO_4.out BK194.out (by decide)))) _).trans (((cell_far (p := ⟨gb194, _, none⟩) (by first | exact Kd.own_blk (Kd.S_ne HO_4.out BK194.out (by decide)) | (rw [add_block]; exact Kd.own_blk (Kd.S_ne HO_4.out BK194.out (by decide))) | (show (Addr.add _ _).block ≠ _; rw [add_block]; exact Kd.own_blk (Kd.S_ne HO_4.out BK194.out (by decide))) | (dsimp only; exact Kd.own_blk (Kd.S_ne HO_4.out BK194.out (by decide)))) _).trans (((cell_far (p := ⟨gb194, _, none⟩) (by first | exact Kd.own_blk (Kd.S_ne HO_4.out BK194.out (by decide)) | (rw [add_block]; exact Kd.own_blk (Kd.S_ne HO_4.out BK194.out (by decide))) | (show (Addr.add _ _).block ≠ _; rw [add_block]; exact Kd.own_blk (Kd.S_ne HO_4.out BK194.out (by decide))) | (dsimp only; exact Kd.own_blk (Kd.S_ne HO_4.out BK194.out (by decide)))) _).trans (hHeld.2.2.2.2.2.1)))))), ((cell_far (p := ⟨gb194, _, none⟩) (by first | exact Kd.own_blk (Kd.S_ne HO_4.out BK194.out (by decide)) | (rw [add_block]; exact Kd.own_blk (Kd.S_ne HO_4.out BK194.out (by decide))) | (show (Addr.add _ _).block ≠ _; rw [add_block]; exact Kd.own_blk (Kd.S_ne HO_4.out BK194.out (by decide))) | (dsimp only; exact Kd.own_blk (Kd.S_ne HO_4.out BK194.out (by decide)))) _).trans (((cell_far (p := ⟨gb194, _, none⟩) (by first | exact Kd.own_blk (Kd.S_ne HO_4.out BK194.out (by decide)) | (rw [add_block]; exact Kd.own_blk (Kd.S_ne HO_4.out BK194.out (by decide))) | (show (Addr.add _ _).block ≠ _; rw [add_block]; exact Kd.own_blk (Kd.S_ne HO_4.out BK194.out (by decide))) | (dsimp only; exact Kd.own_blk (Kd.S_ne HO_4.out BK194.out (by decide)))) _).trans (((cell_far (p := ⟨gb194, _, none⟩) (by first | exact Kd.own_blk (Kd.S_ne HO_4.out BK194.out (by decide)) | (rw [add_block]; exact Kd.own_blk (Kd.S_ne HO_4.out BK194.out (by decide))) | (show (Addr.add _ _).block ≠ _; rw [add_block]; exact Kd.own_blk (Kd.S_ne HO_4.out BK194.out (by decide))) | (dsimp only; exact Kd.own_blk (Kd.S_ne HO_4.out BK194.out (by decide)))) _).trans (hHeld.2.2.2.2.2.2.1)))))), ((cell_far (p := ⟨gb194, _, none⟩) (by first | exact Kd.own_blk (Kd.S_ne HO_4.out BK194.out (by decide)) | (rw [add_block]; exact Kd.own_blk (Kd.S_ne HO_4.out BK194.out (by decide))) | (show (Addr.add _ _).block ≠ _; rw [add_block]; exact Kd.own_blk (Kd.S_ne HO_4.out BK194.out (by decide))) | (dsimp only; exact Kd.own_blk (Kd.S_ne HO_4.out BK194.out (by decide)))) _).trans (((cell_far (p := ⟨gb194, _, none⟩) (by first | exact Kd.own_blk (Kd.S_ne HO_4.out BK194.out (by decide)) | (rw [add_block]; exact Kd.own_blk (Kd.S_ne HO_4.out BK194.out (by decide))) | (show (Addr.add _ _).block ≠ _; rw [add_block]; exact Kd.own_blk (Kd.S_ne HO_4.out BK194.out (by decide))) | (dsimp only; exact Kd.own_blk (Kd.S_ne HO_4.out BK194.out (by decide)))) _).trans (((cell_far (p := ⟨gb194, _, none⟩) (by first | exact Kd.own_blk (Kd.S_ne HO_4.out BK194.out (by decide)) | (rw [add_block]; exact Kd.own_blk (Kd.S_ne HO_4.out BK194.out (by decide))) | (show (Addr.add _ _).block ≠ _; rw [add_block]; exact Kd.own_blk (Kd.S_ne HO_4.out BK194.out (by decide))) | (dsimp only; exact Kd.own_blk (Kd.S_ne HO_4.out BK194.out (by decide)))) _).trans (hHeld.2.2.2.2.2.2.2.1)))))), ((cell_far (p := ⟨gb194, _, none⟩) (by first | exact Kd.own_blk (Kd.S_ne HO_4.out BK194.out (by decide)) | (rw [add_block]; exact Kd.own_blk (Kd.S_ne HO_4.out BK194.out (by decide))) | (show (Addr.add _ _).block ≠ _; rw [add_block]; exact Kd.own_blk (Kd.S_ne HO_4.out BK194.out (by decide))) | (dsimp only; exact Kd.own_blk (Kd.S_ne HO_4.out BK194.out (by decide)))) _).trans (((cell_far (p := ⟨gb194, _, none⟩) (by first | exact Kd.own_blk (Kd.S_ne HO_4.out BK194.out (by decide)) | (rw [add_block]; exact Kd.own_blk (Kd.S_ne HO_4.out BK194.out (by decide))) | (show (Addr.add _ _).block ≠ _; rw [add_block]; exact Kd.own_blk (Kd.S_ne HO_4.out BK194.out (by decide))) | (dsimp only; exact Kd.own_blk (Kd.S_ne HO_4.out BK194.out (by decide)))) _).trans (((cell_far (p := ⟨gb194, _, none⟩) (by first | exact Kd.own_blk (Kd.S_ne HO_4.out BK194.out (by decide)) | (rw [add_block]; exact Kd.own_blk (Kd.S_ne HO_4.out BK194.out (by decide))) | (show (Addr.add _ _).block ≠ _; rw [add_block]; exact Kd.own_blk (Kd.S_ne HO_4.out BK194.out (by decide))) | (dsimp only; exact Kd.own_blk (Kd.S_ne HO_4.out BK194.out (by decide)))) _).trans (hHeld.2.2.2.2.2.2.2.2.1)))))), ((cell_far (p := ⟨gb194, _, none⟩) (by first | exact Kd.own_blk (Kd.S_ne HO_4.out BK194.out (by decide)) | (rw [add_block]; exact Kd.own_blk (Kd.S_ne HO_4.out BK194.out (by decide))) | (show (Addr.add _ _).block ≠ _; rw [add_block]; exact Kd.own_blk (Kd.S_ne HO_4.out BK194.out (by decide))) | (dsimp only; exact Kd.own_blk (Kd.S_ne HO_4.out BK194.out (by decide)))) _).trans (((cell_far (p := ⟨gb194, _, none⟩) (by first | exact Kd.own_blk (Kd.S_ne HO_4.out BK194.out (by decide)) | (rw [add_block]; exact Kd.own_blk (Kd.S_ne HO_4.out BK194.out (by decide))) | (show (Addr.add _ _).block ≠ _; rw [add_block]; exact Kd.own_blk (Kd.S_ne HO_4.out BK194.out (by decide))) | (dsimp only; exact Kd.own_blk (Kd.S_ne HO_4.out BK194.out (by decide)))) _).trans (((cell_far (p := ⟨gb194, _, none⟩) (by first | exact Kd.own_blk (Kd.S_ne HO_4.out BK194.out (by decide)) | (rw [add_block]; exact Kd.own_blk (Kd.S_ne HO_4.out BK194.out (by decide))) | (show (Addr.add _ _).block ≠ _; rw [add_block]; exact Kd.own_blk (Kd.S_ne HO_4.out BK194.out (by decide))) | (dsimp only; exact Kd.own_blk (Kd.S_ne HO_4.out BK194.out (by decide)))) _).trans (hHeld.2.2.2.2.2.2.2.2.2))))))⟩ (fun hHeld => ?_)
                clear hK K
                refine pure_ (i := 11) (N := some 3) (v := ?_) (a' := ?_) #[true, true, true, true, true, true, true, true, true, true, true, true] rfl rfl (any_of HT_.out (by kernel_rfl)) (fun _ _ _ h => h) (Or.inl ⟨by rfl, ?_⟩) ?_ ?_; rotate_left; (intro w'; go_simp; with_reducible rfl); rotate_left; (simp only [Act.put, List.setIfInBounds_toArray, List.set_cons_zero, List.set_cons_succ, i64_w, i32_w]; rfl)
                refine done_ (done_of HT_.out (by kernel_rfl)) ?_
                try go_wp2
                refine bodyPost_ret (results_ct rfl _ _ gb194 64 #[.string t205, .int .i64 ((rd_T77 t195 1).f1), .slice A207_3 ((rd_T77 t195 1).f3).length c207_3] (0, 0) _ rfl (by (with_reducible repeat (first | refine blk_drewN ?_ _ | refine blk_drew ?_ | refine blk_alloc ?_ _)); refine blk_put (cs := #[.string t205, .int .i64 ((rd_T77 t195 1).f1), .slice none 0 0]) ?_ 2 _ rfl; (with_reducible repeat (first | refine blk_drewN ?_ _ | refine blk_drew ?_ | refine blk_alloc ?_ _)); refine blk_put (cs := #[.string t205, .int .i64 0, .slice none 0 0]) ?_ 1 _ rfl; (with_reducible repeat (first | refine blk_drewN ?_ _ | refine blk_drew ?_ | refine blk_alloc ?_ _)); refine blk_put (cs := #[.string (⟨#[]⟩ : ByteArray), .int .i64 0, .slice none 0 0]) ?_ 0 _ rfl; (with_reducible repeat (first | refine blk_drewN ?_ _ | refine blk_drew ?_ | refine blk_alloc ?_ _)); exact BK194.out) Tryz.underlying64 rfl (by kernel_rfl)) rfl ?_
                exact ⟨_, _, by first | rfl | (simp [errW_none, errW_some] <;> rfl) | (simp [*, errW_none, errW_some] <;> rfl), (by first | exact EV.nil | exact EV.f30 | exact EV.f5 | exact EV.f4 | exact EV.f1 | exact EV.low (by assumption) | exact HEV_.out | exact EV.part HEV_.out), by (with_reducible repeat (first | apply Kd.R_alloc | apply Kd.R_drewN | apply Kd.R_drew)); exact Kd.R_mono (Kd.R_far (p := ⟨gb194, 2, none⟩) (Kd.R_far (p := ⟨gb194, 1, none⟩) (Kd.R_far (p := ⟨gb194, 0, none⟩) (Kd.R_types HL208_3.out BK194.out (by decide)) (fun _ hk => hk.2) (.string t205)) (fun _ hk => hk.2) (.int .i64 ((rd_T77 t195 1).f1))) (fun _ hk => hk.2) (.slice A207_3 ((rd_T77 t195 1).f3).length c207_3)) (fun _ hk => trivial), by repeat (first | (with_reducible first | exact HB.out | apply below_alloc | apply pw_below_drewN | apply below_drew1 | refine below_set ?_ GE193.out | refine below_set ?_ GE194.out) | exact HB.out)⟩
              · rw [if_neg c33] at H
                exact absurd H (by simp)
            · rw [if_neg c32] at H
              have c32b0 : (t206 == 0) = false := beq_eq_false_iff_ne.mpr c32
              have c32b1 : (t206 != 0) = true := bne_iff_ne.mpr c32
              simp only [Option.some.injEq, Prod.mk.injEq] at H
              obtain ⟨rfl, rfl, rfl, rfl⟩ := H
              obtain ⟨Ao40, co40, eo40⟩ := Kd.S_slice HO_4.out
              subst eo40
              have p204 : 0 ≤ (0 : Int) := (by omega)
              have q204 : 0 < (t195.length : Int) := of_decide_eq_true (by first | (with_reducible assumption) | assumption)
              obtain ⟨ad204, A204_3, c204_3, A204_4, c204_4, e204, hx204_0, hx204_1, hx204_2, hx204_3, hx204_4, hl204_3, hi204_3, hl204_4, hi204_4⟩ := at_T77 (Kd.S_reads' HO_4.out).2.2 0 p204 q204
              cases e204
              obtain ⟨ce204, hce204, hMe204, hcc204⟩ := Kd.S_get HO_4.out z77 0 p204 (by first | exact q204 | exact of_decide_eq_true (by first | (with_reducible assumption) | assumption) | (have e_ := (Kd.S_reads' HO_4.out).1; omega))
              obtain ⟨ve204_3, ve204_4, rfl, ge204_3, ge204_4⟩ := k77_openM hMe204
              have hv204_3 := hcc204 3 _ rfl
              rw [add_field _ _ 3 (by omega)] at hv204_3
              replace hv204_3 := Option.some.inj (hv204_3.symm.trans hx204_3)
              rw [hv204_3] at ge204_3
              have HL204_3 := Aside0.mk (show Kd.R (Kd.int .u8) 5 _ _ _ _ ((rd_T77 t195 0).f3) from ge204_3)
              clear hv204_3 ge204_3
              have hv204_4 := hcc204 4 _ rfl
              rw [add_field _ _ 4 (by omega)] at hv204_4
              replace hv204_4 := Option.some.inj (hv204_4.symm.trans hx204_4)
              rw [hv204_4] at ge204_4
              have HL204_4 := Aside0.mk (show Kd.R (Kd.int .u8) 5 _ _ _ _ ((rd_T77 t195 0).f4) from ge204_4)
              clear hv204_4 ge204_4
              clear hcc204 hce204
              have qi204 : (0 < t195.length) = True := eq_true (by omega)
              (try rw [show ((0 : Int)).toNat = 0 from rfl] at hx204_0)
              (try rw [show 0 * 5 = 0 from rfl] at hx204_0)
              (try rw [Addr.add_zero'] at hx204_0)
              (try rw [show ((0 : Int)).toNat = 0 from rfl] at hx204_1)
              (try rw [show 0 * 5 = 0 from rfl] at hx204_1)
              (try rw [Addr.add_zero'] at hx204_1)
              (try rw [show ((0 : Int)).toNat = 0 from rfl] at hx204_2)
              (try rw [show 0 * 5 = 0 from rfl] at hx204_2)
              (try rw [Addr.add_zero'] at hx204_2)
              (try rw [show ((0 : Int)).toNat = 0 from rfl] at hx204_3)
              (try rw [show 0 * 5 = 0 from rfl] at hx204_3)
              (try rw [Addr.add_zero'] at hx204_3)
              (try rw [show ((0 : Int)).toNat = 0 from rfl] at hx204_4)
              (try rw [show 0 * 5 = 0 from rfl] at hx204_4)
              (try rw [Addr.add_zero'] at hx204_4)
              have HR204_3 := Aside0.mk hi204_3
              have HC204_3 := Aside0.mk hl204_3
              clear hi204_3 hl204_3
              have HR204_4 := Aside0.mk hi204_4
              have HC204_4 := Aside0.mk hl204_4
              clear hi204_4 hl204_4
              replace p204 := eq_true p204
              replace q204 := eq_true q204
              go_wp2_with (first | ((with_reducible refine gate_callee (f := 163) rfl ?_); refine goesL_ (some 58) rfl rfl Tryz.func163 (by kernel_rfl) rfl #[.slice A204_3 ((rd_T77 t195 0).f3).length c204_3] rfl (by (try simp only [List.map_toArray, List.map_cons, List.map_nil]); first | done | rfl | (simp only [List.length_drop, List.length_take]; rfl)) ?_; (with_reducible refine (der_Oid.calls kj3 _ _ ((rd_T77 t195 0).f3) t205 t206 _ ?side1 ?side2 A31.out (Tb.below HHd.out (by repeat (first | (with_reducible first | exact HB.out | apply below_alloc | apply pw_below_drewN | apply below_drew1 | refine below_set ?_ GE193.out | refine below_set ?_ GE194.out) | exact HB.out)))).mono ?_); (case side1 => repeat (first | exact (by repeat (first | (with_reducible exact HR204_3.out) | (with_reducible refine Kd.C_alloc ?_ _) | (with_reducible refine Kd.C_drewN ?_ _) | (with_reducible refine Kd.C_drew ?_) | exact HR204_3.out)) | (with_reducible refine Kd.C_alloc ?_ _) | (with_reducible refine Kd.C_drewN ?_ _) | (with_reducible refine Kd.C_drew ?_))); (case side2 => exact HC204_3.out); rintro e w41 ⟨rfl, hb⟩; refine ⟨_, rfl, ?_⟩; have n0_ := Aside0.mk (Kd.S_below (by (with_reducible repeat (first | apply Kd.S_alloc | apply Kd.S_drewN | apply Kd.S_drew)); exact HO_4.out) hb); have n1_ := Aside0.mk (Kd.R_below (by (with_reducible repeat (first | apply Kd.R_alloc | apply Kd.R_drewN | apply Kd.R_drew)); exact HL204_3.out) hb); have n2_ := Aside0.mk (Kd.R_below (by (with_reducible repeat (first | apply Kd.R_alloc | apply Kd.R_drewN | apply Kd.R_drew)); exact HL204_4.out) hb); have n3_ := Aside0.mk (blk_below (g := gb193) (o := .cells #[.int .i64 a0_0, .int .i64 a0_1, .bool a0_2, .slice A0_3 l0_3.length c0_3, .slice A0_4 l0_4.length c0_4] 77 (0, 0)) (by (with_reducible repeat (first | refine blk_drewN ?_ _ | refine blk_drew ?_ | refine blk_alloc ?_ _)); exact BK193.out) hb); have n4_ := Aside0.mk (blk_below (g := gb194) (o := .cells #[.string (⟨#[]⟩ : ByteArray), .int .i64 0, .slice none 0 0] 64 (0, 0)) (by (with_reducible repeat (first | refine blk_drewN ?_ _ | refine blk_drew ?_ | refine blk_alloc ?_ _)); exact BK194.out) hb); have n5_ := Aside0.mk (Kd.C_below (by repeat (first | (with_reducible exact HR204_3.out) | (with_reducible refine Kd.C_alloc ?_ _) | (with_reducible refine Kd.C_drewN ?_ _) | (with_reducible refine Kd.C_drew ?_) | exact HR204_3.out)) hb); have n6_ := Aside0.mk (Kd.C_below (by repeat (first | (with_reducible exact HR204_4.out) | (with_reducible refine Kd.C_alloc ?_ _) | (with_reducible refine Kd.C_drewN ?_ _) | (with_reducible refine Kd.C_drew ?_) | exact HR204_4.out)) hb); have n7_ := Aside0.mk (below_step (by repeat (first | (with_reducible first | exact HB.out | apply below_alloc | apply pw_below_drewN | apply below_drew1 | refine below_set ?_ GE193.out | refine below_set ?_ GE194.out) | exact HB.out)) hb); clear HO_4; clear HL204_3; clear HL204_4; clear BK193; clear BK194; clear HR204_3; clear HR204_4; clear HB; have HO_4 := n0_; have HL204_3 := n1_; have HL204_4 := n2_; have BK193 := n3_; have BK194 := n4_; have HR204_3 := n5_; have HR204_4 := n6_; have HB := n7_; clear n0_ n1_ n2_ n3_ n4_ n5_ n6_ n7_; (try clear hb); (try clear hb2); (try clear hk); (try clear hi); have hnb42 := NB194_193.out; have hnc42 := NB193_194.out; have hcz43_0 : w41.cell? ⟨gb194, 0, none⟩ = some (.string (⟨#[]⟩ : ByteArray)) := (blk_cell BK194.out 0).trans rfl; have hcz43_1 : w41.cell? ⟨gb194, 1, none⟩ = some (.int .i64 0) := (blk_cell BK194.out 1).trans rfl; have hcz43_2 : w41.cell? ⟨gb194, 2, none⟩ = some (.slice none 0 0) := (blk_cell BK194.out 2).trans rfl; have hfz43_0 := blk_frozen BK194.out 0; have hfz43_1 := blk_frozen BK194.out 1; have hfz43_2 := blk_frozen BK194.out 2))
              refine bodyPost_ret (results_ct rfl _ _ gb194 64 #[.string (⟨#[]⟩ : ByteArray), .int .i64 0, .slice none 0 0] (0, 0) _ rfl (by (with_reducible repeat (first | refine blk_drewN ?_ _ | refine blk_drew ?_ | refine blk_alloc ?_ _)); refine blk_put (cs := #[.string (⟨#[]⟩ : ByteArray), .int .i64 0, .slice none 0 0]) ?_ 2 _ rfl; (with_reducible repeat (first | refine blk_drewN ?_ _ | refine blk_drew ?_ | refine blk_alloc ?_ _)); refine blk_put (cs := #[.string (⟨#[]⟩ : ByteArray), .int .i64 0, .slice none 0 0]) ?_ 1 _ rfl; (with_reducible repeat (first | refine blk_drewN ?_ _ | refine blk_drew ?_ | refine blk_alloc ?_ _)); refine blk_put (cs := #[.string (⟨#[]⟩ : ByteArray), .int .i64 0, .slice none 0 0]) ?_ 0 _ rfl; (with_reducible repeat (first | refine blk_drewN ?_ _ | refine blk_drew ?_ | refine blk_alloc ?_ _)); exact BK194.out) Tryz.underlying64 rfl (by kernel_rfl)) rfl ?_
              exact ⟨_, _, by first | rfl | (simp [errW_none, errW_some] <;> rfl) | (simp [*, errW_none, errW_some] <;> rfl), (by first | exact EV.nil | exact EV.f30 | exact EV.f5 | exact EV.f4 | exact EV.f1 | exact EV.low (by assumption) | exact HEV_.out | exact EV.part HEV_.out), by first | exact Kd.R_nil _ _ _ _ _ | exact Kd.N_nil _ _ _ _ _ | exact Kd.V_nil _ _ _ _ _ | exact Kd.Q_nil _ _ _ _ _ | exact Kd.S_nil _ _ _ _ _, by repeat (first | (with_reducible first | exact HB.out | apply below_alloc | apply pw_below_drewN | apply below_drew1 | refine below_set ?_ GE193.out | refine below_set ?_ GE194.out) | exact HB.out)⟩
          · rw [if_neg c30] at H
            exact absurd H (by simp)
  · rw [if_neg c3] at H
    have c3b0 : (t198 == 0) = false := beq_eq_false_iff_ne.mpr c3
    have c3b1 : (t198 != 0) = true := bne_iff_ne.mpr c3
    simp only [Option.some.injEq, Prod.mk.injEq] at H
    obtain ⟨rfl, rfl, rfl, rfl⟩ := H
    go_enter Tryz.func189, Tryz.ntmps189
    go_wp2_with (first | ((with_reducible refine gate_dst (N := 1) rfl ?_); refine box_event ?hg (N := 1) ?hd (cs := #[.int .i64 a0_0, .int .i64 a0_1, .bool a0_2, .slice A0_3 l0_3.length c0_3, .slice A0_4 l0_4.length c0_4]) (t := 77) ?hr ?_; (case hd => rfl); (case hg => rfl); (case hr => first | (go_simp; done) | (go_simp; rfl)); intro gb193 hg w44 hbox hb; have n0_ := Aside0.mk (below_step (by repeat (first | (with_reducible first | exact HB.out | apply below_alloc | apply pw_below_drewN | apply below_drew1) | exact HB.out)) hb); have n1_ := Aside0.mk (hbox); have n2_ := Aside0.mk ((by rw [hg]; exact (below_size (by repeat (first | (with_reducible first | exact HB.out | apply below_alloc | apply pw_below_drewN | apply below_drew1) | exact HB.out))) : w.heap.size ≤ gb193)); have n3_ := Aside0.mk ((by rw [hg]; exact (below_size (by repeat (first | (with_reducible first | exact HB.out | apply below_alloc | apply pw_below_drewN | apply below_drew1) | exact HB.out))) : w.heap.size ≤ gb193)); clear HB; have HB := n0_; have BK193 := n1_; have GW193 := n2_; have GE193 := n3_; clear n0_ n1_ n2_ n3_; clear hb hbox hg) | ((with_reducible refine gate_dst (N := 2) rfl ?_); refine box_event ?hg (N := 2) ?hd (cs := #[.string (⟨#[]⟩ : ByteArray), .int .i64 0, .slice none 0 0]) (t := 64) ?hr ?_; (case hd => rfl); (case hg => rfl); (case hr => first | (go_simp; done) | (go_simp; rfl)); intro gb194 hg w45 hbox hb; have n0_ := Aside0.mk (blk_below (g := gb193) (o := .cells #[.int .i64 a0_0, .int .i64 a0_1, .bool a0_2, .slice A0_3 l0_3.length c0_3, .slice A0_4 l0_4.length c0_4] 77 (0, 0)) (by (with_reducible repeat (first | refine blk_drewN ?_ _ | refine blk_drew ?_ | refine blk_alloc ?_ _)); exact BK193.out) hb); have n1_ := Aside0.mk (below_step (by repeat (first | (with_reducible first | exact HB.out | apply below_alloc | apply pw_below_drewN | apply below_drew1 | refine below_set ?_ GE193.out) | exact HB.out)) hb); have n2_ := Aside0.mk (hbox); have n3_ := Aside0.mk ((by rw [hg]; exact (below_size (by repeat (first | (with_reducible first | exact HB.out | apply below_alloc | apply pw_below_drewN | apply below_drew1 | refine below_set ?_ GE193.out) | exact HB.out))) : w.heap.size ≤ gb194)); have n4_ := Aside0.mk ((by rw [hg]; exact (below_size (by repeat (first | (with_reducible first | exact HB.out | apply below_alloc | apply pw_below_drewN | apply below_drew1 | refine below_set ?_ GE193.out) | exact HB.out))) : w.heap.size ≤ gb194)); have n5_ := Aside0.mk ((by rw [hg]; exact Nat.ne_of_lt (blk_lt (g := gb193) (o := .cells #[.int .i64 a0_0, .int .i64 a0_1, .bool a0_2, .slice A0_3 l0_3.length c0_3, .slice A0_4 l0_4.length c0_4] 77 (0, 0)) (by (with_reducible repeat (first | refine blk_drewN ?_ _ | refine blk_drew ?_ | refine blk_alloc ?_ _)); exact BK193.out)) : gb193 ≠ gb194)); have n6_ := Aside0.mk ((by rw [hg]; exact Nat.ne_of_gt (blk_lt (g := gb193) (o := .cells #[.int .i64 a0_0, .int .i64 a0_1, .bool a0_2, .slice A0_3 l0_3.length c0_3, .slice A0_4 l0_4.length c0_4] 77 (0, 0)) (by (with_reducible repeat (first | refine blk_drewN ?_ _ | refine blk_drew ?_ | refine blk_alloc ?_ _)); exact BK193.out)) : gb194 ≠ gb193)); clear BK193; clear HB; have BK193 := n0_; have HB := n1_; have BK194 := n2_; have GW194 := n3_; have GE194 := n4_; have NB193_194 := n5_; have NB194_193 := n6_; clear n0_ n1_ n2_ n3_ n4_ n5_ n6_; clear hb hbox hg; have hnb46 := NB193_194.out; have hnc46 := NB194_193.out; have hcz47_0 : w45.cell? ⟨gb193, 0, none⟩ = some (.int .i64 a0_0) := (blk_cell BK193.out 0).trans rfl; have hcz47_1 : w45.cell? ⟨gb193, 1, none⟩ = some (.int .i64 a0_1) := (blk_cell BK193.out 1).trans rfl; have hcz47_2 : w45.cell? ⟨gb193, 2, none⟩ = some (.bool a0_2) := (blk_cell BK193.out 2).trans rfl; have hcz47_3 : w45.cell? ⟨gb193, 3, none⟩ = some (.slice A0_3 l0_3.length c0_3) := (blk_cell BK193.out 3).trans rfl; have hcz47_4 : w45.cell? ⟨gb193, 4, none⟩ = some (.slice A0_4 l0_4.length c0_4) := (blk_cell BK193.out 4).trans rfl; have hfz47_0 := blk_frozen BK193.out 0; have hfz47_1 := blk_frozen BK193.out 1; have hfz47_2 := blk_frozen BK193.out 2; have hfz47_3 := blk_frozen BK193.out 3; have hfz47_4 := blk_frozen BK193.out 4) | ((with_reducible refine gate_callee (f := 141) rfl ?_); refine goesL_ (some 10) rfl rfl Tryz.func141 (by kernel_rfl) rfl #[.agg #[.int .i64 a0_0, .int .i64 a0_1, .bool a0_2, .slice A0_3 l0_3.length c0_3, .slice A0_4 l0_4.length c0_4], .int .i64 16] rfl (by (try simp only [List.map_toArray, List.map_cons, List.map_nil]); first | done | rfl | (simp only [List.length_drop, List.length_take]; rfl)) ?_; (with_reducible refine (name_inside.calls k a0_0 a0_1 a0_2 _ _ l0_3 _ _ l0_4 16 t195 t198 _ ?side1 ?side2 ?side3 ?side4 A2.out).mono ?_); (case side1 => repeat (first | exact (Kd.C_below HR0_3.out HB.out) | (with_reducible refine Kd.C_alloc ?_ _) | (with_reducible refine Kd.C_drewN ?_ _) | (with_reducible refine Kd.C_drew ?_))); (case side2 => exact HC0_3.out); (case side3 => repeat (first | exact (Kd.C_below HR0_4.out HB.out) | (with_reducible refine Kd.C_alloc ?_ _) | (with_reducible refine Kd.C_drewN ?_ _) | (with_reducible refine Kd.C_drew ?_))); (case side4 => exact HC0_4.out); rintro e w48 ⟨v196, ev_, rfl, hev_, ho0, hb⟩; obtain ⟨et_, eu_, rfl⟩ := EV.some_of hev_ c3b0; have HEV_ := Aside0.mk hev_; clear hev_; refine ⟨_, rfl, ?_⟩; have n0_ := Aside0.mk (Kd.S_lower (Kd.S_newB ho0 (g := gb193) (o := .cells #[.int .i64 a0_0, .int .i64 a0_1, .bool a0_2, .slice A0_3 l0_3.length c0_3, .slice A0_4 l0_4.length c0_4] 77 (0, 0)) (by (with_reducible repeat (first | refine blk_drewN ?_ _ | refine blk_drew ?_ | refine blk_alloc ?_ _)); exact BK193.out)) (below_size (by repeat (first | (with_reducible first | exact HB.out | apply below_alloc | apply pw_below_drewN | apply below_drew1 | refine below_set ?_ GE193.out | refine below_set ?_ GE194.out) | exact HB.out)))); have n1_ := Aside0.mk (blk_below (g := gb193) (o := .cells #[.int .i64 a0_0, .int .i64 a0_1, .bool a0_2, .slice A0_3 l0_3.length c0_3, .slice A0_4 l0_4.length c0_4] 77 (0, 0)) (by (with_reducible repeat (first | refine blk_drewN ?_ _ | refine blk_drew ?_ | refine blk_alloc ?_ _)); exact BK193.out) hb); have n2_ := Aside0.mk (blk_below (g := gb194) (o := .cells #[.string (⟨#[]⟩ : ByteArray), .int .i64 0, .slice none 0 0] 64 (0, 0)) (by (with_reducible repeat (first | refine blk_drewN ?_ _ | refine blk_drew ?_ | refine blk_alloc ?_ _)); exact BK194.out) hb); have n3_ := Aside0.mk (below_step (by repeat (first | (with_reducible first | exact HB.out | apply below_alloc | apply pw_below_drewN | apply below_drew1 | refine below_set ?_ GE193.out | refine below_set ?_ GE194.out) | exact HB.out)) hb); clear BK193; clear BK194; clear HB; have HO197 := n0_; have BK193 := n1_; have BK194 := n2_; have HB := n3_; clear n0_ n1_ n2_ n3_; (try clear hb); (try clear hb2); (try clear hk); (try clear hi); (try clear ho0); have hcz49_0 : w48.cell? ⟨gb194, 0, none⟩ = some (.string (⟨#[]⟩ : ByteArray)) := (blk_cell BK194.out 0).trans rfl; have hcz49_1 : w48.cell? ⟨gb194, 1, none⟩ = some (.int .i64 0) := (blk_cell BK194.out 1).trans rfl; have hcz49_2 : w48.cell? ⟨gb194, 2, none⟩ = some (.slice none 0 0) := (blk_cell BK194.out 2).trans rfl; have hfz49_0 := blk_frozen BK194.out 0; have hfz49_1 := blk_frozen BK194.out 1; have hfz49_2 := blk_frozen BK194.out 2))
    refine bodyPost_ret (results_ct rfl _ _ gb194 64 #[.string (⟨#[]⟩ : ByteArray), .int .i64 0, .slice none 0 0] (0, 0) _ rfl (by (with_reducible repeat (first | refine blk_drewN ?_ _ | refine blk_drew ?_ | refine blk_alloc ?_ _)); refine blk_put (cs := #[.string (⟨#[]⟩ : ByteArray), .int .i64 0, .slice none 0 0]) ?_ 2 _ rfl; (with_reducible repeat (first | refine blk_drewN ?_ _ | refine blk_drew ?_ | refine blk_alloc ?_ _)); refine blk_put (cs := #[.string (⟨#[]⟩ : ByteArray), .int .i64 0, .slice none 0 0]) ?_ 1 _ rfl; (with_reducible repeat (first | refine blk_drewN ?_ _ | refine blk_drew ?_ | refine blk_alloc ?_ _)); refine blk_put (cs := #[.string (⟨#[]⟩ : ByteArray), .int .i64 0, .slice none 0 0]) ?_ 0 _ rfl; (with_reducible repeat (first | refine blk_drewN ?_ _ | refine blk_drew ?_ | refine blk_alloc ?_ _)); exact BK194.out) Tryz.underlying64 rfl (by kernel_rfl)) rfl ?_
    exact ⟨_, _, by first | rfl | (simp [errW_none, errW_some] <;> rfl) | (simp [*, errW_none, errW_some] <;> rfl), (by first | exact EV.nil | exact EV.f30 | exact EV.f5 | exact EV.f4 | exact EV.f1 | exact EV.low (by assumption) | exact HEV_.out | exact EV.part HEV_.out), by first | exact Kd.R_nil _ _ _ _ _ | exact Kd.N_nil _ _ _ _ _ | exact Kd.V_nil _ _ _ _ _ | exact Kd.Q_nil _ _ _ _ _ | exact Kd.S_nil _ _ _ _ _, by repeat (first | (with_reducible first | exact HB.out | apply below_alloc | apply pw_below_drewN | apply below_drew1 | refine below_set ?_ GE193.out | refine below_set ?_ GE194.out) | exact HB.out)⟩
end Go.Proofs.YtkioddjjfifadaaGreatDoor.P
namespace Go.Proofs.YtkioddjjfifadaaGreatDoor.P
open Go.RowKit Go.Proofs.YtkioddjjfifadaaGreatDoorW.PrintWords Go.Proofs.YtkioddjjfifadaaGreatDoorW.PrintLast Go.Proofs.YtkioddjjfifadaaGreatDoorW.PrintMore
attribute [local go_sem] max2_int min2_int max_two min_two max_three min_three max_four min_four   -- for this text's walks alone
set_option linter.unusedVariables false
set_option linter.unusedSimpArgs false
def name_set.l0 : Nat → List (S64) → List (S77) → Int → Int → Option ((List (S64)) × Int)
  | 0, _, _, _, _ => none
  | k + 1, x6, x30, x31, x32 => if x32 < x31 then (if 0 ≤ x32 then (if x32 < (x30.length : Int) then ((name_part.f k ((rd_T77 x30 x32).f0) ((rd_T77 x30 x32).f1) ((rd_T77 x30 x32).f2) ((rd_T77 x30 x32).f3) ((rd_T77 x30 x32).f4)).bind fun bt216 => (if bt216.2.2.2 = 0 then (if x6.length < 2932031007402 then (name_set.l0 k (x6 ++ [(⟨bt216.1, bt216.2.1, bt216.2.2.1⟩ : S64)]) x30 x31 (wrap64 (x32 + 1))) else (none)) else (some (([] : List (S64)), bt216.2.2.2)))) else (none)) else (none)) else (some (x6, 0))
def name_set.f (k : Nat) (a0_0 : Int) (a0_1 : Int) (a0_2 : Bool) (l0_3 : List Int) (l0_4 : List Int) : Option ((List (S64)) × Int) := (name_inside.f k a0_0 a0_1 a0_2 l0_3 l0_4 17).bind fun bt210 => (if bt210.2 = 0 then (if (bt210.1.length : Int) = 0 then (some (([] : List (S64)), 5)) else (if (bt210.1.length : Int) > 64 then (some (([] : List (S64)), 4)) else (name_set.l0 k ([] : List (S64)) bt210.1 (bt210.1.length : Int) 0))) else (some (([] : List (S64)), bt210.2)))
set_option maxHeartbeats 8000000 in
set_option maxRecDepth 100000 in
theorem name_set.calls (k : Nat) (a0_0 : Int) (a0_1 : Int) (a0_2 : Bool) (A0_3 : Option Addr) (c0_3 : Nat) (l0_3 : List Int) (A0_4 : Option Addr) (c0_4 : Nat) (l0_4 : List Int) (r1 : List (S64)) (r2 : Int) (w : World) (hr0_3 : Kd.C (Kd.int .u8) w A0_3 l0_3.length l0_3) (hc0_3 : l0_3.length ≤ c0_3) (hr0_4 : Kd.C (Kd.int .u8) w A0_4 l0_4.length l0_4) (hc0_4 : l0_4.length ≤ c0_4) (h : name_set.f k a0_0 a0_1 a0_2 l0_3 l0_4 = some (r1, r2)) (hH : Tb w) :
    Calls Tryz.prog 142 #[.agg #[.int .i64 a0_0, .int .i64 a0_1, .bool a0_2, .slice A0_3 l0_3.length c0_3, .slice A0_4 l0_4.length c0_4]] w fun e w' => ∃ v0_ ev_ : Value, e = .returned (.tuple #[v0_, ev_]) ∧ EV ev_ r2 ∧ Kd.S k64 64 w' w.heap.size (fun _ => True) v0_ r1 ∧ Below w.heap.size w w' := by
  have hu77 := Tryz.underlying77
  have hu64 := Tryz.underlying64
  have HR3 := Aside0.mk hr0_3
  have HC3 := Aside0.mk hc0_3
  have HR4 := Aside0.mk hr0_4
  have HC4 := Aside0.mk hc0_4
  have HT := Aside0.mk hH
  clear hr0_3 hc0_3 hr0_4 hc0_4 hH
  unfold name_set.f at h
  obtain ⟨⟨L, e1⟩, hin, hf⟩ := Option.bind_eq_some_iff.1 h
  replace hf : (if e1 = 0 then (if (L.length : Int) = 0 then (some (([] : List (S64)), 5)) else (if (L.length : Int) > 64 then (some (([] : List (S64)), 4)) else (name_set.l0 k ([] : List (S64)) L (L.length : Int) 0))) else (some (([] : List (S64)), e1))) = some (r1, r2) := hf
  have AI := Aside0.mk hin
  clear h hin
  by_cases f1 : e1 = 0
  · subst f1
    rw [if_pos rfl] at hf
    by_cases g0 : (L.length : Int) = 0
    · rw [if_pos g0] at hf
      have Z0 : ((L.length : Int) == 0) = true := beq_iff_eq.mpr g0
      clear g0
      obtain ⟨rfl, rfl⟩ : ([] : List S64) = r1 ∧ (5 : Int) = r2 := by injection (Option.some.inj hf) with x y; exact ⟨x, y⟩
      clear hf
      go_enter Tryz.func142, Tryz.ntmps142
      go_wp2_with ((with_reducible refine gate_dst (N := 1) rfl ?_); refine box_event ?hg (N := 1) ?hd (cs := #[.int .i64 a0_0, .int .i64 a0_1, .bool a0_2, .slice A0_3 l0_3.length c0_3, .slice A0_4 l0_4.length c0_4]) (t := 77) ?hr ?_; (case hd => rfl); (case hg => rfl); (case hr => first | (go_simp; done) | (go_simp; rfl)); intro g1 hg w1 hbox hb; have HB := Aside0.mk hb; have hc0 : w1.cell? ⟨g1, 0, none⟩ = some (.int .i64 a0_0) := (blk_cell hbox 0).trans rfl; have hc1 : w1.cell? ⟨g1, 1, none⟩ = some (.int .i64 a0_1) := (blk_cell hbox 1).trans rfl; have hc2 : w1.cell? ⟨g1, 2, none⟩ = some (.bool a0_2) := (blk_cell hbox 2).trans rfl; have hc3 : w1.cell? ⟨g1, 3, none⟩ = some (.slice A0_3 l0_3.length c0_3) := (blk_cell hbox 3).trans rfl; have hc4 : w1.cell? ⟨g1, 4, none⟩ = some (.slice A0_4 l0_4.length c0_4) := (blk_cell hbox 4).trans rfl; clear hb hbox hg)
      refine (name_inside.calls k a0_0 a0_1 a0_2 _ _ l0_3 _ _ l0_4 17 L 0 _ (Kd.C_below HR3.out HB.out) HC3.out (Kd.C_below HR4.out HB.out) HC4.out AI.out).mono ?_
      rintro e w51 ⟨v, ev_, rfl, hev_, ho0, hb⟩
      obtain rfl := EV.nil_of hev_ rfl
      clear hev_
      obtain ⟨C, cL, rfl⟩ := Kd.S_slice ho0
      have HLn := Aside0.mk (Kd.S_reads' ho0).2.2
      replace HB := Aside0.mk (below_step HB.out hb)
      clear hb ho0 hc0 hc1 hc2 hc3 hc4
      go_wp2_with fail
      go_ret2
      exact ⟨_, _, (by first | rfl | (simp [errW_none, errW_some] <;> rfl)), (by first | exact EV.nil | exact EV.f5 | exact EV.f4 | exact HEV_.out | exact EV.part HEV_.out), Kd.S_nil _ _ _ _ _, (by repeat (first | (with_reducible first | exact HB.out | apply below_alloc | apply pw_below_drewN | apply below_drew1) | exact HB.out))⟩
    · rw [if_neg g0] at hf
      have Z0 : ((L.length : Int) == 0) = false := beq_eq_false_iff_ne.mpr g0
      clear g0
      by_cases g1 : (L.length : Int) > 64
      · rw [if_pos g1] at hf
        have Z1 : decide (64 < (L.length : Int)) = true := decide_eq_true g1
        have Z2 : decide (64 < L.length) = true := decide_eq_true (by omega)
        clear g1
        obtain ⟨rfl, rfl⟩ : ([] : List S64) = r1 ∧ (4 : Int) = r2 := by injection (Option.some.inj hf) with x y; exact ⟨x, y⟩
        clear hf
        go_enter Tryz.func142, Tryz.ntmps142
        go_wp2_with ((with_reducible refine gate_dst (N := 1) rfl ?_); refine box_event ?hg (N := 1) ?hd (cs := #[.int .i64 a0_0, .int .i64 a0_1, .bool a0_2, .slice A0_3 l0_3.length c0_3, .slice A0_4 l0_4.length c0_4]) (t := 77) ?hr ?_; (case hd => rfl); (case hg => rfl); (case hr => first | (go_simp; done) | (go_simp; rfl)); intro g1 hg w1 hbox hb; have HB := Aside0.mk hb; have hc0 : w1.cell? ⟨g1, 0, none⟩ = some (.int .i64 a0_0) := (blk_cell hbox 0).trans rfl; have hc1 : w1.cell? ⟨g1, 1, none⟩ = some (.int .i64 a0_1) := (blk_cell hbox 1).trans rfl; have hc2 : w1.cell? ⟨g1, 2, none⟩ = some (.bool a0_2) := (blk_cell hbox 2).trans rfl; have hc3 : w1.cell? ⟨g1, 3, none⟩ = some (.slice A0_3 l0_3.length c0_3) := (blk_cell hbox 3).trans rfl; have hc4 : w1.cell? ⟨g1, 4, none⟩ = some (.slice A0_4 l0_4.length c0_4) := (blk_cell hbox 4).trans rfl; clear hb hbox hg)
        refine (name_inside.calls k a0_0 a0_1 a0_2 _ _ l0_3 _ _ l0_4 17 L 0 _ (Kd.C_below HR3.out HB.out) HC3.out (Kd.C_below HR4.out HB.out) HC4.out AI.out).mono ?_
        rintro e w51 ⟨v, ev_, rfl, hev_, ho0, hb⟩
        obtain rfl := EV.nil_of hev_ rfl
        clear hev_
        obtain ⟨C, cL, rfl⟩ := Kd.S_slice ho0
        have HLn := Aside0.mk (Kd.S_reads' ho0).2.2
        replace HB := Aside0.mk (below_step HB.out hb)
        clear hb ho0 hc0 hc1 hc2 hc3 hc4
        go_wp2_with fail
        go_ret2
        exact ⟨_, _, (by first | rfl | (simp [errW_none, errW_some] <;> rfl)), (by first | exact EV.nil | exact EV.f5 | exact EV.f4 | exact HEV_.out | exact EV.part HEV_.out), Kd.S_nil _ _ _ _ _, (by repeat (first | (with_reducible first | exact HB.out | apply below_alloc | apply pw_below_drewN | apply below_drew1) | exact HB.out))⟩
      · rw [if_neg g1] at hf
        have Z1 : decide (64 < (L.length : Int)) = false := decide_eq_false g1
        have Z2 : decide (64 < L.length) = false := decide_eq_false (by omega)
        clear g1
        have AL := Aside0.mk hf
        clear hf
        go_enter Tryz.func142, Tryz.ntmps142
        go_wp2_with ((with_reducible refine gate_dst (N := 1) rfl ?_); refine box_event ?hg (N := 1) ?hd (cs := #[.int .i64 a0_0, .int .i64 a0_1, .bool a0_2, .slice A0_3 l0_3.length c0_3, .slice A0_4 l0_4.length c0_4]) (t := 77) ?hr ?_; (case hd => rfl); (case hg => rfl); (case hr => first | (go_simp; done) | (go_simp; rfl)); intro g1 hg w1 hbox hb; have HB := Aside0.mk hb; have hc0 : w1.cell? ⟨g1, 0, none⟩ = some (.int .i64 a0_0) := (blk_cell hbox 0).trans rfl; have hc1 : w1.cell? ⟨g1, 1, none⟩ = some (.int .i64 a0_1) := (blk_cell hbox 1).trans rfl; have hc2 : w1.cell? ⟨g1, 2, none⟩ = some (.bool a0_2) := (blk_cell hbox 2).trans rfl; have hc3 : w1.cell? ⟨g1, 3, none⟩ = some (.slice A0_3 l0_3.length c0_3) := (blk_cell hbox 3).trans rfl; have hc4 : w1.cell? ⟨g1, 4, none⟩ = some (.slice A0_4 l0_4.length c0_4) := (blk_cell hbox 4).trans rfl; clear hb hbox hg)
        refine (name_inside.calls k a0_0 a0_1 a0_2 _ _ l0_3 _ _ l0_4 17 L 0 _ (Kd.C_below HR3.out HB.out) HC3.out (Kd.C_below HR4.out HB.out) HC4.out AI.out).mono ?_
        rintro e w51 ⟨v, ev_, rfl, hev_, ho0, hb⟩
        obtain rfl := EV.nil_of hev_ rfl
        clear hev_
        obtain ⟨C, cL, rfl⟩ := Kd.S_slice ho0
        have HLn := Aside0.mk (Kd.S_reads' ho0).2.2
        replace HB := Aside0.mk (below_step HB.out hb)
        clear hb ho0 hc0 hc1 hc2 hc3 hc4
        go_wp2_with fail
        go_loopg [6, 32] k (fun kq v6 v32 w' => ∃ (acc : List S64) (j : Int), v32 = .int .i64 j ∧ Aside0 (name_set.l0 kq acc L (L.length : Int) j = some (r1, r2)) ∧ Aside0 (kq ≤ k) ∧ Aside0 (Kd.S k64 64 w' w51.heap.size (fun _ => True) v6 acc) ∧ Aside0 (Below w51.heap.size w51 w'))
        case atStart => exact ⟨([] : List S64), 0, rfl, AL, ⟨Nat.le_refl _⟩, ⟨Kd.S_nil _ _ _ _ _⟩, ⟨(by repeat (first | (with_reducible first | exact (Below.refl _ _) | apply below_alloc | apply pw_below_drewN | apply below_drew1) | exact (Below.refl _ _)))⟩⟩
        case round =>
          obtain ⟨acc, j, rfl, HA2, HK2, HS, HV⟩ := hrel
          cases gk with
          | zero => exact absurd HA2.out (by simp [name_set.l0])
          | succ k2 =>
            have H := HA2.out
            clear HA2
            simp only [name_set.l0] at H
            by_cases d1 : j < (L.length : Int)
            · have d1b : decide (j < (L.length : Int)) = true := decide_eq_true d1
              rw [if_pos d1] at H
              by_cases d2 : 0 ≤ j
              · have d2b : decide (0 ≤ j) = true := decide_eq_true d2
                rw [if_pos d2, if_pos d1] at H
                clear d1 d2
                obtain ⟨⟨t0, t1, t2, t3⟩, hp, H⟩ := Option.bind_eq_some_iff.1 H
                replace H : (if t3 = 0 then (if acc.length < 2932031007402 then (name_set.l0 k2 (acc ++ [(⟨t0, t1, t2⟩ : S64)]) L (L.length : Int) (wrap64 (j + 1))) else (none)) else (some (([] : List (S64)), t3))) = some (r1, r2) := H
                have AP := Aside0.mk hp
                clear hp
                by_cases d3 : t3 = 0
                · have T0 : (t3 == 0) = true := beq_iff_eq.mpr d3
                  have T1 : (t3 != 0) = false := bne_eq_false_iff_eq.mpr d3
                  rw [if_pos d3] at H
                  subst d3
                  by_cases d4 : acc.length < 2932031007402
                  · rw [if_pos d4] at H
                    have LM := Aside0.mk d4
                    clear d4
                    obtain ⟨y, hy⟩ : ∃ y_ : List S64, y_ = (acc ++ [(⟨t0, t1, t2⟩ : S64)]) := ⟨_, rfl⟩
                    rw [← hy] at H
                    have NY := Aside0.mk hy
                    clear hy
                    have H' := Aside0.mk H
                    clear H
                    have pj : 0 ≤ (j : Int) := of_decide_eq_true d2b
                    have qj : j < (L.length : Int) := of_decide_eq_true d1b
                    obtain ⟨adj, A3j, c3j, A4j, c4j, ej, h0j, h1j, h2j, h3j, h4j, l3j, i3j, l4j, i4j⟩ := at_T77 (Kd.C_below HLn.out HV.out) j pj qj
                    cases ej
                    have E3j := Aside0.mk i3j
                    have D3j := Aside0.mk l3j
                    have E4j := Aside0.mk i4j
                    have D4j := Aside0.mk l4j
                    clear i3j l3j i4j l4j
                    replace pj := eq_true pj
                    replace qj := eq_true qj
                    go_wp2_with fail
                    refine (name_part.calls k2 ((rd_T77 L j).f0) ((rd_T77 L j).f1) ((rd_T77 L j).f2) _ _ ((rd_T77 L j).f3) _ _ ((rd_T77 L j).f4) t0 t1 t2 0 _ (by repeat (first | exact E3j.out | (with_reducible refine Kd.C_drewN ?_ _) | (with_reducible refine Kd.C_alloc ?_ _) | (with_reducible refine Kd.C_drew ?_))) D3j.out (by repeat (first | exact E4j.out | (with_reducible refine Kd.C_drewN ?_ _) | (with_reducible refine Kd.C_alloc ?_ _) | (with_reducible refine Kd.C_drew ?_))) D4j.out AP.out (Tb.below HT.out (by repeat (first | (with_reducible first | exact (below_step HB.out HV.out) | apply below_alloc | apply pw_below_drewN | apply below_drew1) | exact (below_step HB.out HV.out))))).mono ?_
                    rintro e w52 ⟨v, ev_, rfl, hev_, ho0, hb⟩
                    obtain rfl := EV.nil_of hev_ rfl
                    clear hev_
                    have n0_ := Aside0.mk (Kd.S_elder' (by (with_reducible repeat (first | apply Kd.S_alloc | apply Kd.S_drewN | apply Kd.S_drew)); exact HS.out) (Kd.R_base ho0) hb)
                    have n1_ := Aside0.mk (Kd.R_lower ho0 (below_size (by repeat (first | (with_reducible first | exact HV.out | apply below_alloc | apply pw_below_drewN | apply below_drew1) | exact HV.out))))
                    have n2_ := Aside0.mk (below_step (by repeat (first | (with_reducible first | exact HV.out | apply below_alloc | apply pw_below_drewN | apply below_drew1) | exact HV.out)) hb)
                    clear HS HV hb ho0 h0j h1j h2j h3j h4j E3j E4j D3j D4j
                    have HS := n0_
                    have HP := n1_
                    have HV := n2_
                    clear n0_ n1_ n2_
                    obtain ⟨P, p_, eP⟩ := Kd.R_slice HP.out
                    subst eP
                    go_wp2_with ((with_reducible refine gate_builtin (b := .append) (xs := #[.tmp 48, .tmp 50]) rfl ?_); at_builtin; refine Kd.S_append k64 (w0 := w51) w51.heap.size rfl (.tmp 48) (.tmp 50) 62 64 (.agg #[(.string ⟨#[]⟩), (.int .i64 0), (.slice none 0 0)]) 48 rfl Tryz.underlying62 info64 rfl (by decide) (by omega) u6 acc (⟨t0, t1, t2⟩ : S64) [.string t0, .int .i64 t1, .slice P t2.length p_] (fun _ => True) (fun k_ => some k_ = (.slice P t2.length p_ : Value).ownBlock) rfl ?aX ?aP ?aH (fun _ _ => trivial) ?aO ?aB ?aS ?aL ?_; (case aX => simp only [sz_alloc]; rfl); (case aP => exact k64_mkM _ _ _ (⟨t0, t1, t2⟩ : S64) (Kd.R_tight rfl (by (with_reducible repeat (first | apply Kd.R_alloc | apply Kd.R_drewN | apply Kd.R_drew)); exact HP.out))); (case aH => have h_ := Kd.R_apart' HP.out (Kd.S_typed HS.out) (by decide); exact fun k_ hk_ => h_.1 k_ hk_.symm); (case aB => exact (by repeat (first | (with_reducible first | exact HV.out | apply below_alloc | apply pw_below_drewN | apply below_drew1) | exact HV.out))); (case aO => (with_reducible repeat (first | apply Kd.S_alloc | apply Kd.S_drewN | apply Kd.S_drew)); exact Kd.S_mono HS.out (fun k_ hk => ⟨trivial, fun e_ => hk.2 e_⟩)); (case aS => exact (below_size (by repeat (first | (with_reducible first | exact HV.out | apply below_alloc | apply pw_below_drewN | apply below_drew1) | exact HV.out)))); (case aL => have := LM.out; omega); intro v224 w55 ho hb hg hat; rw [← NY.out] at ho; have n6_ := Aside0.mk hb; have n7_ := Aside0.mk ho; clear HV HS HP; have HV := n6_; have HS := n7_; clear n6_ n7_ ho hb hg hat)
                    go_roundg k2
                    case measure => have := HK2.out; omega
                    case rel => exact ⟨y, (wrap64 (j + 1)), (by first | rfl | (simp; done)), H', ⟨by have := HK2.out; omega⟩, ⟨(by (with_reducible repeat (first | apply Kd.S_alloc | apply Kd.S_drewN | apply Kd.S_drew)); exact HS.out)⟩, ⟨(by repeat (first | (with_reducible first | exact HV.out | apply below_alloc | apply pw_below_drewN | apply below_drew1) | exact HV.out))⟩⟩
                  · rw [if_neg d4] at H
                    exact absurd H (by simp)
                · rw [if_neg d3] at H
                  have N1 : (t3 == 0) = false := beq_eq_false_iff_ne.mpr d3
                  have N2 : (t3 != 0) = true := bne_iff_ne.mpr d3
                  have T0 := N1
                  have T1 := N2
                  obtain ⟨rfl, rfl⟩ : ([] : List S64) = r1 ∧ t3 = r2 := by injection (Option.some.inj H) with x y; exact ⟨x, y⟩
                  clear H
                  clear d3
                  have pj : 0 ≤ (j : Int) := of_decide_eq_true d2b
                  have qj : j < (L.length : Int) := of_decide_eq_true d1b
                  obtain ⟨adj, A3j, c3j, A4j, c4j, ej, h0j, h1j, h2j, h3j, h4j, l3j, i3j, l4j, i4j⟩ := at_T77 (Kd.C_below HLn.out HV.out) j pj qj
                  cases ej
                  have E3j := Aside0.mk i3j
                  have D3j := Aside0.mk l3j
                  have E4j := Aside0.mk i4j
                  have D4j := Aside0.mk l4j
                  clear i3j l3j i4j l4j
                  replace pj := eq_true pj
                  replace qj := eq_true qj
                  go_wp2_with fail
                  refine (name_part.calls k2 ((rd_T77 L j).f0) ((rd_T77 L j).f1) ((rd_T77 L j).f2) _ _ ((rd_T77 L j).f3) _ _ ((rd_T77 L j).f4) t0 t1 t2 t3 _ (by repeat (first | exact E3j.out | (with_reducible refine Kd.C_drewN ?_ _) | (with_reducible refine Kd.C_alloc ?_ _) | (with_reducible refine Kd.C_drew ?_))) D3j.out (by repeat (first | exact E4j.out | (with_reducible refine Kd.C_drewN ?_ _) | (with_reducible refine Kd.C_alloc ?_ _) | (with_reducible refine Kd.C_drew ?_))) D4j.out AP.out (Tb.below HT.out (by repeat (first | (with_reducible first | exact (below_step HB.out HV.out) | apply below_alloc | apply pw_below_drewN | apply below_drew1) | exact (below_step HB.out HV.out))))).mono ?_
                  rintro e w52 ⟨v, ev_, rfl, hev_, ho0, hb⟩
                  obtain ⟨et_, eu_, rfl⟩ := EV.some_of hev_ N1
                  have HEV_ := Aside0.mk hev_
                  clear hev_
                  obtain ⟨P, p_, eP⟩ := Kd.R_slice ho0
                  subst eP
                  have n2_ := Aside0.mk (below_step (by repeat (first | (with_reducible first | exact HV.out | apply below_alloc | apply pw_below_drewN | apply below_drew1) | exact HV.out)) hb)
                  clear HV hb ho0
                  have HV := n2_
                  clear n2_
                  go_wp2_with fail
                  go_ret2
                  exact ⟨_, _, (by first | rfl | (simp [errW_none, errW_some] <;> rfl)), (by first | exact EV.nil | exact EV.f5 | exact EV.f4 | exact HEV_.out | exact EV.part HEV_.out), Kd.S_nil _ _ _ _ _, (by repeat (first | (with_reducible first | exact (below_step HB.out HV.out) | apply below_alloc | apply pw_below_drewN | apply below_drew1) | exact (below_step HB.out HV.out)))⟩
              · rw [if_neg d2] at H
                exact absurd H (by simp)
            · have d1b : decide (j < (L.length : Int)) = false := decide_eq_false d1
              rw [if_neg d1] at H
              clear d1
              obtain ⟨rfl, rfl⟩ : acc = r1 ∧ (0 : Int) = r2 := by injection (Option.some.inj H) with x y; exact ⟨x, y⟩
              go_wp2
              go_ret2
              exact ⟨_, _, (by first | rfl | (simp [errW_none, errW_some] <;> rfl)), EV.nil, Kd.S_lower (by (with_reducible repeat (first | apply Kd.S_alloc | apply Kd.S_drewN | apply Kd.S_drew)); exact HS.out) (below_size HB.out), below_step HB.out (by repeat (first | (with_reducible first | exact HV.out | apply below_alloc | apply pw_below_drewN | apply below_drew1) | exact HV.out))⟩
  · rw [if_neg f1] at hf
    have N1 : (e1 == 0) = false := beq_eq_false_iff_ne.mpr f1
    have N2 : (e1 != 0) = true := bne_iff_ne.mpr f1
    obtain ⟨rfl, rfl⟩ : ([] : List S64) = r1 ∧ e1 = r2 := by injection (Option.some.inj hf) with x y; exact ⟨x, y⟩
    clear hf
    clear f1
    go_enter Tryz.func142, Tryz.ntmps142
    go_wp2_with ((with_reducible refine gate_dst (N := 1) rfl ?_); refine box_event ?hg (N := 1) ?hd (cs := #[.int .i64 a0_0, .int .i64 a0_1, .bool a0_2, .slice A0_3 l0_3.length c0_3, .slice A0_4 l0_4.length c0_4]) (t := 77) ?hr ?_; (case hd => rfl); (case hg => rfl); (case hr => first | (go_simp; done) | (go_simp; rfl)); intro g1 hg w1 hbox hb; have HB := Aside0.mk hb; have hc0 : w1.cell? ⟨g1, 0, none⟩ = some (.int .i64 a0_0) := (blk_cell hbox 0).trans rfl; have hc1 : w1.cell? ⟨g1, 1, none⟩ = some (.int .i64 a0_1) := (blk_cell hbox 1).trans rfl; have hc2 : w1.cell? ⟨g1, 2, none⟩ = some (.bool a0_2) := (blk_cell hbox 2).trans rfl; have hc3 : w1.cell? ⟨g1, 3, none⟩ = some (.slice A0_3 l0_3.length c0_3) := (blk_cell hbox 3).trans rfl; have hc4 : w1.cell? ⟨g1, 4, none⟩ = some (.slice A0_4 l0_4.length c0_4) := (blk_cell hbox 4).trans rfl; clear hb hbox hg)
    refine (name_inside.calls k a0_0 a0_1 a0_2 _ _ l0_3 _ _ l0_4 17 L e1 _ (Kd.C_below HR3.out HB.out) HC3.out (Kd.C_below HR4.out HB.out) HC4.out AI.out).mono ?_
    rintro e w51 ⟨v, ev_, rfl, hev_, ho0, hb⟩
    obtain ⟨et_, eu_, rfl⟩ := EV.some_of hev_ N1
    have HEV_ := Aside0.mk hev_
    clear hev_
    obtain ⟨C, cL, rfl⟩ := Kd.S_slice ho0
    have HLn := Aside0.mk (Kd.S_reads' ho0).2.2
    replace HB := Aside0.mk (below_step HB.out hb)
    clear hb ho0 hc0 hc1 hc2 hc3 hc4
    go_wp2_with fail
    go_ret2
    exact ⟨_, _, (by first | rfl | (simp [errW_none, errW_some] <;> rfl)), (by first | exact EV.nil | exact EV.f5 | exact EV.f4 | exact HEV_.out | exact EV.part HEV_.out), Kd.S_nil _ _ _ _ _, (by repeat (first | (with_reducible first | exact HB.out | apply below_alloc | apply pw_below_drewN | apply below_drew1) | exact HB.out))⟩
end Go.Proofs.YtkioddjjfifadaaGreatDoor.P
