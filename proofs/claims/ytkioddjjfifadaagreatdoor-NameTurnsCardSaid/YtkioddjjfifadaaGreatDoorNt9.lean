/- What the proof of NameTurns needs of: He0, He1, Pxf152, Pxf149, Pxf84, Pxf41, Pxf31, Lb2, Hc7, Hc8, Pxf42, Lb4, Lx2, Hn7, Pxf141, Ho0, Hs5, Hs7, Ho1, Hs8, Hs6, Pxf37, Hc9, Ht7, Ht8, Hy0, Pxf90, Hy1, Ht9, Hw9, G10, LNameTurns, Opn, Wit, Opw, Lh0, Lh1, Lq0. -/
import Derived.BigRegion
import Derived.Lib.SlBytesConst
import Derived.Carry
import Derived.Lay
import Derived.Deep.Slices
import Derived.Test.YtkioddjjfifadaaGreatDoorRows
import Derived.LaidHandle
import Derived.LaidOnce
import Derived.KernelRfl
import Derived.Lib.LaidU8
import Derived.Stop.LaidErr
import Derived.Test.YtkioddjjfifadaaGreatDoorNt2
import Derived.Test.YtkioddjjfifadaaGreatDoorNt3
import Derived.Test.YtkioddjjfifadaaGreatDoorNt5
import Derived.Test.YtkioddjjfifadaaGreatDoorNt6
import Derived.Test.YtkioddjjfifadaaGreatDoorNt7
import Derived.Test.YtkioddjjfifadaaGreatDoorNt8
set_option linter.unusedVariables false
set_option linter.unusedSimpArgs false
namespace Go.Proofs.YtkioddjjfifadaaGreatDoor.P
open Go.RowKit Go.Extern.Stop Go.Stop Go.Extern Go.Proofs.YtkioddjjfifadaaGreatDoorW.PrintWords Go.Proofs.YtkioddjjfifadaaGreatDoorW.PrintLast Go.Proofs.YtkioddjjfifadaaGreatDoorW.PrintMore
inductive NE where
  | low (e : Int)
  | flt (f : Int)
  | part (i : Int) (x : NE)
def NE.val : NE → Value
  | .low e => .iface 222 (.agg #[.int .i64 e])
  | .flt f => .iface 225 (.int .i64 f)
  | .part i x => .iface 229 (.agg #[.int .i64 i, x.val])
def NE.leaf : NE → NE
  | .part _ x => x.leaf
  | x => x
def NE.num : NE → Int
  | .low e => e
  | .flt f => if f = 1 then 4 else if f = 2 then 5 else if f = 4 then 1 else 30
  | .part _ x => x.num
def NE.depth : NE → Nat
  | .part _ x => x.depth + 1
  | _ => 0
def NE.isLow : NE → Option Int
  | .low e => some e
  | .flt _ => none
  | .part _ x => x.isLow
def NE.isFlt (g : Int) : NE → Bool
  | .low _ => false
  | .flt f => f == g
  | .part _ x => x.isFlt g
theorem NE.val_iface (x : NE) : ∃ t v, x.val = .iface t v ∧ (t = 222 ∨ t = 225 ∨ t = 229) := by
  cases x <;> exact ⟨_, _, rfl, by simp⟩
theorem Nm.valueOf231 (t : Addr) (w : World) : (ReflectliteValue.unpack (.iface 231 (.pointer (some t)))).run Tryz.prog w
    = .ok (.agg #[.pointer (some ⟨7, 231, none⟩), .pointer (some ⟨w.heap.size, 0, none⟩), .int .u64 150]) (w.alloc (.cells #[.pointer (some t)] 231)) := by kernel_rfl
theorem Nm.type231 (a : Addr) (w : World) : (ReflectliteValue.methodAny (ReflectliteValue.valueError "reflectlite.Value.Type" 0) (fun t _ _ _ => ReflectliteType.toType t) #[.agg #[.pointer (some ⟨7, 231, none⟩), .pointer (some a), .int .u64 150]]).run Tryz.prog w
    = .ok (.iface 336 (.agg #[.pointer (some ⟨7, 231, none⟩)])) w := by kernel_rfl
theorem Nm.kind231 (w : World) : ((ReflectliteType.abiMethod fun t => (fun a : Nat => Value.int IntKind.u8 (a : Int)) <$> Rtype.kind t) #[.pointer (some ⟨7, 231, none⟩)]).run Tryz.prog w = .ok (.int .u8 22) w := by kernel_rfl
theorem Nm.kind222 (w : World) : ((ReflectliteType.abiMethod fun t => (fun a : Nat => Value.int IntKind.u8 (a : Int)) <$> Rtype.kind t) #[.pointer (some ⟨7, 222, none⟩)]).run Tryz.prog w = .ok (.int .u8 25) w := by kernel_rfl
theorem Nm.parts231 (a : Addr) (w : World) : (ReflectliteValue.parts (.agg #[.pointer (some ⟨7, 231, none⟩), .pointer (some a), .int .u64 150])).run Tryz.prog w = .ok (some (231, a, 150)) w := by kernel_rfl
theorem Nm.isNil231 (a p : Addr) (W : World) (ha : W.cell? a = some (.pointer (some p))) :
    (ReflectliteValue.method (ReflectliteValue.valueError "reflectlite.Value.IsNil" 0) ReflectliteValue.isNil #[.agg #[.pointer (some ⟨7, 231, none⟩), .pointer (some a), .int .u64 150]]).run Tryz.prog W = .ok (.bool false) W := by
  rw [rlm]
  simp only [Sem.run_bind, Nm.parts231, Result.andThen]
  simp [ReflectliteValue.isNil, loadVar, isAgg, underlying, Tryz.underlying231, ha, Result.andThen]
theorem Nm.elem231 (w : World) : (ReflectliteType.method ReflectliteType.elem #[.agg #[.pointer (some ⟨7, 231, none⟩)]]).run Tryz.prog w = .ok (.iface 336 (.agg #[.pointer (some ⟨7, 222, none⟩)])) w := by kernel_rfl
theorem Nm.implements222 (w : World) : (ReflectliteType.relation "Implements" ReflectliteType.implements_ #[.agg #[.pointer (some ⟨7, 222, none⟩)], .iface 336 (.agg #[.pointer (some ⟨7, 132, none⟩)])]).run Tryz.prog w = .ok (.bool true) w := by kernel_rfl
theorem Nm.typeOf222 (v : Value) (w : World) : (ReflectliteType.typeOf #[.iface 222 v]).run Tryz.prog w = .ok (.iface 336 (.agg #[.pointer (some ⟨7, 222, none⟩)])) w := by kernel_rfl
theorem Nm.typeOf225 (v : Value) (w : World) : (ReflectliteType.typeOf #[.iface 225 v]).run Tryz.prog w = .ok (.iface 336 (.agg #[.pointer (some ⟨7, 225, none⟩)])) w := by kernel_rfl
theorem Nm.typeOf229 (v : Value) (w : World) : (ReflectliteType.typeOf #[.iface 229 v]).run Tryz.prog w = .ok (.iface 336 (.agg #[.pointer (some ⟨7, 229, none⟩)])) w := by kernel_rfl
theorem Nm.assignable222 (w : World) : (ReflectliteType.relation "AssignableTo" ReflectliteType.assignableTo #[.agg #[.pointer (some ⟨7, 222, none⟩)], .iface 336 (.agg #[.pointer (some ⟨7, 222, none⟩)])]).run Tryz.prog w = .ok (.bool true) w := by kernel_rfl
theorem Nm.assignable225 (w : World) : (ReflectliteType.relation "AssignableTo" ReflectliteType.assignableTo #[.agg #[.pointer (some ⟨7, 225, none⟩)], .iface 336 (.agg #[.pointer (some ⟨7, 222, none⟩)])]).run Tryz.prog w = .ok (.bool false) w := by kernel_rfl
theorem Nm.assignable229 (w : World) : (ReflectliteType.relation "AssignableTo" ReflectliteType.assignableTo #[.agg #[.pointer (some ⟨7, 229, none⟩)], .iface 336 (.agg #[.pointer (some ⟨7, 222, none⟩)])]).run Tryz.prog w = .ok (.bool false) w := by kernel_rfl
theorem Nm.valueOf222 (e : Int) (w : World) : (ReflectliteValue.unpack (.iface 222 (.agg #[.int .i64 e]))).run Tryz.prog w
    = .ok (.agg #[.pointer (some ⟨7, 222, none⟩), .pointer (some ⟨w.heap.size, 0, none⟩), .int .u64 153]) (w.alloc (.cells #[.int .i64 e] 222)) := by kernel_rfl
theorem Nm.elemOf231 (w : World) : (Rtype.elem? 231).run Tryz.prog w = .ok (some 222) w := by kernel_rfl
theorem Nm.mk222 (p : Addr) (w : World) : (ReflectliteValue.mk 222 p ReflectliteValue.flagAddr).run Tryz.prog w = .ok (.agg #[.pointer (some ⟨7, 222, none⟩), .pointer (some p), .int .u64 409]) w := by kernel_rfl
theorem Nm.elemV231 (a p : Addr) (W : World) (ha : W.cell? a = some (.pointer (some p))) :
    (ReflectliteValue.method (ReflectliteValue.valueError "reflectlite.Value.Elem" 0) ReflectliteValue.elem #[.agg #[.pointer (some ⟨7, 231, none⟩), .pointer (some a), .int .u64 150]]).run Tryz.prog W
      = .ok (.agg #[.pointer (some ⟨7, 222, none⟩), .pointer (some p), .int .u64 409]) W := by
  rw [rlm]
  simp only [Sem.run_bind, Nm.parts231, Result.andThen]
  simp [ReflectliteValue.elem, loadVar, isAgg, underlying, Tryz.underlying231, ha, Result.andThen, Nm.elemOf231, Nm.mk222]
theorem Nm.parts222a (a : Addr) (w : World) : (ReflectliteValue.parts (.agg #[.pointer (some ⟨7, 222, none⟩), .pointer (some a), .int .u64 409])).run Tryz.prog w = .ok (some (222, a, 409)) w := by kernel_rfl
theorem Nm.parts222 (a : Addr) (w : World) : (ReflectliteValue.parts (.agg #[.pointer (some ⟨7, 222, none⟩), .pointer (some a), .int .u64 153])).run Tryz.prog w = .ok (some (222, a, 153)) w := by kernel_rfl
theorem Nm.direct222 (w : World) : (Rtype.directlyAssignable 222 222).run Tryz.prog w = .ok true w := by kernel_rfl
theorem Nm.size222 (w : World) : (sizeOf 222).run Tryz.prog w = .ok 1 w := by kernel_rfl
theorem Nm.set222 (ta b : Addr) (e : Int) (old : Value) (W : World) (hb : W.cell? b = some (.int .i64 e)) (ht : W.cell? ta = some old) (hf : W.frozen? ta = false) :
    (ReflectliteValue.set #[.agg #[.pointer (some ⟨7, 222, none⟩), .pointer (some ta), .int .u64 409], .agg #[.pointer (some ⟨7, 222, none⟩), .pointer (some b), .int .u64 153]]).run Tryz.prog W
      = .ok (.tuple #[]) (W.setCell ta (.int .i64 e)) := by
  have hl : (loadVar 222 b).run Tryz.prog W = .ok (.agg #[.int .i64 e]) W := by
    have hc : (loadCells b 1).run Tryz.prog W = .ok #[.int .i64 e] W := run_loadCells_list (P := Tryz.prog) W b [.int .i64 e] (fun j u hj => by
      cases j with
      | zero => cases hj; rw [show b.add 0 = b from rfl]; exact hb
      | succ n => cases hj)
    simp [loadVar, isAgg, underlying, Tryz.underlying222, Result.andThen, Nm.size222, hc]
  rw [rls]
  simp only [Sem.run_bind, Nm.parts222a, Nm.parts222, Result.andThen]
  simp [ReflectliteValue.flagAddr, hl, Result.andThen, Nm.direct222, storeVar, Value.cells, storeCells, Addr.add]
  rw [run_store Tryz.prog W ta _ _ (by rfl)]
  simp [ht, hf]
theorem Nm.methodUnwrap (v : Value) (w : World) : (Go.method 558 229 v "Unwrap").run Tryz.prog w = .ok (340, v) w := by kernel_rfl
theorem Nm.methodComparable (h : Value) (w : World) : (Go.method 558 336 h "Comparable").run Tryz.prog w = .ok (348, h) w := by kernel_rfl
theorem Nm.comparable225 (w : World) : ((ReflectliteType.method fun t => do Rtype.noPackHeld "Comparable" t; (fun a => Value.bool a.comparable) <$> typeInfo t) #[.agg #[.pointer (some ⟨7, 225, none⟩)]]).run Tryz.prog w = .ok (.bool true) w := by kernel_rfl
theorem Nm.noAs (t : TypeId) (ht : t = 222 ∨ t = 225 ∨ t = 229) (v : Value) (xT : TypeId) (w : World) : (Instr.typeAssert (.iface t v) xT 340 true).run Tryz.prog w = .ok (.tuple #[.nilIface, .bool false]) w := by
  rcases ht with rfl | rfl | rfl <;> exact run_typeAssert_lacksB Tryz.underlying340 (by kernel_rfl) (by kernel_rfl) v xT w
theorem Nm.noIs (t : TypeId) (ht : t = 222 ∨ t = 225 ∨ t = 229) (v : Value) (xT : TypeId) (w : World) : (Instr.typeAssert (.iface t v) xT 348 true).run Tryz.prog w = .ok (.tuple #[.nilIface, .bool false]) w := by
  rcases ht with rfl | rfl | rfl <;> exact run_typeAssert_lacksB Tryz.underlying348 (by kernel_rfl) (by kernel_rfl) v xT w
theorem Nm.noUnwraps (t : TypeId) (ht : t = 222 ∨ t = 225 ∨ t = 229) (v : Value) (xT : TypeId) (w : World) : (Instr.typeAssert (.iface t v) xT 345 true).run Tryz.prog w = .ok (.tuple #[.nilIface, .bool false]) w := by
  rcases ht with rfl | rfl | rfl <;> exact run_typeAssert_lacksB Tryz.underlying345 (by kernel_rfl) (by kernel_rfl) v xT w
theorem Nm.noUnwrap (t : TypeId) (ht : t = 222 ∨ t = 225) (v : Value) (xT : TypeId) (w : World) : (Instr.typeAssert (.iface t v) xT 343 true).run Tryz.prog w = .ok (.tuple #[.nilIface, .bool false]) w := by
  rcases ht with rfl | rfl <;> exact run_typeAssert_lacksB Tryz.underlying343 (by kernel_rfl) (by kernel_rfl) v xT w
theorem Nm.hasUnwrap (v : Value) (xT : TypeId) (w : World) : (Instr.typeAssert (.iface 229 v) xT 343 true).run Tryz.prog w = .ok (.tuple #[.iface 229 v, .bool true]) w := run_typeAssert_hasB Tryz.underlying343 (by kernel_rfl) v xT w
theorem Nm.eql_flt (f g : Int) (w : World) : (binOp .eql 132 (.iface 225 (.int .i64 f)) (.iface 225 (.int .i64 g))).run Tryz.prog w = .ok (.bool (f == g)) w := by kernel_rfl
theorem Nm.eql_low (v : Value) (g : Int) (w : World) : (binOp .eql 132 (.iface 222 v) (.iface 225 (.int .i64 g))).run Tryz.prog w = .ok (.bool false) w := run_eql_iface_types 222 225 v _ Tryz.underlying132 (by decide) w
theorem Nm.eql_part (v : Value) (g : Int) (w : World) : (binOp .eql 132 (.iface 229 v) (.iface 225 (.int .i64 g))).run Tryz.prog w = .ok (.bool false) w := run_eql_iface_types 229 225 v _ Tryz.underlying132 (by decide) w
theorem unwrap_calls (i : Int) (v : Value) (hv : v.oneCell' = true) (w : World) : Calls Tryz.prog 340 #[.agg #[.int .i64 i, v]] w fun e w' => e = .returned v ∧ Below w.heap.size w w' := by
  have HV := Aside0.mk hv
  clear hv
  go_enter Tryz.func340, Tryz.ntmps340
  go_wp2_with (first | ((with_reducible refine gate_dst (N := 1) rfl ?_); refine box_event ?hg (N := 1) ?hd (cs := #[.int .i64 i, v]) (t := 229) ?hr ?_; (case hd => rfl); (case hg => rfl); (case hr => first | (go_simp; done) | (go_simp; rfl)); intro gb hg w4 hbox hb; have HB := Aside0.mk hb; have hcz : w4.cell? ⟨gb, 1, none⟩ = some v := (blk_cell hbox 1).trans rfl; clear hg hbox hb))
  go_ret
  exact ⟨rfl, HB.out⟩
set_option maxRecDepth 100000 in
set_option maxHeartbeats 4000000 in
theorem is_ne (x : NE) (g : Int) (w : World) :
    Calls Tryz.prog 195 #[x.val, .iface 225 (.int .i64 g), .bool true] w fun e w' => e = .returned (.bool (x.isFlt g)) ∧ Below w.heap.size w w' := by
  have HB := Aside0.mk (Below.refl w.heap.size w)
  go_enter Tryz.func195, Tryz.ntmps195
  go_wp2_with fail
  go_loopg [0] (x.depth + 1) (fun kq v0 w' => ∃ (y : NE), v0 = y.val ∧ Aside0 (y.isFlt g = x.isFlt g) ∧ Aside0 (y.depth < kq) ∧ Aside0 (Below w.heap.size w w'))
  case atStart => exact ⟨x, rfl, ⟨rfl⟩, ⟨by omega⟩, HB⟩
  case round =>
    clear HB
    obtain ⟨y, rfl, HF, HD, HB⟩ := hrel
    cases gk with
    | zero => exact absurd HD.out (by omega)
    | succ g1 =>
      cases y with
      | low e =>
        have q1 := Nm.noIs 222 (by simp) (.agg #[.int .i64 e]) 132 wr
        have q2 := Nm.noUnwrap 222 (by simp) (.agg #[.int .i64 e]) 132 wr
        have q3 := Nm.noUnwraps 222 (by simp) (.agg #[.int .i64 e]) 132 wr
        have q4 := Nm.eql_low (.agg #[.int .i64 e]) g wr
        simp only [NE.val] at *
        go_wp2_with fail
        go_ret
        exact ⟨by rw [← HF.out]; rfl, HB.out⟩
      | flt f =>
        have q1 := Nm.noIs 225 (by simp) (.int .i64 f) 132 wr
        have q2 := Nm.noUnwrap 225 (by simp) (.int .i64 f) 132 wr
        have q3 := Nm.noUnwraps 225 (by simp) (.int .i64 f) 132 wr
        have q4 := Nm.eql_flt f g wr
        have hf : (f == g) = x.isFlt g := HF.out
        clear HF
        rw [hf] at q4
        clear hf
        obtain ⟨bb, hbb⟩ : ∃ bb, x.isFlt g = bb := ⟨_, rfl⟩
        rw [hbb] at q4
        have HH := Aside0.mk hbb
        clear hbb
        simp only [NE.val] at *
        cases bb
        all_goals
          go_wp2_with fail
          go_ret
          exact ⟨by rw [HH.out]; rfl, HB.out⟩
      | part i z =>
        obtain ⟨zt, zv, hz, hzt⟩ := z.val_iface
        have q1 := Nm.noIs 229 (by simp) (.agg #[.int .i64 i, .iface zt zv]) 132 wr
        have q2 := Nm.hasUnwrap (.agg #[.int .i64 i, .iface zt zv]) 132 wr
        have q4 := Nm.eql_part (.agg #[.int .i64 i, .iface zt zv]) g wr
        have q5 := Nm.methodUnwrap
        have HZ := Aside0.mk hz
        have hz' : NE.val (.part i z) = .iface 229 (.agg #[.int .i64 i, .iface zt zv]) := by rw [NE.val, hz]
        rw [hz'] at *
        clear hz hz'
        go_wp2_with ((with_reducible refine (unwrap_calls i (.iface zt zv) rfl _).mono ?_); rintro e w4 ⟨rfl, hb⟩; have n0 := Aside0.mk (below_step HB.out hb); clear hb HB; have HB := n0; clear n0)
        go_roundg g1
        case measure => exact Nat.lt_succ_self _
        case rel => exact ⟨z, HZ.out.symm, ⟨HF.out⟩, ⟨by have := HD.out; simp only [NE.depth] at this; omega⟩, HB⟩
set_option maxRecDepth 100000 in
set_option maxHeartbeats 4000000 in
theorem errors_Is_ne (x : NE) (g : Int) (w : World) :
    Calls Tryz.prog 144 #[x.val, .iface 225 (.int .i64 g)] w fun e w' => e = .returned (.bool (x.isFlt g)) ∧ Below w.heap.size w w' := by
  have h8 := @run_callFunc_extern Tryz.prog 194 _ ReflectliteType.typeOf Tryz.func194 (by kernel_rfl) (by kernel_rfl) (by kernel_rfl) (by kernel_rfl)
  have h32 := @run_callFunc_extern Tryz.prog 348 _ (ReflectliteType.method fun t => do Rtype.noPackHeld "Comparable" t; pure (.bool (← typeInfo t).comparable)) Tryz.func348 (by kernel_rfl) (by kernel_rfl) (by kernel_rfl) (by kernel_rfl)
  have tT := Nm.typeOf225
  have cT := Nm.comparable225
  have mR := Nm.methodComparable
  obtain ⟨zt, zv, hz, hzt⟩ := x.val_iface
  have HZ := Aside0.mk hz
  rw [hz]
  clear hz hzt
  go_enter Tryz.func144, Tryz.ntmps144
  go_wp2_with (go_at_call 195; rw [← HZ.out]; (with_reducible refine (is_ne x g _).mono ?_); rintro e w4 ⟨rfl, hb⟩; have HB := Aside0.mk hb; clear hb)
  go_ret
  exact ⟨rfl, HB.out⟩
set_option maxRecDepth 100000 in
set_option maxHeartbeats 4000000 in
theorem as_ne (x : NE) (g b t : Nat) (w0 w : World) (hB : Below w0.heap.size w0 w) (hg : w0.heap.size ≤ g) (ht : w.heap[g]? = some (.cells #[.int .i64 0] 222 (0, 0))) (hb : w.heap[b]? = some (.cells #[.pointer (some ⟨g, 0, none⟩)] 231 (0, 0))) (hgb : b ≠ g) :
    Calls Tryz.prog 193 #[x.val, .iface 231 (.pointer (some ⟨g, 0, none⟩)), .agg #[.pointer (some ⟨7, 231, none⟩), .pointer (some ⟨b, 0, none⟩), .int .u64 150], .iface 336 (.agg #[.pointer (some ⟨7, 222, none⟩)])] w fun e w' =>
      e = .returned (.bool x.isLow.isSome) ∧ w'.heap[g]? = some (.cells #[.int .i64 (x.isLow.getD 0)] 222 (0, 0)) ∧ Below w0.heap.size w0 w' := by
  have h6 := @run_callFunc_extern Tryz.prog 190 _ (fun args => ReflectliteValue.unpack (args.getD 0 (.tuple #[]))) Tryz.func190 (by kernel_rfl) (by kernel_rfl) (by kernel_rfl) (by kernel_rfl)
  have h10 := @run_callFunc_extern Tryz.prog 194 _ ReflectliteType.typeOf Tryz.func194 (by kernel_rfl) (by kernel_rfl) (by kernel_rfl) (by kernel_rfl)
  have h35 := @run_callFunc_extern Tryz.prog 347 _ (ReflectliteType.relation "AssignableTo" ReflectliteType.assignableTo) Tryz.func347 (by kernel_rfl) (by kernel_rfl) (by kernel_rfl) (by kernel_rfl)
  have h11 := @run_callFunc_extern Tryz.prog 236 _ (ReflectliteValue.method (ReflectliteValue.valueError "reflectlite.Value.Elem" 0) ReflectliteValue.elem) Tryz.func236 (by kernel_rfl) (by kernel_rfl) (by kernel_rfl) (by kernel_rfl)
  have h12 := @run_callFunc_extern Tryz.prog 237 _ ReflectliteValue.set Tryz.func237 (by kernel_rfl) (by kernel_rfl) (by kernel_rfl) (by kernel_rfl)
  have mA := Ref.methodAssignableTo
  have HB := Aside0.mk hB
  have HG := Aside0.mk hg
  have HT := Aside0.mk ht
  have HBK := Aside0.mk hb
  have HN := Aside0.mk hgb
  clear hB hg ht hb hgb
  go_enter Tryz.func193, Tryz.ntmps193
  go_wp2_with (first | ((with_reducible refine gate_dst (N := 6) rfl ?_); refine box_event ?hg (N := 6) ?hd (cs := #[.pointer (some ⟨7, 231, none⟩), .pointer (some ⟨b, 0, none⟩), .int .u64 150]) (t := 289) ?hr ?_; (case hd => rfl); (case hg => rfl); (case hr => first | (go_simp; done) | (go_simp; rfl)); intro gb hgq w4 hbox hb; have HB6 := Aside0.mk hbox; have n1 := Aside0.mk (below_step HB.out hb); have n2 := Aside0.mk (blk_below HT.out hb); have n3 := Aside0.mk (blk_below HBK.out hb); have HGB := Aside0.mk (show w0.heap.size ≤ gb by rw [hgq]; exact HB.out.size); clear hbox hb hgq HB HT HBK; have HB := n1; have HT := n2; have HBK := n3; clear n1 n2 n3))
  go_loopg [0] (x.depth + 1) (fun kq v0 w' => ∃ (y : NE), v0 = y.val ∧ Aside0 (y.isLow = x.isLow) ∧ Aside0 (y.depth < kq) ∧ Aside0 (Below w0.heap.size w0 w') ∧ Aside0 (w'.heap[g]? = some (.cells #[.int .i64 0] 222 (0, 0))) ∧ Aside0 (w'.heap[b]? = some (.cells #[.pointer (some ⟨g, 0, none⟩)] 231 (0, 0))) ∧ Aside0 (w'.heap[gb]? = some (.cells #[.pointer (some ⟨7, 231, none⟩), .pointer (some ⟨b, 0, none⟩), .int .u64 150] 289 (0, 0))))
  case atStart => exact ⟨x, rfl, ⟨rfl⟩, ⟨by omega⟩, HB, HT, HBK, HB6⟩
  case round =>
    clear HB HT HBK HB6
    obtain ⟨y, rfl, HF, HD, HB, HT, HBK, HB6⟩ := hrel
    cases gk with
    | zero => exact absurd HD.out (by omega)
    | succ g1 =>
      cases y with
      | low e =>
        have tO := Nm.typeOf222 (.agg #[.int .i64 e]) wr
        have a25 := Nm.assignable222 wr
        have v25 := Nm.valueOf222 e wr
        have z0 : wr.cell? ⟨gb, 0, none⟩ = some (.pointer (some ⟨7, 231, none⟩)) := (blk_cell HB6.out 0).trans rfl
        have z1 : wr.cell? ⟨gb, 1, none⟩ = some (.pointer (some ⟨b, 0, none⟩)) := (blk_cell HB6.out 1).trans rfl
        have z2 : wr.cell? ⟨gb, 2, none⟩ = some (.int .u64 150) := (blk_cell HB6.out 2).trans rfl
        have el := Nm.elemV231 ⟨b, 0, none⟩ ⟨g, 0, none⟩ wr ((blk_cell HBK.out 0).trans rfl)
        have HT2 := Aside0.mk (blk_alloc HT.out (.cells #[.int .i64 e] 222))
        have st := Nm.set222 ⟨g, 0, none⟩ ⟨wr.heap.size, 0, none⟩ e (.int .i64 0) (wr.alloc (.cells #[.int .i64 e] 222)) ((blk_cell (heap_alloc_new wr _) 0).trans rfl) ((blk_cell HT2.out 0).trans rfl) (blk_frozen HT2.out 0)
        simp only [NE.val] at *
        go_wp2_with fail
        go_ret
        refine ⟨by rw [← HF.out]; rfl, ?_, ?_⟩
        rotate_left
        · exact below_set (below_alloc HB.out _) HG.out
        rw [← HF.out]
        exact blk_put HT2.out 0 (.int .i64 e) rfl
      | flt f =>
        have tO := Nm.typeOf225 (.int .i64 f) wr
        have a25 := Nm.assignable225 wr
        have q1 := Nm.noAs 225 (by simp) (.int .i64 f) 132 wr
        have q2 := Nm.noUnwrap 225 (by simp) (.int .i64 f) 132 wr
        have q3 := Nm.noUnwraps 225 (by simp) (.int .i64 f) 132 wr
        simp only [NE.val] at *
        go_wp2_with fail
        go_ret
        exact ⟨by rw [← HF.out]; rfl, by rw [← HF.out]; exact HT.out, HB.out⟩
      | part i z =>
        obtain ⟨zt, zv, hz, hzt⟩ := z.val_iface
        have tO := Nm.typeOf229 (.agg #[.int .i64 i, .iface zt zv]) wr
        have a25 := Nm.assignable229 wr
        have q1 := Nm.noAs 229 (by simp) (.agg #[.int .i64 i, .iface zt zv]) 132 wr
        have q2 := Nm.hasUnwrap (.agg #[.int .i64 i, .iface zt zv]) 132 wr
        have q5 := Nm.methodUnwrap
        have HZ := Aside0.mk hz
        have hz' : NE.val (.part i z) = .iface 229 (.agg #[.int .i64 i, .iface zt zv]) := by rw [NE.val, hz]
        rw [hz'] at *
        clear hz hz'
        go_wp2_with ((with_reducible refine (unwrap_calls i (.iface zt zv) rfl _).mono ?_); rintro e w4 ⟨rfl, hb⟩; have n0 := Aside0.mk (below_step HB.out hb); have n1 := Aside0.mk (blk_below HT.out hb); have n2 := Aside0.mk (blk_below HBK.out hb); have n3 := Aside0.mk (blk_below HB6.out hb); clear hb HB HT HBK HB6; have HB := n0; have HT := n1; have HBK := n2; have HB6 := n3; clear n0 n1 n2 n3)
        go_roundg g1
        case measure => exact Nat.lt_succ_self _
        case rel => exact ⟨z, HZ.out.symm, ⟨HF.out⟩, ⟨by have := HD.out; simp only [NE.depth] at this; omega⟩, HB, HT, HBK, HB6⟩
set_option maxRecDepth 100000 in
set_option maxHeartbeats 4000000 in
theorem errors_As_ne (x : NE) (g : Nat) (w0 w : World) (hB : Below w0.heap.size w0 w) (hH : Hd w) (hg : w0.heap.size ≤ g) (ht : w.heap[g]? = some (.cells #[.int .i64 0] 222 (0, 0))) :
    Calls Tryz.prog 143 #[x.val, .iface 231 (.pointer (some ⟨g, 0, none⟩))] w fun e w' =>
      e = .returned (.bool x.isLow.isSome) ∧ w'.heap[g]? = some (.cells #[.int .i64 (x.isLow.getD 0)] 222 (0, 0)) ∧ Below w0.heap.size w0 w' := by
  have h6 := @run_callFunc_extern Tryz.prog 190 _ (fun args => ReflectliteValue.unpack (args.getD 0 (.tuple #[]))) Tryz.func190 (by kernel_rfl) (by kernel_rfl) (by kernel_rfl) (by kernel_rfl)
  have h7 := @run_callFunc_extern Tryz.prog 191 _ (ReflectliteValue.methodAny (ReflectliteValue.valueError "reflectlite.Value.Type" 0) (fun t _ _ _ => ReflectliteType.toType t)) Tryz.func191 (by kernel_rfl) (by kernel_rfl) (by kernel_rfl) (by kernel_rfl)
  have h8 := @run_callFunc_extern Tryz.prog 192 _ (ReflectliteValue.method (ReflectliteValue.valueError "reflectlite.Value.IsNil" 0) ReflectliteValue.isNil) Tryz.func192 (by kernel_rfl) (by kernel_rfl) (by kernel_rfl) (by kernel_rfl)
  have h27 := @run_callFunc_extern Tryz.prog 333 _ (ReflectliteType.abiMethod fun t => do pure (.int .u8 (← Rtype.kind t))) Tryz.func333 (by kernel_rfl) (by kernel_rfl) (by kernel_rfl) (by kernel_rfl)
  have h37 := @run_callFunc_extern Tryz.prog 349 _ (ReflectliteType.method ReflectliteType.elem) Tryz.func349 (by kernel_rfl) (by kernel_rfl) (by kernel_rfl) (by kernel_rfl)
  have h38 := @run_callFunc_extern Tryz.prog 350 _ (ReflectliteType.relation "Implements" ReflectliteType.implements_) Tryz.func350 (by kernel_rfl) (by kernel_rfl) (by kernel_rfl) (by kernel_rfl)
  have f6 := Nm.valueOf231
  have f7 := Nm.type231
  have mK := Ref.methodKind
  have mE := Ref.methodElem
  have mI := Ref.methodImplements
  have k27 := Nm.kind231
  have k25 := Nm.kind222
  have e27 := Nm.elem231
  have i25 := Nm.implements222
  obtain ⟨zt, zv, hz, hzt⟩ := x.val_iface
  have HZ := Aside0.mk hz
  rw [hz]
  have n8 := Nm.isNil231 ⟨w.heap.size, 0, none⟩ ⟨g, 0, none⟩ ((w.alloc (.cells #[.pointer (some ⟨g, 0, none⟩)] 231)).alloc (.cells #[.pointer (some ⟨7, 231, none⟩), .pointer (some ⟨w.heap.size, 0, none⟩), .int .u64 150] 289)) (by simp)
  have hg2 : ((w.alloc (.cells #[.pointer (some ⟨g, 0, none⟩)] 231)).alloc (.cells #[.pointer (some ⟨7, 231, none⟩), .pointer (some ⟨w.heap.size, 0, none⟩), .int .u64 150] 289)).cell? ⟨0, 0, none⟩ = some (.iface 336 (.agg #[.pointer (some ⟨7, 132, none⟩)])) := by
    rw [World.cell?_alloc_lt _ _ ⟨0, 0, none⟩ (by simp), World.cell?_alloc_lt _ _ ⟨0, 0, none⟩ hH.lt]
    exact hH
  have HBK := Aside0.mk (blk_alloc (heap_alloc_new w (.cells #[.pointer (some ⟨g, 0, none⟩)] 231)) (.cells #[.pointer (some ⟨7, 231, none⟩), .pointer (some ⟨w.heap.size, 0, none⟩), .int .u64 150] 289))
  have HT := Aside0.mk (blk_alloc (blk_alloc ht (.cells #[.pointer (some ⟨g, 0, none⟩)] 231)) (.cells #[.pointer (some ⟨7, 231, none⟩), .pointer (some ⟨w.heap.size, 0, none⟩), .int .u64 150] 289))
  have HB := Aside0.mk (below_alloc (below_alloc hB (.cells #[.pointer (some ⟨g, 0, none⟩)] 231)) (.cells #[.pointer (some ⟨7, 231, none⟩), .pointer (some ⟨w.heap.size, 0, none⟩), .int .u64 150] 289))
  have HG := Aside0.mk hg
  have HN := Aside0.mk (show w.heap.size ≠ g from fun h => by have := blk_lt ht; omega)
  clear hz hzt hB hH hg ht
  go_enter Tryz.func143, Tryz.ntmps143
  go_wp2_with (go_at_call 193; rw [← HZ.out]; (with_reducible refine (as_ne x g w.heap.size 0 w0 _ HB.out HG.out HT.out HBK.out HN.out).mono ?_); rintro e w4 ⟨rfl, ht, hb⟩; have HT2 := Aside0.mk ht; have HB2 := Aside0.mk hb; clear ht hb)
  go_ret
  exact ⟨rfl, HT2.out, HB2.out⟩
theorem NE.num_of (x : NE) : x.num = match x.isLow with
    | some e => e
    | none => if x.isFlt 1 = true then 4 else if x.isFlt 2 = true then 5 else if x.isFlt 4 = true then 1 else 30 := by
  induction x with
  | low e => rfl
  | flt f => simp [NE.num, NE.isLow, NE.isFlt]
  | part i x ih => exact ih
set_option maxRecDepth 100000 in
set_option maxHeartbeats 4000000 in
theorem name_number_ne (x : NE) (w : World) (hH : Hd w) : Calls Tryz.prog 80 #[x.val] w fun e w' => e = .returned (.int .i64 x.num) ∧ Below w.heap.size w w' := by
  obtain ⟨zt, zv, hz, hzt⟩ := x.val_iface
  have HZ := Aside0.mk hz
  rw [hz]
  have HX := Aside0.mk x.num_of
  have HB := Aside0.mk (below_alloc (Below.refl w.heap.size w) (.cells #[.int .i64 0] 222))
  have HT := Aside0.mk (heap_alloc_new w (.cells #[.int .i64 0] 222))
  have HH := Aside0.mk (hH.below (below_alloc (Below.refl w.heap.size w) (.cells #[.int .i64 0] 222)))
  clear hz hzt hH
  obtain ⟨lo, hlo⟩ : ∃ lo, x.isLow = lo := ⟨_, rfl⟩
  obtain ⟨f1, hf1⟩ : ∃ lo, x.isFlt 1 = lo := ⟨_, rfl⟩
  obtain ⟨f2, hf2⟩ : ∃ lo, x.isFlt 2 = lo := ⟨_, rfl⟩
  obtain ⟨f4, hf4⟩ : ∃ lo, x.isFlt 4 = lo := ⟨_, rfl⟩
  have HL := Aside0.mk hlo
  have HF1 := Aside0.mk hf1
  have HF2 := Aside0.mk hf2
  have HF4 := Aside0.mk hf4
  clear hlo hf1 hf2 hf4
  cases lo with
  | some e =>
    go_enter Tryz.func80, Tryz.ntmps80
    go_wp2_with (first | (go_at_call 143; rw [← HZ.out]; (with_reducible refine (errors_As_ne x w.heap.size w _ HB.out HH.out (Nat.le_refl _) HT.out).mono ?_); rintro e_ w4 ⟨rfl, ht, hb⟩; rw [HL.out] at ht ⊢; have HB2 := Aside0.mk hb; have z0 : w4.cell? ⟨w.heap.size, 0, none⟩ = some (.int .i64 e) := (blk_cell ht 0).trans rfl; clear ht hb))
    go_ret
    exact ⟨by rw [HX.out, HL.out]; rfl, HB2.out⟩
  | none =>
    have ARM : ∀ (g : Int) (bb : Bool), x.isFlt g = bb → ∀ W : World, Calls Tryz.prog 144 #[x.val, .iface 225 (.int .i64 g)] W fun e w' => e = .returned (.bool bb) ∧ Below W.heap.size W w' := fun g bb h W => h ▸ errors_Is_ne x g W
    cases f1 <;> cases f2 <;> cases f4
    all_goals
      go_enter Tryz.func80, Tryz.ntmps80
      go_wp2_with (first | (go_at_call 143; rw [← HZ.out]; (with_reducible refine (errors_As_ne x w.heap.size w _ HB.out HH.out (Nat.le_refl _) HT.out).mono ?_); rintro e_ w4 ⟨rfl, ht, hb⟩; rw [HL.out] at ht ⊢; have HB2 := Aside0.mk hb; clear ht hb) | ((with_reducible refine (ARM 1 _ HF1.out _).mono ?_); rintro e_ w5 ⟨rfl, hb⟩; have n0 := Aside0.mk (below_step HB2.out hb); clear hb HB2; have HB2 := n0; clear n0) | ((with_reducible refine (ARM 2 _ HF2.out _).mono ?_); rintro e_ w5 ⟨rfl, hb⟩; have n0 := Aside0.mk (below_step HB2.out hb); clear hb HB2; have HB2 := n0; clear n0) | ((with_reducible refine (ARM 4 _ HF4.out _).mono ?_); rintro e_ w5 ⟨rfl, hb⟩; have n0 := Aside0.mk (below_step HB2.out hb); clear hb HB2; have HB2 := n0; clear n0))
      go_ret
      exact ⟨by rw [HX.out, HL.out]; simp only [HF1.out, HF2.out, HF4.out]; rfl, HB2.out⟩
end Go.Proofs.YtkioddjjfifadaaGreatDoor.P
set_option linter.unusedVariables false
set_option linter.unusedSimpArgs false
namespace Go.Proofs.YtkioddjjfifadaaGreatDoor.P
open Go.RowKit Go.Proofs.YtkioddjjfifadaaGreatDoorW.PrintWords Go.Proofs.YtkioddjjfifadaaGreatDoorW.PrintLast Go.Proofs.YtkioddjjfifadaaGreatDoorW.PrintMore
def EV (v : Value) (n : Int) : Prop := (n = 0 ∧ v = .nilIface) ∨ (n ≠ 0 ∧ ∃ x : NE, v = x.val ∧ x.num = n)
theorem EV.nil : EV .nilIface 0 := Or.inl ⟨rfl, rfl⟩
theorem EV.f30 : EV (.iface 225 (.int .i64 3)) 30 := Or.inr ⟨by decide, .flt 3, rfl, rfl⟩
theorem EV.f4 : EV (.iface 225 (.int .i64 1)) 4 := Or.inr ⟨by decide, .flt 1, rfl, rfl⟩
theorem EV.f1 : EV (.iface 225 (.int .i64 4)) 1 := Or.inr ⟨by decide, .flt 4, rfl, rfl⟩
theorem EV.low {e : Int} (h : ¬ e = 0) : EV (.iface 222 (.agg #[.int .i64 e])) e := Or.inr ⟨h, .low e, rfl, rfl⟩
theorem EV.part {i n : Int} {t : TypeId} {u : Value} (h : EV (.iface t u) n) : EV (.iface 229 (.agg #[.int .i64 i, .iface t u])) n := by
  rcases h with ⟨_, h⟩ | ⟨hn, x, hx, hm⟩
  rotate_left
  · exact Or.inr ⟨hn, .part i x, by rw [NE.val, hx], hm⟩
  cases h
theorem EV.nil_of {v : Value} {n : Int} (h : EV v n) (hn : (n == 0) = true) : v = .nilIface := by
  rcases h with ⟨_, h⟩ | ⟨h, _⟩
  rotate_left
  · exact absurd (beq_iff_eq.mp hn) h
  exact h
theorem name_number_nil (w : World) : Calls Tryz.prog 80 #[.nilIface] w fun e w' => e = .returned (.int .i64 0) ∧ Below w.heap.size w w' := by
  have HB := Aside0.mk (below_alloc (Below.refl w.heap.size w) (.cells #[.int .i64 0] 222))
  go_enter Tryz.func80, Tryz.ntmps80
  go_wp2_with fail
  go_ret
  exact ⟨rfl, HB.out⟩
theorem name_number_ev {v : Value} {n : Int} (h : EV v n) (w : World) (hH : Hd w) : Calls Tryz.prog 80 #[v] w fun e w' => e = .returned (.int .i64 n) ∧ Below w.heap.size w w' := by
  rcases h with ⟨rfl, rfl⟩ | ⟨_, x, rfl, rfl⟩
  rotate_left
  · exact name_number_ne x w hH
  exact name_number_nil w
end Go.Proofs.YtkioddjjfifadaaGreatDoor.P
namespace Go.Proofs.YtkioddjjfifadaaGreatDoor.P
open Go.RowKit Go.Proofs.YtkioddjjfifadaaGreatDoorW.PrintWords Go.Proofs.YtkioddjjfifadaaGreatDoorW.PrintLast Go.Proofs.YtkioddjjfifadaaGreatDoorW.PrintMore
attribute [local go_sem] max2_int min2_int max_two min_two max_three min_three max_four min_four
set_option linter.unusedVariables false
set_option linter.unusedSimpArgs false
def name_about.f (k : Nat) (a0 : Int) (l1 : List (List Int)) : Option (List Int × Int) := (der_Put.f k 0 a0 true l1).bind fun bt307 => (if bt307.2 = 0 then (some (bt307.1, 0)) else (some (([] : List Int), bt307.2)))
set_option maxHeartbeats 8000000 in
set_option maxRecDepth 100000 in
theorem name_about.calls (k : Nat) (a0 : Int) (A1 : Option Addr) (c1 : Nat) (l1 : List (List Int)) (r1 : List Int) (r2 : Int) (w : World) (hr1 : Kd.C (Kd.slice 5 (Kd.int .u8)) w A1 l1.length l1) (hc1 : l1.length ≤ c1) (h : name_about.f k a0 l1 = some (r1, r2)) :
    Calls Tryz.prog 152 #[.int .i64 a0, .slice A1 l1.length c1] w fun e w' => ∃ v0_ ev_ : Value, e = .returned (.tuple #[v0_, ev_]) ∧ EV ev_ r2 ∧ Kd.R (Kd.int .u8) 5 w' w.heap.size (fun _ => True) v0_ r1 ∧ Below w.heap.size w w' := by
  have HR1 := Aside0.mk hr1
  have HC1 := Aside0.mk hc1
  clear hr1 hc1
  have HB := Aside0.mk (Below.refl w.heap.size w)
  have H : ((der_Put.f k 0 a0 true l1).bind fun bt307 => (if bt307.2 = 0 then (some (bt307.1, 0)) else (some (([] : List Int), bt307.2)))) = some (r1, r2) := h
  clear h
  replace H := Option.bind_eq_some_iff.mp H
  obtain ⟨⟨t307, t308⟩, A30, H⟩ := H
  try dsimp only at H
  have A3 := Aside0.mk A30
  clear A30
  by_cases c4 : t308 = 0
  rotate_left
  · rw [if_neg c4] at H
    have c4b0 : (t308 == 0) = false := beq_eq_false_iff_ne.mpr c4
    have c4b1 : (t308 != 0) = true := bne_iff_ne.mpr c4
    simp only [Option.some.injEq, Prod.mk.injEq] at H
    obtain ⟨rfl, rfl⟩ := H
    go_enter Tryz.func152, Tryz.ntmps152
    go_wp2_with (first | ((with_reducible refine gate_callee (f := 168) rfl ?_); refine goesL_ (some 11) rfl rfl Tryz.func168 (by kernel_rfl) rfl #[.int .i64 0, .int .i64 a0, .bool true, .slice A1 l1.length c1] rfl (by (try simp only [List.map_toArray, List.map_cons, List.map_nil]); first | done | rfl | (simp only [List.length_drop, List.length_take]; rfl)) ?_; (with_reducible refine (der_Put.calls k 0 a0 true _ _ l1 t307 t308 _ ?side1 ?side2 A3.out).mono ?_); (case side1 => exact Kd.C_u HR1.out); (case side2 => exact HC1.out); rintro e w6 ⟨v309, rfl, ho0, hb⟩; refine ⟨_, rfl, ?_⟩; have n0_ := Aside0.mk (Kd.R_lower ho0 (below_size (bU HB.out))); have n1_ := Aside0.mk (below_step (bU HB.out) hb); clear HB; have HO310 := n0_; have HB := n1_; clear n0_ n1_; (try clear hb); (try clear hb2); (try clear hk); (try clear hi); (try clear ho0)))
    go_ret2
    exact ⟨_, _, by first | rfl | (simp [errW_none, errW_some] <;> rfl), (by first | exact EV.nil | exact EV.f30 | exact EV.f5 | exact EV.f4 | exact EV.f1 | exact EV.low (by assumption) | exact HEV_.out | exact EV.part HEV_.out), by first | exact Kd.R_nil _ _ _ _ _ | exact Kd.N_nil _ _ _ _ _ | exact Kd.V_nil _ _ _ _ _ | exact Kd.Q_nil _ _ _ _ _ | exact Kd.S_nil _ _ _ _ _, bU HB.out⟩
  rw [if_pos c4] at H
  have c4b0 : (t308 == 0) = true := beq_iff_eq.mpr c4
  have c4b1 : (t308 != 0) = false := bne_eq_false_iff_eq.mpr c4
  clear c4
  simp only [Option.some.injEq, Prod.mk.injEq] at H
  obtain ⟨rfl, rfl⟩ := H
  go_enter Tryz.func152, Tryz.ntmps152
  go_wp2_with (first | ((with_reducible refine gate_callee (f := 168) rfl ?_); refine goesL_ (some 11) rfl rfl Tryz.func168 (by kernel_rfl) rfl #[.int .i64 0, .int .i64 a0, .bool true, .slice A1 l1.length c1] rfl (by (try simp only [List.map_toArray, List.map_cons, List.map_nil]); first | done | rfl | (simp only [List.length_drop, List.length_take]; rfl)) ?_; (with_reducible refine (der_Put.calls k 0 a0 true _ _ l1 t307 t308 _ ?side1 ?side2 A3.out).mono ?_); (case side1 => exact Kd.C_u HR1.out); (case side2 => exact HC1.out); rintro e w5 ⟨v309, rfl, ho0, hb⟩; refine ⟨_, rfl, ?_⟩; have n0_ := Aside0.mk (Kd.R_lower ho0 (below_size (bU HB.out))); have n1_ := Aside0.mk (below_step (bU HB.out) hb); clear HB; have HO310 := n0_; have HB := n1_; clear n0_ n1_; (try clear hb); (try clear hb2); (try clear hk); (try clear hi); (try clear ho0)))
  go_ret2
  exact ⟨_, _, by first | rfl | (simp [errW_none, errW_some] <;> rfl), (by first | exact EV.nil | exact EV.f30 | exact EV.f5 | exact EV.f4 | exact EV.f1 | exact EV.low (by assumption) | exact HEV_.out | exact EV.part HEV_.out), by (with_reducible repeat (first | apply Kd.R_alloc | apply Kd.R_drewN | apply Kd.R_drew)); exact HO310.out, bU HB.out⟩
end Go.Proofs.YtkioddjjfifadaaGreatDoor.P
namespace Go.Proofs.YtkioddjjfifadaaGreatDoor.P
open Go.RowKit Go.Proofs.YtkioddjjfifadaaGreatDoorW.PrintWords Go.Proofs.YtkioddjjfifadaaGreatDoorW.PrintLast Go.Proofs.YtkioddjjfifadaaGreatDoorW.PrintMore
attribute [local go_sem] max2_int min2_int max_two min_two max_three min_three max_four min_four
set_option linter.unusedVariables false
set_option linter.unusedSimpArgs false
def name_lay.j0 : Nat → List Int → Bool → ByteArray → Int → List Int → Option (List Int × Int)
  | 0, _, _, _, _, _ => none
  | k + 1, x4, x26, x333000, x333001, x333002 => if x26 = true then (some (([] : List Int), 1)) else ((der_Put.f k 0 6 false (([x4] : List (List Int)))).bind fun bt340 => (if bt340.2 = 0 then ((der_Put.f k 0 x333001 false (([x333002] : List (List Int)))).bind fun bt347 => (if bt347.2 = 0 then ((name_about.f k 16 (([bt340.1, bt347.1] : List (List Int)))).bind fun bt354 => (some (bt354.1, bt354.2))) else (some (([] : List Int), bt347.2)))) else (some (([] : List Int), bt340.2))))
def name_lay.f (k : Nat) (a0_0 : ByteArray) (a0_1 : Int) (l0_2 : List Int) : Option (List Int × Int) := (der_PutOid.f k a0_0).bind fun bt333 => (if bt333.2 = 0 then (if a0_1 < 1 then (name_lay.j0 k bt333.1 true a0_0 a0_1 l0_2) else (name_lay.j0 k bt333.1 (decide (a0_1 > 268435455)) a0_0 a0_1 l0_2)) else (some (([] : List Int), bt333.2)))
end Go.Proofs.YtkioddjjfifadaaGreatDoor.P
namespace Go.Proofs.YtkioddjjfifadaaGreatDoor.P
open Go.RowKit Go.Proofs.YtkioddjjfifadaaGreatDoorW.PrintWords Go.Proofs.YtkioddjjfifadaaGreatDoorW.PrintLast Go.Proofs.YtkioddjjfifadaaGreatDoorW.PrintMore
attribute [local go_sem] max2_int min2_int max_two min_two max_three min_three max_four min_four
set_option linter.unusedVariables false
set_option linter.unusedSimpArgs false
mutual
def name_build.j0 : Nat → List (List (S64)) → Bool → Option (List Int × Int)
  | 0, _, _ => none
  | k + 1, x0, x20 => if x20 = true then (some (([] : List Int), 4)) else (name_build.l0 k ([] : List (List Int)) x0 (x0.length : Int) 0)
def name_build.l0 : Nat → List (List Int) → List (List (S64)) → Int → Int → Option (List Int × Int)
  | 0, _, _, _, _ => none
  | k + 1, x4, x22, x23, x24 => if x24 < x23 then (if 0 ≤ x24 then (if x24 < (x22.length : Int) then (if ((rd_L5 x22 x24).length : Int) = 0 then (some (([] : List Int), 5)) else (name_build.l1 k x4 ([] : List (List Int)) x22 x23 x24 (rd_L5 x22 x24) ((rd_L5 x22 x24).length : Int) 0)) else (none)) else (none)) else ((name_about.f k 16 x4).bind fun bt361 => (some (bt361.1, bt361.2)))
def name_build.l1 : Nat → List (List Int) → List (List Int) → List (List (S64)) → Int → Int → List (S64) → Int → Int → Option (List Int × Int)
  | 0, _, _, _, _, _, _, _, _ => none
  | k + 1, x4, x7, x22, x23, x24, x36, x37, x38 => if x38 < x37 then (if 0 ≤ x38 then (if x38 < (x36.length : Int) then ((name_lay.f k ((rd_T64 x36 x38).f0) ((rd_T64 x36 x38).f1) ((rd_T64 x36 x38).f2)).bind fun bt368 => (if bt368.2 = 0 then (if x7.length < 5864062014805 then (name_build.l1 k x4 (x7 ++ [bt368.1]) x22 x23 x24 x36 x37 (wrap64 (x38 + 1))) else (none)) else (some (([] : List Int), bt368.2)))) else (none)) else (none)) else ((slices_SortFunc.f x7).bind fun y7 => ((name_about.f k 17 y7).bind fun bt375 => (if bt375.2 = 0 then (if x4.length < 5864062014805 then (name_build.l0 k (x4 ++ [bt375.1]) x22 x23 (wrap64 (x24 + 1))) else (none)) else (some (([] : List Int), bt375.2)))))
end
def name_build.f (k : Nat) (l0 : List (List (S64))) : Option (List Int × Int) := if (l0.length : Int) > 64 then (name_build.j0 k l0 true) else ((slices_ContainsFunc.f l0).bind fun t360 => (name_build.j0 k l0 t360))
end Go.Proofs.YtkioddjjfifadaaGreatDoor.P
set_option linter.unusedVariables false
namespace Go.Proofs.YtkioddjjfifadaaGreatDoor.P
open Go.RowKit Go.Proofs.YtkioddjjfifadaaGreatDoorW.PrintWords Go.Proofs.YtkioddjjfifadaaGreatDoorW.PrintLast Go.Proofs.YtkioddjjfifadaaGreatDoorW.PrintMore
def name_Build.f (k : Nat) (l0 : List (List (S64))) : Option (List Int × Int) := name_build.f k l0
end Go.Proofs.YtkioddjjfifadaaGreatDoor.P
namespace Go.Proofs.YtkioddjjfifadaaGreatDoor.P
open Go.RowKit Go.Proofs.YtkioddjjfifadaaGreatDoorW.PrintWords Go.Proofs.YtkioddjjfifadaaGreatDoorW.PrintLast Go.Proofs.YtkioddjjfifadaaGreatDoorW.PrintMore
attribute [local go_sem] max2_int min2_int max_two min_two max_three min_three max_four min_four
set_option linter.unusedVariables false
set_option linter.unusedSimpArgs false
def chirographref01_SameBytes.l0 : Nat → List Int → List Int → Int → Option (Bool)
  | 0, _, _, _ => none
  | k + 1, x0, x1, x5 => if x5 < (x0.length : Int) then (if 0 ≤ x5 then (if x5 < (x1.length : Int) then (if (rd x0 x5) = (rd x1 x5) then (chirographref01_SameBytes.l0 k x0 x1 (wrap64 (x5 + 1))) else (some false)) else (none)) else (none)) else (some true)
def chirographref01_SameBytes.f (k : Nat) (l0 : List Int) (l1 : List Int) : Option (Bool) := if (l0.length : Int) = (l1.length : Int) then (chirographref01_SameBytes.l0 k l0 l1 0) else (some false)
set_option maxHeartbeats 8000000 in
set_option maxRecDepth 100000 in
theorem chirographref01_SameBytes.calls (k : Nat) (A0 : Option Addr) (c0 : Nat) (l0 : List Int) (A1 : Option Addr) (c1 : Nat) (l1 : List Int) (r : Bool) (w : World) (hr0 : Kd.C (Kd.int .u8) w A0 l0.length l0) (hc0 : l0.length ≤ c0) (hr1 : Kd.C (Kd.int .u8) w A1 l1.length l1) (hc1 : l1.length ≤ c1) (h : chirographref01_SameBytes.f k l0 l1 = some r) :
    Calls Tryz.prog 31 #[.slice A0 l0.length c0, .slice A1 l1.length c1] w fun e w' => e = .returned (.bool r) ∧ Drawn0 w w' := by
  have HR0 := Aside0.mk hr0
  have HC0 := Aside0.mk hc0
  clear hr0 hc0
  have HR1 := Aside0.mk hr1
  have HC1 := Aside0.mk hc1
  clear hr1 hc1
  have H : (if (l0.length : Int) = (l1.length : Int) then (chirographref01_SameBytes.l0 k l0 l1 0) else (some false)) = some r := h
  clear h
  by_cases c3 : (l0.length : Int) = (l1.length : Int)
  rotate_left
  · rw [if_neg c3] at H
    have c3b0 : ((l0.length : Int) == (l1.length : Int)) = false := beq_eq_false_iff_ne.mpr c3
    have c3b1 : ((l0.length : Int) != (l1.length : Int)) = true := bne_iff_ne.mpr c3
    have c3b2 : (l0.length == l1.length) = false := by first | simpa using c3 | (simp at c3 ⊢; omega)
    obtain rfl := Option.some.inj H
    go_enter Tryz.func31, Tryz.ntmps31
    go_wp2
    repeat (go_quiet (fail); try go_wp2)
    go_ret
    exact ⟨by first | rfl | (simp; done) | (simp [*]; done), by repeat (first | exact Drawn0.refl _ | apply Drawn0.step)⟩
  rw [if_pos c3] at H
  have c3b0 : ((l0.length : Int) == (l1.length : Int)) = true := beq_iff_eq.mpr c3
  have c3b1 : ((l0.length : Int) != (l1.length : Int)) = false := bne_eq_false_iff_eq.mpr c3
  have c3b2 : (l0.length == l1.length) = true := by first | simpa using c3 | (simp at c3 ⊢; omega)
  clear c3
  have H' := Aside0.mk H
  clear H
  go_enter Tryz.func31, Tryz.ntmps31
  go_wp2
  repeat (go_quiet (fail); try go_wp2)
  go_loopg [5] k (fun kq v5 w' => ∃ (x5_1 : Int), v5 = .int .i64 x5_1 ∧ Aside0 (chirographref01_SameBytes.l0 kq l0 l1 x5_1 = some r) ∧ Aside0 (kq ≤ k) ∧ Drawn0 w w')
  case atStart => exact ⟨(0), (by first | rfl | (simp; done) | (simp [*]; done)), H', ⟨Nat.le_refl _⟩, by repeat (first | exact Drawn0.refl _ | apply Drawn0.step)⟩
  case round =>
    clear H'
    try clear c1
    try clear p2
    try clear c3
    try clear c3b0
    try clear c3b1
    try clear c3b2
    obtain ⟨x5_1, rfl, HA, HK1, ⟨m1, rfl⟩⟩ := hrel
    cases gk with
    | zero => exact absurd HA.out (by simp [chirographref01_SameBytes.l0])
    | succ k1 =>
      have H := HA.out
      clear HA
      simp only [chirographref01_SameBytes.l0] at H
      by_cases c4 : x5_1 < (l0.length : Int)
      rotate_left
      · rw [if_neg c4] at H
        have c4b0 : decide (x5_1 < (l0.length : Int)) = false := decide_eq_false c4
        clear c4
        obtain rfl := Option.some.inj H
        go_wp2
        repeat (go_quiet (fail); try go_wp2)
        go_ret
        exact ⟨by first | rfl | (simp; done) | (simp [*]; done), by repeat (first | exact Drawn0.refl _ | apply Drawn0.step)⟩
      rw [if_pos c4] at H
      have c4b0 : decide (x5_1 < (l0.length : Int)) = true := decide_eq_true c4
      clear c4
      by_cases c5 : 0 ≤ x5_1
      rotate_left
      · rw [if_neg c5] at H
        exact absurd H (by simp)
      rw [if_pos c5] at H
      have c5b0 : decide (0 ≤ x5_1) = true := decide_eq_true c5
      clear c5
      by_cases c6 : x5_1 < (l1.length : Int)
      rotate_left
      · rw [if_neg c6] at H
        exact absurd H (by simp)
      rw [if_pos c6] at H
      have c6b0 : decide (x5_1 < (l1.length : Int)) = true := decide_eq_true c6
      clear c6
      by_cases c7 : (rd l0 x5_1) = (rd l1 x5_1)
      rotate_left
      · rw [if_neg c7] at H
        have c7b0 : ((rd l0 x5_1) == (rd l1 x5_1)) = false := beq_eq_false_iff_ne.mpr c7
        have c7b1 : ((rd l0 x5_1) != (rd l1 x5_1)) = true := bne_iff_ne.mpr c7
        obtain rfl := Option.some.inj H
        have p413 : 0 ≤ (x5_1 : Int) := of_decide_eq_true (by first | (with_reducible assumption) | assumption)
        have q413 : x5_1 < (l0.length : Int) := of_decide_eq_true (by first | (with_reducible assumption) | assumption)
        obtain ⟨ad413, e413, hx413_0⟩ := Kd.at_int HR0.out x5_1 p413 q413
        cases e413
        replace p413 := eq_true p413
        replace q413 := eq_true q413
        have p414 : 0 ≤ (x5_1 : Int) := of_decide_eq_true (by first | (with_reducible assumption) | assumption)
        have q414 : x5_1 < (l1.length : Int) := of_decide_eq_true (by first | (with_reducible assumption) | assumption)
        obtain ⟨ad414, e414, hx414_0⟩ := Kd.at_int HR1.out x5_1 p414 q414
        cases e414
        replace p414 := eq_true p414
        replace q414 := eq_true q414
        go_wp2
        repeat (go_quiet (fail); try go_wp2)
        go_ret
        exact ⟨by first | rfl | (simp; done) | (simp [*]; done), by repeat (first | exact Drawn0.refl _ | apply Drawn0.step)⟩
      rw [if_pos c7] at H
      have c7b0 : ((rd l0 x5_1) == (rd l1 x5_1)) = true := beq_iff_eq.mpr c7
      have c7b1 : ((rd l0 x5_1) != (rd l1 x5_1)) = false := bne_eq_false_iff_eq.mpr c7
      clear c7
      have H' := Aside0.mk H
      clear H
      have p413 : 0 ≤ (x5_1 : Int) := of_decide_eq_true (by first | (with_reducible assumption) | assumption)
      have q413 : x5_1 < (l0.length : Int) := of_decide_eq_true (by first | (with_reducible assumption) | assumption)
      obtain ⟨ad413, e413, hx413_0⟩ := Kd.at_int HR0.out x5_1 p413 q413
      cases e413
      replace p413 := eq_true p413
      replace q413 := eq_true q413
      have p414 : 0 ≤ (x5_1 : Int) := of_decide_eq_true (by first | (with_reducible assumption) | assumption)
      have q414 : x5_1 < (l1.length : Int) := of_decide_eq_true (by first | (with_reducible assumption) | assumption)
      obtain ⟨ad414, e414, hx414_0⟩ := Kd.at_int HR1.out x5_1 p414 q414
      cases e414
      replace p414 := eq_true p414
      replace q414 := eq_true q414
      go_wp2
      repeat (go_quiet (fail); try go_wp2)
      go_roundg k1
      case measure => have := HK1.out; omega
      case rel => exact ⟨(wrap64 (x5_1 + 1)), (by first | rfl | (simp; done) | (simp [*]; done)), H', ⟨by have := HK1.out; omega⟩, by repeat (first | exact Drawn0.refl _ | apply Drawn0.step)⟩
end Go.Proofs.YtkioddjjfifadaaGreatDoor.P
namespace Go.Proofs.YtkioddjjfifadaaGreatDoor.P
open Go.RowKit Go.Proofs.YtkioddjjfifadaaGreatDoorW.PrintWords
theorem drop_64 (l : List S64) (i : Int) (h0 : 0 ≤ i) (h1 : i < (l.length : Int)) : l.drop i.toNat = rd_T64 l i :: l.drop (i + 1).toNat := by
  have e : (i + 1).toNat = i.toNat + 1 := by omega
  rw [e, List.drop_eq_getElem_cons (by omega)]
  congr 1
  unfold rd_T64
  rw [List.getD_eq_getElem?_getD, List.getElem?_eq_getElem (by omega), Option.getD_some]
theorem drop_L5 (l : List (List S64)) (i : Int) (h0 : 0 ≤ i) (h1 : i < (l.length : Int)) : l.drop i.toNat = rd_L5 l i :: l.drop (i + 1).toNat := by
  have e : (i + 1).toNat = i.toNat + 1 := by omega
  rw [e, List.drop_eq_getElem_cons (by omega)]
  congr 1
  unfold rd_L5
  rw [List.getD_eq_getElem?_getD, List.getElem?_eq_getElem (by omega), Option.getD_some]
theorem mem_64 (l : List S64) (i : Int) (h0 : 0 ≤ i) (h1 : i < (l.length : Int)) : rd_T64 l i ∈ l := List.mem_of_mem_drop (drop_64 l i h0 h1 ▸ List.mem_cons_self)
theorem mem_L5 (l : List (List S64)) (i : Int) (h0 : 0 ≤ i) (h1 : i < (l.length : Int)) : rd_L5 l i ∈ l := List.mem_of_mem_drop (drop_L5 l i h0 h1 ▸ List.mem_cons_self)
end Go.Proofs.YtkioddjjfifadaaGreatDoor.P
set_option linter.unusedVariables false
namespace Go.Proofs.YtkioddjjfifadaaGreatDoor.P
open Go.RowKit Go.Proofs.YtkioddjjfifadaaGreatDoorW.PrintWords Go.Proofs.YtkioddjjfifadaaGreatDoorW.PrintLast Go.Proofs.YtkioddjjfifadaaGreatDoorW.PrintMore
def ref_lay.f (k : Nat) (a0 : ByteArray) (a1 : Int) (l2 : List Int) : Option (List Int × Int) :=
  (chirographref04_PutOid.f k a0).bind fun o => if o.2 = 0 then (if a1 < 1 then some ([], 1) else if a1 > 268435455 then some ([], 1) else
    (chirographref04_Put.f k 0 6 false [o.1]).bind fun p => if p.2 = 0 then ((chirographref04_Put.f k 0 a1 false [l2]).bind fun q => if q.2 = 0 then ((chirographref04_Put.f k 0 16 true [p.1, q.1]).bind fun r => if r.2 = 0 then some r else some ([], r.2)) else some ([], q.2)) else some ([], p.2)) else some ([], o.2)
end Go.Proofs.YtkioddjjfifadaaGreatDoor.P
namespace Go.Proofs.YtkioddjjfifadaaGreatDoor.P
open Go.RowKit Go.Proofs.YtkioddjjfifadaaGreatDoorW.PrintWords Go.Proofs.YtkioddjjfifadaaGreatDoorW.PrintLast Go.Proofs.YtkioddjjfifadaaGreatDoorW.PrintMore
theorem C_row1 {α : Type} (d : Kd α) {w : World} {g : Nat} {x : α} {cs more : List Value} {t : TypeId} {fr : Nat × Nat} (hK : d.K w x cs) (hg : w.heap[g]? = some (.cells (cs ++ more).toArray t fr)) : d.C w (some ⟨g, 0, none⟩) 1 [x] := by
  refine ⟨rfl, by decide, fun _ => ⟨_, rfl, fun j y hj => ?_⟩⟩
  cases j with
  | zero =>
    obtain rfl : x = y := by simpa using hj
    refine ⟨cs, d.K_len hK, hK, fun i u hu => ?_⟩
    rw [Nat.zero_mul, Nat.zero_add, add_plain, cell_of_row w g i _ t fr hg]
    have hi := (List.getElem?_eq_some_iff.1 hu).1
    rw [List.getElem?_toArray, List.getElem?_append_left hi, hu]
  | succ j => simp at hj
theorem arr_app (a b : Array Value) : a ++ b = (a.toList ++ b.toList).toArray := by simp
theorem at_alloc (A : World) (o : Obj) (n : Nat) (hs : A.heap.size = n) : (A.alloc o).drew.heap[n]? = some o := by
  subst hs
  show (A.heap.push o)[A.heap.size]? = _
  simp
theorem new_alloc (A : World) (o : Obj) : (A.alloc o).heap[A.heap.size]? = some o := by
  show (A.heap.push o)[A.heap.size]? = _
  simp
abbrev kB : Kd (List Int) := Kd.slice 5 (Kd.int .u8)
theorem kB_mk {w : World} {A : Option Addr} {c : Nat} {l : List Int} (hl : l.length ≤ c) (h : Kd.C (Kd.int .u8) w A l.length l) : kB.K w l [.slice A l.length c] := ⟨A, c, rfl, hl, h⟩
theorem C_row2 {α : Type} (d : Kd α) (h1 : d.sz = 1) {w : World} {g : Nat} {x y : α} {u v : Value} {t : TypeId} {fr : Nat × Nat} (hK : d.K w x [u]) (hL : d.K w y [v]) (hg : w.heap[g]? = some (.cells #[u, v] t fr)) : d.C w (some ⟨g, 0, none⟩) 2 [x, y] := by
  refine ⟨rfl, by decide, fun _ => ⟨_, rfl, fun j z hj => ?_⟩⟩
  match j, hj with
  | 0, hj =>
    obtain rfl : x = z := by simpa using hj
    refine ⟨[u], d.K_len hK, hK, fun i a ha => ?_⟩
    rw [h1, add_plain, cell_of_row w g _ _ t fr hg]
    match i, ha with
    | 0, ha => exact ha
    | i + 1, ha => simp at ha
  | 1, hj =>
    obtain rfl : y = z := by simpa using hj
    refine ⟨[v], d.K_len hL, hL, fun i a ha => ?_⟩
    rw [h1, add_plain, cell_of_row w g _ _ t fr hg]
    match i, ha with
    | 0, ha => exact ha
    | i + 1, ha => simp at ha
  | j + 2, hj => simp at hj
end Go.Proofs.YtkioddjjfifadaaGreatDoor.P
namespace Go.Proofs.YtkioddjjfifadaaGreatDoor.P
open Go.RowKit Go.Proofs.YtkioddjjfifadaaGreatDoorW.PrintWords Go.Proofs.YtkioddjjfifadaaGreatDoorW.PrintLast Go.Proofs.YtkioddjjfifadaaGreatDoorW.PrintMore
attribute [local go_sem] max2_int min2_int max_two min_two max_three min_three max_four min_four
set_option linter.unusedVariables false
set_option linter.unusedSimpArgs false
mutual
def chirographref07_Build.l0 : Nat → List (List (S64)) → Int → Option (List Int × Int)
  | 0, _, _ => none
  | k + 1, x0, x4 => if x4 < (x0.length : Int) then (if 0 ≤ x4 then (if ((rd_L5 x0 x4).length : Int) > 64 then (some (([] : List Int), 4)) else (chirographref07_Build.l0 k x0 (wrap64 (x4 + 1)))) else (none)) else (chirographref07_Build.l1 k x0 ([] : List (List Int)) 0)
def chirographref07_Build.l1 : Nat → List (List (S64)) → List (List Int) → Int → Option (List Int × Int)
  | 0, _, _, _ => none
  | k + 1, x0, x5, x6 => if x6 < (x0.length : Int) then (if 0 ≤ x6 then (if ((rd_L5 x0 x6).length : Int) = 0 then (some (([] : List Int), 5)) else (chirographref07_Build.l2 k x0 x5 x6 ([] : List (List Int)) 0)) else (none)) else ((chirographref04_Put.f k 0 16 true x5).bind fun bt628 => (some (bt628.1, bt628.2)))
def chirographref07_Build.l2 : Nat → List (List (S64)) → List (List Int) → Int → List (List Int) → Int → Option (List Int × Int)
  | 0, _, _, _, _, _ => none
  | k + 1, x0, x5, x6, x7, x8 => if 0 ≤ x6 then (if x6 < (x0.length : Int) then (if x8 < ((rd_L5 x0 x6).length : Int) then (if 0 ≤ x8 then ((ref_lay.f k ((rd_T64 (rd_L5 x0 x6) x8).f0) ((rd_T64 (rd_L5 x0 x6) x8).f1) ((rd_T64 (rd_L5 x0 x6) x8).f2)).bind fun bt636 => (if bt636.2 = 0 then (if x7.length < 5864062014805 then (chirographref07_Build.l2 k x0 x5 x6 (x7 ++ [bt636.1]) (wrap64 (x8 + 1))) else (none)) else (some (([] : List Int), bt636.2)))) else (none)) else ((chirographref07_sorted.f x7).bind fun t643 => ((chirographref04_Put.f k 0 17 true t643).bind fun bt646 => (if bt646.2 = 0 then (if x5.length < 5864062014805 then (chirographref07_Build.l1 k x0 (x5 ++ [bt646.1]) (wrap64 (x6 + 1))) else (none)) else (some (([] : List Int), bt646.2)))))) else (none)) else (none)
end
def chirographref07_Build.f (k : Nat) (l0 : List (List (S64))) : Option (List Int × Int) := if (l0.length : Int) > 64 then (some (([] : List Int), 4)) else (chirographref07_Build.l0 k l0 0)
end Go.Proofs.YtkioddjjfifadaaGreatDoor.P
namespace Go.Proofs.YtkioddjjfifadaaGreatDoor.P
open Go.RowKit Go.Proofs.YtkioddjjfifadaaGreatDoorW.PrintWords
theorem cp_l1 (n : List (List S64)) (hn : n.length ≤ 200) (i : Int) (h0i : 0 ≤ i) (hi : i < (n.length : Int)) (x3 : List (List S64)) (hx : x3.length ≤ 200) (hs : (rd_L5 n i).length ≤ 200) (hg : ∀ p ∈ rd_L5 n i, p.f2.length ≤ 8192) (r : List (List S64)) (K : Nat)
    (hr : ∀ k', K ≤ k' → chirographref07_Copy.l0 k' n (x3 ++ [rd_L5 n i]) (i + 1) = some r) : ∀ (m k : Nat) (j : Int) (acc : List S64), 0 ≤ j → ((rd_L5 n i).length : Int) - j = m → m + 1 + K ≤ k → (acc.length : Int) ≤ j → acc ++ (rd_L5 n i).drop j.toNat = rd_L5 n i →
    chirographref07_Copy.l1 k n x3 i acc j = some r
  | 0, k, j, acc, h0, hm, hk, ha, he => by
    obtain ⟨k1, rfl⟩ : ∃ k1, k = k1 + 1 := ⟨k - 1, by omega⟩
    rw [List.drop_eq_nil_of_le (by omega), List.append_nil] at he
    rw [chirographref07_Copy.l1, if_pos h0i, if_pos hi, if_neg (by omega), if_pos (by omega), wb (by omega) (by omega), he]
    exact hr k1 (by omega)
  | m + 1, k, j, acc, h0, hm, hk, ha, he => by
    obtain ⟨k1, rfl⟩ : ∃ k1, k = k1 + 1 := ⟨k - 1, by omega⟩
    have h2 := hg _ (mem_64 (rd_L5 n i) j h0 (by omega))
    rw [drop_64 (rd_L5 n i) j h0 (by omega)] at he
    rw [chirographref07_Copy.l1, if_pos h0i, if_pos hi, if_pos (by omega), if_pos h0, Option.bind_some, if_pos (by simp only [List.length_nil]; omega), if_pos (by omega), wb (by omega) (by omega), List.nil_append]
    exact cp_l1 n hn i h0i hi x3 hx hs hg r K hr m k1 (j + 1) _ (by omega) (by omega) (by omega) (by rw [List.length_append]; simp only [List.length_cons, List.length_nil]; omega) (by rw [List.append_assoc]; exact he)
theorem cp_l0 (n : List (List S64)) (hn : n.length ≤ 200) (hg : ∀ s ∈ n, s.length ≤ 200 ∧ ∀ p ∈ s, p.f2.length ≤ 8192) : ∀ (m k : Nat) (i : Int) (acc : List (List S64)), 0 ≤ i → (n.length : Int) - i = m → 205 * m + 1 ≤ k → (acc.length : Int) ≤ i → acc ++ n.drop i.toNat = n → chirographref07_Copy.l0 k n acc i = some n
  | 0, k, i, acc, h0, hm, hk, ha, he => by
    obtain ⟨k1, rfl⟩ : ∃ k1, k = k1 + 1 := ⟨k - 1, by omega⟩
    rw [List.drop_eq_nil_of_le (by omega), List.append_nil] at he
    rw [chirographref07_Copy.l0, if_neg (by omega), he]
  | m + 1, k, i, acc, h0, hm, hk, ha, he => by
    obtain ⟨k1, rfl⟩ : ∃ k1, k = k1 + 1 := ⟨k - 1, by omega⟩
    obtain ⟨s0, s1⟩ := hg _ (mem_L5 n i h0 (by omega))
    rw [drop_L5 n i h0 (by omega)] at he
    rw [chirographref07_Copy.l0, if_pos (by omega)]
    exact cp_l1 n hn i h0 (by omega) acc (by omega) s0 s1 n (205 * m + 1) (fun k' hk' => cp_l0 n hn hg m k' (i + 1) _ (by omega) (by omega) hk' (by rw [List.length_append]; simp only [List.length_cons, List.length_nil]; omega) (by rw [List.append_assoc]; exact he)) (rd_L5 n i).length k1 0 [] (Int.le_refl _) (by omega) (by omega) (by simp) rfl
theorem copy_eq (k : Nat) (hk : 50000 ≤ k) (n : List (List S64)) (hn : n.length ≤ 200) (hg : ∀ s ∈ n, s.length ≤ 200 ∧ ∀ p ∈ s, p.f2.length ≤ 8192) : chirographref07_Copy.f k n = some n :=
  cp_l0 n hn hg n.length k 0 [] (Int.le_refl _) (by omega) (by omega) (by simp) rfl
end Go.Proofs.YtkioddjjfifadaaGreatDoor.P
namespace Go.Proofs.YtkioddjjfifadaaGreatDoor.P
open Go.RowKit Go.Proofs.YtkioddjjfifadaaGreatDoorW.PrintWords Go.Proofs.YtkioddjjfifadaaGreatDoorW.PrintLast Go.Proofs.YtkioddjjfifadaaGreatDoorW.PrintMore
def Small (p : S64) : Prop := p.f0.size ≤ 2000 ∧ p.f2.length ≤ 2000
theorem drop_at' {α : Type} (l : List α) (d : α) (i : Int) (h0 : 0 ≤ i) (h1 : i < (l.length : Int)) : l.drop i.toNat = l.getD i.toNat d :: l.drop (i + 1).toNat := by
  have hi : i.toNat < l.length := by omega
  rw [show (i + 1).toNat = i.toNat + 1 by omega, List.drop_eq_getElem_cons hi]
  simp [List.getD, List.getElem?_eq_getElem hi]
theorem huge_loop (n : List (List S64)) (hn : n.length ≤ 200) (hb : ∀ s ∈ n, ∀ p ∈ s, p.f0.size ≤ 4611686018427387904 ∧ p.f2.length ≤ 4611686018427387904) : ∀ (k : Nat),
    (∀ (s i : Int), 0 ≤ i → 0 ≤ s → s ≤ 2000 → ((n.length : Int) - i) * 203 + 1 < k → 0 < k → ∃ b, chirographref07_Huge.l0 k n 2000 s i = some b ∧ (b = false → ∀ t ∈ n.drop i.toNat, t.length ≤ 200 ∧ ∀ p ∈ t, Small p)) ∧
    (∀ (s i j : Int), 0 ≤ i → i < (n.length : Int) → 0 ≤ j → 0 ≤ s → s ≤ 2000 → (rd_L5 n i).length ≤ 200 → ((n.length : Int) - i - 1) * 203 + (((rd_L5 n i).length : Int) - j) + 2 < k → j ≤ ((rd_L5 n i).length : Int) → 0 < k →
      ∃ b, chirographref07_Huge.l1 k n 2000 s i j = some b ∧ (b = false → (∀ p ∈ (rd_L5 n i).drop j.toNat, Small p) ∧ ∀ t ∈ n.drop (i + 1).toNat, t.length ≤ 200 ∧ ∀ p ∈ t, Small p))
  | 0 => ⟨fun s i _ _ _ _ h => absurd h (Nat.lt_irrefl 0), fun s i j _ _ _ _ _ _ _ _ h => absurd h (Nat.lt_irrefl 0)⟩
  | k + 1 => by
    obtain ⟨ih0, ih1⟩ := huge_loop n hn hb k
    refine ⟨fun s i h0 hs0 hs1 hk _ => ?_, fun s i j h0 hi hj hs0 hs1 hlen hk hjl _ => ?_⟩
    · rw [chirographref07_Huge.l0]
      by_cases hi : i < (n.length : Int)
      · rw [if_pos hi, if_pos h0]
        by_cases hl : ((rd_L5 n i).length : Int) > 200
        · rw [if_pos hl]
          exact ⟨true, rfl, fun h => by cases h⟩
        · rw [if_neg hl]
          obtain ⟨b, h1, h2⟩ := ih1 s i 0 h0 hi (by omega) hs0 hs1 (by omega) (by omega) (by omega) (by omega)
          refine ⟨b, h1, fun hbf => ?_⟩
          obtain ⟨h3, h4⟩ := h2 hbf
          rw [drop_at' n [] i h0 hi]
          intro t ht
          rcases List.mem_cons.1 ht with rfl | ht
          · exact ⟨by have : (rd_L5 n i).length ≤ 200 := by omega
                      exact this, by rw [show (0 : Int).toNat = 0 from rfl, List.drop_zero] at h3; exact h3⟩
          · exact h4 t ht
      · rw [if_neg hi]
        refine ⟨false, rfl, fun _ => ?_⟩
        rw [List.drop_eq_nil_of_le (by omega)]
        intro t ht
        cases ht
    · rw [chirographref07_Huge.l1, if_pos h0, if_pos hi]
      by_cases hj1 : j < ((rd_L5 n i).length : Int)
      · rw [if_pos hj1, if_pos hj]
        have hm1 : rd_L5 n i ∈ n := getD_mem n [] i h0 hi
        have hm2 : rd_T64 (rd_L5 n i) j ∈ rd_L5 n i := getD_mem (rd_L5 n i) z64 j hj hj1
        obtain ⟨b1, b2⟩ := hb _ hm1 _ hm2
        have hd := drop_at' (rd_L5 n i) z64 j hj hj1
        have hrd : (rd_L5 n i).getD j.toNat z64 = rd_T64 (rd_L5 n i) j := rfl
        rw [hrd] at hd
        generalize rd_T64 (rd_L5 n i) j = p at *
        have w1 : wrap64 (2000 - s) = 2000 - s := by unfold wrap64; omega
        rw [w1]
        by_cases ha : (p.f2.length : Int) > 2000 - s
        · rw [if_pos ha]
          exact ⟨true, rfl, fun h => by cases h⟩
        · rw [if_neg ha]
          have w2 : wrap64 (s + (p.f2.length : Int)) = s + (p.f2.length : Int) := by unfold wrap64; omega
          rw [w2]
          have w3 : wrap64 (2000 - (s + (p.f2.length : Int))) = 2000 - (s + (p.f2.length : Int)) := by unfold wrap64; omega
          rw [w3]
          by_cases hc : (p.f0.size : Int) > 2000 - (s + (p.f2.length : Int))
          · rw [if_pos hc]
            exact ⟨true, rfl, fun h => by cases h⟩
          · rw [if_neg hc]
            have w4 : wrap64 (s + (p.f2.length : Int) + (p.f0.size : Int)) = s + (p.f2.length : Int) + (p.f0.size : Int) := by unfold wrap64; omega
            have w5 : wrap64 (j + 1) = j + 1 := by unfold wrap64; omega
            rw [w4, w5]
            obtain ⟨b, h1, h2⟩ := ih1 (s + (p.f2.length : Int) + (p.f0.size : Int)) i (j + 1) h0 hi (by omega) (by omega) (by omega) hlen (by omega) (by omega) (by omega)
            refine ⟨b, h1, fun hbf => ?_⟩
            obtain ⟨h3, h4⟩ := h2 hbf
            refine ⟨?_, h4⟩
            rw [hd]
            intro q hq
            rcases List.mem_cons.1 hq with rfl | hq
            · exact ⟨by omega, by omega⟩
            · exact h3 q hq
      · rw [if_neg hj1]
        have w5 : wrap64 (i + 1) = i + 1 := by unfold wrap64; omega
        rw [w5]
        obtain ⟨b, h1, h2⟩ := ih0 s (i + 1) (by omega) hs0 hs1 (by omega) (by omega)
        refine ⟨b, h1, fun hbf => ⟨?_, h2 hbf⟩⟩
        rw [List.drop_eq_nil_of_le (by omega)]
        intro q hq
        cases hq
theorem huge_total (k : Nat) (hk : 50000 < k) (n : List (List S64)) (hb : ∀ s ∈ n, ∀ p ∈ s, p.f0.size ≤ 4611686018427387904 ∧ p.f2.length ≤ 4611686018427387904) : ∃ b, chirographref07_Huge.f k n 2000 = some b ∧ (b = false → n.length ≤ 200 ∧ ∀ s ∈ n, s.length ≤ 200 ∧ ∀ p ∈ s, Small p) := by
  unfold chirographref07_Huge.f
  by_cases h : (n.length : Int) > 200
  · rw [if_pos h]
    exact ⟨true, rfl, fun h => by cases h⟩
  rw [if_neg h]
  obtain ⟨b, h1, h2⟩ := (huge_loop n (by omega) hb k).1 0 0 (by omega) (by omega) (by omega) (by omega) (by omega)
  exact ⟨b, h1, fun hbf => ⟨by omega, by simpa using h2 hbf⟩⟩
def PartOk (p : S64) : Prop := p.f0.size ≤ 4611686018427387904 ∧ p.f2.length ≤ 4611686018427387904 ∧ p.f2.all isByte = true ∧ -9223372036854775808 ≤ p.f1 ∧ p.f1 ≤ 9223372036854775807
end Go.Proofs.YtkioddjjfifadaaGreatDoor.P
namespace Go.Proofs.YtkioddjjfifadaaGreatDoor.P
open Go.RowKit Go.Proofs.YtkioddjjfifadaaGreatDoorW.PrintWords Go.Proofs.YtkioddjjfifadaaGreatDoorW.PrintLast Go.Proofs.YtkioddjjfifadaaGreatDoorW.PrintMore
def p07 : S64 := ⟨⟨#[50, 46, 53, 46, 52, 46, 54]⟩, 19, [68, 69]⟩
def n07 : List (List S64) := [[p07]]
theorem n07_open {w : World} {A : Option Addr} (h : Kd.C (Kd.slice 64 k64) w A 1 n07) : ∃ ad bd B b X x, A = some ad ∧ B = some bd ∧ w.cell? ad = some (.slice B 1 b) ∧ w.cell? bd = some (.string p07.f0) ∧ w.cell? ⟨bd.block, bd.off + 1, none⟩ = some (.int .i64 19) ∧ w.cell? ⟨bd.block, bd.off + 2, none⟩ = some (.slice X 2 x) ∧ 1 ≤ b ∧ Kd.C k64 w B 1 [p07] ∧ 2 ≤ x ∧ Kd.C (Kd.int .u8) w X 2 [68, 69] := by
  obtain ⟨ad, B, b, rfl, h0, lb, hB⟩ := at_L5 h 0 (Int.le_refl _) (by decide)
  rw [show (0 : Int).toNat = 0 from rfl, Addr.add_zero'] at h0
  obtain ⟨bd, X, x, e, g0, g1, g2, lx, hX⟩ := at_T64 hB 0 (Int.le_refl _) (by decide)
  rw [show (0 : Int).toNat * 3 = 0 from rfl, Addr.add_zero'] at g0 g1 g2
  exact ⟨ad, bd, B, b, X, x, rfl, e, h0, g0, g1, g2, lb, hB, lx, hX⟩
def e77 : S77 := ⟨0, 16, true, [6, 3, 85, 4, 6, 19, 2, 68, 69], [48, 9, 6, 3, 85, 4, 6, 19, 2, 68, 69]⟩
def b07 : List Int := 48 :: 13 :: 49 :: 11 :: e77.f4
theorem C_put {w : World} {A : Option Addr} {n : Nat} {l : List Int} {g i : Nat} {v : Value} (h : Kd.C (Kd.int .u8) w A n l) (hne : ∀ a, A = some a → a.block ≠ g) : Kd.C (Kd.int .u8) (w.setCell ⟨g, i, none⟩ v) A n l := by
  obtain ⟨h1, h2, h3⟩ := h
  refine ⟨h1, h2, fun hp => ?_⟩
  obtain ⟨ad, rfl, hc⟩ := h3 hp
  refine ⟨ad, rfl, fun j y hj => ?_⟩
  obtain ⟨c, hl, hK, hu⟩ := hc j y hj
  exact ⟨c, hl, hK, fun k u hk => (cell_far (p := ⟨g, i, none⟩) (by rw [add_block]; exact hne ad rfl) _).trans (hu k u hk)⟩
theorem ne_of_u8 {w : World} {A : Option Addr} {n : Nat} {l : List Int} {g : Nat} {cs : Array Value} {t : TypeId} {fr : Nat × Nat} (h : Kd.C (Kd.int .u8) w A n l) (hn : 0 < n) (hg : w.heap[g]? = some (.cells cs t fr)) (hcs : ∀ v ∈ cs.toList, ∀ z, v ≠ .int .u8 z) : ∀ a, A = some a → a.block ≠ g := fun a ha e => by
  obtain ⟨a', cs', he, hl, hK, hc⟩ := Kd.C_get h 0 0 (Int.le_refl _) (by omega)
  obtain rfl : a = a' := Option.some.inj (ha.symm.trans he)
  obtain ⟨z, hz⟩ : ∃ z, cs' = [.int .u8 z] := ⟨_, hK⟩
  subst hz
  have h1 := hc 0 _ rfl
  rw [show (0 : Int).toNat * (Kd.int .u8).sz + 0 = 0 from rfl, Addr.add_zero'] at h1
  have hs := World.cell?_spot h1
  cases a with
  | mk b o s =>
    simp only at hs e
    subst hs e
    rw [cell_of_row w b o _ _ _ hg] at h1
    obtain ⟨hi, hv⟩ := Array.getElem?_eq_some_iff.1 h1
    exact hcs _ (Array.mem_toList_iff.2 (hv ▸ Array.getElem_mem hi)) z rfl
end Go.Proofs.YtkioddjjfifadaaGreatDoor.P
namespace Go.Proofs.YtkioddjjfifadaaGreatDoor.P
open Go.RowKit Go.Proofs.YtkioddjjfifadaaGreatDoorW.PrintWords Go.Proofs.YtkioddjjfifadaaGreatDoorW.PrintLast Go.Proofs.YtkioddjjfifadaaGreatDoorW.PrintMore
attribute [local go_sem] max2_int min2_int max_two min_two max_three min_three max_four min_four
set_option linter.unusedVariables false
set_option linter.unusedSimpArgs false
def name_inside.j0 : Nat → Bool → Int → Int → Bool → List Int → List Int → Option ((List (S77)) × Int)
  | 0, _, _, _, _, _, _ => none
  | k + 1, x22, x162000, x162001, x162002, x162003, x162004 => if x22 = true then (some (([] : List (S77)), 30)) else ((der_Split.f k x162003).bind fun bt162 => (if bt162.2.1 = 0 then (some (bt162.1, 0)) else (some (([] : List (S77)), bt162.2.1))))
def name_inside.f (k : Nat) (a0_0 : Int) (a0_1 : Int) (a0_2 : Bool) (l0_3 : List Int) (l0_4 : List Int) (a1 : Int) : Option ((List (S77)) × Int) := if a0_0 = 0 then (if a0_1 = a1 then (name_inside.j0 k (!a0_2) a0_0 a0_1 a0_2 l0_3 l0_4) else (name_inside.j0 k true a0_0 a0_1 a0_2 l0_3 l0_4)) else (name_inside.j0 k true a0_0 a0_1 a0_2 l0_3 l0_4)
set_option maxHeartbeats 8000000 in
set_option maxRecDepth 100000 in
theorem name_inside.calls (k : Nat) (a0_0 : Int) (a0_1 : Int) (a0_2 : Bool) (A0_3 : Option Addr) (c0_3 : Nat) (l0_3 : List Int) (A0_4 : Option Addr) (c0_4 : Nat) (l0_4 : List Int) (a1 : Int) (r1 : List (S77)) (r2 : Int) (w : World) (hr0_3 : Kd.C (Kd.int .u8) w A0_3 l0_3.length l0_3) (hc0_3 : l0_3.length ≤ c0_3) (hr0_4 : Kd.C (Kd.int .u8) w A0_4 l0_4.length l0_4) (hc0_4 : l0_4.length ≤ c0_4) (h : name_inside.f k a0_0 a0_1 a0_2 l0_3 l0_4 a1 = some (r1, r2)) :
    Calls Tryz.prog 141 #[.agg #[.int .i64 a0_0, .int .i64 a0_1, .bool a0_2, .slice A0_3 l0_3.length c0_3, .slice A0_4 l0_4.length c0_4], .int .i64 a1] w fun e w' => ∃ v0_ ev_ : Value, e = .returned (.tuple #[v0_, ev_]) ∧ EV ev_ r2 ∧ Kd.S k77 77 w' w.heap.size (fun _ => True) v0_ r1 ∧ Below w.heap.size w w' := by
  have hu77 := Tryz.underlying77
  have HR0_3 := Aside0.mk hr0_3
  have HC0_3 := Aside0.mk hc0_3
  clear hr0_3 hc0_3
  have HR0_4 := Aside0.mk hr0_4
  have HC0_4 := Aside0.mk hc0_4
  clear hr0_4 hc0_4
  have HB := Aside0.mk (Below.refl w.heap.size w)
  have H : (if a0_0 = 0 then (if a0_1 = a1 then (name_inside.j0 k (!a0_2) a0_0 a0_1 a0_2 l0_3 l0_4) else (name_inside.j0 k true a0_0 a0_1 a0_2 l0_3 l0_4)) else (name_inside.j0 k true a0_0 a0_1 a0_2 l0_3 l0_4)) = some (r1, r2) := h
  clear h
  have HC3 := Aside0.mk H
  clear H
  go_enter Tryz.func141, Tryz.ntmps141
  go_upto_region 1 with (first | ((with_reducible refine gate_dst (N := 2) rfl ?_); refine box_event ?hg (N := 2) ?hd (cs := #[.int .i64 a0_0, .int .i64 a0_1, .bool a0_2, .slice A0_3 l0_3.length c0_3, .slice A0_4 l0_4.length c0_4]) (t := 77) ?hr ?_; (case hd => rfl); (case hg => rfl); (case hr => first | (go_simp; done) | (go_simp; rfl)); intro gb161 hg w4 hbox hb; have n0_ := Aside0.mk (below_step (bU HB.out) hb); have n1_ := Aside0.mk (hbox); have n2_ := Aside0.mk ((by rw [hg]; exact (below_size (bU HB.out)) : w.heap.size ≤ gb161)); have n3_ := Aside0.mk ((by rw [hg]; exact (below_size (bU HB.out)) : w.heap.size ≤ gb161)); replace HB := n0_; have BK161 := n1_; have GW161 := n2_; have GE161 := n3_; clear n0_ n1_ n2_ n3_; clear hb hbox hg))
  (try simp only [Act.put, List.setIfInBounds_toArray, List.set_cons_zero, List.set_cons_succ])
  go_cut [22] (fun v22 wc => ∃ (kq : Nat) (x22_2 : Bool), v22 = .bool x22_2 ∧ Aside0 (name_inside.j0 kq x22_2 a0_0 a0_1 a0_2 l0_3 l0_4 = some (r1, r2)) ∧ Aside0 (kq ≤ k) ∧ Aside0 (wc.heap[gb161]? = some (.cells #[.int .i64 a0_0, .int .i64 a0_1, .bool a0_2, (.slice A0_3 l0_3.length c0_3), (.slice A0_4 l0_4.length c0_4)] 77 (0, 0))) ∧ Aside0 (Below w.heap.size w wc))
  case first =>
    have H := HC3.out
    clear HC3
    by_cases c5 : a0_0 = 0
    rotate_left
    · rw [if_neg c5] at H
      have c5b0 : (a0_0 == 0) = false := beq_eq_false_iff_ne.mpr c5
      have c5b1 : (a0_0 != 0) = true := bne_iff_ne.mpr c5
      (first | rw [c5b0] | (simp only [i64_w, i32_w]; rw [c5b0]) | skip)
      have H' := Aside0.mk H
      clear H
      have hcz9_0 : w4.cell? ⟨gb161, 0, none⟩ = some (.int .i64 a0_0) := (blk_cell BK161.out 0).trans rfl
      have hcz9_1 : w4.cell? ⟨gb161, 1, none⟩ = some (.int .i64 a0_1) := (blk_cell BK161.out 1).trans rfl
      have hcz9_2 : w4.cell? ⟨gb161, 2, none⟩ = some (.bool a0_2) := (blk_cell BK161.out 2).trans rfl
      have hcz9_3 : w4.cell? ⟨gb161, 3, none⟩ = some (.slice A0_3 l0_3.length c0_3) := (blk_cell BK161.out 3).trans rfl
      have hcz9_4 : w4.cell? ⟨gb161, 4, none⟩ = some (.slice A0_4 l0_4.length c0_4) := (blk_cell BK161.out 4).trans rfl
      have hfz9_0 := blk_frozen BK161.out 0
      have hfz9_1 := blk_frozen BK161.out 1
      have hfz9_2 := blk_frozen BK161.out 2
      have hfz9_3 := blk_frozen BK161.out 3
      have hfz9_4 := blk_frozen BK161.out 4
      go_wp2
      go_meet
      case rel => exact ⟨_, (true), (by first | rfl | (simp; done) | (simp [*]; done)), H', ⟨by first | omega | exact Nat.le_refl _⟩, ⟨blk_u BK161.out⟩, ⟨by repeat (first | exact HB.out | apply below_alloc | apply pw_below_drewN | apply below_drew1 | refine below_set ?_ GE161.out)⟩⟩
    rw [if_pos c5] at H
    have c5b0 : (a0_0 == 0) = true := beq_iff_eq.mpr c5
    have c5b1 : (a0_0 != 0) = false := bne_eq_false_iff_eq.mpr c5
    clear c5
    (first | rw [c5b0] | (simp only [i64_w, i32_w]; rw [c5b0]) | skip)
    by_cases c6 : a0_1 = a1
    rotate_left
    · rw [if_neg c6] at H
      have c6b0 : (a0_1 == a1) = false := beq_eq_false_iff_ne.mpr c6
      have c6b1 : (a0_1 != a1) = true := bne_iff_ne.mpr c6
      have H' := Aside0.mk H
      clear H
      have hcz8_0 : w4.cell? ⟨gb161, 0, none⟩ = some (.int .i64 a0_0) := (blk_cell BK161.out 0).trans rfl
      have hcz8_1 : w4.cell? ⟨gb161, 1, none⟩ = some (.int .i64 a0_1) := (blk_cell BK161.out 1).trans rfl
      have hcz8_2 : w4.cell? ⟨gb161, 2, none⟩ = some (.bool a0_2) := (blk_cell BK161.out 2).trans rfl
      have hcz8_3 : w4.cell? ⟨gb161, 3, none⟩ = some (.slice A0_3 l0_3.length c0_3) := (blk_cell BK161.out 3).trans rfl
      have hcz8_4 : w4.cell? ⟨gb161, 4, none⟩ = some (.slice A0_4 l0_4.length c0_4) := (blk_cell BK161.out 4).trans rfl
      have hfz8_0 := blk_frozen BK161.out 0
      have hfz8_1 := blk_frozen BK161.out 1
      have hfz8_2 := blk_frozen BK161.out 2
      have hfz8_3 := blk_frozen BK161.out 3
      have hfz8_4 := blk_frozen BK161.out 4
      go_wp2
      go_meet
      case rel => exact ⟨_, (true), (by first | rfl | (simp; done) | (simp [*]; done)), H', ⟨by first | omega | exact Nat.le_refl _⟩, ⟨blk_u BK161.out⟩, ⟨by repeat (first | exact HB.out | apply below_alloc | apply pw_below_drewN | apply below_drew1 | refine below_set ?_ GE161.out)⟩⟩
    rw [if_pos c6] at H
    have c6b0 : (a0_1 == a1) = true := beq_iff_eq.mpr c6
    have c6b1 : (a0_1 != a1) = false := bne_eq_false_iff_eq.mpr c6
    clear c6
    have H' := Aside0.mk H
    clear H
    have hcz7_0 : w4.cell? ⟨gb161, 0, none⟩ = some (.int .i64 a0_0) := (blk_cell BK161.out 0).trans rfl
    have hcz7_1 : w4.cell? ⟨gb161, 1, none⟩ = some (.int .i64 a0_1) := (blk_cell BK161.out 1).trans rfl
    have hcz7_2 : w4.cell? ⟨gb161, 2, none⟩ = some (.bool a0_2) := (blk_cell BK161.out 2).trans rfl
    have hcz7_3 : w4.cell? ⟨gb161, 3, none⟩ = some (.slice A0_3 l0_3.length c0_3) := (blk_cell BK161.out 3).trans rfl
    have hcz7_4 : w4.cell? ⟨gb161, 4, none⟩ = some (.slice A0_4 l0_4.length c0_4) := (blk_cell BK161.out 4).trans rfl
    have hfz7_0 := blk_frozen BK161.out 0
    have hfz7_1 := blk_frozen BK161.out 1
    have hfz7_2 := blk_frozen BK161.out 2
    have hfz7_3 := blk_frozen BK161.out 3
    have hfz7_4 := blk_frozen BK161.out 4
    go_wp2
    go_meet
    case rel => exact ⟨_, (!a0_2), (by first | rfl | (simp; done) | (simp [*]; done)), H', ⟨by first | omega | exact Nat.le_refl _⟩, ⟨blk_u BK161.out⟩, ⟨by repeat (first | exact HB.out | apply below_alloc | apply pw_below_drewN | apply below_drew1 | refine below_set ?_ GE161.out)⟩⟩
  clear HC3
  try clear c1
  try clear p2
  try clear c5
  try clear c5b0
  try clear c5b1
  try clear c6
  try clear c6b0
  try clear c6b1
  try clear hcz7_0 hcz7_1 hcz7_2 hcz7_3 hcz7_4
  try clear hcz8_0 hcz8_1 hcz8_2 hcz8_3 hcz8_4
  try clear hcz9_0 hcz9_1 hcz9_2 hcz9_3 hcz9_4
  try clear hfz7_0 hfz7_1 hfz7_2 hfz7_3 hfz7_4
  try clear hfz8_0 hfz8_1 hfz8_2 hfz8_3 hfz8_4
  try clear hfz9_0 hfz9_1 hfz9_2 hfz9_3 hfz9_4
  obtain ⟨kq, x22_2, rfl, HA, HJ2, BK161, HB⟩ := hcut
  cases kq with
  | zero => exact absurd HA.out (by simp [name_inside.j0])
  | succ kj2 =>
    have H := HA.out
    clear HA
    simp only [name_inside.j0] at H
    by_cases c10 : x22_2 = true
    · subst c10
      have H1 : (some (([] : List (S77)), 30)) = some (r1, r2) := by rw [if_pos rfl] at H; exact H
      clear H
      have H := H1
      clear H1
      simp only [Option.some.injEq, Prod.mk.injEq] at H
      obtain ⟨rfl, rfl⟩ := H
      go_wp2
      go_ret2
      exact ⟨_, _, by first | rfl | (simp [errW_none, errW_some] <;> rfl), (by first | exact EV.nil | exact EV.f30 | exact EV.f5 | exact EV.f4 | exact EV.f1 | exact EV.low (by assumption) | exact HEV_.out | exact EV.part HEV_.out), by first | exact Kd.S_nil _ _ _ _ _ | exact Kd.N_nil _ _ _ _ _ | exact Kd.V_nil _ _ _ _ _ | exact Kd.Q_nil _ _ _ _ _ | exact Kd.R_nil _ _ _ _ _, by repeat (first | exact HB.out | apply below_alloc | apply pw_below_drewN | apply below_drew1 | refine below_set ?_ GE161.out)⟩
    replace c10 := Bool.eq_false_iff.mpr c10
    subst c10
    have H1 : ((der_Split.f kj2 l0_3).bind fun bt162 => (if bt162.2.1 = 0 then (some (bt162.1, 0)) else (some (([] : List (S77)), bt162.2.1)))) = some (r1, r2) := by rw [if_neg (show ¬ (false = true) by decide)] at H; exact H
    clear H
    have H := H1
    clear H1
    replace H := Option.bind_eq_some_iff.mp H
    obtain ⟨⟨t162, t163, t164⟩, A110, H⟩ := H
    try dsimp only at H
    have A11 := Aside0.mk A110
    clear A110
    by_cases c12 : t163 = 0
    rotate_left
    · rw [if_neg c12] at H
      have c12b0 : (t163 == 0) = false := beq_eq_false_iff_ne.mpr c12
      have c12b1 : (t163 != 0) = true := bne_iff_ne.mpr c12
      simp only [Option.some.injEq, Prod.mk.injEq] at H
      obtain ⟨rfl, rfl⟩ := H
      have hcz15_0 : wc.cell? ⟨gb161, 0, none⟩ = some (.int .i64 a0_0) := (blk_cell BK161.out 0).trans rfl
      have hcz15_1 : wc.cell? ⟨gb161, 1, none⟩ = some (.int .i64 a0_1) := (blk_cell BK161.out 1).trans rfl
      have hcz15_2 : wc.cell? ⟨gb161, 2, none⟩ = some (.bool a0_2) := (blk_cell BK161.out 2).trans rfl
      have hcz15_3 : wc.cell? ⟨gb161, 3, none⟩ = some (.slice A0_3 l0_3.length c0_3) := (blk_cell BK161.out 3).trans rfl
      have hcz15_4 : wc.cell? ⟨gb161, 4, none⟩ = some (.slice A0_4 l0_4.length c0_4) := (blk_cell BK161.out 4).trans rfl
      have hfz15_0 := blk_frozen BK161.out 0
      have hfz15_1 := blk_frozen BK161.out 1
      have hfz15_2 := blk_frozen BK161.out 2
      have hfz15_3 := blk_frozen BK161.out 3
      have hfz15_4 := blk_frozen BK161.out 4
      go_wp2_with (first | ((with_reducible refine gate_callee (f := 162) rfl ?_); refine goesL_ (some 27) rfl rfl Tryz.func162 (by kernel_rfl) rfl #[.slice A0_3 l0_3.length c0_3] rfl (by (try simp only [List.map_toArray, List.map_cons, List.map_nil]); first | done | rfl | (simp only [List.length_drop, List.length_take]; rfl)) ?_; (with_reducible refine (der_Split.calls kj2 _ _ l0_3 t162 t163 t164 _ ?side1 ?side2 A11.out).mono ?_); (case side1 => exact Kd.C_u (Kd.C_below HR0_3.out HB.out)); (case side2 => exact HC0_3.out); rintro e w16 ⟨v165, rfl, ho0, hb⟩; refine ⟨_, rfl, ?_⟩; have n0_ := Aside0.mk (Kd.S_lower (Kd.S_newB ho0 (blk_u BK161.out)) (below_size (by repeat (first | exact HB.out | apply below_alloc | apply pw_below_drewN | apply below_drew1 | refine below_set ?_ GE161.out)))); have n1_ := Aside0.mk (blk_below (blk_u BK161.out) hb); have n2_ := Aside0.mk (below_step (by repeat (first | exact HB.out | apply below_alloc | apply pw_below_drewN | apply below_drew1 | refine below_set ?_ GE161.out)) hb); clear BK161; clear HB; have HO166 := n0_; have BK161 := n1_; have HB := n2_; clear n0_ n1_ n2_; (try clear hb); (try clear hb2); (try clear hk); (try clear hi); (try clear ho0)))
      go_ret2
      exact ⟨_, _, by first | rfl | (simp [errW_none, errW_some] <;> rfl), (by first | exact EV.nil | exact EV.f30 | exact EV.f5 | exact EV.f4 | exact EV.f1 | exact EV.low (by assumption) | exact HEV_.out | exact EV.part HEV_.out), by first | exact Kd.S_nil _ _ _ _ _ | exact Kd.N_nil _ _ _ _ _ | exact Kd.V_nil _ _ _ _ _ | exact Kd.Q_nil _ _ _ _ _ | exact Kd.R_nil _ _ _ _ _, by repeat (first | exact HB.out | apply below_alloc | apply pw_below_drewN | apply below_drew1 | refine below_set ?_ GE161.out)⟩
    rw [if_pos c12] at H
    have c12b0 : (t163 == 0) = true := beq_iff_eq.mpr c12
    have c12b1 : (t163 != 0) = false := bne_eq_false_iff_eq.mpr c12
    clear c12
    simp only [Option.some.injEq, Prod.mk.injEq] at H
    obtain ⟨rfl, rfl⟩ := H
    have hcz13_0 : wc.cell? ⟨gb161, 0, none⟩ = some (.int .i64 a0_0) := (blk_cell BK161.out 0).trans rfl
    have hcz13_1 : wc.cell? ⟨gb161, 1, none⟩ = some (.int .i64 a0_1) := (blk_cell BK161.out 1).trans rfl
    have hcz13_2 : wc.cell? ⟨gb161, 2, none⟩ = some (.bool a0_2) := (blk_cell BK161.out 2).trans rfl
    have hcz13_3 : wc.cell? ⟨gb161, 3, none⟩ = some (.slice A0_3 l0_3.length c0_3) := (blk_cell BK161.out 3).trans rfl
    have hcz13_4 : wc.cell? ⟨gb161, 4, none⟩ = some (.slice A0_4 l0_4.length c0_4) := (blk_cell BK161.out 4).trans rfl
    have hfz13_0 := blk_frozen BK161.out 0
    have hfz13_1 := blk_frozen BK161.out 1
    have hfz13_2 := blk_frozen BK161.out 2
    have hfz13_3 := blk_frozen BK161.out 3
    have hfz13_4 := blk_frozen BK161.out 4
    go_wp2_with (first | ((with_reducible refine gate_callee (f := 162) rfl ?_); refine goesL_ (some 27) rfl rfl Tryz.func162 (by kernel_rfl) rfl #[.slice A0_3 l0_3.length c0_3] rfl (by (try simp only [List.map_toArray, List.map_cons, List.map_nil]); first | done | rfl | (simp only [List.length_drop, List.length_take]; rfl)) ?_; (with_reducible refine (der_Split.calls kj2 _ _ l0_3 t162 t163 t164 _ ?side1 ?side2 A11.out).mono ?_); (case side1 => exact Kd.C_u (Kd.C_below HR0_3.out HB.out)); (case side2 => exact HC0_3.out); rintro e w14 ⟨v165, rfl, ho0, hb⟩; refine ⟨_, rfl, ?_⟩; have n0_ := Aside0.mk (Kd.S_lower (Kd.S_newB ho0 (blk_u BK161.out)) (below_size (by repeat (first | exact HB.out | apply below_alloc | apply pw_below_drewN | apply below_drew1 | refine below_set ?_ GE161.out)))); have n1_ := Aside0.mk (blk_below (blk_u BK161.out) hb); have n2_ := Aside0.mk (below_step (by repeat (first | exact HB.out | apply below_alloc | apply pw_below_drewN | apply below_drew1 | refine below_set ?_ GE161.out)) hb); clear BK161; clear HB; have HO166 := n0_; have BK161 := n1_; have HB := n2_; clear n0_ n1_ n2_; (try clear hb); (try clear hb2); (try clear hk); (try clear hi); (try clear ho0)))
    go_ret2
    exact ⟨_, _, by first | rfl | (simp [errW_none, errW_some] <;> rfl), (by first | exact EV.nil | exact EV.f30 | exact EV.f5 | exact EV.f4 | exact EV.f1 | exact EV.low (by assumption) | exact HEV_.out | exact EV.part HEV_.out), by (with_reducible repeat (first | apply Kd.S_alloc | apply Kd.S_drewN | apply Kd.S_drew)); exact Kd.S_mono HO166.out (fun _ hk => trivial), by repeat (first | exact HB.out | apply below_alloc | apply pw_below_drewN | apply below_drew1 | refine below_set ?_ GE161.out)⟩
end Go.Proofs.YtkioddjjfifadaaGreatDoor.P
set_option linter.unusedVariables false
set_option linter.unusedSimpArgs false
namespace Go.Proofs.YtkioddjjfifadaaGreatDoor.P
open Go.RowKit Go.Proofs.YtkioddjjfifadaaGreatDoorW.PrintWords Go.Proofs.YtkioddjjfifadaaGreatDoorW.PrintLast Go.Proofs.YtkioddjjfifadaaGreatDoorW.PrintMore
theorem cells3 {w : World} {A : Option Addr} {a b c : Int} (h : Kd.C (Kd.int .u8) w A 3 [a, b, c]) : ∃ g o, A = some ⟨g, o, none⟩ ∧ w.cell? ⟨g, o, none⟩ = some (.int .u8 a) ∧ w.cell? ⟨g, o + 1, none⟩ = some (.int .u8 b) ∧ w.cell? ⟨g, o + 2, none⟩ = some (.int .u8 c) := by
  obtain ⟨ad, cs, rfl, hl, hK, hc⟩ := Kd.C_get h 0 0 (Int.le_refl _) (by decide)
  obtain ⟨ad', cs', e, hl', hK', hc'⟩ := Kd.C_get h 0 1 (by decide) (by decide)
  obtain rfl := Option.some.inj e
  obtain ⟨ad', cs'', e, hl'', hK'', hc''⟩ := Kd.C_get h 0 2 (by decide) (by decide)
  obtain rfl := Option.some.inj e
  have e0 : cs = [.int .u8 a] := hK
  have e1 : cs' = [.int .u8 b] := hK'
  have e2 : cs'' = [.int .u8 c] := hK''
  subst e0
  subst e1
  subst e2
  have h0 := hc 0 _ rfl
  have h1 := hc' 0 _ rfl
  have h2 := hc'' 0 _ rfl
  rw [show (0 : Int).toNat * (Kd.int .u8).sz + 0 = 0 from rfl, Addr.add_zero'] at h0
  have hs := World.cell?_spot h0
  cases ad with
  | mk b o s =>
    simp only at hs
    subst hs
    exact ⟨b, o, rfl, h0, h1, h2⟩
set_option maxHeartbeats 4000000 in
set_option maxRecDepth 100000 in
theorem oid_at (w : World) (A : Option Addr) (c : Nat) (hA : Kd.C (Kd.int .u8) w A 3 [85, 4, 6]) (hT : Tb w) :
    Calls Tryz.prog 163 #[.slice A 3 c] w fun e w' => e = .returned (.tuple #[.string p07.f0, .int .i64 0]) ∧ Below w.heap.size w w' := by
  obtain ⟨g, o, rfl, h0, h1, h2⟩ := cells3 hA
  have HT := Aside0.mk hT
  have i2 : strconv_Itoa.f 2 = some ⟨#[50]⟩ := by kernel_rfl
  have i5 : strconv_Itoa.f 5 = some ⟨#[53]⟩ := by kernel_rfl
  have i4 : strconv_Itoa.f 4 = some ⟨#[52]⟩ := by kernel_rfl
  have i6 : strconv_Itoa.f 6 = some ⟨#[54]⟩ := by kernel_rfl
  have I2 := Aside0.mk i2
  have I5 := Aside0.mk i5
  have I4 := Aside0.mk i4
  have I6 := Aside0.mk i6
  have HB := Aside0.mk (Below.refl w.heap.size w)
  clear hA hT i2 i5 i4 i6
  have a1 : Go.bits .and .u8 85 127 = 85 := by decide +kernel
  have a2 : Go.bits .and .u8 4 127 = 4 := by decide +kernel
  have a3 : Go.bits .and .u8 6 127 = 6 := by decide +kernel
  have u1 : IntKind.u64.wrap 85 = 85 := by decide +kernel
  have u2 : IntKind.u64.wrap 4 = 4 := by decide +kernel
  have u3 : IntKind.u64.wrap 6 = 6 := by decide +kernel
  have u4 : IntKind.u64.wrap 2 = 2 := by decide +kernel
  have u5 : IntKind.u64.wrap 5 = 5 := by decide +kernel
  have u6 : IntKind.u64.wrap 80 = 80 := by decide +kernel
  have o1 : Go.bits .or .u64 0 85 = 85 := by decide +kernel
  have o2 : Go.bits .or .u64 0 4 = 4 := by decide +kernel
  have o3 : Go.bits .or .u64 0 6 = 6 := by decide +kernel
  have w1 : wrap64 2 = 2 := by decide +kernel
  have w2 : wrap64 5 = 5 := by decide +kernel
  have w3 : wrap64 4 = 4 := by decide +kernel
  have w4 : wrap64 6 = 6 := by decide +kernel
  have s1 : (⟨#[50]⟩ : ByteArray) ++ ((⟨#[46]⟩ : ByteArray) ++ (⟨#[53]⟩ : ByteArray)) = ⟨#[50, 46, 53]⟩ := by kernel_rfl
  have s2 : (⟨#[50, 46, 53]⟩ : ByteArray) ++ ((⟨#[46]⟩ : ByteArray) ++ (⟨#[52]⟩ : ByteArray)) = ⟨#[50, 46, 53, 46, 52]⟩ := by kernel_rfl
  have s3 : (⟨#[50, 46, 53, 46, 52]⟩ : ByteArray) ++ ((⟨#[46]⟩ : ByteArray) ++ (⟨#[54]⟩ : ByteArray)) = ⟨#[50, 46, 53, 46, 52, 46, 54]⟩ := by kernel_rfl
  have l1 : (⟨#[50, 46, 53]⟩ : ByteArray).toList = [50, 46, 53] := by rw [Lib.toList_data]
  have l2 : (⟨#[50, 46, 53, 46, 52]⟩ : ByteArray).toList = [50, 46, 53, 46, 52] := by rw [Lib.toList_data]
  go_enter Tryz.func163, Tryz.ntmps163
  go_wp2_with fail
  refine wp_loop_rounds 4 ?_
  rw [rounds_succ]
  go_wp2_with fail
  rw [rounds_succ]
  go_wp2_with fail
  rw [rounds_succ]
  go_wp2_with fail
  rw [rounds_succ]
  go_wp2_with fail
  refine wp_loop_rounds 4 ?_
  rw [rounds_succ]
  go_wp2_with fail
  refine (strconv_Itoa.calls 2 _ _ I2.out (Tb.below HT.out HB.out)).mono ?_
  rintro e W1 ⟨rfl, hb⟩
  replace h1 := (hb.cell (World.block_lt_of_cell? _ _ h1)).trans h1
  replace h2 := (hb.cell (World.block_lt_of_cell? _ _ h2)).trans h2
  have HBW1 := Aside0.mk (below_step HB.out hb)
  clear hb
  go_wp2_with fail
  refine (strconv_Itoa.calls 5 _ _ I5.out (Tb.below HT.out HBW1.out)).mono ?_
  rintro e W2 ⟨rfl, hb⟩
  replace h1 := (hb.cell (World.block_lt_of_cell? _ _ h1)).trans h1
  replace h2 := (hb.cell (World.block_lt_of_cell? _ _ h2)).trans h2
  have HBW2 := Aside0.mk (below_step HBW1.out hb)
  clear hb
  go_wp2_with fail
  rw [rounds_succ]
  go_wp2_with fail
  refine (strconv_Itoa.calls 4 _ _ I4.out (Tb.below HT.out HBW2.out)).mono ?_
  rintro e W3 ⟨rfl, hb⟩
  replace h2 := (hb.cell (World.block_lt_of_cell? _ _ h2)).trans h2
  have HBW3 := Aside0.mk (below_step HBW2.out hb)
  clear hb
  go_wp2_with fail
  rw [rounds_succ]
  go_wp2_with fail
  refine (strconv_Itoa.calls 6 _ _ I6.out (Tb.below HT.out HBW3.out)).mono ?_
  rintro e W4 ⟨rfl, hb⟩
  have HBW4 := Aside0.mk (below_step HBW3.out hb)
  clear hb
  go_wp2_with fail
  rw [rounds_succ]
  go_wp2_with fail
  go_ret2
  exact ⟨by first | rfl | trace_state, HBW4.out⟩
end Go.Proofs.YtkioddjjfifadaaGreatDoor.P
set_option linter.unusedVariables false
set_option linter.unusedSimpArgs false
namespace Go.Proofs.YtkioddjjfifadaaGreatDoor.P
open Go.RowKit Go.Proofs.YtkioddjjfifadaaGreatDoorW.PrintWords Go.Proofs.YtkioddjjfifadaaGreatDoorW.PrintLast Go.Proofs.YtkioddjjfifadaaGreatDoorW.PrintMore
def q77 : S77 := ⟨0, 6, false, [85, 4, 6], [6, 3, 85, 4, 6]⟩
def r77 : S77 := ⟨0, 19, false, [68, 69], [19, 2, 68, 69]⟩
set_option maxHeartbeats 4000000 in
set_option maxRecDepth 100000 in
theorem part_at (w : World) (A B : Option Addr) (c d : Nat) (hA : Kd.C (Kd.int .u8) w A 9 e77.f3) (hc : 9 ≤ c) (hB : Kd.C (Kd.int .u8) w B 11 e77.f4) (hd : 11 ≤ d) (hT : Tb w) :
    Calls Tryz.prog 189 #[.agg #[.int .i64 0, .int .i64 16, .bool true, .slice A 9 c, .slice B 11 d]] w fun e w' => ∃ X x, e = .returned (.tuple #[.agg #[.string p07.f0, .int .i64 19, .slice X 2 x], .nilIface]) ∧ 2 ≤ x ∧ Kd.C (Kd.int .u8) w' X 2 [68, 69] ∧ Below w.heap.size w w' := by
  have hu77 := Tryz.underlying77
  have hu64 := Tryz.underlying64
  have hin : name_inside.f 100 0 16 true e77.f3 e77.f4 16 = some ([q77, r77], 0) := by kernel_rfl
  have HA := Aside0.mk hA
  have HC := Aside0.mk hB
  have HT := Aside0.mk hT
  have HI := Aside0.mk hin
  clear hA hB hT hin
  go_enter Tryz.func189, Tryz.ntmps189
  go_wp2_with (first | ((with_reducible refine gate_dst (N := 1) rfl ?_); refine box_event ?hg (N := 1) ?hd (cs := #[.int .i64 0, .int .i64 16, .bool true, .slice A 9 c, .slice B 11 d]) (t := 77) ?hr ?_; (case hd => rfl); (case hg => rfl); (case hr => first | (go_simp; done) | (go_simp; rfl)); intro g1 hg w1 hbox hb; have HB1 := Aside0.mk hb; have BK1 := Aside0.mk hbox; clear hb hbox hg) | ((with_reducible refine gate_dst (N := 2) rfl ?_); refine box_event ?hg (N := 2) ?hd (cs := #[.string (⟨#[]⟩ : ByteArray), .int .i64 0, .slice none 0 0]) (t := 64) ?hr ?_; (case hd => rfl); (case hg => rfl); (case hr => first | (go_simp; done) | (go_simp; rfl)); intro g2 hg w2 hbox hb; have BK2 := Aside0.mk hbox; have BK := Aside0.mk (blk_below BK1.out hb); have HB := Aside0.mk (below_step HB1.out hb); have hc0 : w2.cell? ⟨g1, 0, none⟩ = some (.int .i64 0) := (blk_cell BK.out 0).trans rfl; have hc1 : w2.cell? ⟨g1, 1, none⟩ = some (.int .i64 16) := (blk_cell BK.out 1).trans rfl; have hc2 : w2.cell? ⟨g1, 2, none⟩ = some (.bool true) := (blk_cell BK.out 2).trans rfl; have hc3 : w2.cell? ⟨g1, 3, none⟩ = some (.slice A 9 c) := (blk_cell BK.out 3).trans rfl; have hc4 : w2.cell? ⟨g1, 4, none⟩ = some (.slice B 11 d) := (blk_cell BK.out 4).trans rfl; have GE := Aside0.mk (show w.heap.size ≤ g2 by rw [hg]; exact below_size HB1.out); clear hb hbox hg HB1 BK1))
  refine (name_inside.calls 100 0 16 true A c e77.f3 B d e77.f4 16 [q77, r77] 0 _ (Kd.C_below HA.out HB.out) hc (Kd.C_below HC.out HB.out) hd HI.out).mono ?_
  rintro e w3 ⟨v, ev_, rfl, hev_, ho, hb⟩
  obtain rfl := EV.nil_of hev_ rfl
  obtain ⟨X, x, rfl⟩ := Kd.S_slice ho
  have HS := Aside0.mk (Kd.S_reads' ho)
  have HB3 := Aside0.mk (below_step HB.out hb)
  have BK3 := Aside0.mk (blk_below BK2.out hb)
  clear HB hev_ ho hb hc0 hc1 hc2 hc3 hc4 BK BK2 HI HA HC
  obtain ⟨ad, C, cc, D, cd, rfl, hx0, hx1, hx2, hx3, hx4, l3, g3, l4, g4⟩ := at_T77 HS.out.2.2 0 (Int.le_refl _) (by decide)
  obtain ⟨ad', C', cc', D', cd', e, hy0, hy1, hy2, hy3, hy4, l3', g3', l4', g4'⟩ := at_T77 HS.out.2.2 1 (by decide) (by decide)
  obtain rfl : ad = ad' := Option.some.inj e
  rw [show (0 : Int).toNat * 5 = 0 from rfl, Addr.add_zero'] at hx0 hx1 hx2 hx3 hx4
  have hsp := World.cell?_spot hx0
  have ea : ad.add ((1 : Int).toNat * 5) = ⟨ad.block, ad.off + 5, none⟩ := by
    cases ad with
    | mk b o s =>
      simp only at hsp
      subst hsp
      rfl
  rw [ea] at hy0 hy1 hy2 hy3 hy4
  replace hx0 : w3.cell? ad = some (.int .i64 0) := hx0
  replace hx1 : w3.cell? ⟨ad.block, ad.off + 1, none⟩ = some (.int .i64 6) := hx1
  replace hx2 : w3.cell? ⟨ad.block, ad.off + 2, none⟩ = some (.bool false) := hx2
  replace hx3 : w3.cell? ⟨ad.block, ad.off + 3, none⟩ = some (.slice C 3 cc) := hx3
  replace hy0 : w3.cell? ⟨ad.block, ad.off + 5, none⟩ = some (.int .i64 0) := hy0
  replace hy1 : w3.cell? ⟨ad.block, ad.off + 5 + 1, none⟩ = some (.int .i64 19) := hy1
  replace hy2 : w3.cell? ⟨ad.block, ad.off + 5 + 2, none⟩ = some (.bool false) := hy2
  replace hy3 : w3.cell? ⟨ad.block, ad.off + 5 + 3, none⟩ = some (.slice C' 2 cc') := hy3
  have G3 := Aside0.mk g3
  have L3 := Aside0.mk l3
  have G3' := Aside0.mk g3'
  have L3' := Aside0.mk l3'
  clear g3 g4 l3 l4 g3' g4' l3' l4' hx4 hy4
  go_wp2_with fail
  go_quiet (fail)
  go_wp2_with fail
  refine (oid_at _ C cc (Kd.C_drewN G3.out _) (Tb.below HT.out (pw_below_drewN HB3.out _))).mono ?_
  rintro e w4 ⟨rfl, hb⟩
  have lt := World.block_lt_of_cell? w3 _ hx0
  have hz : ∀ o, w4.cell? ⟨ad.block, o, none⟩ = w3.cell? ⟨ad.block, o, none⟩ := fun o => hb.cell (p := ⟨ad.block, o, none⟩) lt
  replace hy1 := (hz _).trans hy1
  replace hy3 := (hz _).trans hy3
  have GC := Aside0.mk (Kd.C_below (Kd.C_drewN G3'.out _) hb)
  have BK4 := Aside0.mk (blk_below (blk_drewN BK3.out _) hb)
  have HB4 := Aside0.mk (below_step (pw_below_drewN HB3.out _) hb)
  clear hb hz lt HB3 BK3 G3 G3' hx0 hx1 hx2 hx3 hy0 hy2 HS HT
  have hc0 : w4.cell? ⟨g2, 0, none⟩ = some (.string (⟨#[]⟩ : ByteArray)) := (blk_cell BK4.out 0).trans rfl
  have hc1 : w4.cell? ⟨g2, 1, none⟩ = some (.int .i64 0) := (blk_cell BK4.out 1).trans rfl
  have hc2 : w4.cell? ⟨g2, 2, none⟩ = some (.slice none 0 0) := (blk_cell BK4.out 2).trans rfl
  have hf0 := blk_frozen BK4.out 0
  have hf1 := blk_frozen BK4.out 1
  have hf2 := blk_frozen BK4.out 2
  go_wp2_with fail
  go_big_region
  go_wp2_with fail
  have hne := ne_of_u8 GC.out (by decide) BK4.out (by
    intro v hv z e
    subst e
    simp at hv)
  refine bodyPost_ret (results_ct rfl _ _ g2 64 #[.string p07.f0, .int .i64 19, .slice C' 2 cc'] (0, 0) _ rfl (blk_drew (blk_put (cs := #[.string p07.f0, .int .i64 19, .slice none 0 0]) (blk_put (cs := #[.string p07.f0, .int .i64 0, .slice none 0 0]) (blk_put (cs := #[.string (⟨#[]⟩ : ByteArray), .int .i64 0, .slice none 0 0]) BK4.out 0 _ rfl) 1 _ rfl) 2 _ rfl)) Tryz.underlying64 rfl (by kernel_rfl)) rfl ?_
  exact ⟨_, _, rfl, L3'.out, Kd.C_drew (C_put (C_put (C_put GC.out hne) hne) hne), below_drew1 (below_set (below_set (below_set HB4.out GE.out) GE.out) GE.out)⟩
end Go.Proofs.YtkioddjjfifadaaGreatDoor.P
set_option linter.unusedVariables false
set_option linter.unusedSimpArgs false
namespace Go.Proofs.YtkioddjjfifadaaGreatDoor.P
open Go.RowKit Go.Proofs.YtkioddjjfifadaaGreatDoorW.PrintWords Go.Proofs.YtkioddjjfifadaaGreatDoorW.PrintLast Go.Proofs.YtkioddjjfifadaaGreatDoorW.PrintMore
set_option maxHeartbeats 4000000 in
set_option maxRecDepth 100000 in
theorem set_at (w : World) (A B : Option Addr) (c d : Nat) (hA : Kd.C (Kd.int .u8) w A 11 e77.f4) (hc : 11 ≤ c) (hB : Kd.C (Kd.int .u8) w B 13 (49 :: 11 :: e77.f4)) (hd : 13 ≤ d) (hT : Tb w) :
    Calls Tryz.prog 142 #[.agg #[.int .i64 0, .int .i64 17, .bool true, .slice A 11 c, .slice B 13 d]] w fun e w' => ∃ X x, e = .returned (.tuple #[.slice X 1 x, .nilIface]) ∧ 1 ≤ x ∧ Kd.C k64 w' X 1 [p07] ∧ Below w.heap.size w w' := by
  have hu77 := Tryz.underlying77
  have hu64 := Tryz.underlying64
  have hin : name_inside.f 100 0 17 true e77.f4 (49 :: 11 :: e77.f4) 17 = some ([e77], 0) := by kernel_rfl
  have HA := Aside0.mk hA
  have HC := Aside0.mk hB
  have HT := Aside0.mk hT
  have HI := Aside0.mk hin
  clear hA hB hT hin
  go_enter Tryz.func142, Tryz.ntmps142
  go_wp2_with ((with_reducible refine gate_dst (N := 1) rfl ?_); refine box_event ?hg (N := 1) ?hd (cs := #[.int .i64 0, .int .i64 17, .bool true, .slice A 11 c, .slice B 13 d]) (t := 77) ?hr ?_; (case hd => rfl); (case hg => rfl); (case hr => first | (go_simp; done) | (go_simp; rfl)); intro g1 hg w1 hbox hb; have HB := Aside0.mk hb; have hc0 : w1.cell? ⟨g1, 0, none⟩ = some (.int .i64 0) := (blk_cell hbox 0).trans rfl; have hc1 : w1.cell? ⟨g1, 1, none⟩ = some (.int .i64 17) := (blk_cell hbox 1).trans rfl; have hc2 : w1.cell? ⟨g1, 2, none⟩ = some (.bool true) := (blk_cell hbox 2).trans rfl; have hc3 : w1.cell? ⟨g1, 3, none⟩ = some (.slice A 11 c) := (blk_cell hbox 3).trans rfl; have hc4 : w1.cell? ⟨g1, 4, none⟩ = some (.slice B 13 d) := (blk_cell hbox 4).trans rfl; clear hb hbox hg)
  refine (name_inside.calls 100 0 17 true A c e77.f4 B d (49 :: 11 :: e77.f4) 17 [e77] 0 _ (Kd.C_below HA.out HB.out) hc (Kd.C_below HC.out HB.out) hd HI.out).mono ?_
  rintro e w2 ⟨v, ev_, rfl, hev_, ho, hb⟩
  obtain rfl := EV.nil_of hev_ rfl
  obtain ⟨X, x, rfl⟩ := Kd.S_slice ho
  have HO := Aside0.mk (Kd.S_reads' ho)
  have HB2 := Aside0.mk (below_step HB.out hb)
  clear HB hev_ ho hb hc0 hc1 hc2 hc3 hc4 HA HC HI
  obtain ⟨ad, C, cc, D, cd, rfl, hx0, hx1, hx2, hx3, hx4, l3, g3, l4, g4⟩ := at_T77 HO.out.2.2 0 (Int.le_refl _) (by decide)
  rw [show (0 : Int).toNat * 5 = 0 from rfl, Addr.add_zero'] at hx0 hx1 hx2 hx3 hx4
  have G3 := Aside0.mk g3
  have G4 := Aside0.mk g4
  replace hx0 : w2.cell? ad = some (.int .i64 0) := hx0
  replace hx1 : w2.cell? ⟨ad.block, ad.off + 1, none⟩ = some (.int .i64 16) := hx1
  replace hx2 : w2.cell? ⟨ad.block, ad.off + 2, none⟩ = some (.bool true) := hx2
  replace hx3 : w2.cell? ⟨ad.block, ad.off + 3, none⟩ = some (.slice C 9 cc) := hx3
  replace hx4 : w2.cell? ⟨ad.block, ad.off + 4, none⟩ = some (.slice D 11 cd) := hx4
  have L3 := Aside0.mk l3
  have L4 := Aside0.mk l4
  clear g3 g4 l3 l4
  go_wp2_with fail
  refine wp_loop_rounds 2 ?_
  rw [rounds_succ]
  go_wp2_with fail
  have HB := Aside0.mk (below_alloc HB2.out (.cells #[.int .i64 0, .int .i64 16, .bool true, .slice C 9 cc, .slice D 11 cd] 77))
  refine (part_at _ C D cc cd (Kd.C_alloc G3.out _) L3.out (Kd.C_alloc G4.out _) L4.out (Tb.below HT.out HB.out)).mono ?_
  rintro e w3 ⟨E, ec, rfl, he, ho, hb⟩
  have hk := k64_mk w3 p07 he ho
  have HK := Aside0.mk hk
  have HB3 := Aside0.mk (below_step HB.out hb)
  clear HB HB2 ho hb hk hx0 hx1 hx2 hx3 hx4 HO G3 G4 HT
  have HB := HB3
  clear HB3
  go_wp2_with fail
  rw [rounds_succ]
  go_wp2_with fail
  have hb2 : Below w3.heap.size w3 _ := below_drew1 (below_alloc (below_alloc (below_alloc (Below.refl w3.heap.size w3) (.cells #[.string p07.f0, .int .i64 19, .slice E 2 ec] 64)) (.cells #[.string p07.f0, .int .i64 19, .slice E 2 ec] 64)) (.cells (#[.string p07.f0, .int .i64 19, .slice E 2 ec] ++ Builtin.zeroCells #[.string ⟨#[]⟩, .int .i64 0, .slice none 0 0] ((Question.appendCap 1 0 64).cut (w3.tape w3.drawn (Question.appendCap 1 0 64)) - 1)) 64))
  go_ret2
  exact ⟨_, _, rfl, Nat.le_add_right 1 _, C_row1 k64 (cs := [.string p07.f0, .int .i64 19, .slice E 2 ec]) (more := (Builtin.zeroCells #[.string ⟨#[]⟩, .int .i64 0, .slice none 0 0] ((Question.appendCap 1 0 64).cut (w3.tape w3.drawn (Question.appendCap 1 0 64)) - 1)).toList) (k64.K_below hb2 HK.out) ((at_alloc _ _ _ (by show ((w3.heap.push _).push _).size = _; simp)).trans (congrArg (fun z => some (Obj.cells z 64 (0, 0))) (arr_app #[.string p07.f0, .int .i64 19, .slice E 2 ec] _))), below_step HB.out hb2⟩
end Go.Proofs.YtkioddjjfifadaaGreatDoor.P
set_option linter.unusedVariables false
set_option linter.unusedSimpArgs false
namespace Go.Proofs.YtkioddjjfifadaaGreatDoor.P
open Go.RowKit Go.Proofs.YtkioddjjfifadaaGreatDoorW.PrintWords Go.Proofs.YtkioddjjfifadaaGreatDoorW.PrintLast Go.Proofs.YtkioddjjfifadaaGreatDoorW.PrintMore
def o77 : S77 := ⟨0, 16, true, 49 :: 11 :: e77.f4, b07⟩
set_option maxHeartbeats 4000000 in
set_option maxRecDepth 100000 in
theorem one_at (w : World) (A : Option Addr) (c : Nat) (hA : Kd.C (Kd.int .u8) w A 15 b07) (hc : 15 ≤ c) :
    Calls Tryz.prog 95 #[.slice A 15 c] w fun e w' => ∃ X x Y y, e = .returned (.tuple #[.agg #[.int .i64 0, .int .i64 16, .bool true, .slice X 13 x, .slice Y 15 y], .int .i64 0]) ∧ 13 ≤ x ∧ Kd.C (Kd.int .u8) w' X 13 (49 :: 11 :: e77.f4) ∧ 15 ≤ y ∧ Kd.C (Kd.int .u8) w' Y 15 b07 ∧ Below w.heap.size w w' := by
  have hu77 := Tryz.underlying77
  have hsp : der_Split.f 100 b07 = some ([o77], 0, 15) := by kernel_rfl
  have HA := Aside0.mk hA
  have HS := Aside0.mk hsp
  clear hA hsp
  go_enter Tryz.func95, Tryz.ntmps95
  go_wp2_with ((with_reducible refine gate_dst (N := 2) rfl ?_); refine box_event ?hg (N := 2) ?hd (cs := #[.int .i64 0, .int .i64 0, .bool false, .slice none 0 0, .slice none 0 0]) (t := 77) ?hr ?_; (case hd => rfl); (case hg => rfl); (case hr => first | (go_simp; done) | (go_simp; rfl)); intro g2 hg w2 hbox hb; have BK := Aside0.mk hbox; have HB := Aside0.mk hb; have GE := Aside0.mk (show w.heap.size ≤ g2 by rw [hg]; exact Nat.le_refl _); clear hb hbox hg)
  refine (der_Split.calls 100 A c b07 [o77] 0 15 _ (Kd.C_below HA.out HB.out) hc HS.out).mono ?_
  rintro e w3 ⟨v, rfl, ho, hb⟩
  obtain ⟨X, x, rfl⟩ := Kd.S_slice ho
  have HL := Aside0.mk (Kd.S_reads' ho)
  have HB3 := Aside0.mk (below_step HB.out hb)
  have BK3 := Aside0.mk (blk_below BK.out hb)
  clear HB ho hb BK HA HS
  obtain ⟨ad, C, cc, D, cd, rfl, hx0, hx1, hx2, hx3, hx4, l3, g3, l4, g4⟩ := at_T77 HL.out.2.2 0 (Int.le_refl _) (by decide)
  rw [show (0 : Int).toNat * 5 = 0 from rfl, Addr.add_zero'] at hx0 hx1 hx2 hx3 hx4
  replace hx0 : w3.cell? ad = some (.int .i64 0) := hx0
  replace hx1 : w3.cell? ⟨ad.block, ad.off + 1, none⟩ = some (.int .i64 16) := hx1
  replace hx2 : w3.cell? ⟨ad.block, ad.off + 2, none⟩ = some (.bool true) := hx2
  replace hx3 : w3.cell? ⟨ad.block, ad.off + 3, none⟩ = some (.slice C 13 cc) := hx3
  replace hx4 : w3.cell? ⟨ad.block, ad.off + 4, none⟩ = some (.slice D 15 cd) := hx4
  have G3 : Aside0 (Kd.C (Kd.int .u8) w3 C 13 (49 :: 11 :: e77.f4)) := ⟨g3⟩
  have L3 : Aside0 (13 ≤ cc) := ⟨l3⟩
  have G4 : Aside0 (Kd.C (Kd.int .u8) w3 D 15 b07) := ⟨g4⟩
  have L4 : Aside0 (15 ≤ cd) := ⟨l4⟩
  have hc0 : w3.cell? ⟨g2, 0, none⟩ = some (.int .i64 0) := (blk_cell BK3.out 0).trans rfl
  have hc1 : w3.cell? ⟨g2, 1, none⟩ = some (.int .i64 0) := (blk_cell BK3.out 1).trans rfl
  have hc2 : w3.cell? ⟨g2, 2, none⟩ = some (.bool false) := (blk_cell BK3.out 2).trans rfl
  have hc3 : w3.cell? ⟨g2, 3, none⟩ = some (.slice none 0 0) := (blk_cell BK3.out 3).trans rfl
  have hc4 : w3.cell? ⟨g2, 4, none⟩ = some (.slice none 0 0) := (blk_cell BK3.out 4).trans rfl
  have hf0 := blk_frozen BK3.out 0
  have hf1 := blk_frozen BK3.out 1
  have hf2 := blk_frozen BK3.out 2
  have hf3 := blk_frozen BK3.out 3
  have hf4 := blk_frozen BK3.out 4
  clear g3 g4 l3 l4
  go_wp2_with fail
  have hs : ∀ v ∈ #[Value.int .i64 0, .int .i64 0, .bool false, .slice none 0 0, .slice none 0 0].toList, ∀ z, v ≠ .int .u8 z := by
    intro v hv z e
    subst e
    simp at hv
  have n3 := ne_of_u8 G3.out (by decide) BK3.out hs
  have n4 := ne_of_u8 G4.out (by decide) BK3.out hs
  refine bodyPost_ret (results_ct rfl _ _ g2 77 #[.int .i64 0, .int .i64 16, .bool true, .slice C 13 cc, .slice D 15 cd] (0, 0) _ rfl (blk_put (cs := #[.int .i64 0, .int .i64 16, .bool true, .slice C 13 cc, .slice none 0 0]) (blk_put (cs := #[.int .i64 0, .int .i64 16, .bool true, .slice none 0 0, .slice none 0 0]) (blk_put (cs := #[.int .i64 0, .int .i64 16, .bool false, .slice none 0 0, .slice none 0 0]) (blk_put (cs := #[.int .i64 0, .int .i64 0, .bool false, .slice none 0 0, .slice none 0 0]) (blk_put (cs := #[.int .i64 0, .int .i64 0, .bool false, .slice none 0 0, .slice none 0 0]) BK3.out 0 _ rfl) 1 _ rfl) 2 _ rfl) 3 _ rfl) 4 _ rfl) Tryz.underlying77 rfl (by kernel_rfl)) rfl ?_
  exact ⟨_, _, _, _, rfl, L3.out, C_put (C_put (C_put (C_put (C_put G3.out n3) n3) n3) n3) n3, L4.out, C_put (C_put (C_put (C_put (C_put G4.out n4) n4) n4) n4) n4, below_set (below_set (below_set (below_set (below_set HB3.out GE.out) GE.out) GE.out) GE.out) GE.out⟩
end Go.Proofs.YtkioddjjfifadaaGreatDoor.P
set_option linter.unusedVariables false
set_option linter.unusedSimpArgs false
namespace Go.Proofs.YtkioddjjfifadaaGreatDoor.P
open Go.RowKit Go.Proofs.YtkioddjjfifadaaGreatDoorW.PrintWords Go.Proofs.YtkioddjjfifadaaGreatDoorW.PrintLast Go.Proofs.YtkioddjjfifadaaGreatDoorW.PrintMore
def s77 : S77 := ⟨0, 17, true, e77.f4, 49 :: 11 :: e77.f4⟩
set_option maxHeartbeats 4000000 in
set_option maxRecDepth 100000 in
theorem read_at (w : World) (A : Option Addr) (c : Nat) (hA : Kd.C (Kd.int .u8) w A 15 b07) (hc : 15 ≤ c) (hT : Tb w) :
    Calls Tryz.prog 79 #[.slice A 15 c] w fun e w' => ∃ X x, e = .returned (.tuple #[.slice X 1 x, .nilIface]) ∧ 1 ≤ x ∧ Kd.C (Kd.slice 64 k64) w' X 1 n07 ∧ Below w.heap.size w w' := by
  have hu77 := Tryz.underlying77
  have hu64 := Tryz.underlying64
  have hin : name_inside.f 100 0 16 true (49 :: 11 :: e77.f4) b07 16 = some ([s77], 0) := by kernel_rfl
  have HA := Aside0.mk hA
  have HT := Aside0.mk hT
  have HI := Aside0.mk hin
  clear hA hT hin
  go_enter Tryz.func79, Tryz.ntmps79
  go_wp2_with fail
  refine (one_at _ A c HA.out hc).mono ?_
  rintro e w1 ⟨C, cc, D, cd, rfl, lc, gc, ld, gd, hb⟩
  have H3 : Aside0 (1 = 1 ∧ 13 ≤ cc ∧ Kd.C (Kd.int .u8) w1 C 13 (49 :: 11 :: e77.f4)) := ⟨rfl, lc, gc⟩
  have H4 : Aside0 (1 = 1 ∧ 15 ≤ cd ∧ Kd.C (Kd.int .u8) w1 D 15 b07) := ⟨rfl, ld, gd⟩
  have HB1 := Aside0.mk hb
  clear lc gc ld gd hb HA
  go_wp2_with fail
  have HB := Aside0.mk (below_alloc HB1.out (.cells #[.int .i64 0, .int .i64 16, .bool true, .slice C 13 cc, .slice D 15 cd] 77))
  refine (name_inside.calls 100 0 16 true C cc (49 :: 11 :: e77.f4) D cd b07 16 [s77] 0 _ (Kd.C_alloc H3.out.2.2 _) H3.out.2.1 (Kd.C_alloc H4.out.2.2 _) H4.out.2.1 HI.out).mono ?_
  rintro e w2 ⟨v, ev_, rfl, hev_, ho, hb⟩
  obtain rfl := EV.nil_of hev_ rfl
  obtain ⟨X, x, rfl⟩ := Kd.S_slice ho
  have HO := Aside0.mk (Kd.S_reads' ho)
  have HB2 := Aside0.mk (below_step HB.out hb)
  clear HB HB1 hev_ ho hb HI H3 H4
  obtain ⟨ad, C, cc, D, cd, rfl, hx0, hx1, hx2, hx3, hx4, l3, g3, l4, g4⟩ := at_T77 HO.out.2.2 0 (Int.le_refl _) (by decide)
  rw [show (0 : Int).toNat * 5 = 0 from rfl, Addr.add_zero'] at hx0 hx1 hx2 hx3 hx4
  have G3 := Aside0.mk g3
  have G4 := Aside0.mk g4
  replace hx0 : w2.cell? ad = some (.int .i64 0) := hx0
  replace hx1 : w2.cell? ⟨ad.block, ad.off + 1, none⟩ = some (.int .i64 17) := hx1
  replace hx2 : w2.cell? ⟨ad.block, ad.off + 2, none⟩ = some (.bool true) := hx2
  replace hx3 : w2.cell? ⟨ad.block, ad.off + 3, none⟩ = some (.slice C 11 cc) := hx3
  replace hx4 : w2.cell? ⟨ad.block, ad.off + 4, none⟩ = some (.slice D 13 cd) := hx4
  have L3 := Aside0.mk l3
  have L4 := Aside0.mk l4
  clear g3 g4 l3 l4
  go_wp2_with fail
  refine wp_loop_rounds 2 ?_
  rw [rounds_succ]
  go_wp2_with fail
  have HB := Aside0.mk (below_alloc HB2.out (.cells #[.int .i64 0, .int .i64 17, .bool true, .slice C 11 cc, .slice D 13 cd] 77))
  refine (set_at _ C D cc cd (Kd.C_alloc G3.out _) L3.out (Kd.C_alloc G4.out _) L4.out (Tb.below HT.out HB.out)).mono ?_
  rintro e w3 ⟨Y, y, rfl, hy, hC, hb⟩
  have hk := (⟨Y, y, rfl, hy, hC⟩ : (Kd.slice 64 k64).K w3 [p07] [.slice Y 1 y])
  have HK := Aside0.mk hk
  have HB3 := Aside0.mk (below_step HB.out hb)
  clear HB HB2 hb hk hy hC hx0 hx1 hx2 hx3 hx4 HO G3 G4 HT
  have HB := HB3
  clear HB3
  go_wp2_with fail
  rw [rounds_succ]
  go_wp2_with fail
  have hb2 : Below w3.heap.size w3 _ := below_drew1 (below_alloc (below_alloc (Below.refl w3.heap.size w3) (.cells #[.slice Y 1 y] 62)) (.cells (#[.slice Y 1 y] ++ Builtin.zeroCells #[.slice none 0 0] ((Question.appendCap 1 0 62).cut (w3.tape w3.drawn (Question.appendCap 1 0 62)) - 1)) 62))
  go_ret2
  exact ⟨_, _, rfl, Nat.le_add_right 1 _, C_row1 (Kd.slice 64 k64) (cs := [.slice Y 1 y]) (more := (Builtin.zeroCells #[.slice none 0 0] ((Question.appendCap 1 0 62).cut (w3.tape w3.drawn (Question.appendCap 1 0 62)) - 1)).toList) ((Kd.slice 64 k64).K_below hb2 HK.out) ((at_alloc _ _ _ (by show (w3.heap.push _).size = _; simp)).trans (congrArg (fun z => some (Obj.cells z 62 (0, 0))) (arr_app #[.slice Y 1 y] _))), below_step HB.out hb2⟩
set_option maxRecDepth 100000 in
set_option maxHeartbeats 4000000 in
theorem parse_at (w : World) (A : Option Addr) (c : Nat) (hA : Kd.C (Kd.int .u8) w A 15 b07) (hc : 15 ≤ c) (hT : Tb w) (hD : Hd w) :
    Calls Tryz.prog 35 #[.slice A 15 c] w fun e w' => ∃ X x, e = .returned (.tuple #[.slice X 1 x, .int .i64 0]) ∧ 1 ≤ x ∧ Kd.C (Kd.slice 64 k64) w' X 1 n07 ∧ Below w.heap.size w w' := by
  have HD := Aside0.mk hD
  clear hD
  go_enter Tryz.func35, Tryz.ntmps35
  go_wp2_with fail
  refine (read_at _ A c hA hc hT).mono ?_
  rintro e w1 ⟨X, x, rfl, hx, hC, hb⟩
  have HC := Aside0.mk hC
  have HB := Aside0.mk hb
  have HD1 := Aside0.mk (HD.out.below hb)
  clear hC hb HD
  go_wp2_with fail
  refine (name_number_ev EV.nil _ HD1.out).mono ?_
  rintro e w2 ⟨rfl, hb⟩
  have HC2 := Aside0.mk (Kd.C_below HC.out hb)
  have HB2 := Aside0.mk (below_step HB.out hb)
  clear hb HC HB
  go_wp2_with fail
  go_ret2
  exact ⟨_, _, rfl, hx, HC2.out, HB2.out⟩
end Go.Proofs.YtkioddjjfifadaaGreatDoor.P
set_option linter.unusedVariables false
set_option linter.unusedSimpArgs false
namespace Go.Proofs.YtkioddjjfifadaaGreatDoor.P
open Go.RowKit Go.Proofs.YtkioddjjfifadaaGreatDoorW.PrintWords Go.Proofs.YtkioddjjfifadaaGreatDoorW.PrintLast Go.Proofs.YtkioddjjfifadaaGreatDoorW.PrintMore
set_option maxHeartbeats 4000000 in
set_option maxRecDepth 100000 in
theorem lay_at (w : World) (X : Option Addr) (x : Nat) (hx : 2 ≤ x) (hX : Kd.C (Kd.int .u8) w X 2 [68, 69]) :
    Calls Tryz.prog 149 #[.agg #[.string p07.f0, .int .i64 19, .slice X 2 x]] w fun e w' => ∃ V v, e = .returned (.tuple #[.slice V 11 v, .nilIface]) ∧ Kd.R (Kd.int .u8) 5 w' w.heap.size (fun _ => True) (.slice V 11 v) e77.f4 ∧ Below w.heap.size w w' := by
  have hu64 := Tryz.underlying64
  have ho : der_PutOid.f 100 p07.f0 = some ([85, 4, 6], 0) := by kernel_rfl
  have hp : der_Put.f 100 0 6 false [[85, 4, 6]] = some ([6, 3, 85, 4, 6], 0) := by kernel_rfl
  have hq : der_Put.f 100 0 19 false [[68, 69]] = some ([19, 2, 68, 69], 0) := by kernel_rfl
  have ha : name_about.f 100 16 [[6, 3, 85, 4, 6], [19, 2, 68, 69]] = some (e77.f4, 0) := by kernel_rfl
  have HX := Aside0.mk hX
  have HO := Aside0.mk ho
  have HP := Aside0.mk hp
  have HQ := Aside0.mk hq
  have HA := Aside0.mk ha
  clear hX ho hp hq ha
  go_enter Tryz.func149, Tryz.ntmps149
  go_wp2_with ((with_reducible refine gate_dst (N := 1) rfl ?_); refine box_event ?hg (N := 1) ?hd (cs := #[.string p07.f0, .int .i64 19, .slice X 2 x]) (t := 64) ?hr ?_; (case hd => rfl); (case hg => rfl); (case hr => first | (go_simp; done) | (go_simp; rfl)); intro g1 hg w1 hbox hb; have HB := Aside0.mk hb; have BK := Aside0.mk hbox; have hc0 : w1.cell? ⟨g1, 0, none⟩ = some (.string p07.f0) := (blk_cell BK.out 0).trans rfl; clear hb hbox hg)
  refine (der_PutOid.calls 100 p07.f0 [85, 4, 6] 0 _ HO.out).mono ?_
  rintro e w2 ⟨v, rfl, ho, hb⟩
  obtain ⟨C, c, rfl⟩ := Kd.R_slice ho
  have HC := Aside0.mk (Kd.R_reads' ho)
  have HB2 := Aside0.mk (below_step HB.out hb)
  have BK2 := Aside0.mk (blk_below BK.out hb)
  clear ho hb HB BK hc0 HO
  have hc1 : w2.cell? ⟨g1, 1, none⟩ = some (.int .i64 19) := (blk_cell BK2.out 1).trans rfl
  go_wp2_with fail
  refine (der_Put.calls 100 0 6 false _ 1 [[85, 4, 6]] [6, 3, 85, 4, 6] 0 _ (C_row1 kB (more := []) (kB.K_below (below_alloc (Below.refl w2.heap.size w2) _) (kB_mk HC.out.2.1 HC.out.2.2)) (new_alloc _ _)) (Nat.le_refl 1) HP.out).mono ?_
  rintro e w3 ⟨v, rfl, ho, hb⟩
  obtain ⟨D, d, rfl⟩ := Kd.R_slice ho
  have HD := Aside0.mk (Kd.R_reads' ho)
  have HB3 := Aside0.mk (below_step (below_alloc HB2.out _) hb)
  have BK3 := Aside0.mk (blk_below (blk_alloc BK2.out _) hb)
  clear ho hb HB2 BK2 hc1 HP HC
  have hc1 : w3.cell? ⟨g1, 1, none⟩ = some (.int .i64 19) := (blk_cell BK3.out 1).trans rfl
  have hc2 : w3.cell? ⟨g1, 2, none⟩ = some (.slice X 2 x) := (blk_cell BK3.out 2).trans rfl
  go_wp2_with fail
  refine (der_Put.calls 100 0 19 false _ 1 [[68, 69]] [19, 2, 68, 69] 0 _ (C_row1 kB (more := []) (kB.K_below (below_alloc HB3.out _) (kB_mk hx HX.out)) (new_alloc _ _)) (Nat.le_refl 1) HQ.out).mono ?_
  rintro e w4 ⟨v, rfl, ho, hb⟩
  obtain ⟨F, f, rfl⟩ := Kd.R_slice ho
  have HF := Aside0.mk (Kd.R_reads' ho)
  have HD4 := Aside0.mk (Kd.C_below (Kd.C_alloc HD.out.2.2 _) hb)
  have LD := Aside0.mk HD.out.2.1
  have HB4 := Aside0.mk (below_step (below_alloc HB3.out _) hb)
  clear ho hb HB3 BK3 hc1 hc2 HQ HD HX
  go_wp2_with fail
  refine (name_about.calls 100 16 _ 2 [[6, 3, 85, 4, 6], [19, 2, 68, 69]] e77.f4 0 _ (C_row2 kB rfl (kB_mk LD.out (Kd.C_alloc HD4.out _)) (kB_mk HF.out.2.1 (Kd.C_alloc HF.out.2.2 _)) (new_alloc _ _)) (Nat.le_refl 2) HA.out).mono ?_
  rintro e w5 ⟨v, ev, rfl, hev, ho, hb⟩
  obtain rfl := EV.nil_of hev rfl
  obtain ⟨G, g, rfl⟩ := Kd.R_slice ho
  have HG := Aside0.mk (Kd.R_lower ho (below_size (below_alloc HB4.out _)))
  have HB5 := Aside0.mk (below_step (below_alloc HB4.out _) hb)
  clear ho hb HB4 HD4 LD HF HA
  go_wp2_with fail
  go_ret2
  exact ⟨_, _, rfl, HG.out, HB5.out⟩
set_option maxHeartbeats 4000000 in
set_option maxRecDepth 100000 in
theorem build_at (w : World) (A : Option Addr) (c : Nat) (hA : Kd.C (Kd.slice 64 k64) w A 1 n07) (hc : 1 ≤ c) :
    Calls Tryz.prog 84 #[.slice A 1 c] w fun e w' => ∃ V v, e = .returned (.tuple #[.slice V 15 v, .nilIface]) ∧ 15 ≤ v ∧ Kd.C (Kd.int .u8) w' V 15 b07 ∧ Below w.heap.size w w' := by
  have hu64 := Tryz.underlying64
  have hcf : slices_ContainsFunc.f n07 = some false := by kernel_rfl
  have hso : slices_SortFunc.f [e77.f4] = some [e77.f4] := by kernel_rfl
  have ha : name_about.f 100 17 [e77.f4] = some (49 :: 11 :: e77.f4, 0) := by kernel_rfl
  have hb0 : name_about.f 100 16 [49 :: 11 :: e77.f4] = some (b07, 0) := by kernel_rfl
  have HN := Aside0.mk hA
  have HCF := Aside0.mk hcf
  have HSO := Aside0.mk hso
  have HA := Aside0.mk ha
  have HZ := Aside0.mk hb0
  clear hcf hso ha hb0
  obtain ⟨ad, bd, B1, b, X, x, rfl, rfl, h0, g0, g1, g2, lb, hB1, lx, hX⟩ := n07_open hA
  clear hA hB1
  have HX := Aside0.mk hX
  clear hX
  go_enter Tryz.func84, Tryz.ntmps84
  go_wp2_with fail
  refine (slices_ContainsFunc.calls (some ad) c n07 false _ HN.out hc HCF.out).mono ?_
  rintro e w1 ⟨rfl, hb⟩
  have HB := Aside0.mk hb
  replace h0 := (hb.cell (World.block_lt_of_cell? w _ h0)).trans h0
  replace g0 := (hb.cell (World.block_lt_of_cell? w _ g0)).trans g0
  replace g1 := (hb.cell (World.block_lt_of_cell? w _ g1)).trans g1
  replace g2 := (hb.cell (World.block_lt_of_cell? w _ g2)).trans g2
  have HX1 := Aside0.mk (Kd.C_below HX.out hb)
  clear hb HX HN HCF
  go_wp2_with fail
  refine wp_loop_rounds 2 ?_
  rw [rounds_succ]
  go_wp2_with fail
  refine wp_loop_rounds 2 ?_
  rw [rounds_succ]
  go_wp2_with fail
  have HB1 := Aside0.mk (below_alloc HB.out (.cells #[.string p07.f0, .int .i64 19, .slice X 2 x] 64))
  refine (lay_at _ X x lx (Kd.C_alloc HX1.out _)).mono ?_
  rintro e w2 ⟨V, v, rfl, ho, hb⟩
  have HR := Aside0.mk (Kd.R_lower ho (below_size HB1.out))
  have HB2 := Aside0.mk (below_step HB1.out hb)
  clear ho hb HB HB1 HX1 h0 g0 g1 g2
  go_wp2_with ((with_reducible refine gate_builtin (b := .append) (xs := #[.tmp 54, .tmp 56]) rfl ?_); at_builtin; refine Kd.R_append (Kd.slice 5 (Kd.int .u8)) (w0 := w) w.heap.size rfl (.tmp 54) (.tmp 56) 67 22 (.slice none 0 0) 24 rfl Tryz.underlying67 info22 rfl (by decide) (by omega) (.slice none 0 0) [] e77.f4 [.slice V 11 v] (fun _ => True) (fun k_ => some k_ = (.slice V 11 v : Value).ownBlock) rfl rfl ?aP (fun _ _ => ⟨trivial, fun h => by cases h⟩) (fun _ _ => trivial) (Kd.R_nil _ _ _ _ _) HB2.out (below_size HB2.out) (by decide) ?_; (case aP => exact Kd.M_row (Kd.R_tight rfl HR.out)); intro v5 w3 ho hb hgr hat; have HO := Aside0.mk ho; have HB3 := Aside0.mk hb; clear ho hb hgr hat HB2 HR)
  rw [rounds_succ]
  obtain ⟨Y, y, eY⟩ := Kd.R_slice HO.out
  subst eY
  go_wp2_with fail
  refine (sortfunc_own w _ [e77.f4] [e77.f4] (fun _ => True) _ HO.out HB3.out HSO.out).mono ?_
  rintro e w4 ⟨rfl, ho, hgr, hb⟩
  have HC := Aside0.mk (Kd.R_reads' ho)
  have HB := Aside0.mk hb
  clear ho hgr hb HO HB3 HSO
  go_wp2_with fail
  refine (name_about.calls 100 17 Y y [e77.f4] (49 :: 11 :: e77.f4) 0 _ HC.out.2.2 HC.out.2.1 HA.out).mono ?_
  rintro e w5 ⟨v6, ev, rfl, hev, ho, hb⟩
  obtain rfl := EV.nil_of hev rfl
  obtain ⟨G, g, rfl⟩ := Kd.R_slice ho
  have HG := Aside0.mk (Kd.R_reads' ho)
  have HB5 := Aside0.mk (below_step HB.out hb)
  clear ho hb HB HC HA hev
  go_wp2_with fail
  rw [rounds_succ]
  go_wp2_with fail
  have hb2 : Below w5.heap.size w5 _ := below_drew1 (below_alloc (below_alloc (Below.refl w5.heap.size w5) (.cells #[.slice G 13 g] 22)) (.cells (#[.slice G 13 g] ++ Builtin.zeroCells #[.slice none 0 0] ((Question.appendCap 1 0 22).cut (w5.tape w5.drawn (Question.appendCap 1 0 22)) - 1)) 22))
  refine (name_about.calls 100 16 _ _ [49 :: 11 :: e77.f4] b07 0 _ (C_row1 kB (cs := [.slice G 13 g]) (more := (Builtin.zeroCells #[.slice none 0 0] ((Question.appendCap 1 0 22).cut (w5.tape w5.drawn (Question.appendCap 1 0 22)) - 1)).toList) (kB.K_below hb2 (kB_mk HG.out.2.1 HG.out.2.2)) ((at_alloc _ _ _ (by show (w5.heap.push _).size = _; simp)).trans (congrArg (fun z => some (Obj.cells z 22 (0, 0))) (arr_app #[.slice G 13 g] _)))) (Nat.le_add_right 1 _) HZ.out).mono ?_
  rintro e w6 ⟨v6, ev, rfl, hev, ho, hb⟩
  obtain rfl := EV.nil_of hev rfl
  obtain ⟨I, i, rfl⟩ := Kd.R_slice ho
  have HI := Aside0.mk (Kd.R_reads' ho)
  have HB6 := Aside0.mk (below_step (below_step HB5.out hb2) hb)
  clear ho hb hb2 HB5 HG HZ hev
  go_wp2_with fail
  go_ret2
  exact ⟨_, _, rfl, HI.out.2.1, HI.out.2.2, HB6.out⟩
set_option maxRecDepth 100000 in
set_option maxHeartbeats 4000000 in
theorem Build_at (w : World) (A : Option Addr) (c : Nat) (hA : Kd.C (Kd.slice 64 k64) w A 1 n07) (hc : 1 ≤ c) (hD : Hd w) :
    Calls Tryz.prog 41 #[.slice A 1 c] w fun e w' => ∃ V v, e = .returned (.tuple #[.slice V 15 v, .int .i64 0]) ∧ 15 ≤ v ∧ Kd.C (Kd.int .u8) w' V 15 b07 ∧ Below w.heap.size w w' := by
  have HD := Aside0.mk hD
  clear hD
  go_enter Tryz.func41, Tryz.ntmps41
  go_wp2_with fail
  refine (build_at _ A c hA hc).mono ?_
  rintro e w1 ⟨X, x, rfl, hx, hC, hb⟩
  have HC := Aside0.mk hC
  have HB := Aside0.mk hb
  have HD1 := Aside0.mk (HD.out.below hb)
  clear hC hb HD
  go_wp2_with fail
  refine (name_number_ev EV.nil _ HD1.out).mono ?_
  rintro e w2 ⟨rfl, hb⟩
  have HC2 := Aside0.mk (Kd.C_below HC.out hb)
  have HB2 := Aside0.mk (below_step HB.out hb)
  clear hb HC HB
  go_wp2_with fail
  go_ret2
  exact ⟨_, _, rfl, hx, HC2.out, HB2.out⟩
end Go.Proofs.YtkioddjjfifadaaGreatDoor.P
namespace Go.Proofs.YtkioddjjfifadaaGreatDoor.P
open Go.RowKit Go.Proofs.YtkioddjjfifadaaGreatDoorW.PrintWords Go.Proofs.YtkioddjjfifadaaGreatDoorW.PrintLast Go.Proofs.YtkioddjjfifadaaGreatDoorW.PrintMore
attribute [local go_sem] max2_int min2_int max_two min_two max_three min_three max_four min_four
set_option linter.unusedVariables false
set_option linter.unusedSimpArgs false
def chirographlaw07_num.f (a0 : Int) : Option (Int) := some a0
set_option maxHeartbeats 8000000 in
set_option maxRecDepth 100000 in
theorem chirographlaw07_num.calls (a0 : Int) (r : Int) (w : World) (h : chirographlaw07_num.f a0 = some r) :
    Calls Tryz.prog 37 #[.int .i64 a0] w fun e w' => e = .returned (.int .i64 r) ∧ Drawn0 w w' := by
  have H : (some a0) = some r := h
  clear h
  obtain rfl := Option.some.inj H
  go_enter Tryz.func37, Tryz.ntmps37
  go_wp2
  go_ret
  exact ⟨by first | rfl | (simp; done) | (simp [*]; done), by repeat (first | exact Drawn0.refl _ | apply Drawn0.step)⟩
end Go.Proofs.YtkioddjjfifadaaGreatDoor.P
set_option linter.unusedVariables false
set_option linter.unusedSimpArgs false
namespace Go.Proofs.YtkioddjjfifadaaGreatDoor.P
open Go.RowKit Go.Proofs.YtkioddjjfifadaaGreatDoorW.PrintWords Go.Proofs.YtkioddjjfifadaaGreatDoorW.PrintLast Go.Proofs.YtkioddjjfifadaaGreatDoorW.PrintMore
theorem old0 {w : World} {a : Addr} {v : Value} (h : w.cell? a = some v) (m : Nat) : (w.drewN m).cell? a = some v := h
theorem old1 {w : World} {a : Addr} {v : Value} (h : w.cell? a = some v) (m : Nat) (o : Obj) : ((w.drewN m).alloc o).cell? a = some v :=
  (World.cell?_alloc_some (w.drewN m) a o (by rw [old0 h m]; rfl)).trans (old0 h m)
theorem old2 {w : World} {a : Addr} {v : Value} (h : w.cell? a = some v) (m : Nat) (o o' : Obj) : (((w.drewN m).alloc o).alloc o').cell? a = some v :=
  (World.cell?_alloc_some ((w.drewN m).alloc o) a o' (by rw [old1 h m o]; rfl)).trans (old1 h m o)
theorem two_cell (w : World) (m i : Nat) (Z : Array Value) (t : TypeId) (o : Obj) : (((w.drewN m).alloc (.cells Z t)).alloc o).cell? ⟨w.heap.size, i, none⟩ = Z[i]? := World.cell?_alloc2_first (w := w.drewN m) Z t o i
theorem two_frozen (w : World) (m i : Nat) (Z : Array Value) (t : TypeId) (o : Obj) : (((w.drewN m).alloc (.cells Z t)).alloc o).frozen? ⟨w.heap.size, i, none⟩ = false := World.frozen?_alloc2_first (w := w.drewN m) Z t o i
theorem two_set (w : World) (m i : Nat) (Z : Array Value) (t : TypeId) (o : Obj) (v : Value) : (((w.drewN m).alloc (.cells Z t)).alloc o).setCell ⟨w.heap.size, i, none⟩ v = ((w.drewN m).alloc (.cells (Z.setIfInBounds i v) t)).alloc o :=
  (World.setCell_alloc_past (w := (w.drewN m).alloc (.cells Z t)) o w.heap.size i v (by show w.heap.size < (w.heap.push _).size; simp)).trans (congrArg (fun z => World.alloc z o) (World.setCell_alloc_at (w := w.drewN m) Z t w.heap.size i v rfl))
theorem old1z {w : World} {a : Addr} {v : Value} (h : w.cell? a = some v) (o : Obj) : (w.alloc o).cell? a = some v := (World.cell?_alloc_some w a o (by rw [h]; rfl)).trans h
theorem old2z {w : World} {a : Addr} {v : Value} (h : w.cell? a = some v) (o o' : Obj) : ((w.alloc o).alloc o').cell? a = some v := (World.cell?_alloc_some (w.alloc o) a o' (by rw [old1z h o]; rfl)).trans (old1z h o)
theorem two_cellz (w : World) (i : Nat) (Z : Array Value) (t : TypeId) (o : Obj) : ((w.alloc (.cells Z t)).alloc o).cell? ⟨w.heap.size, i, none⟩ = Z[i]? := World.cell?_alloc2_first (w := w) Z t o i
theorem two_frozenz (w : World) (i : Nat) (Z : Array Value) (t : TypeId) (o : Obj) : ((w.alloc (.cells Z t)).alloc o).frozen? ⟨w.heap.size, i, none⟩ = false := World.frozen?_alloc2_first (w := w) Z t o i
theorem two_setz (w : World) (i : Nat) (Z : Array Value) (t : TypeId) (o : Obj) (v : Value) : ((w.alloc (.cells Z t)).alloc o).setCell ⟨w.heap.size, i, none⟩ v = (w.alloc (.cells (Z.setIfInBounds i v) t)).alloc o :=
  (World.setCell_alloc_past (w := w.alloc (.cells Z t)) o w.heap.size i v (by show w.heap.size < (w.heap.push _).size; simp)).trans (congrArg (fun z => World.alloc z o) (World.setCell_alloc_at (w := w) Z t w.heap.size i v rfl))
set_option maxHeartbeats 8000000 in
set_option maxRecDepth 100000 in
theorem equal_same (w : World) (A B : Option Addr) (c d : Nat) (n : List (List S64)) (hA : Kd.C (Kd.slice 64 k64) w A n.length n) (hB : Kd.C (Kd.slice 64 k64) w B n.length n) (hn : n.length ≤ 200) (hs : ∀ s ∈ n, s.length ≤ 200 ∧ ∀ p ∈ s, p.f2.length ≤ 8192)
    (hsb : ∀ s ∈ n, ∀ p ∈ s, chirographref01_SameBytes.f 10000 p.f2 p.f2 = some true) :
    Calls Tryz.prog 32 #[.slice A n.length c, .slice B n.length d] w fun e w' => e = .returned (.bool true) ∧ Below w.heap.size w w' := by
  have hu64 := Tryz.underlying64
  have HA := Aside0.mk hA
  have HD := Aside0.mk hB
  have HN := Aside0.mk hn
  have HS := Aside0.mk hs
  have HSB := Aside0.mk hsb
  have HB0 := Aside0.mk (Below.refl w.heap.size w)
  clear hA hB hn hs hsb
  go_enter Tryz.func32, Tryz.ntmps32
  go_wp2_with fail
  go_loopg [5] (n.length + 1) (fun kq v5 w' => ∃ (i : Nat), v5 = .int .i64 (i : Int) ∧ Aside0 (i ≤ n.length ∧ n.length < kq + i) ∧ Aside0 (Below w.heap.size w w'))
  case atStart => exact ⟨0, rfl, ⟨⟨Nat.zero_le _, by omega⟩⟩, HB0⟩
  case round =>
    clear HB0
    obtain ⟨i, rfl, HI, HB⟩ := hrel
    cases gk with
    | zero => exact absurd HI.out (by omega)
    | succ g1 =>
      by_cases hi : i < n.length
      rotate_left
      · have c1 : decide ((i : Int) < (n.length : Int)) = false := decide_eq_false (by omega)
        go_wp2_with fail
        go_ret
        exact ⟨by first | rfl | trace_state, HB.out⟩
      have c1 : decide ((i : Int) < (n.length : Int)) = true := decide_eq_true (by omega)
      have p1 : ((0 : Int) ≤ (i : Int)) = True := eq_true (by omega)
      have q1 : ((i : Int) < (n.length : Int)) = True := eq_true (by omega)
      obtain ⟨ad, A1, a1, rfl, hx, la, hC⟩ := at_L5 HA.out (i : Int) (by omega) (by omega)
      obtain ⟨bd, B1, b1, rfl, hy, lb, hD⟩ := at_L5 HD.out (i : Int) (by omega) (by omega)
      have hmem : rd_L5 n (i : Int) ∈ n := by
        unfold rd_L5
        rw [Int.toNat_natCast, List.getD_eq_getElem?_getD, List.getElem?_eq_getElem hi]
        exact List.getElem_mem _
      have HX0 := Aside0.mk hx
      have HY0 := Aside0.mk hy
      replace hx := (HB.out.cell (World.block_lt_of_cell? w _ hx)).trans hx
      replace hy := (HB.out.cell (World.block_lt_of_cell? w _ hy)).trans hy
      rw [Int.toNat_natCast] at hx hy
      have HSI := Aside0.mk (HS.out _ hmem)
      have HSBI := Aside0.mk (HSB.out _ hmem)
      have HC := Aside0.mk hC
      have HE := Aside0.mk hD
      clear hmem hC hD la lb
      generalize rd_L5 n (i : Int) = s at *
      have hw : wrap64 ((i : Int) + 1) = ((i + 1 : Nat) : Int) := by unfold wrap64; have := HN.out; omega
      go_wp2_with fail
      go_quiet (fail)
      go_wp2_with fail
      go_loopg [6] (s.length + 1) (fun kq v6 w' => ∃ (j : Nat), v6 = .int .i64 (j : Int) ∧ Aside0 (j ≤ s.length ∧ s.length < kq + j) ∧ Aside0 (Below w.heap.size w w'))
      case atStart => exact ⟨0, rfl, ⟨⟨Nat.zero_le _, by omega⟩⟩, ⟨pw_below_drewN HB.out _⟩⟩
      case round =>
        obtain ⟨j, rfl, HJ, HB2⟩ := hrel
        clear HB hx hy
        have hx := (HB2.out.cell (World.block_lt_of_cell? w _ HX0.out)).trans HX0.out
        have hy := (HB2.out.cell (World.block_lt_of_cell? w _ HY0.out)).trans HY0.out
        rw [Int.toNat_natCast] at hx hy
        cases gk with
        | zero => exact absurd HJ.out (by omega)
        | succ g2 =>
          by_cases hj : j < s.length
          rotate_left
          · have c2 : decide ((j : Int) < (s.length : Int)) = false := decide_eq_false (by omega)
            go_wp2_with fail
            go_roundg g1
            case measure => exact Nat.lt_succ_self _
            case rel => exact ⟨i + 1, congrArg (Value.int .i64) hw, ⟨by have := HI.out; omega⟩, HB2⟩
          have c2 : decide ((j : Int) < (s.length : Int)) = true := decide_eq_true (by omega)
          have p2 : ((0 : Int) ≤ (j : Int)) = True := eq_true (by omega)
          have q2 : ((j : Int) < (s.length : Int)) = True := eq_true (by omega)
          obtain ⟨ad2, X, x, rfl, h0, h1, h2, lx, hX⟩ := at_T64 HC.out (j : Int) (by omega) (by omega)
          obtain ⟨bd2, Y, y, rfl, k0, k1, k2, ly, hY⟩ := at_T64 HE.out (j : Int) (by omega) (by omega)
          have hmem : rd_T64 s (j : Int) ∈ s := by
            unfold rd_T64
            rw [Int.toNat_natCast, List.getD_eq_getElem?_getD, List.getElem?_eq_getElem hj]
            exact List.getElem_mem _
          have HP := Aside0.mk (HSBI.out _ hmem)
          have lt1 := World.block_lt_of_cell? w _ h0
          have lt2 := World.block_lt_of_cell? w _ k0
          replace h0 := (HB2.out.cell (World.block_lt_of_cell? w _ h0)).trans h0
          replace h1 := (HB2.out.cell (World.block_lt_of_cell? w _ h1)).trans h1
          replace h2 := (HB2.out.cell (World.block_lt_of_cell? w _ h2)).trans h2
          replace k0 := (HB2.out.cell (World.block_lt_of_cell? w _ k0)).trans k0
          replace k1 := (HB2.out.cell (World.block_lt_of_cell? w _ k1)).trans k1
          replace k2 := (HB2.out.cell (World.block_lt_of_cell? w _ k2)).trans k2
          rw [Int.toNat_natCast] at h0 h1 h2 k0 k1 k2
          have HX := Aside0.mk (Kd.C_below hX HB2.out)
          have HY := Aside0.mk (Kd.C_below hY HB2.out)
          have LX := Aside0.mk lx
          have LY := Aside0.mk ly
          clear hmem hX hY lx ly
          generalize rd_T64 s (j : Int) = p at *
          have hw2 : wrap64 ((j : Int) + 1) = ((j + 1 : Nat) : Int) := by unfold wrap64; have := HSI.out.1; omega
          go_wp2_with fail
          have q0_ := old1 hx
          have r0_ := old2 hx
          have s0_ := old1z hx
          have t0_ := old2z hx
          have q1_ := old1 hy
          have r1_ := old2 hy
          have s1_ := old1z hy
          have t1_ := old2z hy
          have q2_ := old1 h0
          have r2_ := old2 h0
          have s2_ := old1z h0
          have t2_ := old2z h0
          have q3_ := old1 h1
          have r3_ := old2 h1
          have s3_ := old1z h1
          have t3_ := old2z h1
          have q4_ := old1 h2
          have r4_ := old2 h2
          have s4_ := old1z h2
          have t4_ := old2z h2
          have q5_ := old1 k0
          have r5_ := old2 k0
          have s5_ := old1z k0
          have t5_ := old2z k0
          have q6_ := old1 k1
          have r6_ := old2 k1
          have s6_ := old1z k1
          have t6_ := old2z k1
          have q7_ := old1 k2
          have r7_ := old2 k2
          have s7_ := old1z k2
          have t7_ := old2z k2
          have sc := two_cell wr
          have sf := two_frozen wr
          have sw := two_set wr
          have sc0 := two_cellz wr
          have sf0 := two_frozenz wr
          have sw0 := two_setz wr
          go_big_region
          all_goals clear hx hy h0 h1 h2 k0 k1 k2 q0_ r0_ s0_ t0_ q1_ r1_ s1_ t1_ q2_ r2_ s2_ t2_ q3_ r3_ s3_ t3_ q4_ r4_ s4_ t4_ q5_ r5_ s5_ t5_ q6_ r6_ s6_ t6_ q7_ r7_ s7_ t7_ sc sf sw sc0 sf0 sw0
          all_goals
            go_wp2_with fail
            refine (chirographref01_SameBytes.calls 10000 _ _ p.f2 _ _ p.f2 true _ (by exact Kd.C_u HX.out) LX.out (by exact Kd.C_u HY.out) LY.out HP.out).mono ?_
            rintro e w1 ⟨rfl, ⟨nd, rfl⟩⟩
            go_wp2_with fail
            go_roundg g2
            case measure => exact Nat.lt_succ_self _
            case rel => exact ⟨j + 1, congrArg (Value.int .i64) hw2, ⟨by have := HJ.out; omega⟩, ⟨by repeat (first | exact HB2.out | apply pw_below_drewN | apply below_drew1 | apply below_alloc)⟩⟩
end Go.Proofs.YtkioddjjfifadaaGreatDoor.P
set_option linter.unusedVariables false
set_option linter.unusedSimpArgs false
namespace Go.Proofs.YtkioddjjfifadaaGreatDoor.P
open Go.RowKit Go.Proofs.YtkioddjjfifadaaGreatDoorW.PrintWords Go.Proofs.YtkioddjjfifadaaGreatDoorW.PrintLast Go.Proofs.YtkioddjjfifadaaGreatDoorW.PrintMore
set_option maxHeartbeats 4000000 in
set_option maxRecDepth 100000 in
theorem fits_68 (w : World) : Calls Tryz.prog 205 #[.int .i64 19, .int .u8 68] w fun e w' => e = .returned (.bool true) ∧ w' = w := by
  go_enter Tryz.func205, Tryz.ntmps205
  go_wp2_with fail
  go_ret
  exact ⟨rfl, rfl⟩
set_option maxHeartbeats 4000000 in
set_option maxRecDepth 100000 in
theorem fits_69 (w : World) : Calls Tryz.prog 205 #[.int .i64 19, .int .u8 69] w fun e w' => e = .returned (.bool true) ∧ w' = w := by
  go_enter Tryz.func205, Tryz.ntmps205
  go_wp2_with fail
  go_ret
  exact ⟨rfl, rfl⟩
theorem de_open {w : World} {X : Option Addr} (h : Kd.C (Kd.int .u8) w X 2 [68, 69]) : ∃ g o, X = some ⟨g, o, none⟩ ∧ w.cell? ⟨g, o, none⟩ = some (.int .u8 68) ∧ w.cell? ⟨g, o + 1, none⟩ = some (.int .u8 69) := by
  obtain ⟨ad, cs, rfl, hl, hK, hc⟩ := Kd.C_get h 0 0 (Int.le_refl _) (by decide)
  obtain ⟨ad', cs', e, hl', hK', hc'⟩ := Kd.C_get h 0 1 (by decide) (by decide)
  obtain rfl := Option.some.inj e
  have e0 : cs = [.int .u8 68] := hK
  have e1 : cs' = [.int .u8 69] := hK'
  subst e0
  subst e1
  have h0 := hc 0 _ rfl
  have h1 := hc' 0 _ rfl
  rw [show (0 : Int).toNat * (Kd.int .u8).sz + 0 = 0 from rfl, Addr.add_zero'] at h0
  have hs := World.cell?_spot h0
  cases ad with
  | mk b o s =>
    simp only at hs
    subst hs
    exact ⟨b, o, rfl, h0, h1⟩
set_option maxHeartbeats 4000000 in
set_option maxRecDepth 100000 in
theorem text_at (w : World) (X : Option Addr) (x : Nat) (hx : 2 ≤ x) (hX : Kd.C (Kd.int .u8) w X 2 [68, 69]) :
    Calls Tryz.prog 153 #[.int .i64 19, .slice X 2 x] w fun e w' => e = .returned (.tuple #[.string ⟨#[68, 69]⟩, .int .i64 0]) ∧ Below w.heap.size w w' := by
  have HX := Aside0.mk hX
  have HB := Aside0.mk (Below.refl w.heap.size w)
  obtain ⟨g, o, rfl, h0, h1⟩ := de_open hX
  clear hX
  have hcs := Kd.C_string (P := Tryz.prog) (c := x) Tryz.underlying22 Tryz.underlying5 Tryz.underlying9 HX.out
  go_enter Tryz.func153, Tryz.ntmps153
  go_wp2_with fail
  refine wp_loop_rounds 3 ?_
  rw [rounds_succ]
  go_wp2_with fail
  refine (fits_68 _).mono ?_
  rintro e w1 ⟨rfl, rfl⟩
  go_wp2_with fail
  rw [rounds_succ]
  go_wp2_with fail
  refine (fits_69 _).mono ?_
  rintro e w1 ⟨rfl, rfl⟩
  go_wp2_with fail
  rw [rounds_succ]
  go_wp2_with fail
  go_ret2
  exact ⟨by first | rfl | trace_state, HB.out⟩
end Go.Proofs.YtkioddjjfifadaaGreatDoor.P
set_option linter.unusedVariables false
set_option linter.unusedSimpArgs false
namespace Go.Proofs.YtkioddjjfifadaaGreatDoor.P
open Go.RowKit Go.Proofs.YtkioddjjfifadaaGreatDoorW.PrintWords Go.Proofs.YtkioddjjfifadaaGreatDoorW.PrintLast Go.Proofs.YtkioddjjfifadaaGreatDoorW.PrintMore
set_option maxHeartbeats 4000000 in
set_option maxRecDepth 100000 in
theorem value_at (w : World) (a : ByteArray) (X : Option Addr) (x : Nat) (hx : 2 ≤ x) (hX : Kd.C (Kd.int .u8) w X 2 [68, 69]) :
    Calls Tryz.prog 87 #[.agg #[.string a, .int .i64 19, .slice X 2 x]] w fun e w' => e = .returned (.string ⟨#[68, 69]⟩) ∧ Below w.heap.size w w' := by
  have HX := Aside0.mk hX
  have hi0 : strings_IndexByte.f ⟨#[34, 43, 44, 59, 60, 62, 61, 92]⟩ 68 = some (-1) := by kernel_rfl
  have hi1 : strings_IndexByte.f ⟨#[34, 43, 44, 59, 60, 62, 61, 92]⟩ 69 = some (-1) := by kernel_rfl
  have HI0 := Aside0.mk hi0
  have HI1 := Aside0.mk hi1
  clear hX hi0 hi1
  have hu64 := Tryz.underlying64
  go_enter Tryz.func87, Tryz.ntmps87
  go_wp2_with fail
  have HB0 := Aside0.mk (below_alloc (Below.refl w.heap.size w) (.cells #[.string a, .int .i64 19, .slice X 2 x] 64))
  refine (text_at _ X x hx (Kd.C_below HX.out HB0.out)).mono ?_
  rintro e w1 ⟨rfl, hb⟩
  have HB := Aside0.mk (below_step HB0.out hb)
  clear hb HB0 HX
  go_wp2_with fail
  refine wp_loop_rounds 3 ?_
  rw [rounds_succ]
  go_wp2_with fail
  refine (strings_IndexByte.calls _ 68 (-1) _ HI0.out).mono ?_
  rintro e w2 ⟨rfl, hb⟩
  have HB2 := Aside0.mk (below_step HB.out hb)
  clear hb HB HI0
  go_wp2_with ((with_reducible refine gate_builtin (b := .append) (xs := #[.tmp 50, .tmp 52]) rfl ?_); at_builtin; refine Kd.R_append (Kd.int .u8) (w0 := w) w.heap.size rfl (.tmp 50) (.tmp 52) 22 5 (.int .u8 0) 1 rfl Tryz.underlying22 info5 rfl (by decide) (by omega) (.slice none 0 0) [] 68 [.int .u8 68] (fun _ => True) (fun _ => False) rfl rfl ?aP (fun _ hk => hk.elim) ?aF ?aO ?aB ?aS ?aL ?_; (case aP => exact rfl); (case aF => exact (fun _ _ => trivial)); (case aO => exact Kd.R_nil _ _ _ _ _); (case aB => exact HB2.out); (case aS => exact (below_size HB2.out)); (case aL => decide); intro v5 w3 ho hb hgr hat; have HO := Aside0.mk ho; have HB := Aside0.mk hb; clear ho hb hgr hat HB2)
  rw [rounds_succ]
  go_wp2_with fail
  refine (strings_IndexByte.calls _ 69 (-1) _ HI1.out).mono ?_
  rintro e w4 ⟨rfl, hb⟩
  have HB2 := Aside0.mk (below_step HB.out hb)
  have HO2 := Aside0.mk (Kd.R_below HO.out hb)
  clear hb HB HI1 HO
  go_wp2_with ((with_reducible refine gate_builtin (b := .append) (xs := #[.tmp 50, .tmp 52]) rfl ?_); at_builtin; refine Kd.R_append (Kd.int .u8) (w0 := w) w.heap.size rfl (.tmp 50) (.tmp 52) 22 5 (.int .u8 0) 1 rfl Tryz.underlying22 info5 rfl (by decide) (by omega) v5 ([] ++ [68]) 69 [.int .u8 69] (fun _ => True) (fun _ => False) rfl rfl ?aP (fun _ hk => hk.elim) ?aF ?aO ?aB ?aS ?aL ?_; (case aP => exact rfl); (case aF => exact (fun _ _ => trivial)); (case aO => exact HO2.out); (case aB => exact HB2.out); (case aS => exact (below_size HB2.out)); (case aL => decide); intro v6 w5 ho hb hgr hat; have HO := Aside0.mk ho; have HB := Aside0.mk hb; clear ho hb hgr hat HB2)
  rw [rounds_succ]
  obtain ⟨A, c, hv4⟩ := Kd.R_slice HO.out
  subst hv4
  have hcs := Kd.C_string (P := Tryz.prog) (c := c) Tryz.underlying22 Tryz.underlying5 Tryz.underlying9 (show Kd.C (Kd.int .u8) w5 A 2 [68, 69] from (Kd.R_reads' HO.out).2.2)
  go_wp2_with fail
  go_ret
  exact ⟨by first | rfl | trace_state, HB.out⟩
end Go.Proofs.YtkioddjjfifadaaGreatDoor.P
namespace Go.Proofs
open Go.Shelf Go.RowKit
def Tryz.laysRev_ren : Go.Shelf.Ren := ⟨fun | 17 => 89 | n => n, fun | 24 => 102 | n => n, fun | n => n⟩
theorem Tryz.laysRev : Go.Proofs.Lays2.n17 Tryz.prog Tryz.laysRev_ren := {
  mixed := by kernel_rfl
  f17 := Tryz.func89.trans (congrArg some (by kernel_rfl))
  t0 := Tryz.underlying0
  a0 := Tryz.isAgg0
  z0 := Tryz.sizeOf0
  v0 := Tryz.zeroValue0
  t3 := Tryz.underlying3
  a3 := Tryz.isAgg3
  z3 := Tryz.sizeOf3
  v3 := Tryz.zeroValue3
  t4 := Tryz.underlying4
  a4 := Tryz.isAgg4
  z4 := Tryz.sizeOf4
  v4 := Tryz.zeroValue4
  t9 := Tryz.underlying9
  a9 := Tryz.isAgg9
  z9 := Tryz.sizeOf9
  v9 := Tryz.zeroValue9
  t24 := Tryz.underlying102
  a24 := Tryz.isAgg102
  z24 := Tryz.sizeOf102
  v24 := Tryz.zeroValue102
 }
theorem Tryz.slices_Reverse_string (blk off cap : Nat) (zs : List (List UInt8)) (w : World) (hH : Go.Sort.Holds encStr w blk off zs.toArray) (hsz : zs.length ≤ 9223372036854775807) :
    Calls Tryz.prog 89 #[.slice (some ⟨blk, off, none⟩) zs.length cap] w fun e w' => e = .returned (.tuple #[]) ∧ ∃ n, w' = Go.Sort.putRow encStr (Go.Sort.ahead w n) blk off zs.reverse.toArray := Any.slices_Reverse_string Tryz.laysRev blk off cap zs w hH hsz
theorem Tryz.slices_Reverse_string_empty (a : Option Addr) (cap : Nat) (w : World) :
    Calls Tryz.prog 89 #[.slice a 0 cap] w fun e w' => e = .returned (.tuple #[]) ∧ w' = w := Any.slices_Reverse_string_empty Tryz.laysRev a cap w
end Go.Proofs
namespace Go.Proofs.YtkioddjjfifadaaGreatDoor.P
open Go.RowKit Go.Proofs.YtkioddjjfifadaaGreatDoorW.PrintWords Go.Proofs.YtkioddjjfifadaaGreatDoorW.PrintLast Go.Proofs.YtkioddjjfifadaaGreatDoorW.PrintMore
def slices_Reverse.f (xs : List ByteArray) : Option (List ByteArray) := if xs.length < 4611686018427387904 then some xs.reverse else none
theorem rev_own (w0 : World) (v : Value) (xs r : List ByteArray) (w : World) (hR : Kd.string.R 9 w w0.heap.size (fun _ => True) v xs) (h0 : Below w0.heap.size w0 w) (h : slices_Reverse.f xs = some r) :
    Calls Tryz.prog 89 #[v] w fun e w' => e = .returned (.tuple #[]) ∧ Kd.string.R 9 w' w0.heap.size (fun _ => True) v r ∧ Below w0.heap.size w0 w' := by
  unfold slices_Reverse.f at h
  split at h
  case isFalse => cases h
  case isTrue hl =>
  obtain rfl := Option.some.inj h
  have ho := Kd.own_of_R hR
  rcases ho.2 with ⟨rfl, hn⟩ | ⟨g, cap, cur, rfl, hg, hh, hnc, hcm, hsz, htk⟩
  · have hx : xs = [] := List.eq_nil_of_length_eq_zero hn
    subst hx
    refine (Tryz.slices_Reverse_string_empty none 0 w).mono ?_
    rintro e w' ⟨rfl, rfl⟩
    exact ⟨rfl, hR, h0⟩
  have hcur : ∀ j, j < xs.length → cur[j]? = some (Value.string (xs[j]!)) := fun j hj => by
    have h1 : (cur.toList.take (xs.length * 1))[j]? = (encs Value.string xs)[j]? := by rw [htk]
    rw [List.getElem?_take_of_lt (by omega)] at h1
    rw [← Array.getElem?_toList, h1]
    simp [encs, List.getElem?_eq_getElem hj, getElem!_pos xs j hj]
  have hlt : g < w.heap.size := blk_lt hh
  have hH : Go.Sort.Holds Go.Proofs.encStr w g 0 (xs.map fun b => b.data.toList).toArray := fun j hj => by
    have hj' : j < xs.length := by simpa using hj
    refine ⟨?_, blk_frozen hh _⟩
    rw [Nat.zero_add]
    refine (blk_cell hh j).trans ?_
    rw [hcur j hj']
    simp [hj']
  refine (show Calls Tryz.prog 89 #[.slice (some ⟨g, 0, none⟩) xs.length cap] w _ from ?_)
  have hc := Tryz.slices_Reverse_string g 0 cap (xs.map fun b => b.data.toList) w hH (by rw [List.length_map]; omega)
  rw [List.length_map] at hc
  refine hc.mono ?_
  rintro e w' ⟨rfl, n, rfl⟩
  generalize hss : ((xs.map fun b => b.data.toList).reverse : List (List UInt8)) = ss
  have hsl : ss.length = xs.length := by rw [← hss]; simp
  have hsb : xs.reverse = ss.map fun l => (⟨l.toArray⟩ : ByteArray) := by rw [← hss]; simp [← List.map_reverse, List.map_map, Function.comp_def]
  rw [hsb]
  have hgr : w.grownBy (Go.Sort.putRow Go.Proofs.encStr (Go.Sort.ahead w n) g 0 ss.toArray) (some g) := by
    refine ⟨rfl, rfl, rfl, ?_, fun k hk hne => ?_⟩
    rotate_left
    · show (w.heap.modify g _)[k]? = _
      rw [Array.getElem?_modify, if_neg (fun e => hne (by rw [e]))]
    rw [Go.Sort.size_putRow]
    exact Nat.le_refl _
  refine ⟨rfl, Kd.R_of_own ⟨by simp [encs], Or.inr ⟨g, cap, Go.Sort.putCells Go.Proofs.encStr 0 ss.toArray cur, by rw [List.length_map, hsl], hg, ?_, by rw [List.length_map, hsl]; exact hnc, hcm, by simp [Go.Sort.putCells]; simpa using hsz, ?_⟩⟩ (fun _ _ => trivial), pw_below_grown h0 _ h0.size hgr (fun k hk => by injection hk with hk; omega)⟩
  · show (w.heap.modify g _)[g]? = _
    rw [Array.getElem?_modify, if_pos rfl, hh]
    rfl
  rw [List.length_map, Nat.mul_one]
  apply List.ext_getElem?
  intro j
  by_cases hj : j < ss.length
  rotate_left
  · rw [List.getElem?_eq_none (by rw [List.length_take]; omega), List.getElem?_eq_none (by simp [encs]; omega)]
  rw [List.getElem?_take_of_lt hj, Array.getElem?_toList]
  have hcl : j < cur.size := by omega
  simp [Go.Sort.putCells, hcl, hj, encs]
end Go.Proofs.YtkioddjjfifadaaGreatDoor.P
namespace Go.Proofs.YtkioddjjfifadaaGreatDoor.P
open Go.RowKit Go.Proofs.YtkioddjjfifadaaGreatDoorW.PrintWords Go.Proofs.YtkioddjjfifadaaGreatDoorW.PrintLast Go.Proofs.YtkioddjjfifadaaGreatDoorW.PrintMore
attribute [local go_sem] max2_int min2_int max_two min_two max_three min_three max_four min_four
set_option linter.unusedVariables false
set_option linter.unusedSimpArgs false
def chirographref07_letters.f (a0 : ByteArray) : Option (ByteArray) := if a0.toList = ([50, 46, 53, 46, 52, 46, 51] : List UInt8) then (some (⟨#[67, 78]⟩ : ByteArray)) else (if a0.toList = ([50, 46, 53, 46, 52, 46, 54] : List UInt8) then (some (⟨#[67]⟩ : ByteArray)) else (if a0.toList = ([50, 46, 53, 46, 52, 46, 55] : List UInt8) then (some (⟨#[76]⟩ : ByteArray)) else (if a0.toList = ([50, 46, 53, 46, 52, 46, 56] : List UInt8) then (some (⟨#[83, 84]⟩ : ByteArray)) else (if a0.toList = ([50, 46, 53, 46, 52, 46, 49, 48] : List UInt8) then (some (⟨#[79]⟩ : ByteArray)) else (if a0.toList = ([50, 46, 53, 46, 52, 46, 49, 49] : List UInt8) then (some (⟨#[79, 85]⟩ : ByteArray)) else (if a0.toList = ([49, 46, 50, 46, 56, 52, 48, 46, 49, 49, 51, 53, 52, 57, 46, 49, 46, 57, 46, 49] : List UInt8) then (some (⟨#[69]⟩ : ByteArray)) else (some a0)))))))
end Go.Proofs.YtkioddjjfifadaaGreatDoor.P
namespace Go.Proofs.YtkioddjjfifadaaGreatDoor.P
open Go.RowKit Go.Proofs.YtkioddjjfifadaaGreatDoorW.PrintWords Go.Proofs.YtkioddjjfifadaaGreatDoorW.PrintLast Go.Proofs.YtkioddjjfifadaaGreatDoorW.PrintMore
def letE (k v : ByteArray) (n : Nat) : MapEntry := { key := .string k, val := .agg #[.string v], born := n }
def letEs : Array MapEntry := #[letE ⟨#[50, 46, 53, 46, 52, 46, 51]⟩ ⟨#[67, 78]⟩ 0, letE ⟨#[50, 46, 53, 46, 52, 46, 54]⟩ ⟨#[67]⟩ 1, letE ⟨#[50, 46, 53, 46, 52, 46, 55]⟩ ⟨#[76]⟩ 2, letE ⟨#[50, 46, 53, 46, 52, 46, 56]⟩ ⟨#[83, 84]⟩ 3, letE ⟨#[50, 46, 53, 46, 52, 46, 49, 48]⟩ ⟨#[79]⟩ 4, letE ⟨#[50, 46, 53, 46, 52, 46, 49, 49]⟩ ⟨#[79, 85]⟩ 5, letE ⟨#[49, 46, 50, 46, 56, 52, 48, 46, 49, 49, 51, 53, 52, 57, 46, 49, 46, 57, 46, 49]⟩ ⟨#[69]⟩ 6]
def LetMap (w : World) (m : Nat) : Prop := w.heap[m]? = some (.map letEs 7)
theorem mk_run (w : World) : (Instr.makeMap 146 none).run Tryz.prog w = .ok (.map (some w.heap.size)) (w.alloc (.map #[] 0)) := rfl
theorem chk_run (b : Bool) (k : ByteArray) (w : World) : (Instr.checkKey b 10000 9 (.string k)).run Tryz.prog w = .ok () w := by
  rw [show (10000 : Nat) = 9999 + 1 from rfl]
  unfold Instr.checkKey
  simp [run_underlying Tryz.underlying9, Result.andThen]
theorem find_run {es : List MapEntry} (k : ByteArray) (r : Option (Nat × Value)) (hf : Instr.findNow .string (.string k) es 0 = some r) (w : World) : (Instr.findKey 9 (.string k) es).run Tryz.prog w = .ok r w := by
  unfold Instr.findKey
  simp [run_underlying Tryz.underlying9, hf, Result.andThen]
theorem ins_run {w : World} {m c : Nat} {es : Array MapEntry} (k : ByteArray) (v : Value) (hb : w.heap[m]? = some (.map es c)) (hf : Instr.findNow .string (.string k) es.toList 0 = some none) :
    (Instr.mapUpdate 146 (.map (some m)) (.string k) v).run Tryz.prog w = .ok () { w with heap := w.heap.setIfInBounds m (.map (es.push ⟨.string k, v, c⟩) (c + 1)) } := by
  unfold Instr.mapUpdate
  simp [run_underlying Tryz.underlying146, Go.MapKept.run_getObj_map hb, chk_run, find_run k none hf, Go.MapKept.run_setObj_map _ hb, Result.andThen]
theorem ins_ex {w : World} {m c : Nat} {es : Array MapEntry} (k : ByteArray) (v : Value) (hb : w.heap[m]? = some (.map es c)) (hf : Instr.findNow .string (.string k) es.toList 0 = some none) :
    ∃ w' : World, (Instr.mapUpdate 146 (.map (some m)) (.string k) v).run Tryz.prog w = .ok () w' ∧ w'.heap[m]? = some (.map (es.push ⟨.string k, v, c⟩) (c + 1)) ∧ (∀ B w0, B ≤ m → Below B w0 w → Below B w0 w') := by
  refine ⟨_, ins_run k v hb hf, ?_, ?_⟩
  · have hm : m < w.heap.size := by
      rcases Nat.lt_or_ge m w.heap.size with h | h
      rotate_left
      · rw [Array.getElem?_eq_none h] at hb; cases hb
      exact h
    show (w.heap.setIfInBounds m _)[m]? = _
    rw [Array.getElem?_setIfInBounds, if_pos rfl, if_pos hm]
  intro B w0 hB h
  refine ⟨h.os, h.tape, h.output, ?_, ?_⟩
  · show _ ≤ (w.heap.setIfInBounds m _).size
    rw [Array.size_setIfInBounds]
    exact h.size
  intro j hj
  show (w.heap.setIfInBounds m _)[j]? = _
  rw [Array.getElem?_setIfInBounds, if_neg (by omega)]
  exact h.block j hj
def letR : Option (Nat × Value) → Value
  | some (_, v) => v
  | none => .agg #[.string ⟨#[]⟩]
theorem look_run {w : World} {m : Nat} (k : ByteArray) (hb : LetMap w m) (r : Option (Nat × Value)) (hf : Instr.findNow .string (.string k) letEs.toList 0 = some r) :
    (Instr.lookup 146 (.map (some m)) (.string k) true).run Tryz.prog w = .ok (.tuple #[letR r, .bool r.isSome]) w := by
  have hz := Tryz.zeroValue149 w
  have he := Tryz.underlying146
  unfold Instr.lookup
  cases r with
  | none => simp [run_underlying Tryz.underlying146, Go.MapKept.run_getObj_map hb, chk_run, find_run k none hf, hz, Result.andThen, letR]
  | some q => simp [run_underlying Tryz.underlying146, Go.MapKept.run_getObj_map hb, chk_run, find_run k (some q) hf, Result.andThen, letR]
set_option maxHeartbeats 8000000 in
set_option maxRecDepth 100000 in
theorem letters_calls (w : World) : Calls Tryz.prog 86 #[] w fun e w' => ∃ m, e = .returned (.map (some m)) ∧ LetMap w' m ∧ m < w'.heap.size ∧ Below w.heap.size w w' := by
  have e0 := mk_run w
  have h0 : (w.alloc (.map #[] 0)).heap[w.heap.size]? = some (.map #[] 0) := by
    show (w.heap.push _)[w.heap.size]? = _
    rw [Array.getElem?_push_size]
  have b0 : Below w.heap.size w (w.alloc (.map #[] 0)) := below_alloc (Below.refl _ _) _
  generalize w.alloc (.map #[] 0) = W0 at e0 h0 b0
  obtain ⟨W1, e1, h1, x_⟩ := ins_ex ⟨#[50, 46, 53, 46, 52, 46, 51]⟩ (.agg #[.string ⟨#[67, 78]⟩]) h0 (by kernel_rfl)
  have b1 := x_ _ _ (Nat.le_refl _) b0
  clear x_
  obtain ⟨W2, e2, h2, x_⟩ := ins_ex ⟨#[50, 46, 53, 46, 52, 46, 54]⟩ (.agg #[.string ⟨#[67]⟩]) h1 (by kernel_rfl)
  have b2 := x_ _ _ (Nat.le_refl _) b1
  clear x_
  obtain ⟨W3, e3, h3, x_⟩ := ins_ex ⟨#[50, 46, 53, 46, 52, 46, 55]⟩ (.agg #[.string ⟨#[76]⟩]) h2 (by kernel_rfl)
  have b3 := x_ _ _ (Nat.le_refl _) b2
  clear x_
  obtain ⟨W4, e4, h4, x_⟩ := ins_ex ⟨#[50, 46, 53, 46, 52, 46, 56]⟩ (.agg #[.string ⟨#[83, 84]⟩]) h3 (by kernel_rfl)
  have b4 := x_ _ _ (Nat.le_refl _) b3
  clear x_
  obtain ⟨W5, e5, h5, x_⟩ := ins_ex ⟨#[50, 46, 53, 46, 52, 46, 49, 48]⟩ (.agg #[.string ⟨#[79]⟩]) h4 (by kernel_rfl)
  have b5 := x_ _ _ (Nat.le_refl _) b4
  clear x_
  obtain ⟨W6, e6, h6, x_⟩ := ins_ex ⟨#[50, 46, 53, 46, 52, 46, 49, 49]⟩ (.agg #[.string ⟨#[79, 85]⟩]) h5 (by kernel_rfl)
  have b6 := x_ _ _ (Nat.le_refl _) b5
  clear x_
  obtain ⟨W7, e7, h7, x_⟩ := ins_ex ⟨#[49, 46, 50, 46, 56, 52, 48, 46, 49, 49, 51, 53, 52, 57, 46, 49, 46, 57, 46, 49]⟩ (.agg #[.string ⟨#[69]⟩]) h6 (by kernel_rfl)
  have b7 := x_ _ _ (Nat.le_refl _) b6
  clear x_
  have hs : w.heap.size < W7.heap.size := by
    rcases Nat.lt_or_ge w.heap.size W7.heap.size with h | h
    rotate_left
    · rw [Array.getElem?_eq_none h] at h7; cases h7
    exact h
  have H := Aside0.mk h7
  have B := Aside0.mk b7
  clear h0 h1 h2 h3 h4 h5 h6 h7 b0 b1 b2 b3 b4 b5 b6 b7
  go_enter Tryz.func86, Tryz.ntmps86
  go_wp2
  go_ret
  exact ⟨_, rfl, H.out, hs, B.out⟩
end Go.Proofs.YtkioddjjfifadaaGreatDoor.P
set_option linter.unusedVariables false
set_option linter.unusedSimpArgs false
namespace Go.Proofs.YtkioddjjfifadaaGreatDoor.P
open Go.RowKit Go.Proofs.YtkioddjjfifadaaGreatDoorW.PrintWords Go.Proofs.YtkioddjjfifadaaGreatDoorW.PrintLast Go.Proofs.YtkioddjjfifadaaGreatDoorW.PrintMore
set_option maxHeartbeats 4000000 in
set_option maxRecDepth 100000 in
theorem show_at (w : World) (A : Option Addr) (c : Nat) (hA : Kd.C (Kd.slice 64 k64) w A 1 n07) :
    Calls Tryz.prog 43 #[.slice A 1 c] w fun e w' => e = .returned (.string ⟨#[67, 61, 68, 69]⟩) ∧ Below w.heap.size w w' := by
  have hu64 := Tryz.underlying64
  obtain ⟨ad, bd, B1, b, X, x, rfl, rfl, h0, g0, g1, g2, lb, hB1, lx, hX⟩ := n07_open hA
  have HX := Aside0.mk hX
  have hj0 : strings_Join.f [⟨#[67, 61, 68, 69]⟩] ⟨#[43]⟩ = some ⟨#[67, 61, 68, 69]⟩ := by kernel_rfl
  have hj1 : strings_Join.f [⟨#[67, 61, 68, 69]⟩] ⟨#[44]⟩ = some ⟨#[67, 61, 68, 69]⟩ := by kernel_rfl
  have hrv : slices_Reverse.f [(⟨#[67, 61, 68, 69]⟩ : ByteArray)] = some [⟨#[67, 61, 68, 69]⟩] := by kernel_rfl
  have HJ0 := Aside0.mk hj0
  have HJ1 := Aside0.mk hj1
  have HRV := Aside0.mk hrv
  clear hA hB1 hX hj0 hj1 hrv lb
  go_enter Tryz.func43, Tryz.ntmps43
  go_wp2_with fail
  refine (letters_calls _).mono ?_
  rintro e w1 ⟨m, rfl, hm, hlt, hb⟩
  have HB := Aside0.mk hb
  replace h0 := (hb.cell (World.block_lt_of_cell? w _ h0)).trans h0
  replace g0 := (hb.cell (World.block_lt_of_cell? w _ g0)).trans g0
  replace g1 := (hb.cell (World.block_lt_of_cell? w _ g1)).trans g1
  replace g2 := (hb.cell (World.block_lt_of_cell? w _ g2)).trans g2
  have HX1 := Aside0.mk (Kd.C_below HX.out hb)
  have HM := Aside0.mk hm
  have hlk : ∀ W : World, LetMap W m → (Instr.lookup 146 (.map (some m)) (.string p07.f0) true).run Tryz.prog W = .ok (.tuple #[.agg #[.string ⟨#[67]⟩], .bool true]) W := fun W h => look_run p07.f0 h (some (1, .agg #[.string ⟨#[67]⟩])) (by kernel_rfl)
  have hlk1 := hlk _ (show LetMap (w1.alloc (.cells #[.string p07.f0, .int .i64 19, .slice X 2 x] 64)) m from (below_alloc (Below.refl w1.heap.size w1) _).block m hlt |>.trans hm)
  clear hb HX hm hlk
  go_wp2_with fail
  refine wp_loop_rounds 2 ?_
  rw [rounds_succ]
  go_wp2_with fail
  refine wp_loop_rounds 2 ?_
  rw [rounds_succ]
  go_wp2_with fail
  have hb2 := below_alloc (below_alloc (Below.refl w1.heap.size w1) (.cells #[.string p07.f0, .int .i64 19, .slice X 2 x] 64)) (.cells #[.string ⟨#[67]⟩] 149)
  refine (value_at _ p07.f0 X x lx (Kd.C_below HX1.out hb2)).mono ?_
  rintro e w2 ⟨rfl, hb⟩
  have HB2 := Aside0.mk (below_step (below_step HB.out hb2) hb)
  clear hb hb2 HB HX1 hlk1 h0 g0 g1 g2 HM
  go_wp2_with ((with_reducible refine gate_builtin (b := .append) (xs := #[.tmp 37, .tmp 43]) rfl ?_); at_builtin; refine Kd.R_append Kd.string (w0 := w) w.heap.size rfl (.tmp 37) (.tmp 43) 102 9 (.string ⟨#[]⟩) 16 rfl Tryz.underlying102 info9 rfl (by decide) (by omega) (.slice none 0 0) [] (⟨#[67, 61, 68, 69]⟩ : ByteArray) [.string ⟨#[67, 61, 68, 69]⟩] (fun _ => True) (fun _ => False) rfl rfl ?aP (fun _ hk => hk.elim) ?aF ?aO ?aB ?aS ?aL ?_; (case aP => exact rfl); (case aF => exact (fun _ _ => trivial)); (case aO => exact Kd.R_nil _ _ _ _ _); (case aB => exact HB2.out); (case aS => exact (below_size HB2.out)); (case aL => decide); intro v5 w3 ho hb hgr hat; have HO := Aside0.mk ho; have HB := Aside0.mk hb; clear ho hb hgr hat HB2)
  rw [rounds_succ]
  obtain ⟨D, d, hv5⟩ := Kd.R_slice HO.out
  subst hv5
  have HC := Aside0.mk (Kd.R_reads' HO.out)
  clear HO
  go_wp2_with fail
  refine (strings_Join.calls D d [⟨#[67, 61, 68, 69]⟩] ⟨#[43]⟩ ⟨#[67, 61, 68, 69]⟩ _ HC.out.2.2 HC.out.2.1 HJ0.out).mono ?_
  rintro e w4 ⟨rfl, hb⟩
  have HB2 := Aside0.mk (below_step HB.out hb)
  clear hb HB HC HJ0
  go_wp2_with ((with_reducible refine gate_builtin (b := .append) (xs := #[.tmp 46, .tmp 49]) rfl ?_); at_builtin; refine Kd.R_append Kd.string (w0 := w) w.heap.size rfl (.tmp 46) (.tmp 49) 102 9 (.string ⟨#[]⟩) 16 rfl Tryz.underlying102 info9 rfl (by decide) (by omega) (.slice none 0 0) [] (⟨#[67, 61, 68, 69]⟩ : ByteArray) [.string ⟨#[67, 61, 68, 69]⟩] (fun _ => True) (fun _ => False) rfl rfl ?aP (fun _ hk => hk.elim) ?aF ?aO ?aB ?aS ?aL ?_; (case aP => exact rfl); (case aF => exact (fun _ _ => trivial)); (case aO => exact Kd.R_nil _ _ _ _ _); (case aB => exact HB2.out); (case aS => exact (below_size HB2.out)); (case aL => decide); intro v6 w5 ho hb hgr hat; have HO := Aside0.mk ho; have HB := Aside0.mk hb; clear ho hb hgr hat HB2)
  rw [rounds_succ]
  go_wp2_with fail
  refine (rev_own w _ [⟨#[67, 61, 68, 69]⟩] [⟨#[67, 61, 68, 69]⟩] _ HO.out HB.out HRV.out).mono ?_
  rintro e w6 ⟨rfl, ho, hb⟩
  have HB6 := Aside0.mk hb
  obtain ⟨E, f, hv6⟩ := Kd.R_slice ho
  subst hv6
  have HC := Aside0.mk (Kd.R_reads' ho)
  clear ho hb HO HB HRV
  go_wp2_with fail
  refine (strings_Join.calls E f [⟨#[67, 61, 68, 69]⟩] ⟨#[44]⟩ ⟨#[67, 61, 68, 69]⟩ _ HC.out.2.2 HC.out.2.1 HJ1.out).mono ?_
  rintro e w7 ⟨rfl, hb⟩
  have HB7 := Aside0.mk (below_step HB6.out hb)
  clear hb HB6 HC HJ1
  go_wp2_with fail
  go_ret
  exact ⟨by first | rfl | trace_state, HB7.out⟩
end Go.Proofs.YtkioddjjfifadaaGreatDoor.P
set_option linter.unusedVariables false
set_option linter.unusedSimpArgs false
namespace Go.Proofs.YtkioddjjfifadaaGreatDoor.P
open Go.RowKit Go.Proofs.YtkioddjjfifadaaGreatDoorW.PrintWords Go.Proofs.YtkioddjjfifadaaGreatDoorW.PrintLast Go.Proofs.YtkioddjjfifadaaGreatDoorW.PrintMore
set_option maxHeartbeats 4000000 in
set_option maxRecDepth 100000 in
theorem within_at (w : World) (A : Option Addr) (hA : Kd.C (Kd.slice 64 k64) w A 1 n07) (hT : Tb w) :
    Calls Tryz.prog 49 #[.slice A 1 1, .slice none 0 0] w fun e w' => e = .returned (.bool true) ∧ Below w.heap.size w w' := by
  have hsa : name_Same.f 200 [] [] = some true := by kernel_rfl
  obtain ⟨ad, B, b, rfl, hx, lb, hB⟩ := at_L5 hA 0 (Int.le_refl _) (by decide)
  have HS := Aside0.mk hsa
  have HT := Aside0.mk hT
  clear hA hsa hT lb hB hx
  go_enter Tryz.func49, Tryz.ntmps49
  go_wp2_with fail
  refine (name_Same.calls 200 (some ad) 1 [] none 0 [] true _ ⟨rfl, by decide, fun h => absurd h (by decide)⟩ (Nat.zero_le _) (Kd.C_nil _ _) (Nat.le_refl 0) HS.out HT.out).mono ?_
  rintro e w1 ⟨rfl, hb⟩
  have HB := Aside0.mk hb
  clear hb
  go_wp2_with fail
  go_ret
  exact ⟨rfl, HB.out⟩
end Go.Proofs.YtkioddjjfifadaaGreatDoor.P
set_option linter.unusedVariables false
set_option linter.unusedSimpArgs false
namespace Go.Proofs.YtkioddjjfifadaaGreatDoor.P
open Go.RowKit Go.Proofs.YtkioddjjfifadaaGreatDoorW.PrintWords Go.Proofs.YtkioddjjfifadaaGreatDoorW.PrintLast Go.Proofs.YtkioddjjfifadaaGreatDoorW.PrintMore
theorem C_de (w : World) : Kd.C (Kd.int .u8) (w.alloc (.cells #[.int .u8 68, .int .u8 69] 5 (2, 3))) (some ⟨w.heap.size, 0, none⟩) 2 [68, 69] := by
  refine Kd.C_of_reads (d := 0) ⟨rfl, by decide, fun _ => ⟨_, rfl, fun j hj => ?_⟩⟩
  rw [add_plain, cell_of_row _ _ _ _ _ _ (new_alloc _ _)]
  match j, hj with
  | 0, _ => rfl
  | 1, _ => rfl
theorem equal_07 (w : World) (A B : Option Addr) (c d : Nat) (hA : Kd.C (Kd.slice 64 k64) w A 1 n07) (hB : Kd.C (Kd.slice 64 k64) w B 1 n07) (h : chirographref01_SameBytes.f 10000 [68, 69] [68, 69] = some true) :
    Calls Tryz.prog 32 #[.slice A 1 c, .slice B 1 d] w fun e w' => e = .returned (.bool true) ∧ Below w.heap.size w w' :=
  equal_same w A B c d n07 hA hB (by decide) (fun s hs => by obtain rfl := List.mem_singleton.1 hs; exact ⟨by decide, fun p hp => by obtain rfl := List.mem_singleton.1 hp; decide⟩) (fun s hs p hp => by obtain rfl := List.mem_singleton.1 hs; obtain rfl := List.mem_singleton.1 hp; exact h)
set_option maxHeartbeats 8000000 in
set_option maxRecDepth 100000 in
theorem live_ret (w : World) (hT : Tb w) (hD : Hd w) (hpar : ∀ (w1 : World) (V : Option Addr) (v : Nat), Kd.C (Kd.int .u8) w1 V 15 b07 → 15 ≤ v → Tb w1 → Hd w1 → Calls Tryz.prog 35 #[.slice V 15 v] w1 fun e w' => ∃ X x, e = .returned (.tuple #[.slice X 1 x, .int .i64 0]) ∧ 1 ≤ x ∧ Kd.C (Kd.slice 64 k64) w' X 1 n07 ∧ Below w1.heap.size w1 w') :
    Calls Tryz.prog 33 #[] w fun e w' => e = .returned (.bool true) ∧ Below w.heap.size w w' := by
  have hu64 := Tryz.underlying64
  have hky : name_Key.f 200 n07 = some ⟨#[50, 46, 53, 46, 52, 46, 54, 61, 51, 58, 61, 100, 101, 59, 47]⟩ := by kernel_rfl
  have hsbb : chirographref01_SameBytes.f 10000 [68, 69] [68, 69] = some true := by kernel_rfl
  have hsa : name_Same.f 200 n07 n07 = some true := by kernel_rfl
  have hnu : chirographlaw07_num.f 0 = some 0 := by kernel_rfl
  have HT := Aside0.mk hT
  have HD := Aside0.mk hD
  have A2 := Aside0.mk hky
  have A7 := Aside0.mk hsbb
  have HPAR := Aside0.mk hpar
  have A4 := Aside0.mk hsa
  have A6 := Aside0.mk hnu
  clear hT hD hky hsa hnu hsbb hpar
  have kc := fun (w : World) (C : Array Value) (n c : Nat) => Lib.run_convert_bytes_const (P := Tryz.prog) w 22 5 C n c Tryz.underlying22 Tryz.underlying5
  go_enter Tryz.func33, Tryz.ntmps33
  go_wp2_with fail
  have hs : Kd.C k64 ((w.alloc (.cells #[.int .u8 68, .int .u8 69] 5 (2, 3))).alloc (.cells #[.string ⟨#[50, 46, 53, 46, 52, 46, 54]⟩, .int .i64 19, .slice (some ⟨w.heap.size, 0, none⟩) 2 2] 64)) (some ⟨w.heap.size + 1, 0, none⟩) 1 [p07] :=
    C_row1 k64 (cs := [.string p07.f0, .int .i64 19, .slice (some ⟨w.heap.size, 0, none⟩) 2 2]) (more := []) (k64_mk _ p07 (Nat.le_refl 2) (Kd.C_alloc (C_de w) _)) ((congrArg _ (show w.heap.size + 1 = (w.alloc (.cells #[.int .u8 68, .int .u8 69] 5 (2, 3))).heap.size by show _ = (w.heap.push _).size; simp)).trans (new_alloc _ _))
  have hn : Kd.C (Kd.slice 64 k64) (((w.alloc (.cells #[.int .u8 68, .int .u8 69] 5 (2, 3))).alloc (.cells #[.string ⟨#[50, 46, 53, 46, 52, 46, 54]⟩, .int .i64 19, .slice (some ⟨w.heap.size, 0, none⟩) 2 2] 64)).alloc (.cells #[.slice (some ⟨w.heap.size + 1, 0, none⟩) 1 1] 62)) (some ⟨w.heap.size + 1 + 1, 0, none⟩) 1 n07 :=
    C_row1 (Kd.slice 64 k64) (cs := [.slice (some ⟨w.heap.size + 1, 0, none⟩) 1 1]) (more := []) ⟨_, 1, rfl, Nat.le_refl 1, Kd.C_alloc hs _⟩ ((congrArg _ (show w.heap.size + 1 + 1 = ((w.alloc (.cells #[.int .u8 68, .int .u8 69] 5 (2, 3))).alloc (.cells #[.string ⟨#[50, 46, 53, 46, 52, 46, 54]⟩, .int .i64 19, .slice (some ⟨w.heap.size, 0, none⟩) 2 2] 64)).heap.size by show _ = ((w.heap.push _).push _).size; simp)).trans (new_alloc _ _))
  have HB := Aside0.mk (below_alloc (below_alloc (below_alloc (Below.refl w.heap.size w) (.cells #[.int .u8 68, .int .u8 69] 5 (2, 3))) (.cells #[.string ⟨#[50, 46, 53, 46, 52, 46, 54]⟩, .int .i64 19, .slice (some ⟨w.heap.size, 0, none⟩) 2 2] 64)) (.cells #[.slice (some ⟨w.heap.size + 1, 0, none⟩) 1 1] 62))
  refine (Build_at _ _ 1 hn (Nat.le_refl 1) (Hd.below HD.out HB.out)).mono ?_
  rintro e w1 ⟨V, v, rfl, hv, hC0, hb⟩
  have HC := Aside0.mk hC0
  have HN := Aside0.mk (Kd.C_below hn hb)
  have HB1 := Aside0.mk (below_step HB.out hb)
  clear hs hn hC0 hb HB kc
  go_wp2_with fail
  refine (HPAR.out _ V v HC.out hv (Tb.below HT.out HB1.out) (Hd.below HD.out HB1.out)).mono ?_
  rintro e w2 ⟨X, x, rfl, hx, hX, hb⟩
  have HX := Aside0.mk hX
  have HC2 := Aside0.mk (Kd.C_below HC.out hb)
  have HN2 := Aside0.mk (Kd.C_below HN.out hb)
  have HB2 := Aside0.mk (below_step HB1.out hb)
  clear hX hb HC HN HB1 HD HPAR
  have hlit : (strOfNums b07).toList = [48, 13, 49, 11, 48, 9, 6, 3, 85, 4, 6, 19, 2, 68, 69] := by kernel_rfl
  have hcs := fun n => Kd.C_string (P := Tryz.prog) (c := v) Tryz.underlying22 Tryz.underlying5 Tryz.underlying9 (Kd.C_drewN HC2.out n)
  go_wp2_with fail
  refine (chirographlaw07_num.calls 0 0 _ A6.out).mono ?_
  rintro e w3 ⟨rfl, ⟨n1, rfl⟩⟩
  go_wp2_with fail
  refine (chirographlaw07_num.calls 0 0 _ A6.out).mono ?_
  rintro e w3 ⟨rfl, ⟨n2, rfl⟩⟩
  go_wp2_with fail
  refine (equal_07 _ X _ x 1 (Kd.C_drewN HX.out _) (Kd.C_drewN HN2.out _) A7.out).mono ?_
  rintro e w3 ⟨rfl, hb⟩
  have HX3 := Aside0.mk (Kd.C_below (Kd.C_drewN HX.out _) hb)
  have HN3 := Aside0.mk (Kd.C_below (Kd.C_drewN HN2.out _) hb)
  have HB3 := Aside0.mk (below_step (pw_below_drewN HB2.out _) hb)
  clear hb hcs HX HN2 HB2 HC2
  go_wp2_with fail
  refine (name_Key.calls 200 _ 1 n07 _ _ HN3.out (Nat.le_refl 1) A2.out (Tb.below HT.out HB3.out)).mono ?_
  rintro e w4 ⟨rfl, hb⟩
  have HX4 := Aside0.mk (Kd.C_below HX3.out hb)
  have HN4 := Aside0.mk (Kd.C_below HN3.out hb)
  have HB4 := Aside0.mk (below_step HB3.out hb)
  clear hb HX3 HN3 HB3
  go_wp2_with fail
  refine (show_at _ _ 1 HN4.out).mono ?_
  rintro e w5 ⟨rfl, hb⟩
  have HX5 := Aside0.mk (Kd.C_below HX4.out hb)
  have HN5 := Aside0.mk (Kd.C_below HN4.out hb)
  have HB5 := Aside0.mk (below_step HB4.out hb)
  clear hb HX4 HN4 HB4
  go_wp2_with fail
  refine (name_Same.calls 200 _ 1 n07 X x n07 true _ HN5.out (Nat.le_refl 1) HX5.out hx A4.out (Tb.below HT.out HB5.out)).mono ?_
  rintro e w6 ⟨rfl, hb⟩
  have HN6 := Aside0.mk (Kd.C_below HN5.out hb)
  have HB6 := Aside0.mk (below_step HB5.out hb)
  clear hb HX5 HN5 HB5
  go_wp2_with fail
  refine (within_at _ _ HN6.out (Tb.below HT.out HB6.out)).mono ?_
  rintro e w7 ⟨rfl, hb⟩
  have HB7 := Aside0.mk (below_step HB6.out hb)
  clear hb HN6 HB6
  go_wp2_with fail
  go_ret
  exact ⟨rfl, HB7.out⟩
end Go.Proofs.YtkioddjjfifadaaGreatDoor.P
set_option linter.unusedVariables false
set_option linter.unusedSimpArgs false
namespace Go.Proofs.YtkioddjjfifadaaGreatDoor.P
open Go.RowKit Go.Proofs.YtkioddjjfifadaaGreatDoorW.PrintWords Go.Proofs.YtkioddjjfifadaaGreatDoorW.PrintLast Go.Proofs.YtkioddjjfifadaaGreatDoorW.PrintMore
theorem turnP_if (t0 : List Int) (p : S64) : turnP t0 p = if p.f1 = 12 ∨ p.f1 = 19 ∨ p.f1 = 22 then (if p.f2.all plainC = true then (⟨p.f0, p.f1, turnedS t0 p.f2⟩ : S64) else p) else p := by
  have e : tagT p.f1 = true ↔ p.f1 = 12 ∨ p.f1 = 19 ∨ p.f1 = 22 := by unfold tagT; simp [or_assoc]
  unfold turnP
  by_cases c : p.f1 = 12 ∨ p.f1 = 19 ∨ p.f1 = 22
  rotate_left
  · rw [if_neg (fun h => c (e.1 h)), if_neg c]
  rw [if_pos (e.2 c), if_pos c]
set_option maxHeartbeats 8000000 in
set_option maxRecDepth 100000 in
theorem NameTurns_ret (A0 : Option Addr) (c0 : Nat) (l0 : List (List S64)) (A1 : Option Addr) (c1 : Nat) (t0 : List Int) (w : World) (hr0 : Kd.C (Kd.slice 64 k64) w A0 l0.length l0) (hc0 : l0.length ≤ c0) (hr1 : Kd.C (Kd.int .u8) w A1 t0.length t0) (hc1 : t0.length ≤ c1)
    (hp : ∀ s ∈ l0, ∀ p ∈ s, PartOk p) (ht : ∀ y ∈ t0, 0 ≤ y ∧ y ≤ 255) (htl : t0.length ≤ 140737488355328) (hT : Tb w) (hD : Hd w) :
    Calls Tryz.prog 10 #[.slice A0 l0.length c0, .slice A1 t0.length c1] w fun e w' => e = .returned (.bool true) ∧ Below w.heap.size w w' := by
  obtain ⟨K, hK⟩ : ∃ K, K = 20000000 := ⟨_, rfl⟩
  obtain ⟨b, h1, h2⟩ := huge_total K (by omega) l0 (fun s hs p hq => ⟨(hp s hs p hq).1, (hp s hs p hq).2.1⟩)
  cases b with
  | true =>
    have HR0 := Aside0.mk hr0
    have HC0 := Aside0.mk hc0
    have HT := Aside0.mk hT
    have HD := Aside0.mk hD
    have H1 := Aside0.mk h1
    have HB0 := Aside0.mk (Below.refl w.heap.size w)
    clear hr0 hc0 hr1 hc1 hp ht htl hT hD h1 h2 hK
    go_enter Tryz.func10, Tryz.ntmps10
    go_wp2_with fail
    refine (chirographref07_Huge.calls K A0 c0 l0 2000 true _ HR0.out HC0.out H1.out).mono ?_
    rintro e w' ⟨rfl, ⟨nd, rfl⟩⟩
    go_wp2_with fail
    refine (live_ret _ (Tb.below HT.out (pw_below_drewN HB0.out _)) (Hd.below HD.out (pw_below_drewN HB0.out _)) parse_at).mono ?_
    rintro e w1 ⟨rfl, hb⟩
    have HB := Aside0.mk (below_step (pw_below_drewN HB0.out _) hb)
    clear hb
    go_wp2_with fail
    go_ret
    exact ⟨rfl, HB.out⟩
  | false =>
    obtain ⟨h3, h4⟩ := h2 rfl
    have hg : ∀ s ∈ l0, ∀ p ∈ s, GoodP p := fun s hs p hq => ⟨((h4 s hs).2 p hq).1, ((h4 s hs).2 p hq).2, (hp s hs p hq).2.2.1, (hp s hs p hq).2.2.2.1, (hp s hs p hq).2.2.2.2⟩
    obtain ⟨a1, ⟨kb, a2, a3⟩, a4, a5⟩ := turn_all t0 l0 h3 (fun s hs => (h4 s hs).1) hg K (by omega)
    refine turns_walk K A0 c0 l0 A1 c1 t0 w (turnP t0) hr0 hc0 hr1 hc1 ⟨h3, fun s hs => (h4 s hs).1⟩
      (copy_eq K (by omega) l0 h3 (fun s hs => ⟨(h4 s hs).1, fun p hq => by have := (hg s hs p hq).2.1; omega⟩))
      (fun p => p.f2.all plainC) (fun p => turnedS t0 p.f2) (turnP_if t0)
      (fun s hs p hq => plain_eq p.f2 (by have := (hg s hs p hq).2.1; omega) K (by have := (hg s hs p hq).2.1; omega))
      (fun s hs p hq hpl => turned_eq t0 p.f2 (by have := (hg s hs p hq).2.1; omega) (plainL_of (hg s hs p hq).2.2.1 hpl) ht htl K (by have := (hg s hs p hq).2.1; omega)) kb
      ?_ ?_ ?_ ?_ ?_ ?_
    · intro w' B c hb hC hc
      have h := name_Same.calls K A0 c0 l0 B c (turnN t0 l0) true w' (Kd.C_below hr0 hb) hc0 (by rw [a5]; exact hC) (by rw [a5]; exact hc) a1 (Tb.below hT hb)
      rw [a5] at h
      exact h
    · intro w' hb
      exact name_Key.calls K A0 c0 l0 kb w' (Kd.C_below hr0 hb) hc0 a2 (Tb.below hT hb)
    · intro w' B c hb hC hc
      have h := name_Key.calls K B c (turnN t0 l0) kb w' (by rw [a5]; exact hC) (by rw [a5]; exact hc) a3 (Tb.below hT hb)
      rw [a5] at h
      exact h
    · intro w' B c hb hC hc
      have h := name_Within.calls K A0 c0 l0 B c (turnN t0 l0) true w' (Kd.C_below hr0 hb) hc0 (by rw [a5]; exact hC) (by rw [a5]; exact hc) a4 (Tb.below hT hb)
      rw [a5] at h
      exact h
    rotate_left
    · intro w' hb
      exact chirographref07_Huge.calls K A0 c0 l0 2000 false w' (Kd.C_below hr0 hb) hc0 h1
    intro w' hb
    exact live_ret w' (Tb.below hT hb) (Hd.below hD hb) parse_at
end Go.Proofs.YtkioddjjfifadaaGreatDoor.P
namespace Go.Proofs.YtkioddjjfifadaaGreatDoor.P
open Go.Deep Go.RowKit Go.ChangeShapes Go.WideShapes Go.WideElems Go.Proofs.YtkioddjjfifadaaGreatDoorW.PrintWords
def Opens {α : Type} (P : Program) (d : Kd α) (t : TypeId) (Q : α → Prop) : Prop :=
  ∀ (H : Type) (enc : TypeId × Value → H) (w : World) (base : Nat) (spare : Nat → Bool) (held : Bool) (fuel : Nat) (cs : List Value) (x : DataW H × List MemPlace),
    DataW.trod enc P w base spare held fuel t cs = some x → ∃ v, d.K w v cs ∧ Q v
variable {P : Program}
theorem opens_int {t : TypeId} {k : IntKind} (ht : P.underlying t = some (.int k)) : Opens P (Kd.int k) t (fun n => (Lit.int k n).wf = true) := by
  intro H enc w base spare held fuel cs x h
  obtain ⟨n, rfl, _, hw⟩ := DataW.trod_int ht h
  exact ⟨n, rfl, hw⟩
theorem addr_add_add (a : Addr) (m n : Nat) : (a.add m).add n = a.add (m + n) := by
  unfold Addr.add
  by_cases hm : m = 0
  · simp [hm]
  by_cases hn : n = 0
  rotate_left
  · simp [hm, hn, Nat.add_assoc]
  simp [hn]
section
variable {H : Type} {enc : TypeId × Value → H} {w : World} {base : Nat} {spare : Nat → Bool} {held : Bool}
theorem trodAll_stays (hl : laidOutB P = true) {W W' : World} (hb : Below W.heap.size W W') : ∀ {ts : List TypeId} {vs : List Value} {ds : List (DataW H)} {ps : List MemPlace}, (ts.all fun t => P.readableRec t && decide (t < P.types.size)) = true →
    DataW.TrodAll enc P W 0 (fun _ => true) true ts vs ds ps → (∀ x ∈ ps, x.block < W.heap.size) → DataW.TrodAll enc P W' 0 (fun b => decide (b < W.heap.size)) true ts vs ds ps
  | [], _, _, _, _, h, _ => by
    obtain ⟨rfl, rfl, rfl⟩ := trodAll_nil h
    rfl
  | t :: ts, _, _, _, ht, h, hlt => by
    obtain ⟨v, vs1, d, ds1, a, b, rfl, rfl, rfl, h1, h2⟩ := trodAll_cons h
    rw [List.all_cons, Bool.and_eq_true, Bool.and_eq_true] at ht
    exact ⟨a, b, Below.trod hl ht.1.1 (of_decide_eq_true ht.1.2) h1 hb (fun x hx => hlt x (List.mem_append_left _ hx)), trodAll_stays hl hb ht.2 h2 (fun x hx => hlt x (List.mem_append_right _ hx)), rfl⟩
end
end Go.Proofs.YtkioddjjfifadaaGreatDoor.P
namespace Go.Proofs.YtkioddjjfifadaaGreatDoor
def laidL : List (String × DataW Unit) := [("math/bits.deBruijn32tab", Rows.laid_math_bits_deBruijn32tab), ("math/bits.deBruijn64tab", Rows.laid_math_bits_deBruijn64tab), ("internal/strconv.uint64pow10", Rows.laid_internal_strconv_uint64pow10), ("unicode/utf8.acceptRanges", Rows.laid_unicode_utf8_acceptRanges), ("errors.errorType", Rows.laid_errors_errorType), ("unicode/utf8.first", Rows.laid_unicode_utf8_first)]
def laidD : List (String × DataW Unit) := [("math/bits.deBruijn32tab", Rows.laid_math_bits_deBruijn32tab), ("math/bits.deBruijn64tab", Rows.laid_math_bits_deBruijn64tab), ("internal/strconv.uint64pow10", Rows.laid_internal_strconv_uint64pow10), ("unicode/utf8.acceptRanges", Rows.laid_unicode_utf8_acceptRanges), ("unicode/utf8.first", Rows.laid_unicode_utf8_first)]
noncomputable def laidW0 (os : Os) : World :=
  let w0 := World.holding Tryz.prog os ⟨#[], #[], []⟩
  { w0 with heap := w0.heap.modify 0 fun
      | .cells _ t frozen => .cells #[.iface 336 (.agg #[.pointer (some ⟨7, 132, none⟩)])] t frozen
      | o => o }
noncomputable def laidWorld (os : Os) : World := (laidW0 os).layVars Tryz.prog laidD
theorem own : ownKnob Tryz.prog.godebug = none := by kernel_rfl
theorem laidL_parts : (laidL.filter fun x => x.2.handleName?.isNone) = laidD := rfl
theorem laidD_all : (laidD.filter fun x => (laidD.map (·.1)).contains x.1) = laidD := by
  exact List.filter_eq_self.2 fun x hx => List.contains_iff_mem.2 (List.mem_map.2 ⟨x, hx, rfl⟩)
theorem laidD_none : (laidD.filter fun x => !(laidD.map (·.1)).contains x.1) = [] :=
  List.filter_eq_nil_iff.2 fun x hx => by rw [List.contains_iff_mem.2 (List.mem_map.2 ⟨x, hx, rfl⟩)]; simp
set_option maxRecDepth 100000 in
theorem laidWorld_met (os : Os) (args : Array Value) : laidMetH Tryz.prog laidL ((laidWorld os).forCall (fun _ _ => 0) ⟨#[], args, []⟩).memory := by
  have hd : laidMet Tryz.prog laidD ((laidWorld os).forCall (fun _ _ => 0) ⟨#[], args, []⟩).memory := by
    refine laidMet_layVars (w0 := laidW0 os) (laidD.map (·.1)) [] ?_ ?_ ?_ ?_
    · rw [laidD_all]; rfl
    · rw [laidD_all]; kernel_rfl
    rotate_left
    · rw [laidD_none]; exact LaidIn.none
    rw [laidD_all]; kernel_rfl
  exact laidMetH_of_parts (laidL_parts ▸ hd) (by kernel_rfl)
theorem laidWorld_os (os : Os) : (laidWorld os).os = os := (World.layVars_os _ _ _).trans rfl
end Go.Proofs.YtkioddjjfifadaaGreatDoor
namespace Go.Proofs.YtkioddjjfifadaaGreatDoor.P
open Go.Deep Go.RowKit Go.ChangeShapes Go.WideShapes Go.WideElems Go.Proofs.YtkioddjjfifadaaGreatDoorW.PrintWords
def OpensW {α : Type} (P : Program) (d : Kd α) (t : TypeId) (Q : α → Prop) : Prop :=
  ∀ (H : Type) (enc : TypeId × Value → H) (w : World) (base : Nat) (spare : Nat → Bool) (held : Bool) (fuel : Nat) (cs : List Value) (x : DataW H × List MemPlace),
    DataW.trod enc P w base spare held fuel t cs = some x → (∀ n ∈ x.1.weights P t, n ≤ reachBytes) → ∃ v, d.K w v cs ∧ Q v
variable {P : Program}
theorem Opens.toW {α : Type} {d : Kd α} {t : TypeId} {Q : α → Prop} (h : Opens P d t Q) : OpensW P d t Q := fun H enc w base spare held fuel cs x hx _ => h H enc w base spare held fuel cs x hx
theorem opensW_string {t : TypeId} (ht : P.underlying t = some .string) : OpensW P Kd.string t (fun s => s.size ≤ reachBytes) := by
  intro H enc w base spare held fuel cs x h hw
  obtain ⟨n, rfl, rfl, hs⟩ := DataW.trod_string ht h
  refine ⟨n, rfl, hw _ ?_⟩
  simp [DataW.weights]
theorem weightsAll_mem {H : Type} {e : TypeId} {n : Nat} : ∀ {l : List (DataW H)} {d : DataW H}, d ∈ l → n ∈ d.weights P e → n ∈ DataW.weightsAll P e l
  | [], _, h, _ => by cases h
  | a :: l, d, h, hn => by
    unfold DataW.weightsAll
    rcases List.mem_cons.1 h with rfl | h
    · exact List.mem_append_left _ hn
    · exact List.mem_append_right _ (weightsAll_mem h hn)
theorem weightsEach_mem {H : Type} {n : Nat} : ∀ {ts : List TypeId} {ds : List (DataW H)} (i : Nat) {t : TypeId} {d : DataW H}, ts[i]? = some t → ds[i]? = some d → n ∈ d.weights P t → n ∈ DataW.weightsEach P ts ds
  | [], _, i, _, _, h, _, _ => by simp at h
  | _ :: _, [], i, _, _, _, h, _ => by simp at h
  | t :: ts, d :: ds, 0, t', d', h1, h2, hn => by
    obtain rfl : t = t' := by simpa using h1
    obtain rfl : d = d' := by simpa using h2
    unfold DataW.weightsEach
    exact List.mem_append_left _ hn
  | t :: ts, d :: ds, i + 1, t', d', h1, h2, hn => by
    unfold DataW.weightsEach
    exact List.mem_append_right _ (weightsEach_mem i (by simpa using h1) (by simpa using h2) hn)
theorem opensW_slice {α : Type} {d : Kd α} {t e : TypeId} {Q : α → Prop} (ht : P.underlying t = some (.slice e)) (hc : P.cellsOf e = d.sz) (hd : OpensW P d e Q) :
    OpensW P (Kd.slice e d) t (fun xs => xs.length * P.bytesOf e ≤ reachBytes ∧ ∀ x ∈ xs, Q x) := by
  intro H enc w base spare held fuel cs x h hw
  rcases open_slice ht h with ⟨rfl, _⟩ | ⟨a, len, cap, m, n, D, Pl, rfl, hb, hl, hm, hmm, rfl, hx⟩
  · exact ⟨[], ⟨none, 0, rfl, Nat.le_refl _, ⟨rfl, by simp, fun h => absurd h (Nat.lt_irrefl 0)⟩⟩, by simp, fun _ h => by cases h⟩
  have hlm : len ≤ m := by rw [hmm]; split <;> omega
  unfold DataW.weights at hw
  rw [ht] at hw
  simp only [List.mem_cons, List.mem_append] at hw
  have hw0 : len * P.bytesOf e ≤ reachBytes := by
    have := hw _ (Or.inl rfl)
    simp only [List.length_map, List.length_range] at this
    exact Nat.le_trans (Nat.mul_le_mul_right _ (by omega)) this
  have hwj : ∀ j, j < len → ∀ n ∈ (D j).weights P e, n ≤ reachBytes := fun j hj n hn =>
    hw n (Or.inr (Or.inl (weightsAll_mem (List.mem_map.2 ⟨j, List.mem_range.2 hj, rfl⟩) hn)))
  have key : ∀ k, k ≤ len → ∃ xs : List α, xs.length = k ∧ (∀ y ∈ xs, Q y) ∧ ∀ j p, xs[j]? = some p → ∃ c, c.length = d.sz ∧ d.K w p c ∧ ∀ i u, c[i]? = some u → w.cell? (a.add (j * d.sz + i)) = some u := by
    intro k
    induction k with
    | zero => exact fun _ => ⟨[], rfl, (fun _ h => by cases h), (fun j p h => by simp at h)⟩
    | succ k ih =>
      intro hk
      obtain ⟨xs, hxl, hxq, hxr⟩ := ih (by omega)
      obtain ⟨cs', h1, h2⟩ := hx k (by omega)
      obtain ⟨y, hy, hQ⟩ := hd H enc w base spare held n cs' _ h2 (hwj k (by omega))
      obtain ⟨_, hlen, hcell⟩ := World.cells?_some h1
      refine ⟨xs ++ [y], by simp [hxl], ?_, ?_⟩
      · intro z hz
        rcases List.mem_append.1 hz with hz | hz
        rotate_left
        · rw [List.mem_singleton.1 hz]; exact hQ
        exact hxq z hz
      intro j p hp
      by_cases hj : j < k
      · rw [List.getElem?_append_left (by omega)] at hp
        exact hxr j p hp
      have hjk : j = k := by
        have := (List.getElem?_eq_some_iff.1 hp).1
        simp [hxl] at this
        omega
      subst hjk
      rw [List.getElem?_append_right (by omega), hxl, Nat.sub_self] at hp
      obtain rfl : y = p := by simpa using hp
      refine ⟨cs', by rw [hlen, hc], hy, fun i u hi => ?_⟩
      have hi' : i < P.cellsOf e := by have := (List.getElem?_eq_some_iff.1 hi).1; omega
      have := hcell i hi'
      rw [hi, hc] at this
      rw [← this, addr_add_add]
  obtain ⟨xs, hxl, hxq, hxr⟩ := key len (Nat.le_refl _)
  have hmax : maxLen ≤ 9223372036854775807 := by decide
  refine ⟨xs, ⟨some a, cap, by rw [hxl], by omega, hxl ▸ rfl, by omega, fun _ => ⟨a, rfl, hxr⟩⟩, by rw [hxl]; exact hw0, hxq⟩
def OpensFW {α : Type} (P : Program) (d : Kd α) (fs : List Field) (o : Nat) (Q : α → Prop) : Prop :=
  ∀ (H : Type) (enc : TypeId × Value → H) (w : World) (base : Nat) (spare : Nat → Bool) (held : Bool) (fuel : Nat) (cs : List Value), cs.length = o + d.sz →
    (∀ (i : Nat) (f : Field), fs[i]? = some f → ∃ y, DataW.trod enc P w base spare held fuel f.type ((cs.drop f.offset).take (P.cellsOf f.type)) = some y ∧ ∀ n ∈ y.1.weights P f.type, n ≤ reachBytes) → ∃ v, d.K w v (cs.drop o) ∧ Q v
theorem opensFW_one {α : Type} {d : Kd α} {f : Field} {o : Nat} {Q : α → Prop} (ho : f.offset = o) (hc : P.cellsOf f.type = d.sz) (hd : OpensW P d f.type Q) : OpensFW P d [f] o Q := by
  intro H enc w base spare held fuel cs hl hf
  obtain ⟨y, hy, hw⟩ := hf 0 f rfl
  rw [ho, hc, List.take_of_length_le (by simp [hl])] at hy
  exact hd H enc w base spare held fuel _ _ hy hw
theorem opensFW_cons {α β : Type} {d1 : Kd α} {d2 : Kd β} {f : Field} {fs : List Field} {o : Nat} {Q1 : α → Prop} {Q2 : β → Prop} (ho : f.offset = o) (hc : P.cellsOf f.type = d1.sz) (hd : OpensW P d1 f.type Q1) (hr : OpensFW P d2 fs (o + d1.sz) Q2) :
    OpensFW P (Kd.pair d1 d2) (f :: fs) o (fun x => Q1 x.1 ∧ Q2 x.2) := by
  intro H enc w base spare held fuel cs hl hf
  obtain ⟨y, hy, hw⟩ := hf 0 f rfl
  rw [ho, hc] at hy
  obtain ⟨a, ha, hQ1⟩ := hd H enc w base spare held fuel _ _ hy hw
  obtain ⟨b, hb, hQ2⟩ := hr H enc w base spare held fuel cs (by rw [hl]; simp [Kd.pair]; omega) (fun i g hg => hf (i + 1) g (by simpa using hg))
  refine ⟨(a, b), ⟨_, _, ?_, ha, hb⟩, hQ1, hQ2⟩
  rw [← List.drop_drop, List.take_append_drop]
theorem opensW_struct {α : Type} {d : Kd α} {t : TypeId} {fs : Array Field} {Q : α → Prop} (ht : P.underlying t = some (.struct fs)) (hc : P.cellsOf t = d.sz) (hf : OpensFW P d fs.toList 0 Q) : OpensW P d t Q := by
  intro H enc w base spare held fuel cs x h hw
  obtain ⟨xs, n, _, rfl, hl, hlen, hg⟩ := DataW.trod_struct ht h
  unfold DataW.weights at hw
  rw [ht] at hw
  obtain ⟨v, hv, hQ⟩ := hf H enc w base spare held n cs (by rw [hl, hc, Nat.zero_add]) (fun i f hi => by
    have hi' : fs[i]? = some f := by simpa using hi
    have hlt := (Array.getElem?_eq_some_iff.1 hi').1
    refine ⟨xs[i]'(by omega), by rw [hg i f hi']; simp, fun m hm => hw m (weightsEach_mem i (t := f.type) (d := (xs[i]'(by omega)).1) ?_ ?_ hm)⟩
    · simp [hi']
    · have : i < xs.length := by omega
      simp [List.getElem?_eq_getElem this])
  exact ⟨v, by simpa using hv, hQ⟩
theorem opensW_iso {α β : Type} {d : Kd α} {t : TypeId} {Q : α → Prop} (g : β → α) (inv : α → β) (hg : ∀ a, g (inv a) = a) (h : OpensW P d t Q) : OpensW P (Kd.iso d g) t (fun x => Q (g x)) := by
  intro H enc w base spare held fuel cs x hx hw
  obtain ⟨v, hv, hQ⟩ := h H enc w base spare held fuel cs x hx hw
  exact ⟨inv v, by show d.K w (g (inv v)) cs; rw [hg]; exact hv, by show Q (g (inv v)); rw [hg]; exact hQ⟩
section
variable {H : Type} {enc : TypeId × Value → H} {w : World} {base : Nat} {spare : Nat → Bool} {held : Bool}
theorem open_slice_argW {α : Type} {d : Kd α} {t e : TypeId} {Q : List α → Prop} {r : Reach} {b0 : Nat} {v : Value} {x : DataW H} {ps : List MemPlace} (ho : OpensW P (Kd.slice e d) t Q) (ht : P.underlying t = some (.slice e)) (hval : Value.okWide P w r b0 t v)
    (hd : DataW.Trod enc P w base spare held t v x ps) (hw : ∀ n ∈ x.weights P t, n ≤ reachBytes) : ∃ A c ys, v = .slice A (ys : List α).length c ∧ ys.length ≤ c ∧ d.C w A ys.length ys ∧ Q ys := by
  obtain ⟨a, n, c, rfl⟩ := okWide_slice ht hval
  obtain ⟨fuel, hf⟩ := hd
  obtain ⟨ys, ⟨A, c', he, hl, hc⟩, hQ⟩ := ho H enc w base spare held fuel _ _ hf hw
  refine ⟨A, c', ys, ?_, hl, hc, hQ⟩
  simpa [Value.cells] using he
end
end Go.Proofs.YtkioddjjfifadaaGreatDoor.P
namespace Go.Proofs.YtkioddjjfifadaaGreatDoor.P
open Go.Proofs.YtkioddjjfifadaaGreatDoor
theorem lh_et : Tryz.prog.globalNamed "errors.errorType" = some 0 := by kernel_rfl
theorem lh_rt : (Tryz.prog.cutTypes.find? (·.1 == "internal/reflectlite.rtype")).map (·.2) = some 336 := by kernel_rfl
theorem lh_one : ((List.range 458).filter fun t => Tryz.prog.rowNamed t [101, 114, 114, 111, 114]) = [132] := by kernel_rfl
theorem lh_size : Tryz.prog.types.size = 458 := by kernel_rfl
theorem lh_parts {W : World} (h : laidMetH Tryz.prog laidL W) : laidMet Tryz.prog laidD W ∧ handlesMet Tryz.prog [("errors.errorType", Rows.laid_errors_errorType)] W := h
theorem hd_of_laid {W : World} (h : laidMetH Tryz.prog laidL W) : Hd W := by
  obtain ⟨name, u, ty, e1, e2, e3, e4, e5⟩ := (lh_parts h).2 _ (List.mem_singleton.2 rfl)
  have en : name = [101, 114, 114, 111, 114] := (Option.some.inj e1).symm
  subst en
  obtain rfl := Option.some.inj (lh_rt.symm.trans e2)
  have hm : ty ∈ (List.range 458).filter fun t => Tryz.prog.rowNamed t [101, 114, 114, 111, 114] := List.mem_filter.2 ⟨List.mem_range.2 (by rw [← lh_size]; exact e3), e4⟩
  rw [lh_one] at hm
  obtain rfl := List.mem_singleton.1 hm
  have hh : typeHandle Tryz.prog 132 = .pointer (some ⟨7, 132, none⟩) := by kernel_rfl
  rw [hh] at e5
  have := World.var?_cell lh_et e5 0
  simpa using this
end Go.Proofs.YtkioddjjfifadaaGreatDoor.P
namespace Go.Proofs.YtkioddjjfifadaaGreatDoor.P
open Go.Proofs.YtkioddjjfifadaaGreatDoor Go.Lib
theorem u8extra : U8Extra Tryz.prog Tryz.lays197_ren := {
  n3 := by kernel_rfl
  n4 := by kernel_rfl
  y3 := by kernel_rfl
  y4 := by kernel_rfl
  c5 := by kernel_rfl
  c119 := by kernel_rfl
  c138 := by kernel_rfl }
theorem first_eq : (Rows.laid_unicode_utf8_first : DataW Unit) = firstData := by kernel_rfl
theorem accept_eq : (Rows.laid_unicode_utf8_acceptRanges : DataW Unit) = acceptData := by kernel_rfl
theorem pow_eq : (Rows.laid_internal_strconv_uint64pow10 : DataW Unit) = tabData .u64 pow10Tab := by kernel_rfl
theorem tb_of_laid {W : World} (h : laidMetH Tryz.prog laidL W) : Tb W := by
  have hd := (lh_parts h).1
  have h1 : VarReads Tryz.prog W "unicode/utf8.first" firstData := by
    rw [← first_eq]
    exact laidMet.reads hd (by unfold laidD; simp)
  have h2 : VarReads Tryz.prog W "unicode/utf8.acceptRanges" acceptData := by
    rw [← accept_eq]
    exact laidMet.reads hd (by unfold laidD; simp)
  have h3 : laidMet Tryz.prog (("internal/strconv.uint64pow10", tabData .u64 pow10Tab) :: [("unicode/utf8.acceptRanges", Rows.laid_unicode_utf8_acceptRanges), ("unicode/utf8.first", Rows.laid_unicode_utf8_first)]) W := by
    rw [← pow_eq]
    exact laidMet.tail (laidMet.tail hd)
  have hu : Utf8Tabs 2 3 W := utf8Tabs_of_reads (ρ := Tryz.lays197_ren) { Tryz.lays197 with } u8extra h1 h2
  refine ⟨tabIs_of_head (g := 4) (t := 419) (e := 278) (n := 20) (by kernel_rfl) (by kernel_rfl) (by kernel_rfl) (by kernel_rfl) (by kernel_rfl) (by kernel_rfl) h3, hu, ?_⟩
  obtain ⟨g, t, cs, fuel, p, hg, _, hv, _⟩ := laidMet.reads (n := "math/bits.deBruijn64tab") (d := Rows.laid_math_bits_deBruijn64tab) hd (by unfold laidD; simp)
  unfold World.var? at hv
  rw [show Tryz.prog.globalNamed "math/bits.deBruijn64tab" = some 6 by kernel_rfl, Option.bind_some] at hv
  rcases Nat.lt_or_ge 6 W.heap.size with h6 | h6
  · exact h6
  rw [Array.getElem?_eq_none h6] at hv
  cases hv
end Go.Proofs.YtkioddjjfifadaaGreatDoor.P
namespace Go.Proofs.YtkioddjjfifadaaGreatDoor.P
open Go.Deep Go.RowKit Go.ChangeShapes Go.WideShapes Go.WideElems Go.Proofs.YtkioddjjfifadaaGreatDoorW.PrintWords
abbrev QB (x : List Int) : Prop := x.length * Tryz.prog.bytesOf 5 ≤ reachBytes ∧ ∀ y ∈ x, (Lit.int .u8 y).wf = true
abbrev Q64W (x : S64) : Prop := x.f0.size ≤ reachBytes ∧ (Lit.int .i64 x.f1).wf = true ∧ QB x.f2
abbrev QNm (n : List (List S64)) : Prop := n.length * Tryz.prog.bytesOf 62 ≤ reachBytes ∧ ∀ s ∈ n, s.length * Tryz.prog.bytesOf 64 ≤ reachBytes ∧ ∀ p ∈ s, Q64W p
theorem o_bytesW {t : TypeId} (ht : Tryz.prog.underlying t = some (.slice 5)) : OpensW Tryz.prog (Kd.slice 5 (Kd.int .u8)) t QB := opensW_slice ht (by kernel_rfl) (opens_int (by kernel_rfl)).toW
theorem o_64W : OpensW Tryz.prog k64 64 Q64W :=
  opensW_iso (fun x : S64 => (x.f0, x.f1, x.f2)) (fun p => ⟨p.1, p.2.1, p.2.2⟩) (fun _ => rfl) (opensW_struct Tryz.underlying64 (by kernel_rfl)
    (opensFW_cons rfl (by kernel_rfl) (opensW_string (by kernel_rfl)) (opensFW_cons rfl (by kernel_rfl) (opens_int (by kernel_rfl)).toW (opensFW_one rfl (by kernel_rfl) (o_bytesW (by kernel_rfl))))))
theorem o_nameW {t : TypeId} (ht : Tryz.prog.underlying t = some (.slice 62)) : OpensW Tryz.prog (Kd.slice 62 (Kd.slice 64 k64)) t QNm := opensW_slice ht (by kernel_rfl) (opensW_slice (by kernel_rfl) (by kernel_rfl) o_64W)
theorem bytes5' : Tryz.prog.bytesOf 5 = 1 := by kernel_rfl
theorem wf_u8 {x : Int} (h : (Lit.int .u8 x).wf = true) : 0 ≤ x ∧ x ≤ 255 := by simpa [Lit.wf, IntKind.min, IntKind.max, IntKind.signed, IntKind.bits] using h
theorem wf_i64 {x : Int} (h : (Lit.int .i64 x).wf = true) : -9223372036854775808 ≤ x ∧ x ≤ 9223372036854775807 := by simpa [Lit.wf, IntKind.min, IntKind.max, IntKind.signed, IntKind.bits] using h
theorem part_ok {x : S64} (h : Q64W x) : PartOk x := by
  obtain ⟨h0, h1, h2, h3⟩ := h
  rw [bytes5', Nat.mul_one] at h2
  have hr : reachBytes = 140737488351232 := by decide
  rw [hr] at h0 h2
  refine ⟨by omega, by omega, List.all_eq_true.2 fun y hy => ?_, wf_i64 h1⟩
  have := wf_u8 (h3 y hy)
  simp only [isByte, Bool.and_eq_true, decide_eq_true_eq]
  exact this
end Go.Proofs.YtkioddjjfifadaaGreatDoor.P
