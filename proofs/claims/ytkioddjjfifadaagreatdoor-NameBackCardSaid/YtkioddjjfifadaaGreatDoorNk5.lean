/- What the proof of NameBack needs of: He0, He1, Pxf141, Lp1, Ht3, Hp1, Pxf199, Pxf125, Pxf65, Lb1, Pxf163, Lp2, Hr0. -/
import Derived.Lib.OthersKept
import Derived.Lib.RuneCountTail
import Derived.Laws.RangeString
import Derived.Lib.TrimUEq
import Derived.Lib.ItoaLen
import Derived.Deep.LoopGhost
import Derived.Deep.DeepBigQuietO
import Derived.Laws.BytesArg
import Derived.Test.YtkioddjjfifadaaGreatDoorNk2
import Derived.Test.YtkioddjjfifadaaGreatDoorNk3
import Derived.Test.YtkioddjjfifadaaGreatDoorNk4
set_option linter.unusedVariables false
set_option linter.unusedSimpArgs false
set_option linter.unusedVariables false
set_option linter.unusedSimpArgs false
namespace Go.Proofs.YtkioddjjfifadaaGreatDoor.P
open Go.RowKit Go.Extern.Stop Go.Stop Go.Extern Go.Proofs.YtkioddjjfifadaaGreatDoorW.PrintWords Go.Proofs.YtkioddjjfifadaaGreatDoorW.PrintLast Go.Proofs.YtkioddjjfifadaaGreatDoorW.PrintMore
/-- An error of package name: what a lower layer told; a fault; a fault in a part. -/
inductive NE where
  | low (e : Int)
  | flt (f : Int)
  | part (i : Int) (x : NE)
def NE.val : NE → Value
  | .low e => .iface 222 (.agg #[.int .i64 e])
  | .flt f => .iface 225 (.int .i64 f)
  | .part i x => .iface 229 (.agg #[.int .i64 i, x.val])
def NE.leaf : NE → NE
  | .part _ x => x.leaf
  | x => x
def NE.num : NE → Int
  | .low e => e
  | .flt f => if f = 1 then 4 else if f = 2 then 5 else if f = 4 then 1 else 30
  | .part _ x => x.num
def NE.depth : NE → Nat
  | .part _ x => x.depth + 1
  | _ => 0
def NE.isLow : NE → Option Int
  | .low e => some e
  | .flt _ => none
  | .part _ x => x.isLow
def NE.isFlt (g : Int) : NE → Bool
  | .low _ => false
  | .flt f => f == g
  | .part _ x => x.isFlt g
theorem NE.val_iface (x : NE) : ∃ t v, x.val = .iface t v ∧ (t = 222 ∨ t = 225 ∨ t = 229) := by
  cases x <;> exact ⟨_, _, rfl, by simp⟩
theorem Nm.valueOf231 (t : Addr) (w : World) : (ReflectliteValue.unpack (.iface 231 (.pointer (some t)))).run Tryz.prog w
    = .ok (.agg #[.pointer (some ⟨7, 231, none⟩), .pointer (some ⟨w.heap.size, 0, none⟩), .int .u64 150]) (w.alloc (.cells #[.pointer (some t)] 231)) := by kernel_rfl
theorem Nm.type231 (a : Addr) (w : World) : (ReflectliteValue.methodAny (ReflectliteValue.valueError "reflectlite.Value.Type" 0) (fun t _ _ _ => ReflectliteType.toType t) #[.agg #[.pointer (some ⟨7, 231, none⟩), .pointer (some a), .int .u64 150]]).run Tryz.prog w
    = .ok (.iface 336 (.agg #[.pointer (some ⟨7, 231, none⟩)])) w := by kernel_rfl
theorem Nm.kind231 (w : World) : ((ReflectliteType.abiMethod fun t => (fun a : Nat => Value.int IntKind.u8 (a : Int)) <$> Rtype.kind t) #[.pointer (some ⟨7, 231, none⟩)]).run Tryz.prog w = .ok (.int .u8 22) w := by kernel_rfl
theorem Nm.kind222 (w : World) : ((ReflectliteType.abiMethod fun t => (fun a : Nat => Value.int IntKind.u8 (a : Int)) <$> Rtype.kind t) #[.pointer (some ⟨7, 222, none⟩)]).run Tryz.prog w = .ok (.int .u8 25) w := by kernel_rfl
theorem Nm.parts231 (a : Addr) (w : World) : (ReflectliteValue.parts (.agg #[.pointer (some ⟨7, 231, none⟩), .pointer (some a), .int .u64 150])).run Tryz.prog w = .ok (some (231, a, 150)) w := by kernel_rfl
theorem Nm.isNil231 (a p : Addr) (W : World) (ha : W.cell? a = some (.pointer (some p))) :
    (ReflectliteValue.method (ReflectliteValue.valueError "reflectlite.Value.IsNil" 0) ReflectliteValue.isNil #[.agg #[.pointer (some ⟨7, 231, none⟩), .pointer (some a), .int .u64 150]]).run Tryz.prog W = .ok (.bool false) W := by
  rw [rlm]
  simp only [Sem.run_bind, Nm.parts231, Result.andThen]
  simp [ReflectliteValue.isNil, loadVar, isAgg, underlying, Tryz.underlying231, ha, Result.andThen]
theorem Nm.elem231 (w : World) : (ReflectliteType.method ReflectliteType.elem #[.agg #[.pointer (some ⟨7, 231, none⟩)]]).run Tryz.prog w = .ok (.iface 336 (.agg #[.pointer (some ⟨7, 222, none⟩)])) w := by kernel_rfl
theorem Nm.implements222 (w : World) : (ReflectliteType.relation "Implements" ReflectliteType.implements_ #[.agg #[.pointer (some ⟨7, 222, none⟩)], .iface 336 (.agg #[.pointer (some ⟨7, 132, none⟩)])]).run Tryz.prog w = .ok (.bool true) w := by kernel_rfl
theorem Nm.typeOf222 (v : Value) (w : World) : (ReflectliteType.typeOf #[.iface 222 v]).run Tryz.prog w = .ok (.iface 336 (.agg #[.pointer (some ⟨7, 222, none⟩)])) w := by kernel_rfl
theorem Nm.typeOf225 (v : Value) (w : World) : (ReflectliteType.typeOf #[.iface 225 v]).run Tryz.prog w = .ok (.iface 336 (.agg #[.pointer (some ⟨7, 225, none⟩)])) w := by kernel_rfl
theorem Nm.typeOf229 (v : Value) (w : World) : (ReflectliteType.typeOf #[.iface 229 v]).run Tryz.prog w = .ok (.iface 336 (.agg #[.pointer (some ⟨7, 229, none⟩)])) w := by kernel_rfl
theorem Nm.assignable222 (w : World) : (ReflectliteType.relation "AssignableTo" ReflectliteType.assignableTo #[.agg #[.pointer (some ⟨7, 222, none⟩)], .iface 336 (.agg #[.pointer (some ⟨7, 222, none⟩)])]).run Tryz.prog w = .ok (.bool true) w := by kernel_rfl
theorem Nm.assignable225 (w : World) : (ReflectliteType.relation "AssignableTo" ReflectliteType.assignableTo #[.agg #[.pointer (some ⟨7, 225, none⟩)], .iface 336 (.agg #[.pointer (some ⟨7, 222, none⟩)])]).run Tryz.prog w = .ok (.bool false) w := by kernel_rfl
theorem Nm.assignable229 (w : World) : (ReflectliteType.relation "AssignableTo" ReflectliteType.assignableTo #[.agg #[.pointer (some ⟨7, 229, none⟩)], .iface 336 (.agg #[.pointer (some ⟨7, 222, none⟩)])]).run Tryz.prog w = .ok (.bool false) w := by kernel_rfl
theorem Nm.valueOf222 (e : Int) (w : World) : (ReflectliteValue.unpack (.iface 222 (.agg #[.int .i64 e]))).run Tryz.prog w
    = .ok (.agg #[.pointer (some ⟨7, 222, none⟩), .pointer (some ⟨w.heap.size, 0, none⟩), .int .u64 153]) (w.alloc (.cells #[.int .i64 e] 222)) := by kernel_rfl
theorem Nm.elemOf231 (w : World) : (Rtype.elem? 231).run Tryz.prog w = .ok (some 222) w := by kernel_rfl
theorem Nm.mk222 (p : Addr) (w : World) : (ReflectliteValue.mk 222 p ReflectliteValue.flagAddr).run Tryz.prog w = .ok (.agg #[.pointer (some ⟨7, 222, none⟩), .pointer (some p), .int .u64 409]) w := by kernel_rfl
theorem Nm.elemV231 (a p : Addr) (W : World) (ha : W.cell? a = some (.pointer (some p))) :
    (ReflectliteValue.method (ReflectliteValue.valueError "reflectlite.Value.Elem" 0) ReflectliteValue.elem #[.agg #[.pointer (some ⟨7, 231, none⟩), .pointer (some a), .int .u64 150]]).run Tryz.prog W
      = .ok (.agg #[.pointer (some ⟨7, 222, none⟩), .pointer (some p), .int .u64 409]) W := by
  rw [rlm]
  simp only [Sem.run_bind, Nm.parts231, Result.andThen]
  simp [ReflectliteValue.elem, loadVar, isAgg, underlying, Tryz.underlying231, ha, Result.andThen, Nm.elemOf231, Nm.mk222]
theorem Nm.parts222a (a : Addr) (w : World) : (ReflectliteValue.parts (.agg #[.pointer (some ⟨7, 222, none⟩), .pointer (some a), .int .u64 409])).run Tryz.prog w = .ok (some (222, a, 409)) w := by kernel_rfl
theorem Nm.parts222 (a : Addr) (w : World) : (ReflectliteValue.parts (.agg #[.pointer (some ⟨7, 222, none⟩), .pointer (some a), .int .u64 153])).run Tryz.prog w = .ok (some (222, a, 153)) w := by kernel_rfl
theorem Nm.direct222 (w : World) : (Rtype.directlyAssignable 222 222).run Tryz.prog w = .ok true w := by kernel_rfl
theorem Nm.size222 (w : World) : (sizeOf 222).run Tryz.prog w = .ok 1 w := by kernel_rfl
theorem Nm.set222 (ta b : Addr) (e : Int) (old : Value) (W : World) (hb : W.cell? b = some (.int .i64 e)) (ht : W.cell? ta = some old) (hf : W.frozen? ta = false) :
    (ReflectliteValue.set #[.agg #[.pointer (some ⟨7, 222, none⟩), .pointer (some ta), .int .u64 409], .agg #[.pointer (some ⟨7, 222, none⟩), .pointer (some b), .int .u64 153]]).run Tryz.prog W
      = .ok (.tuple #[]) (W.setCell ta (.int .i64 e)) := by
  have hl : (loadVar 222 b).run Tryz.prog W = .ok (.agg #[.int .i64 e]) W := by
    have hc : (loadCells b 1).run Tryz.prog W = .ok #[.int .i64 e] W := run_loadCells_list (P := Tryz.prog) W b [.int .i64 e] (fun j u hj => by
      cases j with
      | zero => cases hj; rw [show b.add 0 = b from rfl]; exact hb
      | succ n => cases hj)
    simp [loadVar, isAgg, underlying, Tryz.underlying222, Result.andThen, Nm.size222, hc]
  rw [rls]
  simp only [Sem.run_bind, Nm.parts222a, Nm.parts222, Result.andThen]
  simp [ReflectliteValue.flagAddr, hl, Result.andThen, Nm.direct222, storeVar, Value.cells, storeCells, Addr.add]
  rw [run_store Tryz.prog W ta _ _ (by rfl)]
  simp [ht, hf]
theorem Nm.methodUnwrap (v : Value) (w : World) : (Go.method 558 229 v "Unwrap").run Tryz.prog w = .ok (340, v) w := by kernel_rfl
theorem Nm.methodComparable (h : Value) (w : World) : (Go.method 558 336 h "Comparable").run Tryz.prog w = .ok (348, h) w := by kernel_rfl
theorem Nm.comparable225 (w : World) : ((ReflectliteType.method fun t => do Rtype.noPackHeld "Comparable" t; (fun a => Value.bool a.comparable) <$> typeInfo t) #[.agg #[.pointer (some ⟨7, 225, none⟩)]]).run Tryz.prog w = .ok (.bool true) w := by kernel_rfl
theorem Nm.noAs (t : TypeId) (ht : t = 222 ∨ t = 225 ∨ t = 229) (v : Value) (xT : TypeId) (w : World) : (Instr.typeAssert (.iface t v) xT 340 true).run Tryz.prog w = .ok (.tuple #[.nilIface, .bool false]) w := by
  rcases ht with rfl | rfl | rfl <;> exact run_typeAssert_lacksB Tryz.underlying340 (by kernel_rfl) (by kernel_rfl) v xT w
theorem Nm.noIs (t : TypeId) (ht : t = 222 ∨ t = 225 ∨ t = 229) (v : Value) (xT : TypeId) (w : World) : (Instr.typeAssert (.iface t v) xT 348 true).run Tryz.prog w = .ok (.tuple #[.nilIface, .bool false]) w := by
  rcases ht with rfl | rfl | rfl <;> exact run_typeAssert_lacksB Tryz.underlying348 (by kernel_rfl) (by kernel_rfl) v xT w
theorem Nm.noUnwraps (t : TypeId) (ht : t = 222 ∨ t = 225 ∨ t = 229) (v : Value) (xT : TypeId) (w : World) : (Instr.typeAssert (.iface t v) xT 345 true).run Tryz.prog w = .ok (.tuple #[.nilIface, .bool false]) w := by
  rcases ht with rfl | rfl | rfl <;> exact run_typeAssert_lacksB Tryz.underlying345 (by kernel_rfl) (by kernel_rfl) v xT w
theorem Nm.noUnwrap (t : TypeId) (ht : t = 222 ∨ t = 225) (v : Value) (xT : TypeId) (w : World) : (Instr.typeAssert (.iface t v) xT 343 true).run Tryz.prog w = .ok (.tuple #[.nilIface, .bool false]) w := by
  rcases ht with rfl | rfl <;> exact run_typeAssert_lacksB Tryz.underlying343 (by kernel_rfl) (by kernel_rfl) v xT w
theorem Nm.hasUnwrap (v : Value) (xT : TypeId) (w : World) : (Instr.typeAssert (.iface 229 v) xT 343 true).run Tryz.prog w = .ok (.tuple #[.iface 229 v, .bool true]) w := run_typeAssert_hasB Tryz.underlying343 (by kernel_rfl) v xT w
theorem Nm.eql_flt (f g : Int) (w : World) : (binOp .eql 132 (.iface 225 (.int .i64 f)) (.iface 225 (.int .i64 g))).run Tryz.prog w = .ok (.bool (f == g)) w := by kernel_rfl
theorem Nm.eql_low (v : Value) (g : Int) (w : World) : (binOp .eql 132 (.iface 222 v) (.iface 225 (.int .i64 g))).run Tryz.prog w = .ok (.bool false) w := run_eql_iface_types 222 225 v _ Tryz.underlying132 (by decide) w
theorem Nm.eql_part (v : Value) (g : Int) (w : World) : (binOp .eql 132 (.iface 229 v) (.iface 225 (.int .i64 g))).run Tryz.prog w = .ok (.bool false) w := run_eql_iface_types 229 225 v _ Tryz.underlying132 (by decide) w
theorem unwrap_calls (i : Int) (v : Value) (hv : v.oneCell' = true) (w : World) : Calls Tryz.prog 340 #[.agg #[.int .i64 i, v]] w fun e w' => e = .returned v ∧ Below w.heap.size w w' := by
  have HV := Aside0.mk hv
  clear hv
  go_enter Tryz.func340, Tryz.ntmps340
  go_wp2_with (first | ((with_reducible refine gate_dst (N := 1) rfl ?_); refine box_event ?hg (N := 1) ?hd (cs := #[.int .i64 i, v]) (t := 229) ?hr ?_; (case hd => rfl); (case hg => rfl); (case hr => first | (go_simp; done) | (go_simp; rfl)); intro gb hg w4 hbox hb; have HB := Aside0.mk hb; have hcz : w4.cell? ⟨gb, 1, none⟩ = some v := (blk_cell hbox 1).trans rfl; clear hg hbox hb))
  go_ret
  exact ⟨rfl, HB.out⟩
set_option maxRecDepth 100000 in
set_option maxHeartbeats 4000000 in
theorem is_ne (x : NE) (g : Int) (w : World) :
    Calls Tryz.prog 195 #[x.val, .iface 225 (.int .i64 g), .bool true] w fun e w' => e = .returned (.bool (x.isFlt g)) ∧ Below w.heap.size w w' := by
  have HB := Aside0.mk (Below.refl w.heap.size w)
  go_enter Tryz.func195, Tryz.ntmps195
  go_wp2_with fail
  go_loopg [0] (x.depth + 1) (fun kq v0 w' => ∃ (y : NE), v0 = y.val ∧ Aside0 (y.isFlt g = x.isFlt g) ∧ Aside0 (y.depth < kq) ∧ Aside0 (Below w.heap.size w w'))
  case atStart => exact ⟨x, rfl, ⟨rfl⟩, ⟨by omega⟩, HB⟩
  case round =>
    clear HB
    obtain ⟨y, rfl, HF, HD, HB⟩ := hrel
    cases gk with
    | zero => exact absurd HD.out (by omega)
    | succ g1 =>
      cases y with
      | low e =>
        have q1 := Nm.noIs 222 (by simp) (.agg #[.int .i64 e]) 132 wr
        have q2 := Nm.noUnwrap 222 (by simp) (.agg #[.int .i64 e]) 132 wr
        have q3 := Nm.noUnwraps 222 (by simp) (.agg #[.int .i64 e]) 132 wr
        have q4 := Nm.eql_low (.agg #[.int .i64 e]) g wr
        simp only [NE.val] at *
        go_wp2_with fail
        go_ret
        exact ⟨by rw [← HF.out]; rfl, HB.out⟩
      | flt f =>
        have q1 := Nm.noIs 225 (by simp) (.int .i64 f) 132 wr
        have q2 := Nm.noUnwrap 225 (by simp) (.int .i64 f) 132 wr
        have q3 := Nm.noUnwraps 225 (by simp) (.int .i64 f) 132 wr
        have q4 := Nm.eql_flt f g wr
        have hf : (f == g) = x.isFlt g := HF.out
        clear HF
        rw [hf] at q4
        clear hf
        obtain ⟨bb, hbb⟩ : ∃ bb, x.isFlt g = bb := ⟨_, rfl⟩
        rw [hbb] at q4
        have HH := Aside0.mk hbb
        clear hbb
        simp only [NE.val] at *
        cases bb
        all_goals
          go_wp2_with fail
          go_ret
          exact ⟨by rw [HH.out]; rfl, HB.out⟩
      | part i z =>
        obtain ⟨zt, zv, hz, hzt⟩ := z.val_iface
        have q1 := Nm.noIs 229 (by simp) (.agg #[.int .i64 i, .iface zt zv]) 132 wr
        have q2 := Nm.hasUnwrap (.agg #[.int .i64 i, .iface zt zv]) 132 wr
        have q4 := Nm.eql_part (.agg #[.int .i64 i, .iface zt zv]) g wr
        have q5 := Nm.methodUnwrap
        have HZ := Aside0.mk hz
        have hz' : NE.val (.part i z) = .iface 229 (.agg #[.int .i64 i, .iface zt zv]) := by rw [NE.val, hz]
        rw [hz'] at *
        clear hz hz'
        go_wp2_with ((with_reducible refine (unwrap_calls i (.iface zt zv) rfl _).mono ?_); rintro e w4 ⟨rfl, hb⟩; have n0 := Aside0.mk (below_step HB.out hb); clear hb HB; have HB := n0; clear n0)
        go_roundg g1
        case measure => exact Nat.lt_succ_self _
        case rel => exact ⟨z, HZ.out.symm, ⟨HF.out⟩, ⟨by have := HD.out; simp only [NE.depth] at this; omega⟩, HB⟩
set_option maxRecDepth 100000 in
set_option maxHeartbeats 4000000 in
theorem errors_Is_ne (x : NE) (g : Int) (w : World) :
    Calls Tryz.prog 144 #[x.val, .iface 225 (.int .i64 g)] w fun e w' => e = .returned (.bool (x.isFlt g)) ∧ Below w.heap.size w w' := by
  have h8 := @run_callFunc_extern Tryz.prog 194 _ ReflectliteType.typeOf Tryz.func194 (by kernel_rfl) (by kernel_rfl) (by kernel_rfl) (by kernel_rfl)
  have h32 := @run_callFunc_extern Tryz.prog 348 _ (ReflectliteType.method fun t => do Rtype.noPackHeld "Comparable" t; pure (.bool (← typeInfo t).comparable)) Tryz.func348 (by kernel_rfl) (by kernel_rfl) (by kernel_rfl) (by kernel_rfl)
  have tT := Nm.typeOf225
  have cT := Nm.comparable225
  have mR := Nm.methodComparable
  obtain ⟨zt, zv, hz, hzt⟩ := x.val_iface
  have HZ := Aside0.mk hz
  rw [hz]
  clear hz hzt
  go_enter Tryz.func144, Tryz.ntmps144
  go_wp2_with (go_at_call 195; rw [← HZ.out]; (with_reducible refine (is_ne x g _).mono ?_); rintro e w4 ⟨rfl, hb⟩; have HB := Aside0.mk hb; clear hb)
  go_ret
  exact ⟨rfl, HB.out⟩
set_option maxRecDepth 100000 in
set_option maxHeartbeats 4000000 in
theorem as_ne (x : NE) (g b t : Nat) (w0 w : World) (hB : Below w0.heap.size w0 w) (hg : w0.heap.size ≤ g) (ht : w.heap[g]? = some (.cells #[.int .i64 0] 222 (0, 0))) (hb : w.heap[b]? = some (.cells #[.pointer (some ⟨g, 0, none⟩)] 231 (0, 0))) (hgb : b ≠ g) :
    Calls Tryz.prog 193 #[x.val, .iface 231 (.pointer (some ⟨g, 0, none⟩)), .agg #[.pointer (some ⟨7, 231, none⟩), .pointer (some ⟨b, 0, none⟩), .int .u64 150], .iface 336 (.agg #[.pointer (some ⟨7, 222, none⟩)])] w fun e w' =>
      e = .returned (.bool x.isLow.isSome) ∧ w'.heap[g]? = some (.cells #[.int .i64 (x.isLow.getD 0)] 222 (0, 0)) ∧ Below w0.heap.size w0 w' := by
  have h6 := @run_callFunc_extern Tryz.prog 190 _ (fun args => ReflectliteValue.unpack (args.getD 0 (.tuple #[]))) Tryz.func190 (by kernel_rfl) (by kernel_rfl) (by kernel_rfl) (by kernel_rfl)
  have h10 := @run_callFunc_extern Tryz.prog 194 _ ReflectliteType.typeOf Tryz.func194 (by kernel_rfl) (by kernel_rfl) (by kernel_rfl) (by kernel_rfl)
  have h35 := @run_callFunc_extern Tryz.prog 347 _ (ReflectliteType.relation "AssignableTo" ReflectliteType.assignableTo) Tryz.func347 (by kernel_rfl) (by kernel_rfl) (by kernel_rfl) (by kernel_rfl)
  have h11 := @run_callFunc_extern Tryz.prog 236 _ (ReflectliteValue.method (ReflectliteValue.valueError "reflectlite.Value.Elem" 0) ReflectliteValue.elem) Tryz.func236 (by kernel_rfl) (by kernel_rfl) (by kernel_rfl) (by kernel_rfl)
  have h12 := @run_callFunc_extern Tryz.prog 237 _ ReflectliteValue.set Tryz.func237 (by kernel_rfl) (by kernel_rfl) (by kernel_rfl) (by kernel_rfl)
  have mA := Ref.methodAssignableTo
  have HB := Aside0.mk hB
  have HG := Aside0.mk hg
  have HT := Aside0.mk ht
  have HBK := Aside0.mk hb
  have HN := Aside0.mk hgb
  clear hB hg ht hb hgb
  go_enter Tryz.func193, Tryz.ntmps193
  go_wp2_with (first | ((with_reducible refine gate_dst (N := 6) rfl ?_); refine box_event ?hg (N := 6) ?hd (cs := #[.pointer (some ⟨7, 231, none⟩), .pointer (some ⟨b, 0, none⟩), .int .u64 150]) (t := 289) ?hr ?_; (case hd => rfl); (case hg => rfl); (case hr => first | (go_simp; done) | (go_simp; rfl)); intro gb hgq w4 hbox hb; have HB6 := Aside0.mk hbox; have n1 := Aside0.mk (below_step HB.out hb); have n2 := Aside0.mk (blk_below HT.out hb); have n3 := Aside0.mk (blk_below HBK.out hb); have HGB := Aside0.mk (show w0.heap.size ≤ gb by rw [hgq]; exact HB.out.size); clear hbox hb hgq HB HT HBK; have HB := n1; have HT := n2; have HBK := n3; clear n1 n2 n3))
  go_loopg [0] (x.depth + 1) (fun kq v0 w' => ∃ (y : NE), v0 = y.val ∧ Aside0 (y.isLow = x.isLow) ∧ Aside0 (y.depth < kq) ∧ Aside0 (Below w0.heap.size w0 w') ∧ Aside0 (w'.heap[g]? = some (.cells #[.int .i64 0] 222 (0, 0))) ∧ Aside0 (w'.heap[b]? = some (.cells #[.pointer (some ⟨g, 0, none⟩)] 231 (0, 0))) ∧ Aside0 (w'.heap[gb]? = some (.cells #[.pointer (some ⟨7, 231, none⟩), .pointer (some ⟨b, 0, none⟩), .int .u64 150] 289 (0, 0))))
  case atStart => exact ⟨x, rfl, ⟨rfl⟩, ⟨by omega⟩, HB, HT, HBK, HB6⟩
  case round =>
    clear HB HT HBK HB6
    obtain ⟨y, rfl, HF, HD, HB, HT, HBK, HB6⟩ := hrel
    cases gk with
    | zero => exact absurd HD.out (by omega)
    | succ g1 =>
      cases y with
      | low e =>
        have tO := Nm.typeOf222 (.agg #[.int .i64 e]) wr
        have a25 := Nm.assignable222 wr
        have v25 := Nm.valueOf222 e wr
        have z0 : wr.cell? ⟨gb, 0, none⟩ = some (.pointer (some ⟨7, 231, none⟩)) := (blk_cell HB6.out 0).trans rfl
        have z1 : wr.cell? ⟨gb, 1, none⟩ = some (.pointer (some ⟨b, 0, none⟩)) := (blk_cell HB6.out 1).trans rfl
        have z2 : wr.cell? ⟨gb, 2, none⟩ = some (.int .u64 150) := (blk_cell HB6.out 2).trans rfl
        have el := Nm.elemV231 ⟨b, 0, none⟩ ⟨g, 0, none⟩ wr ((blk_cell HBK.out 0).trans rfl)
        have HT2 := Aside0.mk (blk_alloc HT.out (.cells #[.int .i64 e] 222))
        have st := Nm.set222 ⟨g, 0, none⟩ ⟨wr.heap.size, 0, none⟩ e (.int .i64 0) (wr.alloc (.cells #[.int .i64 e] 222)) ((blk_cell (heap_alloc_new wr _) 0).trans rfl) ((blk_cell HT2.out 0).trans rfl) (blk_frozen HT2.out 0)
        simp only [NE.val] at *
        go_wp2_with fail
        go_ret
        refine ⟨by rw [← HF.out]; rfl, ?_, ?_⟩
        rotate_left
        · exact below_set (below_alloc HB.out _) HG.out
        rw [← HF.out]
        exact blk_put HT2.out 0 (.int .i64 e) rfl
      | flt f =>
        have tO := Nm.typeOf225 (.int .i64 f) wr
        have a25 := Nm.assignable225 wr
        have q1 := Nm.noAs 225 (by simp) (.int .i64 f) 132 wr
        have q2 := Nm.noUnwrap 225 (by simp) (.int .i64 f) 132 wr
        have q3 := Nm.noUnwraps 225 (by simp) (.int .i64 f) 132 wr
        simp only [NE.val] at *
        go_wp2_with fail
        go_ret
        exact ⟨by rw [← HF.out]; rfl, by rw [← HF.out]; exact HT.out, HB.out⟩
      | part i z =>
        obtain ⟨zt, zv, hz, hzt⟩ := z.val_iface
        have tO := Nm.typeOf229 (.agg #[.int .i64 i, .iface zt zv]) wr
        have a25 := Nm.assignable229 wr
        have q1 := Nm.noAs 229 (by simp) (.agg #[.int .i64 i, .iface zt zv]) 132 wr
        have q2 := Nm.hasUnwrap (.agg #[.int .i64 i, .iface zt zv]) 132 wr
        have q5 := Nm.methodUnwrap
        have HZ := Aside0.mk hz
        have hz' : NE.val (.part i z) = .iface 229 (.agg #[.int .i64 i, .iface zt zv]) := by rw [NE.val, hz]
        rw [hz'] at *
        clear hz hz'
        go_wp2_with ((with_reducible refine (unwrap_calls i (.iface zt zv) rfl _).mono ?_); rintro e w4 ⟨rfl, hb⟩; have n0 := Aside0.mk (below_step HB.out hb); have n1 := Aside0.mk (blk_below HT.out hb); have n2 := Aside0.mk (blk_below HBK.out hb); have n3 := Aside0.mk (blk_below HB6.out hb); clear hb HB HT HBK HB6; have HB := n0; have HT := n1; have HBK := n2; have HB6 := n3; clear n0 n1 n2 n3)
        go_roundg g1
        case measure => exact Nat.lt_succ_self _
        case rel => exact ⟨z, HZ.out.symm, ⟨HF.out⟩, ⟨by have := HD.out; simp only [NE.depth] at this; omega⟩, HB, HT, HBK, HB6⟩
set_option maxRecDepth 100000 in
set_option maxHeartbeats 4000000 in
theorem errors_As_ne (x : NE) (g : Nat) (w0 w : World) (hB : Below w0.heap.size w0 w) (hH : Hd w) (hg : w0.heap.size ≤ g) (ht : w.heap[g]? = some (.cells #[.int .i64 0] 222 (0, 0))) :
    Calls Tryz.prog 143 #[x.val, .iface 231 (.pointer (some ⟨g, 0, none⟩))] w fun e w' =>
      e = .returned (.bool x.isLow.isSome) ∧ w'.heap[g]? = some (.cells #[.int .i64 (x.isLow.getD 0)] 222 (0, 0)) ∧ Below w0.heap.size w0 w' := by
  have h6 := @run_callFunc_extern Tryz.prog 190 _ (fun args => ReflectliteValue.unpack (args.getD 0 (.tuple #[]))) Tryz.func190 (by kernel_rfl) (by kernel_rfl) (by kernel_rfl) (by kernel_rfl)
  have h7 := @run_callFunc_extern Tryz.prog 191 _ (ReflectliteValue.methodAny (ReflectliteValue.valueError "reflectlite.Value.Type" 0) (fun t _ _ _ => ReflectliteType.toType t)) Tryz.func191 (by kernel_rfl) (by kernel_rfl) (by kernel_rfl) (by kernel_rfl)
  have h8 := @run_callFunc_extern Tryz.prog 192 _ (ReflectliteValue.method (ReflectliteValue.valueError "reflectlite.Value.IsNil" 0) ReflectliteValue.isNil) Tryz.func192 (by kernel_rfl) (by kernel_rfl) (by kernel_rfl) (by kernel_rfl)
  have h27 := @run_callFunc_extern Tryz.prog 333 _ (ReflectliteType.abiMethod fun t => do pure (.int .u8 (← Rtype.kind t))) Tryz.func333 (by kernel_rfl) (by kernel_rfl) (by kernel_rfl) (by kernel_rfl)
  have h37 := @run_callFunc_extern Tryz.prog 349 _ (ReflectliteType.method ReflectliteType.elem) Tryz.func349 (by kernel_rfl) (by kernel_rfl) (by kernel_rfl) (by kernel_rfl)
  have h38 := @run_callFunc_extern Tryz.prog 350 _ (ReflectliteType.relation "Implements" ReflectliteType.implements_) Tryz.func350 (by kernel_rfl) (by kernel_rfl) (by kernel_rfl) (by kernel_rfl)
  have f6 := Nm.valueOf231
  have f7 := Nm.type231
  have mK := Ref.methodKind
  have mE := Ref.methodElem
  have mI := Ref.methodImplements
  have k27 := Nm.kind231
  have k25 := Nm.kind222
  have e27 := Nm.elem231
  have i25 := Nm.implements222
  obtain ⟨zt, zv, hz, hzt⟩ := x.val_iface
  have HZ := Aside0.mk hz
  rw [hz]
  have n8 := Nm.isNil231 ⟨w.heap.size, 0, none⟩ ⟨g, 0, none⟩ ((w.alloc (.cells #[.pointer (some ⟨g, 0, none⟩)] 231)).alloc (.cells #[.pointer (some ⟨7, 231, none⟩), .pointer (some ⟨w.heap.size, 0, none⟩), .int .u64 150] 289)) (by simp)
  have hg2 : ((w.alloc (.cells #[.pointer (some ⟨g, 0, none⟩)] 231)).alloc (.cells #[.pointer (some ⟨7, 231, none⟩), .pointer (some ⟨w.heap.size, 0, none⟩), .int .u64 150] 289)).cell? ⟨0, 0, none⟩ = some (.iface 336 (.agg #[.pointer (some ⟨7, 132, none⟩)])) := by
    rw [World.cell?_alloc_lt _ _ ⟨0, 0, none⟩ (by simp), World.cell?_alloc_lt _ _ ⟨0, 0, none⟩ hH.lt]
    exact hH
  have HBK := Aside0.mk (blk_alloc (heap_alloc_new w (.cells #[.pointer (some ⟨g, 0, none⟩)] 231)) (.cells #[.pointer (some ⟨7, 231, none⟩), .pointer (some ⟨w.heap.size, 0, none⟩), .int .u64 150] 289))
  have HT := Aside0.mk (blk_alloc (blk_alloc ht (.cells #[.pointer (some ⟨g, 0, none⟩)] 231)) (.cells #[.pointer (some ⟨7, 231, none⟩), .pointer (some ⟨w.heap.size, 0, none⟩), .int .u64 150] 289))
  have HB := Aside0.mk (below_alloc (below_alloc hB (.cells #[.pointer (some ⟨g, 0, none⟩)] 231)) (.cells #[.pointer (some ⟨7, 231, none⟩), .pointer (some ⟨w.heap.size, 0, none⟩), .int .u64 150] 289))
  have HG := Aside0.mk hg
  have HN := Aside0.mk (show w.heap.size ≠ g from fun h => by have := blk_lt ht; omega)
  clear hz hzt hB hH hg ht
  go_enter Tryz.func143, Tryz.ntmps143
  go_wp2_with (go_at_call 193; rw [← HZ.out]; (with_reducible refine (as_ne x g w.heap.size 0 w0 _ HB.out HG.out HT.out HBK.out HN.out).mono ?_); rintro e w4 ⟨rfl, ht, hb⟩; have HT2 := Aside0.mk ht; have HB2 := Aside0.mk hb; clear ht hb)
  go_ret
  exact ⟨rfl, HT2.out, HB2.out⟩
theorem NE.num_of (x : NE) : x.num = match x.isLow with
    | some e => e
    | none => if x.isFlt 1 = true then 4 else if x.isFlt 2 = true then 5 else if x.isFlt 4 = true then 1 else 30 := by
  induction x with
  | low e => rfl
  | flt f => simp [NE.num, NE.isLow, NE.isFlt]
  | part i x ih => exact ih
set_option maxRecDepth 100000 in
set_option maxHeartbeats 4000000 in
theorem name_number_ne (x : NE) (w : World) (hH : Hd w) : Calls Tryz.prog 80 #[x.val] w fun e w' => e = .returned (.int .i64 x.num) ∧ Below w.heap.size w w' := by
  obtain ⟨zt, zv, hz, hzt⟩ := x.val_iface
  have HZ := Aside0.mk hz
  rw [hz]
  have HX := Aside0.mk x.num_of
  have HB := Aside0.mk (below_alloc (Below.refl w.heap.size w) (.cells #[.int .i64 0] 222))
  have HT := Aside0.mk (heap_alloc_new w (.cells #[.int .i64 0] 222))
  have HH := Aside0.mk (hH.below (below_alloc (Below.refl w.heap.size w) (.cells #[.int .i64 0] 222)))
  clear hz hzt hH
  obtain ⟨lo, hlo⟩ : ∃ lo, x.isLow = lo := ⟨_, rfl⟩
  obtain ⟨f1, hf1⟩ : ∃ lo, x.isFlt 1 = lo := ⟨_, rfl⟩
  obtain ⟨f2, hf2⟩ : ∃ lo, x.isFlt 2 = lo := ⟨_, rfl⟩
  obtain ⟨f4, hf4⟩ : ∃ lo, x.isFlt 4 = lo := ⟨_, rfl⟩
  have HL := Aside0.mk hlo
  have HF1 := Aside0.mk hf1
  have HF2 := Aside0.mk hf2
  have HF4 := Aside0.mk hf4
  clear hlo hf1 hf2 hf4
  cases lo with
  | some e =>
    go_enter Tryz.func80, Tryz.ntmps80
    go_wp2_with (first | (go_at_call 143; rw [← HZ.out]; (with_reducible refine (errors_As_ne x w.heap.size w _ HB.out HH.out (Nat.le_refl _) HT.out).mono ?_); rintro e_ w4 ⟨rfl, ht, hb⟩; rw [HL.out] at ht ⊢; have HB2 := Aside0.mk hb; have z0 : w4.cell? ⟨w.heap.size, 0, none⟩ = some (.int .i64 e) := (blk_cell ht 0).trans rfl; clear ht hb))
    go_ret
    exact ⟨by rw [HX.out, HL.out]; rfl, HB2.out⟩
  | none =>
    have ARM : ∀ (g : Int) (bb : Bool), x.isFlt g = bb → ∀ W : World, Calls Tryz.prog 144 #[x.val, .iface 225 (.int .i64 g)] W fun e w' => e = .returned (.bool bb) ∧ Below W.heap.size W w' := fun g bb h W => h ▸ errors_Is_ne x g W
    cases f1 <;> cases f2 <;> cases f4
    all_goals
      go_enter Tryz.func80, Tryz.ntmps80
      go_wp2_with (first | (go_at_call 143; rw [← HZ.out]; (with_reducible refine (errors_As_ne x w.heap.size w _ HB.out HH.out (Nat.le_refl _) HT.out).mono ?_); rintro e_ w4 ⟨rfl, ht, hb⟩; rw [HL.out] at ht ⊢; have HB2 := Aside0.mk hb; clear ht hb) | ((with_reducible refine (ARM 1 _ HF1.out _).mono ?_); rintro e_ w5 ⟨rfl, hb⟩; have n0 := Aside0.mk (below_step HB2.out hb); clear hb HB2; have HB2 := n0; clear n0) | ((with_reducible refine (ARM 2 _ HF2.out _).mono ?_); rintro e_ w5 ⟨rfl, hb⟩; have n0 := Aside0.mk (below_step HB2.out hb); clear hb HB2; have HB2 := n0; clear n0) | ((with_reducible refine (ARM 4 _ HF4.out _).mono ?_); rintro e_ w5 ⟨rfl, hb⟩; have n0 := Aside0.mk (below_step HB2.out hb); clear hb HB2; have HB2 := n0; clear n0))
      go_ret
      exact ⟨by rw [HX.out, HL.out]; simp only [HF1.out, HF2.out, HF4.out]; rfl, HB2.out⟩
end Go.Proofs.YtkioddjjfifadaaGreatDoor.P
set_option linter.unusedVariables false
set_option linter.unusedSimpArgs false
namespace Go.Proofs.YtkioddjjfifadaaGreatDoor.P
open Go.RowKit Go.Proofs.YtkioddjjfifadaaGreatDoorW.PrintWords Go.Proofs.YtkioddjjfifadaaGreatDoorW.PrintLast Go.Proofs.YtkioddjjfifadaaGreatDoorW.PrintMore
/-- v is the error of the number n: none at 0. -/
def EV (v : Value) (n : Int) : Prop := (n = 0 ∧ v = .nilIface) ∨ (n ≠ 0 ∧ ∃ x : NE, v = x.val ∧ x.num = n)
theorem EV.nil : EV .nilIface 0 := Or.inl ⟨rfl, rfl⟩
theorem EV.f30 : EV (.iface 225 (.int .i64 3)) 30 := Or.inr ⟨by decide, .flt 3, rfl, rfl⟩
theorem EV.f5 : EV (.iface 225 (.int .i64 2)) 5 := Or.inr ⟨by decide, .flt 2, rfl, rfl⟩
theorem EV.f4 : EV (.iface 225 (.int .i64 1)) 4 := Or.inr ⟨by decide, .flt 1, rfl, rfl⟩
theorem EV.f1 : EV (.iface 225 (.int .i64 4)) 1 := Or.inr ⟨by decide, .flt 4, rfl, rfl⟩
theorem EV.low {e : Int} (h : ¬ e = 0) : EV (.iface 222 (.agg #[.int .i64 e])) e := Or.inr ⟨h, .low e, rfl, rfl⟩
theorem EV.part {i n : Int} {t : TypeId} {u : Value} (h : EV (.iface t u) n) : EV (.iface 229 (.agg #[.int .i64 i, .iface t u])) n := by
  rcases h with ⟨_, h⟩ | ⟨hn, x, hx, hm⟩
  rotate_left
  · exact Or.inr ⟨hn, .part i x, by rw [NE.val, hx], hm⟩
  cases h
theorem EV.nil_of {v : Value} {n : Int} (h : EV v n) (hn : (n == 0) = true) : v = .nilIface := by
  rcases h with ⟨_, h⟩ | ⟨h, _⟩
  rotate_left
  · exact absurd (beq_iff_eq.mp hn) h
  exact h
theorem EV.some_of {v : Value} {n : Int} (h : EV v n) (hn : (n == 0) = false) : ∃ t u, v = .iface t u := by
  rcases h with ⟨h, _⟩ | ⟨_, x, h, _⟩
  · exact absurd h (beq_eq_false_iff_ne.mp hn)
  obtain ⟨t, u, hx, _⟩ := x.val_iface
  exact ⟨t, u, h.trans hx⟩
theorem name_number_nil (w : World) : Calls Tryz.prog 80 #[.nilIface] w fun e w' => e = .returned (.int .i64 0) ∧ Below w.heap.size w w' := by
  have HB := Aside0.mk (below_alloc (Below.refl w.heap.size w) (.cells #[.int .i64 0] 222))
  go_enter Tryz.func80, Tryz.ntmps80
  go_wp2_with fail
  go_ret
  exact ⟨rfl, HB.out⟩
theorem name_number_ev {v : Value} {n : Int} (h : EV v n) (w : World) (hH : Hd w) : Calls Tryz.prog 80 #[v] w fun e w' => e = .returned (.int .i64 n) ∧ Below w.heap.size w w' := by
  rcases h with ⟨rfl, rfl⟩ | ⟨_, x, rfl, rfl⟩
  rotate_left
  · exact name_number_ne x w hH
  exact name_number_nil w
end Go.Proofs.YtkioddjjfifadaaGreatDoor.P
namespace Go.Proofs.YtkioddjjfifadaaGreatDoor.P
open Go.RowKit Go.Proofs.YtkioddjjfifadaaGreatDoorW.PrintWords Go.Proofs.YtkioddjjfifadaaGreatDoorW.PrintLast Go.Proofs.YtkioddjjfifadaaGreatDoorW.PrintMore
attribute [local go_sem] max2_int min2_int max_two min_two max_three min_three max_four min_four   -- for this text's walks alone
set_option linter.unusedVariables false
set_option linter.unusedSimpArgs false
def name_inside.j0 : Nat → Bool → Int → Int → Bool → List Int → List Int → Option ((List (S77)) × Int)
  | 0, _, _, _, _, _, _ => none
  | k + 1, x22, x162000, x162001, x162002, x162003, x162004 => if x22 = true then (some (([] : List (S77)), 30)) else ((der_Split.f k x162003).bind fun bt162 => (if bt162.2.1 = 0 then (some (bt162.1, 0)) else (some (([] : List (S77)), bt162.2.1))))
def name_inside.f (k : Nat) (a0_0 : Int) (a0_1 : Int) (a0_2 : Bool) (l0_3 : List Int) (l0_4 : List Int) (a1 : Int) : Option ((List (S77)) × Int) := if a0_0 = 0 then (if a0_1 = a1 then (name_inside.j0 k (!a0_2) a0_0 a0_1 a0_2 l0_3 l0_4) else (name_inside.j0 k true a0_0 a0_1 a0_2 l0_3 l0_4)) else (name_inside.j0 k true a0_0 a0_1 a0_2 l0_3 l0_4)
set_option maxHeartbeats 8000000 in
set_option maxRecDepth 100000 in
theorem name_inside.calls (k : Nat) (a0_0 : Int) (a0_1 : Int) (a0_2 : Bool) (A0_3 : Option Addr) (c0_3 : Nat) (l0_3 : List Int) (A0_4 : Option Addr) (c0_4 : Nat) (l0_4 : List Int) (a1 : Int) (r1 : List (S77)) (r2 : Int) (w : World) (hr0_3 : Kd.C (Kd.int .u8) w A0_3 l0_3.length l0_3) (hc0_3 : l0_3.length ≤ c0_3) (hr0_4 : Kd.C (Kd.int .u8) w A0_4 l0_4.length l0_4) (hc0_4 : l0_4.length ≤ c0_4) (h : name_inside.f k a0_0 a0_1 a0_2 l0_3 l0_4 a1 = some (r1, r2)) :
    Calls Tryz.prog 141 #[.agg #[.int .i64 a0_0, .int .i64 a0_1, .bool a0_2, .slice A0_3 l0_3.length c0_3, .slice A0_4 l0_4.length c0_4], .int .i64 a1] w fun e w' => ∃ v0_ ev_ : Value, e = .returned (.tuple #[v0_, ev_]) ∧ EV ev_ r2 ∧ Kd.S k77 77 w' w.heap.size (fun _ => True) v0_ r1 ∧ Below w.heap.size w w' := by
  have hu77 := Tryz.underlying77
  have HR0_3 := Aside0.mk hr0_3
  have HC0_3 := Aside0.mk hc0_3
  clear hr0_3 hc0_3
  have HR0_4 := Aside0.mk hr0_4
  have HC0_4 := Aside0.mk hc0_4
  clear hr0_4 hc0_4
  have HB := Aside0.mk (Below.refl w.heap.size w)
  have H : (if a0_0 = 0 then (if a0_1 = a1 then (name_inside.j0 k (!a0_2) a0_0 a0_1 a0_2 l0_3 l0_4) else (name_inside.j0 k true a0_0 a0_1 a0_2 l0_3 l0_4)) else (name_inside.j0 k true a0_0 a0_1 a0_2 l0_3 l0_4)) = some (r1, r2) := h
  clear h
  have HC3 := Aside0.mk H
  clear H
  go_enter Tryz.func141, Tryz.ntmps141
  go_upto_region 1 with (first | ((with_reducible refine gate_dst (N := 2) rfl ?_); refine box_event ?hg (N := 2) ?hd (cs := #[.int .i64 a0_0, .int .i64 a0_1, .bool a0_2, .slice A0_3 l0_3.length c0_3, .slice A0_4 l0_4.length c0_4]) (t := 77) ?hr ?_; (case hd => rfl); (case hg => rfl); (case hr => first | (go_simp; done) | (go_simp; rfl)); intro gb161 hg w4 hbox hb; have n0_ := Aside0.mk (below_step (bU HB.out) hb); have n1_ := Aside0.mk (hbox); have n2_ := Aside0.mk ((by rw [hg]; exact (below_size (bU HB.out)) : w.heap.size ≤ gb161)); have n3_ := Aside0.mk ((by rw [hg]; exact (below_size (bU HB.out)) : w.heap.size ≤ gb161)); replace HB := n0_; have BK161 := n1_; have GW161 := n2_; have GE161 := n3_; clear n0_ n1_ n2_ n3_; clear hb hbox hg))
  (try simp only [Act.put, List.setIfInBounds_toArray, List.set_cons_zero, List.set_cons_succ])
  go_cut [22] (fun v22 wc => ∃ (kq : Nat) (x22_2 : Bool), v22 = .bool x22_2 ∧ Aside0 (name_inside.j0 kq x22_2 a0_0 a0_1 a0_2 l0_3 l0_4 = some (r1, r2)) ∧ Aside0 (kq ≤ k) ∧ Aside0 (wc.heap[gb161]? = some (.cells #[.int .i64 a0_0, .int .i64 a0_1, .bool a0_2, (.slice A0_3 l0_3.length c0_3), (.slice A0_4 l0_4.length c0_4)] 77 (0, 0))) ∧ Aside0 (Below w.heap.size w wc))
  case first =>
    have H := HC3.out
    clear HC3
    by_cases c5 : a0_0 = 0
    rotate_left
    · rw [if_neg c5] at H
      have c5b0 : (a0_0 == 0) = false := beq_eq_false_iff_ne.mpr c5
      have c5b1 : (a0_0 != 0) = true := bne_iff_ne.mpr c5
      (first | rw [c5b0] | (simp only [i64_w, i32_w]; rw [c5b0]) | skip)
      have H' := Aside0.mk H
      clear H
      have hcz9_0 : w4.cell? ⟨gb161, 0, none⟩ = some (.int .i64 a0_0) := (blk_cell BK161.out 0).trans rfl
      have hcz9_1 : w4.cell? ⟨gb161, 1, none⟩ = some (.int .i64 a0_1) := (blk_cell BK161.out 1).trans rfl
      have hcz9_2 : w4.cell? ⟨gb161, 2, none⟩ = some (.bool a0_2) := (blk_cell BK161.out 2).trans rfl
      have hcz9_3 : w4.cell? ⟨gb161, 3, none⟩ = some (.slice A0_3 l0_3.length c0_3) := (blk_cell BK161.out 3).trans rfl
      have hcz9_4 : w4.cell? ⟨gb161, 4, none⟩ = some (.slice A0_4 l0_4.length c0_4) := (blk_cell BK161.out 4).trans rfl
      have hfz9_0 := blk_frozen BK161.out 0
      have hfz9_1 := blk_frozen BK161.out 1
      have hfz9_2 := blk_frozen BK161.out 2
      have hfz9_3 := blk_frozen BK161.out 3
      have hfz9_4 := blk_frozen BK161.out 4
      go_wp2
      go_meet
      case rel => exact ⟨_, (true), (by first | rfl | (simp; done) | (simp [*]; done)), H', ⟨by first | omega | exact Nat.le_refl _⟩, ⟨by (with_reducible repeat (first | refine blk_drewN ?_ _ | refine blk_drew ?_ | refine blk_alloc ?_ _)); exact BK161.out⟩, ⟨by repeat (first | (with_reducible first | exact HB.out | apply below_alloc | apply pw_below_drewN | apply below_drew1 | refine below_set ?_ GE161.out) | exact HB.out)⟩⟩
    rw [if_pos c5] at H
    have c5b0 : (a0_0 == 0) = true := beq_iff_eq.mpr c5
    have c5b1 : (a0_0 != 0) = false := bne_eq_false_iff_eq.mpr c5
    clear c5
    (first | rw [c5b0] | (simp only [i64_w, i32_w]; rw [c5b0]) | skip)
    by_cases c6 : a0_1 = a1
    rotate_left
    · rw [if_neg c6] at H
      have c6b0 : (a0_1 == a1) = false := beq_eq_false_iff_ne.mpr c6
      have c6b1 : (a0_1 != a1) = true := bne_iff_ne.mpr c6
      have H' := Aside0.mk H
      clear H
      have hcz8_0 : w4.cell? ⟨gb161, 0, none⟩ = some (.int .i64 a0_0) := (blk_cell BK161.out 0).trans rfl
      have hcz8_1 : w4.cell? ⟨gb161, 1, none⟩ = some (.int .i64 a0_1) := (blk_cell BK161.out 1).trans rfl
      have hcz8_2 : w4.cell? ⟨gb161, 2, none⟩ = some (.bool a0_2) := (blk_cell BK161.out 2).trans rfl
      have hcz8_3 : w4.cell? ⟨gb161, 3, none⟩ = some (.slice A0_3 l0_3.length c0_3) := (blk_cell BK161.out 3).trans rfl
      have hcz8_4 : w4.cell? ⟨gb161, 4, none⟩ = some (.slice A0_4 l0_4.length c0_4) := (blk_cell BK161.out 4).trans rfl
      have hfz8_0 := blk_frozen BK161.out 0
      have hfz8_1 := blk_frozen BK161.out 1
      have hfz8_2 := blk_frozen BK161.out 2
      have hfz8_3 := blk_frozen BK161.out 3
      have hfz8_4 := blk_frozen BK161.out 4
      go_wp2
      go_meet
      case rel => exact ⟨_, (true), (by first | rfl | (simp; done) | (simp [*]; done)), H', ⟨by first | omega | exact Nat.le_refl _⟩, ⟨by (with_reducible repeat (first | refine blk_drewN ?_ _ | refine blk_drew ?_ | refine blk_alloc ?_ _)); exact BK161.out⟩, ⟨by repeat (first | (with_reducible first | exact HB.out | apply below_alloc | apply pw_below_drewN | apply below_drew1 | refine below_set ?_ GE161.out) | exact HB.out)⟩⟩
    rw [if_pos c6] at H
    have c6b0 : (a0_1 == a1) = true := beq_iff_eq.mpr c6
    have c6b1 : (a0_1 != a1) = false := bne_eq_false_iff_eq.mpr c6
    clear c6
    have H' := Aside0.mk H
    clear H
    have hcz7_0 : w4.cell? ⟨gb161, 0, none⟩ = some (.int .i64 a0_0) := (blk_cell BK161.out 0).trans rfl
    have hcz7_1 : w4.cell? ⟨gb161, 1, none⟩ = some (.int .i64 a0_1) := (blk_cell BK161.out 1).trans rfl
    have hcz7_2 : w4.cell? ⟨gb161, 2, none⟩ = some (.bool a0_2) := (blk_cell BK161.out 2).trans rfl
    have hcz7_3 : w4.cell? ⟨gb161, 3, none⟩ = some (.slice A0_3 l0_3.length c0_3) := (blk_cell BK161.out 3).trans rfl
    have hcz7_4 : w4.cell? ⟨gb161, 4, none⟩ = some (.slice A0_4 l0_4.length c0_4) := (blk_cell BK161.out 4).trans rfl
    have hfz7_0 := blk_frozen BK161.out 0
    have hfz7_1 := blk_frozen BK161.out 1
    have hfz7_2 := blk_frozen BK161.out 2
    have hfz7_3 := blk_frozen BK161.out 3
    have hfz7_4 := blk_frozen BK161.out 4
    go_wp2
    go_meet
    case rel => exact ⟨_, (!a0_2), (by first | rfl | (simp; done) | (simp [*]; done)), H', ⟨by first | omega | exact Nat.le_refl _⟩, ⟨by (with_reducible repeat (first | refine blk_drewN ?_ _ | refine blk_drew ?_ | refine blk_alloc ?_ _)); exact BK161.out⟩, ⟨by repeat (first | (with_reducible first | exact HB.out | apply below_alloc | apply pw_below_drewN | apply below_drew1 | refine below_set ?_ GE161.out) | exact HB.out)⟩⟩
  clear HC3
  try clear c1
  try clear p2
  try clear c5
  try clear c5b0
  try clear c5b1
  try clear c6
  try clear c6b0
  try clear c6b1
  try clear hcz7_0
  try clear hcz7_1
  try clear hcz7_2
  try clear hcz7_3
  try clear hcz7_4
  try clear hcz8_0
  try clear hcz8_1
  try clear hcz8_2
  try clear hcz8_3
  try clear hcz8_4
  try clear hcz9_0
  try clear hcz9_1
  try clear hcz9_2
  try clear hcz9_3
  try clear hcz9_4
  try clear hfz7_0
  try clear hfz7_1
  try clear hfz7_2
  try clear hfz7_3
  try clear hfz7_4
  try clear hfz8_0
  try clear hfz8_1
  try clear hfz8_2
  try clear hfz8_3
  try clear hfz8_4
  try clear hfz9_0
  try clear hfz9_1
  try clear hfz9_2
  try clear hfz9_3
  try clear hfz9_4
  obtain ⟨kq, x22_2, rfl, HA, HJ2, BK161, HB⟩ := hcut
  cases kq with
  | zero => exact absurd HA.out (by simp [name_inside.j0])
  | succ kj2 =>
    have H := HA.out
    clear HA
    simp only [name_inside.j0] at H
    by_cases c10 : x22_2 = true
    · subst c10
      have H1 : (some (([] : List (S77)), 30)) = some (r1, r2) := by rw [if_pos rfl] at H; exact H
      clear H
      have H := H1
      clear H1
      simp only [Option.some.injEq, Prod.mk.injEq] at H
      obtain ⟨rfl, rfl⟩ := H
      go_wp2
      go_ret2
      exact ⟨_, _, by first | rfl | (simp [errW_none, errW_some] <;> rfl) | (simp [*, errW_none, errW_some] <;> rfl), (by first | exact EV.nil | exact EV.f30 | exact EV.f5 | exact EV.f4 | exact EV.f1 | exact EV.low (by assumption) | exact HEV_.out | exact EV.part HEV_.out), by first | exact Kd.S_nil _ _ _ _ _ | exact Kd.N_nil _ _ _ _ _ | exact Kd.V_nil _ _ _ _ _ | exact Kd.Q_nil _ _ _ _ _ | exact Kd.R_nil _ _ _ _ _, by repeat (first | (with_reducible first | exact HB.out | apply below_alloc | apply pw_below_drewN | apply below_drew1 | refine below_set ?_ GE161.out) | exact HB.out)⟩
    replace c10 := Bool.eq_false_iff.mpr c10
    subst c10
    have H1 : ((der_Split.f kj2 l0_3).bind fun bt162 => (if bt162.2.1 = 0 then (some (bt162.1, 0)) else (some (([] : List (S77)), bt162.2.1)))) = some (r1, r2) := by rw [if_neg (show ¬ (false = true) by decide)] at H; exact H
    clear H
    have H := H1
    clear H1
    replace H := Option.bind_eq_some_iff.mp H
    obtain ⟨⟨t162, t163, t164⟩, A110, H⟩ := H
    replace H : (if t163 = 0 then (some (t162, 0)) else (some (([] : List (S77)), t163))) = some (r1, r2) := H
    have A11 := Aside0.mk A110
    clear A110
    by_cases c12 : t163 = 0
    rotate_left
    · rw [if_neg c12] at H
      have c12b0 : (t163 == 0) = false := beq_eq_false_iff_ne.mpr c12
      have c12b1 : (t163 != 0) = true := bne_iff_ne.mpr c12
      simp only [Option.some.injEq, Prod.mk.injEq] at H
      obtain ⟨rfl, rfl⟩ := H
      have hcz15_0 : wc.cell? ⟨gb161, 0, none⟩ = some (.int .i64 a0_0) := (blk_cell BK161.out 0).trans rfl
      have hcz15_1 : wc.cell? ⟨gb161, 1, none⟩ = some (.int .i64 a0_1) := (blk_cell BK161.out 1).trans rfl
      have hcz15_2 : wc.cell? ⟨gb161, 2, none⟩ = some (.bool a0_2) := (blk_cell BK161.out 2).trans rfl
      have hcz15_3 : wc.cell? ⟨gb161, 3, none⟩ = some (.slice A0_3 l0_3.length c0_3) := (blk_cell BK161.out 3).trans rfl
      have hcz15_4 : wc.cell? ⟨gb161, 4, none⟩ = some (.slice A0_4 l0_4.length c0_4) := (blk_cell BK161.out 4).trans rfl
      have hfz15_0 := blk_frozen BK161.out 0
      have hfz15_1 := blk_frozen BK161.out 1
      have hfz15_2 := blk_frozen BK161.out 2
      have hfz15_3 := blk_frozen BK161.out 3
      have hfz15_4 := blk_frozen BK161.out 4
      go_wp2_with (first | ((with_reducible refine gate_callee (f := 162) rfl ?_); refine goesL_ (some 27) rfl rfl Tryz.func162 (by kernel_rfl) rfl #[.slice A0_3 l0_3.length c0_3] rfl (by (try simp only [List.map_toArray, List.map_cons, List.map_nil]); first | done | rfl | (simp only [List.length_drop, List.length_take]; rfl)) ?_; (with_reducible refine (der_Split.calls kj2 _ _ l0_3 t162 t163 t164 _ ?side1 ?side2 A11.out).mono ?_); (case side1 => exact Kd.C_u (Kd.C_below HR0_3.out HB.out)); (case side2 => exact HC0_3.out); rintro e w16 ⟨v165, rfl, ho0, hb⟩; refine ⟨_, rfl, ?_⟩; have n0_ := Aside0.mk (Kd.S_lower (Kd.S_newB ho0 (g := gb161) (o := .cells #[.int .i64 a0_0, .int .i64 a0_1, .bool a0_2, .slice A0_3 l0_3.length c0_3, .slice A0_4 l0_4.length c0_4] 77 (0, 0)) (by (with_reducible repeat (first | refine blk_drewN ?_ _ | refine blk_drew ?_ | refine blk_alloc ?_ _)); exact BK161.out)) (below_size (by repeat (first | (with_reducible first | exact HB.out | apply below_alloc | apply pw_below_drewN | apply below_drew1 | refine below_set ?_ GE161.out) | exact HB.out)))); have n1_ := Aside0.mk (blk_below (g := gb161) (o := .cells #[.int .i64 a0_0, .int .i64 a0_1, .bool a0_2, .slice A0_3 l0_3.length c0_3, .slice A0_4 l0_4.length c0_4] 77 (0, 0)) (by (with_reducible repeat (first | refine blk_drewN ?_ _ | refine blk_drew ?_ | refine blk_alloc ?_ _)); exact BK161.out) hb); have n2_ := Aside0.mk (below_step (by repeat (first | (with_reducible first | exact HB.out | apply below_alloc | apply pw_below_drewN | apply below_drew1 | refine below_set ?_ GE161.out) | exact HB.out)) hb); clear BK161; clear HB; have HO166 := n0_; have BK161 := n1_; have HB := n2_; clear n0_ n1_ n2_; (try clear hb); (try clear hb2); (try clear hk); (try clear hi); (try clear ho0)))
      go_ret2
      exact ⟨_, _, by first | rfl | (simp [errW_none, errW_some] <;> rfl) | (simp [*, errW_none, errW_some] <;> rfl), (by first | exact EV.nil | exact EV.f30 | exact EV.f5 | exact EV.f4 | exact EV.f1 | exact EV.low (by assumption) | exact HEV_.out | exact EV.part HEV_.out), by first | exact Kd.S_nil _ _ _ _ _ | exact Kd.N_nil _ _ _ _ _ | exact Kd.V_nil _ _ _ _ _ | exact Kd.Q_nil _ _ _ _ _ | exact Kd.R_nil _ _ _ _ _, by repeat (first | (with_reducible first | exact HB.out | apply below_alloc | apply pw_below_drewN | apply below_drew1 | refine below_set ?_ GE161.out) | exact HB.out)⟩
    rw [if_pos c12] at H
    have c12b0 : (t163 == 0) = true := beq_iff_eq.mpr c12
    have c12b1 : (t163 != 0) = false := bne_eq_false_iff_eq.mpr c12
    clear c12
    simp only [Option.some.injEq, Prod.mk.injEq] at H
    obtain ⟨rfl, rfl⟩ := H
    have hcz13_0 : wc.cell? ⟨gb161, 0, none⟩ = some (.int .i64 a0_0) := (blk_cell BK161.out 0).trans rfl
    have hcz13_1 : wc.cell? ⟨gb161, 1, none⟩ = some (.int .i64 a0_1) := (blk_cell BK161.out 1).trans rfl
    have hcz13_2 : wc.cell? ⟨gb161, 2, none⟩ = some (.bool a0_2) := (blk_cell BK161.out 2).trans rfl
    have hcz13_3 : wc.cell? ⟨gb161, 3, none⟩ = some (.slice A0_3 l0_3.length c0_3) := (blk_cell BK161.out 3).trans rfl
    have hcz13_4 : wc.cell? ⟨gb161, 4, none⟩ = some (.slice A0_4 l0_4.length c0_4) := (blk_cell BK161.out 4).trans rfl
    have hfz13_0 := blk_frozen BK161.out 0
    have hfz13_1 := blk_frozen BK161.out 1
    have hfz13_2 := blk_frozen BK161.out 2
    have hfz13_3 := blk_frozen BK161.out 3
    have hfz13_4 := blk_frozen BK161.out 4
    go_wp2_with (first | ((with_reducible refine gate_callee (f := 162) rfl ?_); refine goesL_ (some 27) rfl rfl Tryz.func162 (by kernel_rfl) rfl #[.slice A0_3 l0_3.length c0_3] rfl (by (try simp only [List.map_toArray, List.map_cons, List.map_nil]); first | done | rfl | (simp only [List.length_drop, List.length_take]; rfl)) ?_; (with_reducible refine (der_Split.calls kj2 _ _ l0_3 t162 t163 t164 _ ?side1 ?side2 A11.out).mono ?_); (case side1 => exact Kd.C_u (Kd.C_below HR0_3.out HB.out)); (case side2 => exact HC0_3.out); rintro e w14 ⟨v165, rfl, ho0, hb⟩; refine ⟨_, rfl, ?_⟩; have n0_ := Aside0.mk (Kd.S_lower (Kd.S_newB ho0 (g := gb161) (o := .cells #[.int .i64 a0_0, .int .i64 a0_1, .bool a0_2, .slice A0_3 l0_3.length c0_3, .slice A0_4 l0_4.length c0_4] 77 (0, 0)) (by (with_reducible repeat (first | refine blk_drewN ?_ _ | refine blk_drew ?_ | refine blk_alloc ?_ _)); exact BK161.out)) (below_size (by repeat (first | (with_reducible first | exact HB.out | apply below_alloc | apply pw_below_drewN | apply below_drew1 | refine below_set ?_ GE161.out) | exact HB.out)))); have n1_ := Aside0.mk (blk_below (g := gb161) (o := .cells #[.int .i64 a0_0, .int .i64 a0_1, .bool a0_2, .slice A0_3 l0_3.length c0_3, .slice A0_4 l0_4.length c0_4] 77 (0, 0)) (by (with_reducible repeat (first | refine blk_drewN ?_ _ | refine blk_drew ?_ | refine blk_alloc ?_ _)); exact BK161.out) hb); have n2_ := Aside0.mk (below_step (by repeat (first | (with_reducible first | exact HB.out | apply below_alloc | apply pw_below_drewN | apply below_drew1 | refine below_set ?_ GE161.out) | exact HB.out)) hb); clear BK161; clear HB; have HO166 := n0_; have BK161 := n1_; have HB := n2_; clear n0_ n1_ n2_; (try clear hb); (try clear hb2); (try clear hk); (try clear hi); (try clear ho0)))
    go_ret2
    exact ⟨_, _, by first | rfl | (simp [errW_none, errW_some] <;> rfl) | (simp [*, errW_none, errW_some] <;> rfl), (by first | exact EV.nil | exact EV.f30 | exact EV.f5 | exact EV.f4 | exact EV.f1 | exact EV.low (by assumption) | exact HEV_.out | exact EV.part HEV_.out), by (with_reducible repeat (first | apply Kd.S_alloc | apply Kd.S_drewN | apply Kd.S_drew)); exact Kd.S_mono HO166.out (fun _ hk => trivial), by repeat (first | (with_reducible first | exact HB.out | apply below_alloc | apply pw_below_drewN | apply below_drew1 | refine below_set ?_ GE161.out) | exact HB.out)⟩
end Go.Proofs.YtkioddjjfifadaaGreatDoor.P
namespace Go.Proofs.YtkioddjjfifadaaGreatDoor.P
open Go.RowKit Go.Proofs.YtkioddjjfifadaaGreatDoorW.PrintWords Go.Proofs.YtkioddjjfifadaaGreatDoorW.PrintMore
/-- An element: made of others or not, its tag, what is in it. -/
structure El where
  cons : Bool
  tag : Int
  data : List Int
def El.enc (e : El) : List Int := hdL (if e.cons then 32 else 0) e.tag ++ (lenL (e.data.length : Int) ++ e.data)
def El.tlv (e : El) : S77 := ⟨0, e.tag, e.cons, e.data, e.enc⟩
def El.ok (e : El) : Prop := 1 ≤ e.tag ∧ e.tag ≤ 268435455 ∧ e.data.length < 16777216
theorem put_enc (cons : Bool) (tag : Int) (l : List (List Int)) (h : (putS cons tag l).2 = 0) : (putS cons tag l).1 = El.enc ⟨cons, tag, l.flatten⟩ := by
  unfold putS at *
  cases e : sumS 0 l with
  | none =>
    rw [e] at h
    cases h
  | some n =>
    have := sumS_flat l 0 n e
    unfold El.enc
    rw [show ((l.flatten.length : Nat) : Int) = n by omega]
    show hdL _ _ ++ lenL n ++ l.flatten = hdL _ _ ++ (lenL n ++ l.flatten)
    rw [List.append_assoc]
theorem hdL_pos (c tag : Int) : 0 < (hdL c tag).length := by
  unfold hdL
  split <;> simp
theorem cut_mid {l A B : List Int} {p : Nat} (h : l.drop p = A ++ B) : (l.take (p + A.length)).drop p = A := by
  rw [List.drop_take, h, show p + A.length - p = A.length by omega, List.take_left']
  rfl
theorem drop_app {l A B : List Int} {p : Nat} (h : l.drop p = A ++ B) : l.drop (p + A.length) = B := by
  rw [← List.drop_drop, h, List.drop_left']
  rfl
theorem split_loop (x0 : List Int) (hl0 : Aside0 (x0.length ≤ 16777216)) : ∀ (es : List El), (∀ e ∈ es, e.ok) → ∀ (k p : Nat) (acc : List S77), x0.drop p = (es.map El.enc).flatten → p ≤ x0.length → acc.length + es.length ≤ 65536 → es.length + 30 ≤ k →
    der_Split.l0 k x0 acc (p : Int) = some (acc ++ es.map El.tlv, 0, (x0.length : Int))
  | [], _, k, p, acc, hd, hp, ha, hk => by
    obtain ⟨k1, rfl⟩ : ∃ k1, k = k1 + 1 := ⟨k - 1, by omega⟩
    have := congrArg List.length hd
    have hl := hl0.out
    rw [List.length_drop] at this
    simp only [List.map_nil, List.flatten_nil, List.length_nil] at this
    rw [der_Split.l0, if_neg (by omega), List.map_nil, List.append_nil]
  | e :: es, he, k, p, acc, hd, hp, ha, hk => by
    obtain ⟨k1, rfl⟩ : ∃ k1, k = k1 + 1 := ⟨k - 1, by omega⟩
    obtain ⟨t0, t1, d1⟩ := he e List.mem_cons_self
    have hl := hl0.out
    simp only [List.length_cons] at ha hk
    rw [List.map_cons, List.flatten_cons] at hd
    have hd0 := hd
    unfold El.enc at hd
    rw [List.append_assoc] at hd
    have hc : (if e.cons then (32 : Int) else 0) = 0 ∨ (if e.cons then (32 : Int) else 0) = 32 := by cases e.cons <;> simp
    obtain ⟨T, b, b0, b1, hb⟩ := tag_read k1 (by omega) x0 (by omega) p _ e.tag hc t0 t1 _ hd
    have hd2 := drop_app hd
    rw [List.append_assoc] at hd2
    have hd3 := drop_app hd2
    have L := length_read k1 (by omega) x0 (by omega) (p + (hdL (if e.cons then 32 else 0) e.tag).length) (e.data.length : Int) (by omega) (by omega) (e.data ++ (es.map El.enc).flatten) hd2 (by rw [List.length_append]; omega)
    have hpos := hdL_pos (if e.cons then 32 else 0) e.tag
    have hlen := congrArg List.length hd0
    have hlen3 := congrArg List.length hd3
    have henc : e.enc.length = (hdL (if e.cons then 32 else 0) e.tag).length + (lenL (e.data.length : Int)).length + e.data.length := by unfold El.enc; rw [List.length_append, List.length_append]; omega
    rw [List.length_drop, List.length_append] at hlen hlen3
    have c1 := cut_mid hd3
    have c2 := cut_mid hd0
    rw [henc] at c2
    have hcons := Aside0.mk (and32 _ b hc b0 b1)
    have hcls : Aside0 (wrap64 (rd x0 (p : Int) / 64) = 0) := ⟨by
      rw [hb]
      clear T L hd hd0 hd2 hd3 c1 c2 hlen hlen3
      rcases hc with h | h <;> rw [h] <;> (rw [wb (by omega) (by omega)]; omega)⟩
    have HB := Aside0.mk hb
    have HT := Aside0.mk T
    have HL := Aside0.mk L
    have D0 := Aside0.mk hd0
    have C1 := Aside0.mk c1
    have C2 := Aside0.mk c2
    clear hb T L hd hd0 hd2 hd3 c1 c2 hc b0 b1
    obtain ⟨H, hH⟩ : ∃ H, (hdL (if e.cons then 32 else 0) e.tag).length = H := ⟨_, rfl⟩
    obtain ⟨N, hN⟩ : ∃ N, (lenL (e.data.length : Int)).length = N := ⟨_, rfl⟩
    rw [hH, hN] at henc hlen3
    rw [hH] at hpos
    have HT2 := HT.out
    have HL2 := HL.out
    have C12 := C1.out
    have C22 := C2.out
    rw [hH] at HT2 HL2 C12
    rw [hN] at HL2 C12
    rw [hH, hN] at C22
    have k1' : ((p : Int) < (x0.length : Int)) ∧ ¬ ((acc.length : Int) = 65536) ∧ (0 : Int) ≤ (p : Int) := by omega
    have k2 : p + (H + N + e.data.length) ≤ x0.length := by omega
    have e2 : ((p + H + N + e.data.length : Nat) : Int) ≤ (x0.length : Int) := by omega
    have e3 : (p : Int) ≤ ((p + H + N + e.data.length : Nat) : Int) := by omega
    have e4 : p + H + N + e.data.length = p + (H + N + e.data.length) := by omega
    have e1 : ((p + H + N : Nat) : Int) ≤ ((p + H + N + e.data.length : Nat) : Int) := by omega
    have hcl : ∀ y : List Int, y.length ≤ x0.length → bytes_Clone.f y = some y := fun y hy => by unfold bytes_Clone.f; rw [if_pos (by omega)]
    have hacc : acc.length < 1954687338268 := Nat.lt_of_le_of_lt (show acc.length ≤ 65536 by omega) (by decide)
    have hdl : e.data.length ≤ x0.length := by omega
    have hel : e.enc.length ≤ x0.length := by omega
    have f1 : acc.length + 1 + es.length ≤ 65536 := by omega
    have f2 : es.length + 30 ≤ k1 := by omega
    have hsum : ((p + H + N : Nat) : Int) + (e.data.length : Int) = ((p + H + N + e.data.length : Nat) : Int) := by omega
    have hb1 : ((p + H + N + e.data.length : Nat) : Int) ≤ 16777216 := by omega
    clear HT HL C1 C2 hlen hlen3 hpos hl d1 t0 t1
    have hw : wrap64 (((p + H + N : Nat) : Int) + (e.data.length : Int)) = ((p + H + N + e.data.length : Nat) : Int) := by rw [hsum, wb (Int.le_trans (by decide) (Int.natCast_nonneg _)) (Int.le_trans hb1 (by decide))]
    rw [der_Split.l0, if_pos k1'.1, if_neg k1'.2.1, HT2, Option.bind_some, if_pos rfl, HL2, Option.bind_some, if_pos rfl, if_pos k1'.2.2, if_pos (Int.natCast_nonneg _), hw, if_pos e1, if_pos e2, Int.toNat_natCast, Int.toNat_natCast, Int.toNat_natCast, C12, hcl _ hdl, Option.bind_some, if_pos e3, e4, C22, hcl _ hel, Option.bind_some, if_pos hacc, hcls.out, HB.out, hcons.out]
    clear hw
    have hd0 := D0.out
    have hr : (⟨0, e.tag, decide ((if e.cons then (32 : Int) else 0) = 32), e.data, e.enc⟩ : S77) = e.tlv := by
      unfold El.tlv
      cases e.cons <;> rfl
    rw [hr]
    have hd4 := drop_app hd0
    rw [henc] at hd4
    clear HB hcls hcons HT2 HL2 C12 C22 hd0 D0
    have := split_loop x0 hl0 es (fun q hq => he q (List.mem_cons_of_mem _ hq)) k1 (p + (H + N + e.data.length)) (acc ++ [e.tlv]) hd4 k2 (by rw [List.length_append]; exact f1) f2
    rw [this, List.map_cons, List.append_assoc]
    rfl
/-- der.Split of what was laid. -/
theorem split_eq (es : List El) (he : ∀ e ∈ es, e.ok) (hl : (es.map El.enc).flatten.length ≤ 16777216) (hn : es.length ≤ 65536) (k : Nat) (hk : es.length + 30 ≤ k) :
    der_Split.f k (es.map El.enc).flatten = some (es.map El.tlv, 0, (((es.map El.enc).flatten).length : Int)) := by
  unfold der_Split.f
  rw [if_neg (by omega)]
  exact split_loop _ ⟨hl⟩ es he k 0 [] (List.drop_zero) (Nat.zero_le _) (by simpa using hn) hk
theorem one_eq (e : El) (he : e.ok) (hl : e.enc.length ≤ 16777216) (k : Nat) (hk : 50 ≤ k) : der_One.f k e.enc = some (0, e.tag, e.cons, e.data, e.enc, 0) := by
  have h := split_eq [e] (fun q hq => by obtain rfl := List.mem_singleton.1 hq; exact he) (by simpa using hl) (by simp) k (by simp only [List.length_cons, List.length_nil]; omega)
  rw [show (([e].map El.enc).flatten) = e.enc by simp] at h
  unfold der_One.f
  rw [h, Option.bind_some, if_pos rfl, if_neg (by simp), if_neg (by simp), if_pos (by simp)]
  rfl
theorem inside_eq (tag : Int) (es : List El) (he : ∀ e ∈ es, e.ok) (raw : List Int) (hl : (es.map El.enc).flatten.length ≤ 16777216) (hn : es.length ≤ 65536) (k : Nat) (hk : es.length + 40 ≤ k) :
    name_inside.f k 0 tag true (es.map El.enc).flatten raw tag = some (es.map El.tlv, 0) := by
  obtain ⟨k1, rfl⟩ : ∃ k1, k = k1 + 1 := ⟨k - 1, by omega⟩
  unfold name_inside.f
  rw [if_pos rfl, if_pos rfl, name_inside.j0, if_neg (by decide), split_eq es he hl hn k1 (by omega), Option.bind_some, if_pos rfl]
end Go.Proofs.YtkioddjjfifadaaGreatDoor.P
namespace Go.Proofs.YtkioddjjfifadaaGreatDoor.P
open Go.RowKit Go.Proofs.YtkioddjjfifadaaGreatDoorW.PrintWords Go.Proofs.YtkioddjjfifadaaGreatDoorW.PrintLast Go.Proofs.YtkioddjjfifadaaGreatDoorW.PrintMore
theorem decode_width (s : ByteArray) (pos : Nat) (h : pos < s.size) : 1 ≤ (Utf8.decode s pos).2 ∧ pos + (Utf8.decode s pos).2 ≤ s.size ∧ (Utf8.decode s pos).2 ≤ 4 := by
  unfold Utf8.decode
  simp only []
  split
  · simp; omega
  split
  · rename_i h1
    simp only [Bool.and_eq_true, decide_eq_true_eq, beq_iff_eq] at h1
    split <;> simp <;> omega
  split
  · rename_i h1
    simp only [Bool.and_eq_true, decide_eq_true_eq, beq_iff_eq] at h1
    split <;> simp <;> omega
  split
  rotate_left
  · simp; omega
  rename_i h1
  simp only [Bool.and_eq_true, decide_eq_true_eq, beq_iff_eq] at h1
  split <;> simp <;> omega
/-- A letter made small. -/
def low (c : Int) : Int := if 65 ≤ c ∧ c ≤ 90 then c + 32 else c
def foldOut (bl : Bool) (out : List Int) : List Int := if bl = true ∧ 0 < out.length then out ++ [32] else out
def foldGo (s : ByteArray) : Nat → Nat → Bool → List Int → List Int
  | 0, _, _, out => out
  | f + 1, pos, bl, out =>
    if pos < s.size then
      (if ((Utf8.decode s pos).1 : Int) = 32 then foldGo s f (pos + (Utf8.decode s pos).2) true out
      else if low ((Utf8.decode s pos).1 : Int) = 65533 then foldGo s f (pos + (Utf8.decode s pos).2) false (foldOut bl out ++ bytesOf (s.extract pos (pos + (Utf8.decode s pos).2)))
      else foldGo s f (pos + (Utf8.decode s pos).2) false (foldOut bl out ++ Lib.encodeRuneZ (low ((Utf8.decode s pos).1 : Int))))
    else out
def text_Fold.f (s : ByteArray) : Option ByteArray := if s.size ≤ 1099511627776 then some (strOfNums (foldGo s s.size 0 false [])) else none
theorem R_iter {B kb p : Nat} {s : ByteArray} {w : World} {v : Value} {xs : List Int} (h : (Kd.int .u8).R 5 w B (fun _ => True) v xs) (hb : w.heap[kb]? = some (.stringIter s p)) (p' : Nat) : (Kd.int .u8).R 5 (w.iterAt kb s p') B (fun _ => True) v xs :=
  Kd.R_mono (Kd.R_move (Kd.R_bound h) (fun k hk => by
    refine Lib.iterAt_other w kb k s p' ?_
    rintro rfl
    obtain ⟨_, _, _, _, _, cells, hc⟩ := hk
    rw [hb] at hc
    cases hc)) (fun _ hk => hk.1)
theorem iter_ne {B kb p : Nat} {s : ByteArray} {w : World} {v : Value} {xs : List Int} (h : (Kd.int .u8).R 5 w B (fun _ => True) v xs) (hb : w.heap[kb]? = some (.stringIter s p)) : some kb ≠ v.ownBlock := fun e => by
  obtain ⟨inner, ho⟩ := Kd.R_own h
  obtain ⟨cells, hc⟩ := own_typed ho kb e.symm
  rw [hb] at hc
  cases hc
theorem keep_blk {w w1 : World} {g : Nat} {o : Obj} (hb : Below w.heap.size w w1) (h : w.heap[g]? = some o) : w1.heap[g]? = some o := (hb.block g (blk_lt h)).trans h
theorem ext_size (s : ByteArray) (a b : Nat) (h : b ≤ s.size) : (s.extract a b).size = b - a := by
  rw [ByteArray.size_extract]
  omega
set_option maxRecDepth 100000 in
set_option maxHeartbeats 8000000 in
theorem text_Fold.calls (a0 : ByteArray) (r : ByteArray) (w : World) (h : text_Fold.f a0 = some r) (hH : Tb w) :
    Calls Tryz.prog 211 #[.string a0] w fun e w' => e = .returned (.string r) ∧ Below w.heap.size w w' := by
  unfold text_Fold.f at h
  split at h
  case isFalse => cases h
  case isTrue hlen =>
  obtain rfl := Option.some.inj h
  have HT := Aside0.mk hH
  have HLEN := Aside0.mk hlen
  have HB := Aside0.mk (Below.refl w.heap.size w)
  clear h hH hlen
  go_enter Tryz.func211, Tryz.ntmps211
  go_wp2_with ((with_reducible refine gate_dst (N := 12) rfl ?_); refine make_bytes w rfl rfl rfl a0.size rfl Tryz.underlying22 info5 (by have := HLEN.out; omega) HB.out ?_; intro v w1 hv hb; have HO := Aside0.mk hv; have HB1 := Aside0.mk hb; clear hv hb HB)
  generalize hkb : w1.heap.size = kb
  have HKB : Aside0 (w.heap.size ≤ kb) := ⟨by rw [← hkb]; exact HB1.out.size⟩
  have HIT : Aside0 ((w1.alloc (.stringIter a0 0)).heap[kb]? = some (.stringIter a0 0)) := ⟨by rw [← hkb]; exact heap_alloc_new w1 _⟩
  have HO0 := Aside0.mk (Kd.R_alloc HO.out (.stringIter a0 0))
  have HB0 := Aside0.mk (below_alloc HB1.out (.stringIter a0 0))
  clear HO HB1 hkb
  go_loopg [3, 4] (a0.size + 1) (fun kq v3 v4 w' => ∃ (pos : Nat) (bl : Bool) (acc : List Int) (f : Nat), v4 = .bool bl ∧ Aside0 (foldGo a0 f pos bl acc = foldGo a0 a0.size 0 false []) ∧ Aside0 (pos ≤ a0.size ∧ a0.size ≤ f + pos ∧ a0.size < kq + pos) ∧ Aside0 (acc.length ≤ 5 * pos) ∧
    Aside0 ((Kd.int .u8).R 5 w' w.heap.size (fun _ => True) v3 acc) ∧ Aside0 (w'.heap[kb]? = some (.stringIter a0 pos)) ∧ Aside0 (Below w.heap.size w w'))
  case atStart => exact ⟨0, false, [], a0.size, rfl, ⟨rfl⟩, ⟨⟨Nat.zero_le _, by omega, by omega⟩⟩, ⟨Nat.zero_le _⟩, HO0, HIT, HB0⟩
  case round =>
    clear HO0 HB0 HIT
    obtain ⟨pos, bl, acc, f, rfl, HF, HI, HA, HO, HIT, HB⟩ := hrel
    cases gk with
    | zero => exact absurd HI.out (by omega)
    | succ g1 =>
      by_cases hp : pos < a0.size
      rotate_left
      · have hnx : ∀ ty, (Instr.next (.pointer (some ⟨kb, 0, none⟩)) true ty).run Tryz.prog wr = _ := fun ty => Lib.run_next_end_at wr kb a0 pos ty HIT.out hp
        have hcv := own_string (P := Tryz.prog) Tryz.underlying22 Tryz.underlying5 Tryz.underlying9 (Kd.own_of_R HO.out)
        have hfe : foldGo a0 a0.size 0 false [] = acc := by
          rw [← HF.out]
          cases f with
          | zero => rfl
          | succ f => rw [foldGo, if_neg hp]
        go_wp2_with fail
        go_ret
        exact ⟨by rw [hfe]; rfl, HB.out⟩
      have hnx0 : ∀ ty, (Instr.next (.pointer (some ⟨kb, 0, none⟩)) true ty).run Tryz.prog wr = _ := fun ty => Lib.run_next_any_at wr kb a0 pos ty HIT.out hp
      obtain ⟨n1, n2, n4⟩ := decode_width a0 pos hp
      have hle := decode_le a0 pos
      obtain ⟨f1, rfl⟩ : ∃ f1, f = f1 + 1 := ⟨f - 1, by have := HI.out; omega⟩
      have hf := HF.out
      rw [foldGo, if_pos hp] at hf
      have hdg : Lib.decodeGo (a0.extract pos a0.size) = Utf8.decode a0 pos := by
        unfold Lib.decodeGo
        rw [if_neg (by rw [Lib.tail_size]; omega), Lib.tail_decode]
        first | done | rfl
      have HO1 := Aside0.mk (R_iter HO.out HIT.out (pos + (Utf8.decode a0 pos).2))
      have HIT1 := Aside0.mk (Lib.iterAt_heap wr kb a0 pos (pos + (Utf8.decode a0 pos).2) HIT.out)
      have HB1 := Aside0.mk (Lib.below_iterAt HB.out HKB.out a0 (pos + (Utf8.decode a0 pos).2))
      have hnx := hnx0
      clear HF HO HIT HB hnx0
      generalize wr.iterAt kb a0 (pos + (Utf8.decode a0 pos).2) = W2 at *
      generalize hc : (Utf8.decode a0 pos).1 = C at *
      generalize hn : (Utf8.decode a0 pos).2 = n at *
      have DG1 : Aside0 ((Lib.decodeGo (a0.extract pos a0.size)).1 = C) := ⟨by rw [hdg]; exact hc⟩
      have DG2 : Aside0 ((Lib.decodeGo (a0.extract pos a0.size)).2 = n) := ⟨by rw [hdg]; exact hn⟩
      have HFF := Aside0.mk hf
      have hw : wrap64 ((pos : Int) + (n : Int)) = (pos : Int) + (n : Int) := by unfold wrap64; have := HLEN.out; omega
      clear hdg hc hn hf
      by_cases h32 : (C : Int) = 32
      · have e1 : ((C : Int) == 32) = true := beq_iff_eq.2 h32
        go_wp2_with fail
        go_roundg g1
        case measure => exact Nat.lt_succ_self _
        case rel => exact ⟨pos + n, true, acc, f1, rfl, ⟨by have := HFF.out; rw [if_pos h32] at this; exact this⟩, ⟨by have := HI.out; omega⟩, ⟨by have := HA.out; omega⟩, HO1, HIT1, HB1⟩
      have e1 : ((C : Int) == 32) = false := by simpa using h32
      have HF2 : Aside0 ((if low (C : Int) = 65533 then foldGo a0 f1 (pos + n) false (foldOut bl acc ++ bytesOf (a0.extract pos (pos + n))) else foldGo a0 f1 (pos + n) false (foldOut bl acc ++ Lib.encodeRuneZ (low (C : Int)))) = foldGo a0 a0.size 0 false []) := ⟨by have := HFF.out; rw [if_neg h32] at this; exact this⟩
      clear HFF
      cases bl with
      | true =>
        obtain ⟨Ao, co, hu⟩ := Kd.R_slice HO1.out
        subst hu
        by_cases hlen : 0 < acc.length
        rotate_left
        · have e2 : decide ((0 : Int) < (acc.length : Int)) = false := decide_eq_false (by omega)
          by_cases u1 : (65 : Int) ≤ (C : Int)
          rotate_left
          · have e3 : decide ((65 : Int) ≤ (C : Int)) = false := decide_eq_false u1
            have e5 : ((C : Int) == 65533) = false := by simp; omega
            have hlo : low (C : Int) = (C : Int) := if_neg (by omega)
            have hfo : foldOut true acc = acc := by simp [foldOut, hlen]
            go_wp2_with fail
            refine (append_rune w (.slice Ao acc.length co) (acc) ((C : Int)) (by omega) (by omega) _ HO1.out (by have := HA.out; have := HLEN.out; omega) HB1.out).mono ?_
            rintro e W5 ⟨v5, rfl, hR5, hb5, hk5⟩
            have HO5 := Aside0.mk hR5
            have HB5 := Aside0.mk hb5
            have HIT5 := Aside0.mk (hk5 kb _ HIT1.out (iter_ne HO1.out HIT1.out))
            clear hR5 hb5 hk5
            go_wp2_with fail
            go_roundg g1
            case measure => exact Nat.lt_succ_self _
            case rel => exact ⟨pos + n, false, (acc) ++ Lib.encodeRuneZ ((C : Int)), f1, rfl, ⟨by have := HF2.out; rw [if_neg (by rw [hlo]; omega), hfo, hlo] at this; exact this⟩, ⟨by have := HI.out; omega⟩, ⟨by rw [List.length_append]; have := encodeRuneZ_len ((C : Int)); have := HA.out; omega⟩, HO5, HIT5, HB5⟩
          have e3 : decide ((65 : Int) ≤ (C : Int)) = true := decide_eq_true u1
          by_cases u2 : (C : Int) ≤ 90
          · have e4 : decide ((C : Int) ≤ 90) = true := decide_eq_true u2
            have e5 : ((C : Int) + 32 == 65533) = false := by simp; omega
            have hlo : low (C : Int) = (C : Int) + 32 := if_pos ⟨u1, u2⟩
            have hfo : foldOut true acc = acc := by simp [foldOut, hlen]
            go_wp2_with fail
            refine (append_rune w (.slice Ao acc.length co) (acc) ((C : Int) + 32) (by omega) (by omega) _ HO1.out (by have := HA.out; have := HLEN.out; omega) HB1.out).mono ?_
            rintro e W5 ⟨v5, rfl, hR5, hb5, hk5⟩
            have HO5 := Aside0.mk hR5
            have HB5 := Aside0.mk hb5
            have HIT5 := Aside0.mk (hk5 kb _ HIT1.out (iter_ne HO1.out HIT1.out))
            clear hR5 hb5 hk5
            go_wp2_with fail
            go_roundg g1
            case measure => exact Nat.lt_succ_self _
            case rel => exact ⟨pos + n, false, (acc) ++ Lib.encodeRuneZ ((C : Int) + 32), f1, rfl, ⟨by have := HF2.out; rw [if_neg (by rw [hlo]; omega), hfo, hlo] at this; exact this⟩, ⟨by have := HI.out; omega⟩, ⟨by rw [List.length_append]; have := encodeRuneZ_len ((C : Int) + 32); have := HA.out; omega⟩, HO5, HIT5, HB5⟩
          have e4 : decide ((C : Int) ≤ 90) = false := decide_eq_false u2
          have hl0 : low (C : Int) = (C : Int) := if_neg (by omega)
          by_cases u3_ : (C : Int) = 65533
          rotate_left
          · have e5 : ((C : Int) == 65533) = false := by simpa using u3_
            have hlo : low (C : Int) = (C : Int) := hl0
            have hfo : foldOut true acc = acc := by simp [foldOut, hlen]
            go_wp2_with fail
            refine (append_rune w (.slice Ao acc.length co) (acc) ((C : Int)) (by omega) (by omega) _ HO1.out (by have := HA.out; have := HLEN.out; omega) HB1.out).mono ?_
            rintro e W5 ⟨v5, rfl, hR5, hb5, hk5⟩
            have HO5 := Aside0.mk hR5
            have HB5 := Aside0.mk hb5
            have HIT5 := Aside0.mk (hk5 kb _ HIT1.out (iter_ne HO1.out HIT1.out))
            clear hR5 hb5 hk5
            go_wp2_with fail
            go_roundg g1
            case measure => exact Nat.lt_succ_self _
            case rel => exact ⟨pos + n, false, (acc) ++ Lib.encodeRuneZ ((C : Int)), f1, rfl, ⟨by have := HF2.out; rw [if_neg (by rw [hlo]; omega), hfo, hlo] at this; exact this⟩, ⟨by have := HI.out; omega⟩, ⟨by rw [List.length_append]; have := encodeRuneZ_len ((C : Int)); have := HA.out; omega⟩, HO5, HIT5, HB5⟩
          have e5 : ((C : Int) == 65533) = true := beq_iff_eq.2 u3_
          have hlo : low (C : Int) = 65533 := hl0.trans u3_
          have hfo : foldOut true acc = acc := by simp [foldOut, hlen]
          go_wp2_with fail
          refine (Tryz.utf8_DecodeRuneInString (a0.extract pos a0.size) _ (HT.out.below HB1.out).utf).mono ?_
          rintro e W5 ⟨rfl, hb5⟩
          rw [DG1.out, DG2.out]
          have HO5 := Aside0.mk (Kd.R_below HO1.out hb5)
          have HIT5 := Aside0.mk (keep_blk hb5 HIT1.out)
          have HB5 := Aside0.mk (below_step HB1.out hb5)
          clear hb5
          have hsl : (Instr.slice 9 (.string a0) (some (.int .i64 (pos : Int))) (some (.int .i64 ((pos : Int) + (n : Int)))) none).run Tryz.prog W5 = .ok (.string (a0.extract pos (pos + n))) W5 := by
            have := run_slice_string (P := Tryz.prog) W5 9 a0 .i64 .i64 (pos : Int) ((pos : Int) + (n : Int)) Tryz.underlying9 (by omega) (by omega) (by omega)
            rwa [Int.toNat_natCast, show ((pos : Int) + (n : Int)).toNat = pos + n by omega] at this
          go_wp2_with ((with_reducible refine gate_builtin (b := .append) (xs := #[.tmp 48, .tmp 54]) rfl ?_); at_builtin; refine print_append_str (w0 := w) w.heap.size rfl (.tmp 48) (.tmp 54) 22 9 5 rfl Tryz.underlying22 Tryz.underlying9 info5 (.slice Ao acc.length co) (acc) (a0.extract pos (pos + n)) rfl ?sx ?sO ?sB ?sS ?sL ?_; (case sx => rfl); (case sO => exact Kd.own_of_R HO5.out); (case sB => exact HB5.out); (case sS => exact below_size HB5.out); (case sL => have hz := ext_size a0 pos (pos + n) n2; have := HA.out; have := HLEN.out; omega); intro v6 W6 ho hb hgr; have HO6 : Aside0 ((Kd.int .u8).R 5 W6 w.heap.size (fun _ => True) v6 ((acc) ++ bytesOf (a0.extract pos (pos + n)))) := ⟨Kd.R_of_own ho (fun _ _ => trivial)⟩; have HB6 := Aside0.mk hb; have HIT6 := Aside0.mk (blk_grown HIT5.out hgr (iter_ne HO5.out HIT5.out)); clear ho hb hgr)
          go_roundg g1
          case measure => exact Nat.lt_succ_self _
          case rel => exact ⟨pos + n, false, (acc) ++ bytesOf (a0.extract pos (pos + n)), f1, rfl, ⟨by have := HF2.out; rw [if_pos hlo, hfo] at this; exact this⟩, ⟨by have := HI.out; omega⟩, ⟨by rw [List.length_append, bytesOf_length, ext_size a0 pos (pos + n) n2]; have := HA.out; omega⟩, HO6, HIT6, HB6⟩
        have e2 : decide ((0 : Int) < (acc.length : Int)) = true := decide_eq_true (by omega)
        by_cases u1 : (65 : Int) ≤ (C : Int)
        rotate_left
        · have e3 : decide ((65 : Int) ≤ (C : Int)) = false := decide_eq_false u1
          have e5 : ((C : Int) == 65533) = false := by simp; omega
          have hlo : low (C : Int) = (C : Int) := if_neg (by omega)
          have hfo : foldOut true acc = acc ++ [32] := by simp [foldOut, hlen]
          go_wp2_with (first | ((with_reducible refine gate_builtin (b := .append) (xs := #[.tmp 28, .tmp 29]) rfl ?_); at_builtin; refine Kd.R_append (Kd.int .u8) (w0 := w) w.heap.size rfl (.tmp 28) (.tmp 29) 22 5 (.int .u8 0) 1 rfl Tryz.underlying22 info5 rfl (by decide) (by omega) (.slice Ao acc.length co) acc 32 [.int .u8 32] (fun _ => True) (fun _ => False) rfl rfl ?aP (fun _ hk => hk.elim) ?aF ?aO ?aB ?aS ?aL ?_; (case aP => exact rfl); (case aF => exact (fun _ _ => trivial)); (case aO => exact HO1.out); (case aB => exact HB1.out); (case aS => exact (below_size HB1.out)); (case aL => have := HA.out; have := HLEN.out; omega); intro v2 W3 ho hb hgr hat; have HO2 := Aside0.mk ho; have HB2 := Aside0.mk hb; have HIT2 := Aside0.mk (blk_grown HIT1.out hgr (iter_ne HO1.out HIT1.out)); clear ho hb hgr hat))
          refine (append_rune w v2 (acc ++ [32]) ((C : Int)) (by omega) (by omega) _ HO2.out (by rw [List.length_append, List.length_singleton]; have := HA.out; have := HLEN.out; omega) HB2.out).mono ?_
          rintro e W5 ⟨v5, rfl, hR5, hb5, hk5⟩
          have HO5 := Aside0.mk hR5
          have HB5 := Aside0.mk hb5
          have HIT5 := Aside0.mk (hk5 kb _ HIT2.out (iter_ne HO2.out HIT2.out))
          clear hR5 hb5 hk5
          go_wp2_with fail
          go_roundg g1
          case measure => exact Nat.lt_succ_self _
          case rel => exact ⟨pos + n, false, (acc ++ [32]) ++ Lib.encodeRuneZ ((C : Int)), f1, rfl, ⟨by have := HF2.out; rw [if_neg (by rw [hlo]; omega), hfo, hlo] at this; exact this⟩, ⟨by have := HI.out; omega⟩, ⟨by rw [List.length_append]; rw [List.length_append, List.length_singleton]; have := encodeRuneZ_len ((C : Int)); have := HA.out; omega⟩, HO5, HIT5, HB5⟩
        have e3 : decide ((65 : Int) ≤ (C : Int)) = true := decide_eq_true u1
        by_cases u2 : (C : Int) ≤ 90
        · have e4 : decide ((C : Int) ≤ 90) = true := decide_eq_true u2
          have e5 : ((C : Int) + 32 == 65533) = false := by simp; omega
          have hlo : low (C : Int) = (C : Int) + 32 := if_pos ⟨u1, u2⟩
          have hfo : foldOut true acc = acc ++ [32] := by simp [foldOut, hlen]
          go_wp2_with (first | ((with_reducible refine gate_builtin (b := .append) (xs := #[.tmp 28, .tmp 29]) rfl ?_); at_builtin; refine Kd.R_append (Kd.int .u8) (w0 := w) w.heap.size rfl (.tmp 28) (.tmp 29) 22 5 (.int .u8 0) 1 rfl Tryz.underlying22 info5 rfl (by decide) (by omega) (.slice Ao acc.length co) acc 32 [.int .u8 32] (fun _ => True) (fun _ => False) rfl rfl ?aP (fun _ hk => hk.elim) ?aF ?aO ?aB ?aS ?aL ?_; (case aP => exact rfl); (case aF => exact (fun _ _ => trivial)); (case aO => exact HO1.out); (case aB => exact HB1.out); (case aS => exact (below_size HB1.out)); (case aL => have := HA.out; have := HLEN.out; omega); intro v2 W3 ho hb hgr hat; have HO2 := Aside0.mk ho; have HB2 := Aside0.mk hb; have HIT2 := Aside0.mk (blk_grown HIT1.out hgr (iter_ne HO1.out HIT1.out)); clear ho hb hgr hat))
          refine (append_rune w v2 (acc ++ [32]) ((C : Int) + 32) (by omega) (by omega) _ HO2.out (by rw [List.length_append, List.length_singleton]; have := HA.out; have := HLEN.out; omega) HB2.out).mono ?_
          rintro e W5 ⟨v5, rfl, hR5, hb5, hk5⟩
          have HO5 := Aside0.mk hR5
          have HB5 := Aside0.mk hb5
          have HIT5 := Aside0.mk (hk5 kb _ HIT2.out (iter_ne HO2.out HIT2.out))
          clear hR5 hb5 hk5
          go_wp2_with fail
          go_roundg g1
          case measure => exact Nat.lt_succ_self _
          case rel => exact ⟨pos + n, false, (acc ++ [32]) ++ Lib.encodeRuneZ ((C : Int) + 32), f1, rfl, ⟨by have := HF2.out; rw [if_neg (by rw [hlo]; omega), hfo, hlo] at this; exact this⟩, ⟨by have := HI.out; omega⟩, ⟨by rw [List.length_append]; rw [List.length_append, List.length_singleton]; have := encodeRuneZ_len ((C : Int) + 32); have := HA.out; omega⟩, HO5, HIT5, HB5⟩
        have e4 : decide ((C : Int) ≤ 90) = false := decide_eq_false u2
        have hl0 : low (C : Int) = (C : Int) := if_neg (by omega)
        by_cases u3_ : (C : Int) = 65533
        rotate_left
        · have e5 : ((C : Int) == 65533) = false := by simpa using u3_
          have hlo : low (C : Int) = (C : Int) := hl0
          have hfo : foldOut true acc = acc ++ [32] := by simp [foldOut, hlen]
          go_wp2_with (first | ((with_reducible refine gate_builtin (b := .append) (xs := #[.tmp 28, .tmp 29]) rfl ?_); at_builtin; refine Kd.R_append (Kd.int .u8) (w0 := w) w.heap.size rfl (.tmp 28) (.tmp 29) 22 5 (.int .u8 0) 1 rfl Tryz.underlying22 info5 rfl (by decide) (by omega) (.slice Ao acc.length co) acc 32 [.int .u8 32] (fun _ => True) (fun _ => False) rfl rfl ?aP (fun _ hk => hk.elim) ?aF ?aO ?aB ?aS ?aL ?_; (case aP => exact rfl); (case aF => exact (fun _ _ => trivial)); (case aO => exact HO1.out); (case aB => exact HB1.out); (case aS => exact (below_size HB1.out)); (case aL => have := HA.out; have := HLEN.out; omega); intro v2 W3 ho hb hgr hat; have HO2 := Aside0.mk ho; have HB2 := Aside0.mk hb; have HIT2 := Aside0.mk (blk_grown HIT1.out hgr (iter_ne HO1.out HIT1.out)); clear ho hb hgr hat))
          refine (append_rune w v2 (acc ++ [32]) ((C : Int)) (by omega) (by omega) _ HO2.out (by rw [List.length_append, List.length_singleton]; have := HA.out; have := HLEN.out; omega) HB2.out).mono ?_
          rintro e W5 ⟨v5, rfl, hR5, hb5, hk5⟩
          have HO5 := Aside0.mk hR5
          have HB5 := Aside0.mk hb5
          have HIT5 := Aside0.mk (hk5 kb _ HIT2.out (iter_ne HO2.out HIT2.out))
          clear hR5 hb5 hk5
          go_wp2_with fail
          go_roundg g1
          case measure => exact Nat.lt_succ_self _
          case rel => exact ⟨pos + n, false, (acc ++ [32]) ++ Lib.encodeRuneZ ((C : Int)), f1, rfl, ⟨by have := HF2.out; rw [if_neg (by rw [hlo]; omega), hfo, hlo] at this; exact this⟩, ⟨by have := HI.out; omega⟩, ⟨by rw [List.length_append]; rw [List.length_append, List.length_singleton]; have := encodeRuneZ_len ((C : Int)); have := HA.out; omega⟩, HO5, HIT5, HB5⟩
        have e5 : ((C : Int) == 65533) = true := beq_iff_eq.2 u3_
        have hlo : low (C : Int) = 65533 := hl0.trans u3_
        have hfo : foldOut true acc = acc ++ [32] := by simp [foldOut, hlen]
        go_wp2_with (first | ((with_reducible refine gate_builtin (b := .append) (xs := #[.tmp 28, .tmp 29]) rfl ?_); at_builtin; refine Kd.R_append (Kd.int .u8) (w0 := w) w.heap.size rfl (.tmp 28) (.tmp 29) 22 5 (.int .u8 0) 1 rfl Tryz.underlying22 info5 rfl (by decide) (by omega) (.slice Ao acc.length co) acc 32 [.int .u8 32] (fun _ => True) (fun _ => False) rfl rfl ?aP (fun _ hk => hk.elim) ?aF ?aO ?aB ?aS ?aL ?_; (case aP => exact rfl); (case aF => exact (fun _ _ => trivial)); (case aO => exact HO1.out); (case aB => exact HB1.out); (case aS => exact (below_size HB1.out)); (case aL => have := HA.out; have := HLEN.out; omega); intro v2 W3 ho hb hgr hat; have HO2 := Aside0.mk ho; have HB2 := Aside0.mk hb; have HIT2 := Aside0.mk (blk_grown HIT1.out hgr (iter_ne HO1.out HIT1.out)); clear ho hb hgr hat))
        refine (Tryz.utf8_DecodeRuneInString (a0.extract pos a0.size) _ (HT.out.below HB2.out).utf).mono ?_
        rintro e W5 ⟨rfl, hb5⟩
        rw [DG1.out, DG2.out]
        have HO5 := Aside0.mk (Kd.R_below HO2.out hb5)
        have HIT5 := Aside0.mk (keep_blk hb5 HIT2.out)
        have HB5 := Aside0.mk (below_step HB2.out hb5)
        clear hb5
        have hsl : (Instr.slice 9 (.string a0) (some (.int .i64 (pos : Int))) (some (.int .i64 ((pos : Int) + (n : Int)))) none).run Tryz.prog W5 = .ok (.string (a0.extract pos (pos + n))) W5 := by
          have := run_slice_string (P := Tryz.prog) W5 9 a0 .i64 .i64 (pos : Int) ((pos : Int) + (n : Int)) Tryz.underlying9 (by omega) (by omega) (by omega)
          rwa [Int.toNat_natCast, show ((pos : Int) + (n : Int)).toNat = pos + n by omega] at this
        go_wp2_with ((with_reducible refine gate_builtin (b := .append) (xs := #[.tmp 48, .tmp 54]) rfl ?_); at_builtin; refine print_append_str (w0 := w) w.heap.size rfl (.tmp 48) (.tmp 54) 22 9 5 rfl Tryz.underlying22 Tryz.underlying9 info5 v2 (acc ++ [32]) (a0.extract pos (pos + n)) rfl ?sx ?sO ?sB ?sS ?sL ?_; (case sx => rfl); (case sO => exact Kd.own_of_R HO5.out); (case sB => exact HB5.out); (case sS => exact below_size HB5.out); (case sL => have hz := ext_size a0 pos (pos + n) n2; rw [List.length_append, List.length_singleton]; have := HA.out; have := HLEN.out; omega); intro v6 W6 ho hb hgr; have HO6 : Aside0 ((Kd.int .u8).R 5 W6 w.heap.size (fun _ => True) v6 ((acc ++ [32]) ++ bytesOf (a0.extract pos (pos + n)))) := ⟨Kd.R_of_own ho (fun _ _ => trivial)⟩; have HB6 := Aside0.mk hb; have HIT6 := Aside0.mk (blk_grown HIT5.out hgr (iter_ne HO5.out HIT5.out)); clear ho hb hgr)
        go_roundg g1
        case measure => exact Nat.lt_succ_self _
        case rel => exact ⟨pos + n, false, (acc ++ [32]) ++ bytesOf (a0.extract pos (pos + n)), f1, rfl, ⟨by have := HF2.out; rw [if_pos hlo, hfo] at this; exact this⟩, ⟨by have := HI.out; omega⟩, ⟨by rw [List.length_append, bytesOf_length, ext_size a0 pos (pos + n) n2]; rw [List.length_append, List.length_singleton]; have := HA.out; omega⟩, HO6, HIT6, HB6⟩
      | false =>
        by_cases u1 : (65 : Int) ≤ (C : Int)
        rotate_left
        · have e3 : decide ((65 : Int) ≤ (C : Int)) = false := decide_eq_false u1
          have e5 : ((C : Int) == 65533) = false := by simp; omega
          have hlo : low (C : Int) = (C : Int) := if_neg (by omega)
          have hfo : foldOut false acc = acc := by simp [foldOut]
          go_wp2_with fail
          refine (append_rune w u3 (acc) ((C : Int)) (by omega) (by omega) _ HO1.out (by have := HA.out; have := HLEN.out; omega) HB1.out).mono ?_
          rintro e W5 ⟨v5, rfl, hR5, hb5, hk5⟩
          have HO5 := Aside0.mk hR5
          have HB5 := Aside0.mk hb5
          have HIT5 := Aside0.mk (hk5 kb _ HIT1.out (iter_ne HO1.out HIT1.out))
          clear hR5 hb5 hk5
          go_wp2_with fail
          go_roundg g1
          case measure => exact Nat.lt_succ_self _
          case rel => exact ⟨pos + n, false, (acc) ++ Lib.encodeRuneZ ((C : Int)), f1, rfl, ⟨by have := HF2.out; rw [if_neg (by rw [hlo]; omega), hfo, hlo] at this; exact this⟩, ⟨by have := HI.out; omega⟩, ⟨by rw [List.length_append]; have := encodeRuneZ_len ((C : Int)); have := HA.out; omega⟩, HO5, HIT5, HB5⟩
        have e3 : decide ((65 : Int) ≤ (C : Int)) = true := decide_eq_true u1
        by_cases u2 : (C : Int) ≤ 90
        · have e4 : decide ((C : Int) ≤ 90) = true := decide_eq_true u2
          have e5 : ((C : Int) + 32 == 65533) = false := by simp; omega
          have hlo : low (C : Int) = (C : Int) + 32 := if_pos ⟨u1, u2⟩
          have hfo : foldOut false acc = acc := by simp [foldOut]
          go_wp2_with fail
          refine (append_rune w u3 (acc) ((C : Int) + 32) (by omega) (by omega) _ HO1.out (by have := HA.out; have := HLEN.out; omega) HB1.out).mono ?_
          rintro e W5 ⟨v5, rfl, hR5, hb5, hk5⟩
          have HO5 := Aside0.mk hR5
          have HB5 := Aside0.mk hb5
          have HIT5 := Aside0.mk (hk5 kb _ HIT1.out (iter_ne HO1.out HIT1.out))
          clear hR5 hb5 hk5
          go_wp2_with fail
          go_roundg g1
          case measure => exact Nat.lt_succ_self _
          case rel => exact ⟨pos + n, false, (acc) ++ Lib.encodeRuneZ ((C : Int) + 32), f1, rfl, ⟨by have := HF2.out; rw [if_neg (by rw [hlo]; omega), hfo, hlo] at this; exact this⟩, ⟨by have := HI.out; omega⟩, ⟨by rw [List.length_append]; have := encodeRuneZ_len ((C : Int) + 32); have := HA.out; omega⟩, HO5, HIT5, HB5⟩
        have e4 : decide ((C : Int) ≤ 90) = false := decide_eq_false u2
        have hl0 : low (C : Int) = (C : Int) := if_neg (by omega)
        by_cases u3_ : (C : Int) = 65533
        rotate_left
        · have e5 : ((C : Int) == 65533) = false := by simpa using u3_
          have hlo : low (C : Int) = (C : Int) := hl0
          have hfo : foldOut false acc = acc := by simp [foldOut]
          go_wp2_with fail
          refine (append_rune w u3 (acc) ((C : Int)) (by omega) (by omega) _ HO1.out (by have := HA.out; have := HLEN.out; omega) HB1.out).mono ?_
          rintro e W5 ⟨v5, rfl, hR5, hb5, hk5⟩
          have HO5 := Aside0.mk hR5
          have HB5 := Aside0.mk hb5
          have HIT5 := Aside0.mk (hk5 kb _ HIT1.out (iter_ne HO1.out HIT1.out))
          clear hR5 hb5 hk5
          go_wp2_with fail
          go_roundg g1
          case measure => exact Nat.lt_succ_self _
          case rel => exact ⟨pos + n, false, (acc) ++ Lib.encodeRuneZ ((C : Int)), f1, rfl, ⟨by have := HF2.out; rw [if_neg (by rw [hlo]; omega), hfo, hlo] at this; exact this⟩, ⟨by have := HI.out; omega⟩, ⟨by rw [List.length_append]; have := encodeRuneZ_len ((C : Int)); have := HA.out; omega⟩, HO5, HIT5, HB5⟩
        have e5 : ((C : Int) == 65533) = true := beq_iff_eq.2 u3_
        have hlo : low (C : Int) = 65533 := hl0.trans u3_
        have hfo : foldOut false acc = acc := by simp [foldOut]
        go_wp2_with fail
        refine (Tryz.utf8_DecodeRuneInString (a0.extract pos a0.size) _ (HT.out.below HB1.out).utf).mono ?_
        rintro e W5 ⟨rfl, hb5⟩
        rw [DG1.out, DG2.out]
        have HO5 := Aside0.mk (Kd.R_below HO1.out hb5)
        have HIT5 := Aside0.mk (keep_blk hb5 HIT1.out)
        have HB5 := Aside0.mk (below_step HB1.out hb5)
        clear hb5
        have hsl : (Instr.slice 9 (.string a0) (some (.int .i64 (pos : Int))) (some (.int .i64 ((pos : Int) + (n : Int)))) none).run Tryz.prog W5 = .ok (.string (a0.extract pos (pos + n))) W5 := by
          have := run_slice_string (P := Tryz.prog) W5 9 a0 .i64 .i64 (pos : Int) ((pos : Int) + (n : Int)) Tryz.underlying9 (by omega) (by omega) (by omega)
          rwa [Int.toNat_natCast, show ((pos : Int) + (n : Int)).toNat = pos + n by omega] at this
        go_wp2_with ((with_reducible refine gate_builtin (b := .append) (xs := #[.tmp 48, .tmp 54]) rfl ?_); at_builtin; refine print_append_str (w0 := w) w.heap.size rfl (.tmp 48) (.tmp 54) 22 9 5 rfl Tryz.underlying22 Tryz.underlying9 info5 u3 (acc) (a0.extract pos (pos + n)) rfl ?sx ?sO ?sB ?sS ?sL ?_; (case sx => rfl); (case sO => exact Kd.own_of_R HO5.out); (case sB => exact HB5.out); (case sS => exact below_size HB5.out); (case sL => have hz := ext_size a0 pos (pos + n) n2; have := HA.out; have := HLEN.out; omega); intro v6 W6 ho hb hgr; have HO6 : Aside0 ((Kd.int .u8).R 5 W6 w.heap.size (fun _ => True) v6 ((acc) ++ bytesOf (a0.extract pos (pos + n)))) := ⟨Kd.R_of_own ho (fun _ _ => trivial)⟩; have HB6 := Aside0.mk hb; have HIT6 := Aside0.mk (blk_grown HIT5.out hgr (iter_ne HO5.out HIT5.out)); clear ho hb hgr)
        go_roundg g1
        case measure => exact Nat.lt_succ_self _
        case rel => exact ⟨pos + n, false, (acc) ++ bytesOf (a0.extract pos (pos + n)), f1, rfl, ⟨by have := HF2.out; rw [if_pos hlo, hfo] at this; exact this⟩, ⟨by have := HI.out; omega⟩, ⟨by rw [List.length_append, bytesOf_length, ext_size a0 pos (pos + n) n2]; have := HA.out; omega⟩, HO6, HIT6, HB6⟩
end Go.Proofs.YtkioddjjfifadaaGreatDoor.P
set_option linter.unusedVariables false
set_option linter.unusedSimpArgs false
namespace Go.Proofs.YtkioddjjfifadaaGreatDoor.P
open Go.RowKit Go.Proofs.YtkioddjjfifadaaGreatDoorW.PrintWords Go.Proofs.YtkioddjjfifadaaGreatDoorW.PrintLast Go.Proofs.YtkioddjjfifadaaGreatDoorW.PrintMore
attribute [local go_sem] max2_int min2_int max_two min_two max_three min_three max_four min_four
theorem R_iterG {α : Type} {d : Kd α} {e B kb p : Nat} {ok : Nat → Prop} {s : ByteArray} {w : World} {v : Value} {xs : List α} (h : d.R e w B ok v xs) (hb : w.heap[kb]? = some (.stringIter s p)) (p' : Nat) : d.R e (w.iterAt kb s p') B ok v xs :=
  Kd.R_mono (Kd.R_move (Kd.R_bound h) (fun k hk => by
    refine Lib.iterAt_other w kb k s p' ?_
    rintro rfl
    obtain ⟨_, _, _, _, _, cells, hc⟩ := hk
    rw [hb] at hc
    cases hc)) (fun _ hk => hk.1)
theorem iter_neG {α : Type} {d : Kd α} {e B kb p : Nat} {ok : Nat → Prop} {s : ByteArray} {w : World} {v : Value} {xs : List α} (h : d.R e w B ok v xs) (hb : w.heap[kb]? = some (.stringIter s p)) : some kb ≠ v.ownBlock := fun e => by
  obtain ⟨inner, ho⟩ := Kd.R_own h
  obtain ⟨cells, hc⟩ := own_typed ho kb e.symm
  rw [hb] at hc
  cases hc
def arcsGo (s : ByteArray) : Nat → Nat → List Int → Int → Int → Option (List Int)
  | 0, _, _, _, _ => none
  | f + 1, pos, l, v, n =>
    if pos < s.size then
      (if ((Utf8.decode s pos).1 : Int) = 46 ∧ 0 < n then arcsGo s f (pos + (Utf8.decode s pos).2) (l ++ [v]) 0 0
       else if ((Utf8.decode s pos).1 : Int) < 48 ∨ 57 < ((Utf8.decode s pos).1 : Int) ∨ (n = 1 ∧ v = 0) then none
       else arcsGo s f (pos + (Utf8.decode s pos).2) l (min (10 * v + (((Utf8.decode s pos).1 : Int) - 48)) 1099511627776) (min (n + 1) 20))
    else some l
def arcsEnd (l : List Int) : List Int × Bool :=
  if (l.length : Int) < 2 then ([], false) else if 2 < rd l 0 then ([], false) else if rd l 0 < 2 then (if 40 ≤ rd l 1 then ([], false) else (l, true)) else (l, true)
def der_arcs.f (a0 : ByteArray) : Option (List Int × Bool) :=
  if a0.size < 8796093022208 then some (match arcsGo (a0 ++ ⟨#[46]⟩) (a0.size + 2) 0 [] 0 0 with | none => ([], false) | some l => arcsEnd l) else none
set_option maxRecDepth 100000 in
set_option maxHeartbeats 8000000 in
theorem der_arcs.calls (a0 : ByteArray) (r1 : List Int) (r2 : Bool) (w : World) (h : der_arcs.f a0 = some (r1, r2)) :
    Calls Tryz.prog 238 #[.string a0] w fun e w' => ∃ v0_ : Value, e = .returned (.tuple #[v0_, .bool r2]) ∧ Kd.R (Kd.int .u64) 278 w' w.heap.size (fun _ => True) v0_ r1 ∧ Below w.heap.size w w' := by
  unfold der_arcs.f at h
  split at h
  case isFalse => cases h
  case isTrue hlen =>
  have h := Option.some.inj h
  have HLEN := Aside0.mk hlen
  have z46 : (⟨#[46]⟩ : ByteArray).size = 1 := rfl
  have hsz : (a0 ++ (⟨#[46]⟩ : ByteArray)).size = a0.size + 1 := by rw [ByteArray.size_append, z46]
  have yy : (9223372036854775807 < a0.size + 1) = False := eq_false (by omega)
  have HB0 := Aside0.mk (below_alloc (Below.refl w.heap.size w) (.stringIter (a0 ++ (⟨#[46]⟩ : ByteArray)) 0))
  have HIT : Aside0 ((w.alloc (.stringIter (a0 ++ (⟨#[46]⟩ : ByteArray)) 0)).heap[w.heap.size]? = some (.stringIter (a0 ++ (⟨#[46]⟩ : ByteArray)) 0)) := ⟨heap_alloc_new w _⟩
  have HE := Aside0.mk h
  have HSZ := Aside0.mk hsz
  clear h hsz hlen
  go_enter Tryz.func238, Tryz.ntmps238
  go_wp2_with fail
  generalize hS : a0 ++ (⟨#[46]⟩ : ByteArray) = S at *
  clear hS yy z46
  go_loopg [4, 5, 6] (S.size + 1) (fun kq v4 v5 v6 w' => ∃ (pos : Nat) (l : List Int) (v n : Int) (f : Nat), v5 = .int .u64 v ∧ v6 = .int .i64 n ∧ Aside0 (arcsGo S f pos l v n = arcsGo S (a0.size + 2) 0 [] 0 0) ∧ Aside0 (pos ≤ S.size ∧ S.size < f + pos ∧ S.size < kq + pos) ∧ Aside0 (l.length ≤ pos) ∧
    Aside0 (0 ≤ v ∧ v ≤ 1099511627776 ∧ 0 ≤ n ∧ n ≤ 20) ∧ Aside0 ((Kd.int .u64).R 278 w' w.heap.size (fun _ => True) v4 l) ∧ Aside0 (w'.heap[w.heap.size]? = some (.stringIter S pos)) ∧ Aside0 (Below w.heap.size w w'))
  case atStart => exact ⟨0, [], 0, 0, a0.size + 2, rfl, rfl, ⟨rfl⟩, ⟨⟨Nat.zero_le _, by have := HSZ.out; omega, by omega⟩⟩, ⟨Nat.zero_le _⟩, ⟨by decide⟩, ⟨Kd.R_nil _ _ _ _ _⟩, HIT, HB0⟩
  case round =>
    clear HB0 HIT
    obtain ⟨pos, l, v, n, f, rfl, rfl, HF, HI, HA, HV, HO, HIT, HB⟩ := hrel
    cases gk with
    | zero => exact absurd HI.out (by omega)
    | succ g1 =>
      obtain ⟨f1, rfl⟩ : ∃ f1, f = f1 + 1 := ⟨f - 1, by have := HI.out; omega⟩
      by_cases hp : pos < S.size
      rotate_left
      · have he : pos = S.size := by have := HI.out; omega
        have HR : Aside0 (arcsGo S (a0.size + 2) 0 [] 0 0 = some l) := ⟨by have := HF.out; rw [arcsGo, if_neg hp] at this; exact this.symm⟩
        have hE := HE.out
        rw [HR.out] at hE
        have HE2 : Aside0 (arcsEnd l = (r1, r2)) := ⟨hE⟩
        have hnx0 : ∀ ty, (Instr.next (.pointer (some ⟨w.heap.size, 0, none⟩)) true ty).run Tryz.prog wr = _ := fun ty => Lib.run_next_end_at wr w.heap.size S pos ty HIT.out (by omega)
        obtain ⟨Ao, co, hu⟩ := Kd.R_slice HO.out
        subst hu
        have HC := Aside0.mk (Kd.R_reads' HO.out).2.2
        have hnx := hnx0
        clear hnx0 hE
        by_cases hl : (l.length : Int) < 2
        · have e1 : decide ((l.length : Int) < 2) = true := decide_eq_true hl
          have HX : Aside0 (([], false) = (r1, r2)) := ⟨by have := HE2.out; rw [arcsEnd, if_pos hl] at this; exact this⟩
          clear hl
          go_wp2_with fail
          go_ret2
          obtain ⟨rfl, rfl⟩ := Prod.mk.inj (HX.out)
          exact ⟨_, rfl, Kd.R_nil _ _ _ _ _, HB.out⟩
        have e1 : decide ((l.length : Int) < 2) = false := decide_eq_false hl
        have p244 : 0 ≤ (0 : Int) := (by omega)
        have q244 : 0 < (l.length : Int) := by omega
        obtain ⟨ad244, e244, hx244_0⟩ := Kd.at_int HC.out 0 p244 q244
        cases e244
        have qi244 : (0 < l.length) = True := eq_true (by omega)
        (try rw [show ((0 : Int)).toNat = 0 from rfl] at hx244_0)
        (try rw [Addr.add_zero'] at hx244_0)
        replace p244 := eq_true p244
        replace q244 := eq_true q244
        by_cases h2 : 2 < rd l 0
        · have e2 : decide (2 < rd l 0) = true := decide_eq_true h2
          have HX : Aside0 (([], false) = (r1, r2)) := ⟨by have := HE2.out; rw [arcsEnd, if_neg hl, if_pos h2] at this; exact this⟩
          clear h2
          clear hl
          go_wp2_with fail
          go_ret2
          obtain ⟨rfl, rfl⟩ := Prod.mk.inj (HX.out)
          exact ⟨_, rfl, Kd.R_nil _ _ _ _ _, HB.out⟩
        have e2 : decide (2 < rd l 0) = false := decide_eq_false h2
        by_cases h3 : rd l 0 < 2
        rotate_left
        · have e3 : decide (rd l 0 < 2) = false := decide_eq_false h3
          have HX : Aside0 ((l, true) = (r1, r2)) := ⟨by have := HE2.out; rw [arcsEnd, if_neg hl, if_neg h2, if_neg h3] at this; exact this⟩
          clear h2 h3
          clear hl
          go_wp2_with fail
          go_ret2
          obtain ⟨rfl, rfl⟩ := Prod.mk.inj (HX.out)
          exact ⟨_, rfl, HO.out, HB.out⟩
        have e3 : decide (rd l 0 < 2) = true := decide_eq_true h3
        have p245 : 0 ≤ (1 : Int) := (by omega)
        have q245 : 1 < (l.length : Int) := by omega
        obtain ⟨ad245, e245, hx245_0⟩ := Kd.at_int HC.out 1 p245 q245
        obtain rfl : ad244 = ad245 := (by injection e245)
        (try simp only [show (1 : Int).toNat = 1 from rfl, Nat.reduceMul, Nat.reduceEqDiff, Go.Addr.add, ↓reduceIte] at hx245_0)
        have qi245 : (1 < l.length) = True := eq_true (by omega)
        (try rw [show ((1 : Int)).toNat = 1 from rfl] at hx245_0)
        replace p245 := eq_true p245
        replace q245 := eq_true q245
        by_cases h4 : 40 ≤ rd l 1
        rotate_left
        · have e4 : decide (40 ≤ rd l 1) = false := decide_eq_false h4
          have HX : Aside0 ((l, true) = (r1, r2)) := ⟨by have := HE2.out; rw [arcsEnd, if_neg hl, if_neg h2, if_pos h3, if_neg h4] at this; exact this⟩
          clear h2 h3 h4
          clear hl
          go_wp2_with fail
          go_ret2
          obtain ⟨rfl, rfl⟩ := Prod.mk.inj (HX.out)
          exact ⟨_, rfl, HO.out, HB.out⟩
        have e4 : decide (40 ≤ rd l 1) = true := decide_eq_true h4
        have HX : Aside0 (([], false) = (r1, r2)) := ⟨by have := HE2.out; rw [arcsEnd, if_neg hl, if_neg h2, if_pos h3, if_pos h4] at this; exact this⟩
        clear h2 h3 h4
        clear hl
        go_wp2_with fail
        go_ret2
        obtain ⟨rfl, rfl⟩ := Prod.mk.inj (HX.out)
        exact ⟨_, rfl, Kd.R_nil _ _ _ _ _, HB.out⟩
      have hnx0 : ∀ ty, (Instr.next (.pointer (some ⟨w.heap.size, 0, none⟩)) true ty).run Tryz.prog wr = _ := fun ty => Lib.run_next_any_at wr w.heap.size S pos ty HIT.out hp
      obtain ⟨n1, n2, n4⟩ := decode_width S pos hp
      have hle := decode_le S pos
      have hf := HF.out
      rw [arcsGo, if_pos hp] at hf
      have HO1 := Aside0.mk (R_iterG HO.out HIT.out (pos + (Utf8.decode S pos).2))
      have HIT1 := Aside0.mk (Lib.iterAt_heap wr w.heap.size S pos (pos + (Utf8.decode S pos).2) HIT.out)
      have HB1 := Aside0.mk (Lib.below_iterAt HB.out (Nat.le_refl _) S (pos + (Utf8.decode S pos).2))
      have hnx := hnx0
      clear HF HO HIT HB hnx0
      generalize wr.iterAt w.heap.size S (pos + (Utf8.decode S pos).2) = W2 at *
      generalize hc : (Utf8.decode S pos).1 = C at *
      generalize hn : (Utf8.decode S pos).2 = m at *
      have HFF := Aside0.mk hf
      clear hc hn hf
      have hv0 := HV.out.1
      have hv1 := HV.out.2.1
      have hn0 := HV.out.2.2.1
      have hn2 := HV.out.2.2.2
      obtain ⟨Ao, co, hu⟩ := Kd.R_slice HO1.out
      subst hu
      by_cases h46 : (C : Int) = 46
      · have e1 : ((C : Int) == 46) = true := beq_iff_eq.2 h46
        by_cases hn3 : 0 < n
        · have e2 : decide (0 < n) = true := decide_eq_true hn3
          clear hv0 hv1 hn0 hn2
          go_wp2_with ((with_reducible refine gate_builtin (b := .append) (xs := #[.tmp 32, .tmp 34]) rfl ?_); at_builtin; refine Kd.R_append (Kd.int .u64) (w0 := w) w.heap.size rfl (.tmp 32) (.tmp 34) 277 278 (.int .u64 0) 8 rfl Tryz.underlying277 info278 rfl (by decide) (by omega) (.slice Ao l.length co) l v [.int .u64 v] (fun _ => True) (fun _ => False) rfl rfl ?aP (fun _ hk => hk.elim) ?aF ?aO ?aB ?aS ?aL ?_; (case aP => exact rfl); (case aF => exact (fun _ _ => trivial)); (case aO => exact HO1.out); (case aB => exact HB1.out); (case aS => exact (below_size HB1.out)); (case aL => have := HA.out; have := HI.out; have := HLEN.out; have := HSZ.out; omega); intro v2 W3 ho hb hgr hat; have HO2 := Aside0.mk ho; have HB2 := Aside0.mk hb; have HIT2 := Aside0.mk (blk_grown HIT1.out hgr (iter_neG HO1.out HIT1.out)); clear ho hb hgr hat)
          go_roundg g1
          case measure => exact Nat.lt_succ_self _
          case rel => exact ⟨pos + m, l ++ [v], 0, 0, f1, rfl, rfl, ⟨by have := HFF.out; rw [if_pos ⟨h46, hn3⟩] at this; exact this⟩, ⟨by have := HI.out; omega⟩, ⟨by rw [List.length_append, List.length_singleton]; have := HA.out; omega⟩, ⟨by decide⟩, HO2, HIT2, HB2⟩
        have e2 : decide (0 < n) = false := decide_eq_false hn3
        have e3 : decide ((C : Int) < 48) = true := decide_eq_true (by omega)
        have HR : Aside0 (arcsGo S (a0.size + 2) 0 [] 0 0 = none) := ⟨by have := HFF.out; rw [if_neg (fun q => hn3 q.2), if_pos (Or.inl (by omega))] at this; exact this.symm⟩
        clear hv0 hv1 hn0 hn2
        go_wp2_with fail
        go_ret2
        have hE := HE.out
        rw [HR.out] at hE
        obtain ⟨rfl, rfl⟩ := Prod.mk.inj hE
        exact ⟨_, rfl, Kd.R_nil _ _ _ _ _, HB1.out⟩
      have e1 : ((C : Int) == 46) = false := by simpa using h46
      by_cases h48 : (C : Int) < 48
      · have e3 : decide ((C : Int) < 48) = true := decide_eq_true h48
        have HR : Aside0 (arcsGo S (a0.size + 2) 0 [] 0 0 = none) := ⟨by have := HFF.out; rw [if_neg (fun q => h46 q.1), if_pos (Or.inl h48)] at this; exact this.symm⟩
        clear hv0 hv1 hn0 hn2
        go_wp2_with fail
        go_ret2
        have hE := HE.out
        rw [HR.out] at hE
        obtain ⟨rfl, rfl⟩ := Prod.mk.inj hE
        exact ⟨_, rfl, Kd.R_nil _ _ _ _ _, HB1.out⟩
      have e3 : decide ((C : Int) < 48) = false := decide_eq_false h48
      by_cases h57 : 57 < (C : Int)
      · have e4 : decide (57 < (C : Int)) = true := decide_eq_true h57
        have HR : Aside0 (arcsGo S (a0.size + 2) 0 [] 0 0 = none) := ⟨by have := HFF.out; rw [if_neg (fun q => h46 q.1), if_pos (Or.inr (Or.inl h57))] at this; exact this.symm⟩
        clear hv0 hv1 hn0 hn2
        go_wp2_with fail
        go_ret2
        have hE := HE.out
        rw [HR.out] at hE
        obtain ⟨rfl, rfl⟩ := Prod.mk.inj hE
        exact ⟨_, rfl, Kd.R_nil _ _ _ _ _, HB1.out⟩
      have e4 : decide (57 < (C : Int)) = false := decide_eq_false h57
      by_cases hq : n = 1 ∧ v = 0
      · have e5 : (n == 1) = true := beq_iff_eq.2 hq.1
        have e6 : (v == 0) = true := beq_iff_eq.2 hq.2
        have HR : Aside0 (arcsGo S (a0.size + 2) 0 [] 0 0 = none) := ⟨by have := HFF.out; rw [if_neg (fun q => h46 q.1), if_pos (Or.inr (Or.inr hq))] at this; exact this.symm⟩
        clear hv0 hv1 hn0 hn2 hq
        go_wp2_with fail
        go_ret2
        have hE := HE.out
        rw [HR.out] at hE
        obtain ⟨rfl, rfl⟩ := Prod.mk.inj hE
        exact ⟨_, rfl, Kd.R_nil _ _ _ _ _, HB1.out⟩
      have HN : Aside0 (arcsGo S f1 (pos + m) l (min (10 * v + ((C : Int) - 48)) 1099511627776) (min (n + 1) 20) = arcsGo S (a0.size + 2) 0 [] 0 0) := ⟨by have := HFF.out; rw [if_neg (fun q => h46 q.1), if_neg (fun q => by rcases q with q | q | q; exact h48 q; exact h57 q; exact hq q)] at this; exact this⟩
      have h48' : (48 : Int) ≤ (C : Int) := by omega
      have h57' : (C : Int) ≤ 57 := by omega
      have hm0 : 0 ≤ (C : Int) - 48 := by omega
      have hm1 : (C : Int) - 48 ≤ 9 := by omega
      have hk0 : 0 ≤ 10 * v + ((C : Int) - 48) := by omega
      have hk1 : 10 * v + ((C : Int) - 48) ≤ 10995116277769 := by omega
      have HN0 : Aside0 (0 ≤ min (10 * v + ((C : Int) - 48)) 1099511627776 ∧ min (10 * v + ((C : Int) - 48)) 1099511627776 ≤ 1099511627776 ∧ 0 ≤ min (n + 1) 20 ∧ min (n + 1) 20 ≤ 20) := ⟨by omega⟩
      have u1 : IntKind.u64.wrap (10 * v) = 10 * v := by simp [IntKind.wrap, show IntKind.u64.signed = false from rfl, show IntKind.u64.bits = 64 from rfl]; omega
      have u2 : IntKind.i32.wrap ((C : Int) - 48) = (C : Int) - 48 := by simp [IntKind.wrap, show IntKind.i32.signed = true from rfl, show IntKind.i32.bits = 32 from rfl]; omega
      have u3 : IntKind.u64.wrap ((C : Int) - 48) = (C : Int) - 48 := by simp [IntKind.wrap, show IntKind.u64.signed = false from rfl, show IntKind.u64.bits = 64 from rfl]; omega
      have u4 : IntKind.u64.wrap (10 * v + ((C : Int) - 48)) = 10 * v + ((C : Int) - 48) := by simp [IntKind.wrap, show IntKind.u64.signed = false from rfl, show IntKind.u64.bits = 64 from rfl]; omega
      have u5 : wrap64 (n + 1) = n + 1 := by unfold wrap64; omega
      by_cases q5 : n = 1
      rotate_left
      · have e5 : (n == 1) = false := by simpa using q5
        clear hq q5 hv0 hv1 hn0 hn2 h48 h57
        go_wp2_with fail
        all_goals
          clear u1 u2 u3 u4 u5
          go_roundg g1
          case measure => exact Nat.lt_succ_self _
          case rel => exact ⟨pos + m, l, _, _, f1, rfl, rfl, ⟨(congr (congrArg (arcsGo S f1 (pos + m) l) (by omega)) (by omega)).trans HN.out⟩, ⟨by have := HI.out; omega⟩, ⟨by have := HA.out; omega⟩, ⟨by have := HV.out; omega⟩, HO1, HIT1, HB1⟩
      have e5 : (n == 1) = true := beq_iff_eq.2 q5
      have e6 : (v == 0) = false := by simpa using (fun q => hq ⟨q5, q⟩ : ¬ v = 0)
      clear hq q5 hv0 hv1 hn0 hn2 h48 h57
      go_wp2_with fail
      all_goals
        clear u1 u2 u3 u4 u5
        go_roundg g1
        case measure => exact Nat.lt_succ_self _
        case rel => exact ⟨pos + m, l, _, _, f1, rfl, rfl, ⟨(congr (congrArg (arcsGo S f1 (pos + m) l) (by omega)) (by omega)).trans HN.out⟩, ⟨by have := HI.out; omega⟩, ⟨by have := HA.out; omega⟩, ⟨by have := HV.out; omega⟩, HO1, HIT1, HB1⟩
end Go.Proofs.YtkioddjjfifadaaGreatDoor.P
namespace Go.Proofs.YtkioddjjfifadaaGreatDoor.P
open Go.RowKit Go.Proofs.YtkioddjjfifadaaGreatDoorW.PrintWords Go.Proofs.YtkioddjjfifadaaGreatDoorW.PrintLast Go.Proofs.YtkioddjjfifadaaGreatDoorW.PrintMore
attribute [local go_sem] max2_int min2_int max_two min_two max_three min_three max_four min_four   -- for this text's walks alone
set_option linter.unusedVariables false
set_option linter.unusedSimpArgs false
mutual
def der_PutOid.l0 : Nat → List Int → List Int → Int → Int → Option (List Int × Int)
  | 0, _, _, _, _ => none
  | k + 1, x4, x18, x19, x20 => if x20 < x19 then (if 0 ≤ x20 then (if x20 < (x18.length : Int) then (if (rd x18 x20) > 2147483647 then (some (([] : List Int), 3)) else (der_PutOid.l0 k x4 x18 x19 (wrap64 (x20 + 1)))) else (none)) else (none)) else (if 0 < (x4.length : Int) then (if 1 < (x4.length : Int) then ((der_seven.f k (IntKind.u64.wrap ((IntKind.u64.wrap (40 * (rd x4 0))) + (rd x4 1)))).bind fun t318 => (if 2 ≤ (x4.length : Int) then ((some (x4.drop 2 : List Int)).bind fun y321 => (der_PutOid.l1 k t318 y321 (y321.length : Int) 0)) else (none))) else (none)) else (none))
def der_PutOid.l1 : Nat → List Int → List Int → Int → Int → Option (List Int × Int)
  | 0, _, _, _, _ => none
  | k + 1, x8, x37, x38, x39 => if x39 < x38 then (if 0 ≤ x39 then (if x39 < (x37.length : Int) then ((der_seven.f k (rd x37 x39)).bind fun t326 => (if x8.length + t326.length < 140737488355328 then (der_PutOid.l1 k (x8 ++ t326) x37 x38 (wrap64 (x39 + 1))) else (none))) else (none)) else (none)) else (some (x8, 0))
end
def der_PutOid.f (k : Nat) (a0 : ByteArray) : Option (List Int × Int) := (der_arcs.f a0).bind fun bt311 => (if bt311.2 = true then (der_PutOid.l0 k bt311.1 bt311.1 (bt311.1.length : Int) 0) else (some (([] : List Int), 6)))
def der_PutOid.T10 : Bool × List (List Nat × List Nat) := (true, [([], []), ([0], [0]), ([1], [1]), ([2], [2]), ([], []), ([4], [4]), ([5], [5]), ([3, 6], [3, 6]), ([7], [7]), ([8, 8, 0, 1, 2, 3, 4, 5, 6, 7, 8], [8])])
def der_PutOid.B10 : List Nat := [0, 1, 3, 7, 0, 16, 48, 127, 255, 511]
theorem der_PutOid.tab10 : rtab .any (opsOf Tryz.f199 10) = der_PutOid.T10 := by kernel_rfl
theorem der_PutOid.bits10 : waitsOk der_PutOid.T10.2 der_PutOid.B10 = true := by kernel_rfl
set_option maxHeartbeats 8000000 in
set_option maxRecDepth 100000 in
theorem der_PutOid.calls (k : Nat) (a0 : ByteArray) (r1 : List Int) (r2 : Int) (w : World) (h : der_PutOid.f k a0 = some (r1, r2)) :
    Calls Tryz.prog 199 #[.string a0] w fun e w' => ∃ v0_ : Value, e = .returned (.tuple #[v0_, .int .i64 r2]) ∧ Kd.R (Kd.int .u8) 5 w' w.heap.size (fun _ => True) v0_ r1 ∧ Below w.heap.size w w' := by
  have HB := Aside0.mk (Below.refl w.heap.size w)
  have H : ((der_arcs.f a0).bind fun bt311 => (if bt311.2 = true then (der_PutOid.l0 k bt311.1 bt311.1 (bt311.1.length : Int) 0) else (some (([] : List Int), 6)))) = some (r1, r2) := h
  clear h
  replace H := Option.bind_eq_some_iff.mp H
  obtain ⟨⟨t311, t312⟩, A20, H⟩ := H
  replace H : (if t312 = true then (der_PutOid.l0 k t311 t311 (t311.length : Int) 0) else (some (([] : List Int), 6))) = some (r1, r2) := H
  have A2 := Aside0.mk A20
  clear A20
  by_cases c3 : t312 = true
  rotate_left
  · replace c3 := Bool.eq_false_iff.mpr c3
    subst c3
    have H1 : (some (([] : List Int), 6)) = some (r1, r2) := by rw [if_neg (show ¬ (false = true) by decide)] at H; exact H
    clear H
    have H := H1
    clear H1
    simp only [Option.some.injEq, Prod.mk.injEq] at H
    obtain ⟨rfl, rfl⟩ := H
    go_enter Tryz.func199, Tryz.ntmps199
    go_wp2_with (first | ((with_reducible refine gate_callee (f := 238) rfl ?_); refine goesL_ (some 13) rfl rfl Tryz.func238 (by kernel_rfl) rfl #[.string a0] rfl (by (try simp only [List.map_toArray, List.map_cons, List.map_nil]); first | done | rfl | (simp only [List.length_drop, List.length_take]; rfl)) ?_; (with_reducible refine (der_arcs.calls a0 t311 false _ A2.out).mono ?_); rintro e w25 ⟨v313, rfl, ho0, hb⟩; refine ⟨_, rfl, ?_⟩; have n0_ := Aside0.mk (Kd.R_lower ho0 (below_size (bU HB.out))); have n1_ := Aside0.mk (below_step (bU HB.out) hb); clear HB; have HO314 := n0_; have HB := n1_; clear n0_ n1_; (try clear hb); (try clear hb2); (try clear hk); (try clear hi); (try clear ho0)))
    go_ret2
    exact ⟨_, by first | rfl | (simp [errW_none, errW_some] <;> rfl) | (simp [*, errW_none, errW_some] <;> rfl), by first | exact Kd.R_nil _ _ _ _ _ | exact Kd.N_nil _ _ _ _ _ | exact Kd.V_nil _ _ _ _ _ | exact Kd.Q_nil _ _ _ _ _ | exact Kd.S_nil _ _ _ _ _, bU HB.out⟩
  subst c3
  have H1 : (der_PutOid.l0 k t311 t311 (t311.length : Int) 0) = some (r1, r2) := by rw [if_pos rfl] at H; exact H
  clear H
  have H := H1
  clear H1
  have H' := Aside0.mk H
  clear H
  go_enter Tryz.func199, Tryz.ntmps199
  go_wp2_with (first | ((with_reducible refine gate_callee (f := 238) rfl ?_); refine goesL_ (some 13) rfl rfl Tryz.func238 (by kernel_rfl) rfl #[.string a0] rfl (by (try simp only [List.map_toArray, List.map_cons, List.map_nil]); first | done | rfl | (simp only [List.length_drop, List.length_take]; rfl)) ?_; (with_reducible refine (der_arcs.calls a0 t311 true _ A2.out).mono ?_); rintro e w4 ⟨v313, rfl, ho0, hb⟩; refine ⟨_, rfl, ?_⟩; have n0_ := Aside0.mk (Kd.R_lower ho0 (below_size (bU HB.out))); have n1_ := Aside0.mk (below_step (bU HB.out) hb); clear HB; have HO314 := n0_; have HB := n1_; clear n0_ n1_; (try clear hb); (try clear hb2); (try clear hk); (try clear hi); (try clear ho0); obtain ⟨Ao5, co5, eo5⟩ := Kd.R_slice HO314.out; subst eo5))
  go_loopg [20] k (fun kq v20 w' => ∃ (x20_1 : Int), v20 = .int .i64 x20_1 ∧ Aside0 (der_PutOid.l0 kq t311 t311 (t311.length : Int) x20_1 = some (r1, r2)) ∧ Aside0 (kq ≤ k) ∧ Aside0 (Kd.R (Kd.int .u64) 278 w' w.heap.size (fun _ => True) (.slice Ao5 t311.length co5) t311) ∧ Aside0 (Kd.R (Kd.int .u64) 278 w' w.heap.size (fun _ => True) (.slice Ao5 t311.length co5) t311) ∧ Aside0 (Below w.heap.size w w'))
  case atStart => exact ⟨(0), (by first | rfl | (simp; done) | (simp [*]; done)), H', ⟨Nat.le_refl _⟩, ⟨Kd.R_u HO314.out⟩, ⟨Kd.R_u HO314.out⟩, ⟨bU HB.out⟩⟩
  case round =>
    clear H'
    try clear c1
    try clear c2
    try clear p2
    try clear c3
    obtain ⟨x20_1, rfl, HA, HK1, HO_4, HO_18, HB⟩ := hrel
    cases gk with
    | zero => exact absurd HA.out (by simp [der_PutOid.l0])
    | succ k1 =>
      have H := HA.out
      clear HA
      simp only [der_PutOid.l0] at H
      by_cases c6 : x20_1 < (t311.length : Int)
      · rw [if_pos c6] at H
        have c6b0 : decide (x20_1 < (t311.length : Int)) = true := decide_eq_true c6
        clear c6
        by_cases c7 : 0 ≤ x20_1
        rotate_left
        · rw [if_neg c7] at H
          exact absurd H (by simp)
        rw [if_pos c7] at H
        have c7b0 : decide (0 ≤ x20_1) = true := decide_eq_true c7
        clear c7
        by_cases c8 : x20_1 < (t311.length : Int)
        rotate_left
        · rw [if_neg c8] at H
          exact absurd H (by simp)
        rw [if_pos c8] at H
        have c8b0 : decide (x20_1 < (t311.length : Int)) = true := decide_eq_true c8
        clear c8
        by_cases c9 : (rd t311 x20_1) > 2147483647
        · rw [if_pos c9] at H
          have c9b0 : decide (2147483647 < (rd t311 x20_1)) = true := decide_eq_true c9
          clear c9
          simp only [Option.some.injEq, Prod.mk.injEq] at H
          obtain ⟨rfl, rfl⟩ := H
          have p315 : 0 ≤ (x20_1 : Int) := of_decide_eq_true (by first | (with_reducible assumption) | assumption)
          have q315 : x20_1 < (t311.length : Int) := of_decide_eq_true (by first | (with_reducible assumption) | assumption)
          obtain ⟨ad315, e315, hx315_0⟩ := Kd.at_int (Kd.R_reads' HO_18.out).2.2 x20_1 p315 q315
          cases e315
          replace p315 := eq_true p315
          replace q315 := eq_true q315
          go_wp2
          go_ret2
          exact ⟨_, by first | rfl | (simp [errW_none, errW_some] <;> rfl) | (simp [*, errW_none, errW_some] <;> rfl), by first | exact Kd.R_nil _ _ _ _ _ | exact Kd.N_nil _ _ _ _ _ | exact Kd.V_nil _ _ _ _ _ | exact Kd.Q_nil _ _ _ _ _ | exact Kd.S_nil _ _ _ _ _, bU HB.out⟩
        rw [if_neg c9] at H
        have c9b0 : decide (2147483647 < (rd t311 x20_1)) = false := decide_eq_false c9
        clear c9
        have H' := Aside0.mk H
        clear H
        have p315 : 0 ≤ (x20_1 : Int) := of_decide_eq_true (by first | (with_reducible assumption) | assumption)
        have q315 : x20_1 < (t311.length : Int) := of_decide_eq_true (by first | (with_reducible assumption) | assumption)
        obtain ⟨ad315, e315, hx315_0⟩ := Kd.at_int (Kd.R_reads' HO_18.out).2.2 x20_1 p315 q315
        cases e315
        replace p315 := eq_true p315
        replace q315 := eq_true q315
        go_wp2
        go_roundg k1
        case measure => have := HK1.out; omega
        case rel => exact ⟨(wrap64 (x20_1 + 1)), (by first | rfl | (simp; done) | (simp [*]; done)), H', ⟨by have := HK1.out; omega⟩, ⟨Kd.R_u HO_4.out⟩, ⟨Kd.R_u HO_18.out⟩, ⟨bU HB.out⟩⟩
      rw [if_neg c6] at H
      have c6b0 : decide (x20_1 < (t311.length : Int)) = false := decide_eq_false c6
      clear c6
      by_cases c10 : 0 < (t311.length : Int)
      rotate_left
      · rw [if_neg c10] at H
        exact absurd H (by simp)
      rw [if_pos c10] at H
      have c10b0 : decide (0 < (t311.length : Int)) = true := decide_eq_true c10
      have c10b1 : decide (0 < t311.length) = true := decide_eq_true (by omega)
      clear c10
      by_cases c11 : 1 < (t311.length : Int)
      rotate_left
      · rw [if_neg c11] at H
        exact absurd H (by simp)
      rw [if_pos c11] at H
      have c11b0 : decide (1 < (t311.length : Int)) = true := decide_eq_true c11
      have c11b1 : decide (1 < t311.length) = true := decide_eq_true (by omega)
      clear c11
      replace H := Option.bind_eq_some_iff.mp H
      obtain ⟨t318, A120, H⟩ := H
      replace H : (if 2 ≤ (t311.length : Int) then ((some (t311.drop 2 : List Int)).bind fun y321 => (der_PutOid.l1 k1 t318 y321 (y321.length : Int) 0)) else (none)) = some (r1, r2) := H
      have A12 := Aside0.mk A120
      clear A120
      by_cases c13 : 2 ≤ (t311.length : Int)
      rotate_left
      · rw [if_neg c13] at H
        exact absurd H (by simp)
      rw [if_pos c13] at H
      have c13b0 := eq_true c13
      have c13b1 : decide (2 ≤ (t311.length : Int)) = true := decide_eq_true c13
      clear c13
      obtain ⟨y321, hy321⟩ : ∃ y_ : List Int, y_ = (t311.drop 2) := ⟨_, rfl⟩
      replace H : (der_PutOid.l1 k1 t318 y321 (y321.length : Int) 0) = some (r1, r2) := by first | (rw [hy321]; with_reducible exact H) | (have H2_ := (Option.bind_some _ _).symm.trans H; rw [hy321]; with_reducible exact H2_) | (have H2_ := (Option.bind_some _ _).symm.trans H; with_reducible exact H2_) | with_reducible exact H | (rw [hy321]; exact H) | exact H
      have Ny321 := Aside0.mk hy321
      clear hy321
      have H' := Aside0.mk H
      clear H
      try go_wp2
      have n0_ := Aside0.mk (Kd.R_drew HO_4.out)
      have n1_ := Aside0.mk (Kd.R_drew HO_18.out)
      have n2_ := Aside0.mk (below_drew1 HB.out)
      clear HO_4
      clear HO_18
      clear HB
      have HO_4 := n0_
      have HO_18 := n1_
      have HB := n2_
      clear n0_ n1_ n2_
      have p316 : 0 ≤ (0 : Int) := (by omega)
      have q316 : 0 < (t311.length : Int) := of_decide_eq_true (by first | (with_reducible assumption) | assumption)
      obtain ⟨ad316, e316, hx316_0⟩ := Kd.at_int (Kd.R_reads' HO_4.out).2.2 0 p316 q316
      cases e316
      have qi316 : (0 < t311.length) = True := eq_true (by omega)
      (try rw [show ((0 : Int)).toNat = 0 from rfl] at hx316_0)
      (try rw [Addr.add_zero'] at hx316_0)
      replace p316 := eq_true p316
      replace q316 := eq_true q316
      have p317 : 0 ≤ (1 : Int) := (by omega)
      have q317 : 1 < (t311.length : Int) := of_decide_eq_true (by first | (with_reducible assumption) | assumption)
      obtain ⟨ad317, e317, hx317_0⟩ := Kd.at_int (Kd.R_reads' HO_4.out).2.2 1 p317 q317
      obtain rfl : ad316 = ad317 := (by injection e317)
      (try simp only [show (1 : Int).toNat = 1 from rfl, Nat.reduceMul, Nat.reduceEqDiff, Go.Addr.add, ↓reduceIte] at hx317_0)
      have qi317 : (1 < t311.length) = True := eq_true (by omega)
      (try rw [show ((1 : Int)).toNat = 1 from rfl] at hx317_0)
      replace p317 := eq_true p317
      replace q317 := eq_true q317
      refine start_ (n := 10) (S := fun w' => w'.cell? ad316 = some (.int .u64 (rd t311 0)) ∧ w'.cell? ⟨ad316.block, ad316.off + 1, none⟩ = some (.int .u64 (rd t311 1))) (ds := []) #[false, false, false, false, false, false, false, false, false, false] (by kernel_rfl) rfl rfl ⟨hx316_0, hx317_0⟩ (fun hHeld => ?_); refine with_tabW der_PutOid.tab10 der_PutOid.bits10 (fun HT_ HW_ => ?_)
      generalize wr.drew = w14 at HO_4 HO_18 HB hx316_0 hx317_0 hHeld ⊢
      refine pure_ (i := 0) (N := some 27) (v := ?_) (a' := ?_) #[true, false, false, false, false, false, false, false, false, false] rfl rfl (any_of HT_.out (by kernel_rfl)) (fun _ _ _ h => h) (Or.inl ⟨by rfl, ?_⟩) ?_ ?_; rotate_left; (intro w'; go_simp; with_reducible rfl); rotate_left; (simp only [Act.put, List.setIfInBounds_toArray, List.set_cons_zero, List.set_cons_succ, i64_w, i32_w]; rfl)
      refine pure_ (i := 1) (N := some 28) (v := ?_) (a' := ?_) #[true, true, false, false, false, false, false, false, false, false] rfl rfl (any_of HT_.out (by kernel_rfl)) (fun _ _ _ h => h) (Or.inl ⟨by rfl, ?_⟩) ?_ ?_; rotate_left; (intro w'; go_simp; with_reducible rfl); rotate_left; (simp only [Act.put, List.setIfInBounds_toArray, List.set_cons_zero, List.set_cons_succ, i64_w, i32_w]; rfl)
      refine pure_ (i := 4) (N := some 31) (v := ?_) (a' := ?_) #[true, true, false, false, true, false, false, false, false, false] rfl rfl (any_of HT_.out (by kernel_rfl)) (fun _ _ _ h => h) (Or.inl ⟨by rfl, ?_⟩) ?_ ?_; rotate_left; (intro w'; go_simp; with_reducible rfl); rotate_left; (simp only [Act.put, List.setIfInBounds_toArray, List.set_cons_zero, List.set_cons_succ, i64_w, i32_w]; rfl)
      refine pure_ (i := 5) (N := some 32) (v := ?_) (a' := ?_) #[true, true, false, false, true, true, false, false, false, false] rfl rfl (any_of HT_.out (by kernel_rfl)) (fun _ _ _ h => h) (Or.inl ⟨by rfl, ?_⟩) ?_ ?_; rotate_left; (intro w'; go_simp; with_reducible rfl); rotate_left; (simp only [Act.put, List.setIfInBounds_toArray, List.set_cons_zero, List.set_cons_succ, i64_w, i32_w]; rfl)
      refine take_ (i := 2) (N := some 29) (v := ?_) (a' := ?_) #[true, true, true, false, true, true, false, false, false, false] rfl rfl (take_ofW HT_.out HW_.out (by kernel_rfl)) (fun _ _ _ h => h) (Or.inl ⟨by rfl, ?_⟩) hHeld ?_ ?_; rotate_left; (rintro w' ⟨s0, s1⟩; go_simp; with_reducible rfl); rotate_left; (simp only [Act.put, List.setIfInBounds_toArray, List.set_cons_zero, List.set_cons_succ, i64_w, i32_w]; rfl)
      refine pure_ (i := 3) (N := some 30) (v := ?_) (a' := ?_) #[true, true, true, true, true, true, false, false, false, false] rfl rfl (any_of HT_.out (by kernel_rfl)) (fun _ _ _ h => h) (Or.inl ⟨by rfl, ?_⟩) ?_ ?_; rotate_left; (intro w'; go_simp; with_reducible rfl); rotate_left; (simp only [Act.put, List.setIfInBounds_toArray, List.set_cons_zero, List.set_cons_succ, i64_w, i32_w]; rfl)
      refine take_ (i := 6) (N := some 33) (v := ?_) (a' := ?_) #[true, true, true, true, true, true, true, false, false, false] rfl rfl (take_ofW HT_.out HW_.out (by kernel_rfl)) (fun _ _ _ h => h) (Or.inl ⟨by rfl, ?_⟩) hHeld ?_ ?_; rotate_left; (rintro w' ⟨s0, s1⟩; go_simp; with_reducible rfl); rotate_left; (simp only [Act.put, List.setIfInBounds_toArray, List.set_cons_zero, List.set_cons_succ, i64_w, i32_w]; rfl)
      refine pure_ (i := 7) (N := some 34) (v := ?_) (a' := ?_) #[true, true, true, true, true, true, true, true, false, false] rfl rfl (any_of HT_.out (by kernel_rfl)) (fun _ _ _ h => h) (Or.inl ⟨by rfl, ?_⟩) ?_ ?_; rotate_left; (intro w'; go_simp; with_reducible rfl); rotate_left; (simp only [Act.put, List.setIfInBounds_toArray, List.set_cons_zero, List.set_cons_succ, i64_w, i32_w]; rfl)
      refine one_ (i := 8) (N := some 35) #[true, true, true, true, true, true, true, true, true, false] rfl rfl (one_of HT_.out (by kernel_rfl)) (by decide) (fun K hK => ?_)
      refine goes_ Tryz.func219 (by kernel_rfl) rfl #[.int .u64 (IntKind.u64.wrap ((IntKind.u64.wrap (40 * (rd t311 0))) + (rd t311 1)))] (by rfl) rfl rfl (by (try simp only [List.map_toArray, List.map_cons, List.map_nil]); first | done | rfl | (simp only [List.length_drop, List.length_take]; rfl)) ?_
      with_reducible refine (der_seven.calls k1 (IntKind.u64.wrap ((IntKind.u64.wrap (40 * (rd t311 0))) + (rd t311 1))) t318 _ A12.out).mono ?_
      rintro e w15 ⟨v319, rfl, ho0, hb⟩
      have HS0_ := (hb.cell (World.block_lt_of_cell? _ _ (hHeld.1))).trans (hHeld.1)
      have HS1_ := (hb.cell (World.block_lt_of_cell? _ _ (hHeld.2))).trans (hHeld.2)
      refine ⟨_, rfl, ?_⟩
      have n0_ := Aside0.mk (Kd.R_below (Kd.R_u HO_4.out) hb)
      have n1_ := Aside0.mk (Kd.R_below (Kd.R_u HO_18.out) hb)
      have n2_ := Aside0.mk (Kd.R_lower ho0 (below_size (bU HB.out)))
      have n3_ := Aside0.mk (below_step (bU HB.out) hb)
      clear HO_4
      clear HO_18
      clear HB
      have HO_4 := n0_
      have HO_18 := n1_
      have HO320 := n2_
      have HB := n3_
      clear n0_ n1_ n2_ n3_
      (try clear hb)
      (try clear hb2)
      (try clear hk)
      (try clear hi)
      (try clear ho0)
      refine hK.out _ _ ⟨HS0_, HS1_⟩ (fun hHeld => ?_)
      clear hK K
      refine norm_ (a' := ?_) ?_ ?_; rotate_left; (show Act.put _ (some 35) _ = _; simp only [Act.put, List.setIfInBounds_toArray, List.set_cons_zero, List.set_cons_succ, i64_w, i32_w]; rfl)
      refine pure_ (i := 9) (N := some 8) (v := ?_) (a' := ?_) #[true, true, true, true, true, true, true, true, true, true] rfl rfl (any_of HT_.out (by kernel_rfl)) (fun _ _ _ h => h) (Or.inl ⟨by rfl, ?_⟩) ?_ ?_; rotate_left; (intro w'; go_simp; with_reducible rfl); rotate_left; (simp only [Act.put, List.setIfInBounds_toArray, List.set_cons_zero, List.set_cons_succ, i64_w, i32_w]; rfl)
      refine done_ (done_of HT_.out (by kernel_rfl)) ?_
      have q16 : (2 : Int) ≤ ((t311.length : Int) : Int) := of_decide_eq_true (by first | (with_reducible assumption) | assumption)
      obtain ⟨i016, hi016, _, hsz16, _⟩ := info_parts info278
      have hroom16 : t311.length ≤ co5 := (Kd.R_reads' HO_4.out).2.1
      have hC16 : Kd.C (Kd.int .u64) _ (some ad316) t311.length t311 := (Kd.R_reads' HO_4.out).2.2
      have hcut16 := cut_from (P := Tryz.prog) 277 278 .i64 Tryz.underlying277 hi016 1 hsz16 (some ad316) t311.length co5 2 (by omega) q16
      have hr16 := Kd.C_drop (m := (2 : Int).toNat) (c := co5) hC16 (by omega) hroom16
      obtain ⟨A16, hA16⟩ : ∃ A1, A1 = (if co5 = (2 : Int).toNat then (some ad316) else ((some ad316) : Option Addr).map (·.add ((2 : Int).toNat * 1))) := ⟨_, rfl⟩
      obtain ⟨c16, hc16⟩ : ∃ c1, c1 = co5 - (2 : Int).toNat := ⟨_, rfl⟩
      have hy16 : y321.length = t311.length - (2 : Int).toNat := (by rw [Ny321.out, List.length_drop] <;> omega)
      rw [show (t311).drop (2 : Int).toNat = y321 from Ny321.out.symm] at hr16
      replace hr16 : Kd.C (Kd.int .u64) _ A16 y321.length y321 := (by rw [hA16]; exact hr16)
      rw [← hy16, ← hA16, ← hc16] at hcut16
      have HDR : Aside0 (∀ W' : World, Kd.C (Kd.int .u64) W' (some ad316) t311.length t311 → Kd.C (Kd.int .u64) W' A16 y321.length y321) := ⟨fun W' hC_ => by
        have h_ := Kd.C_drop (m := (2 : Int).toNat) (c := co5) hC_ (by omega) hroom16
        rw [show (t311).drop (2 : Int).toNat = y321 from Ny321.out.symm] at h_
        rw [hA16]; exact h_⟩
      have HR324 := Aside0.mk hr16
      have HC324 := Aside0.mk (show y321.length ≤ c16 from by rw [hy16, hc16]; exact Nat.sub_le_sub_right hroom16 _)
      clear hr16 hC16 hroom16 hi016 hsz16 hc16
      have KY16 := Aside0.mk hy16
      have KA16 := Aside0.mk hA16
      clear hy16 hA16
      have KL16 := Aside0.mk (show 2 ≤ t311.length from by omega)
      replace q16 := eq_true q16
      try go_wp2
      go_loopg [8, 39] k1 (fun kq v8 v39 w' => ∃ (x8_2 : List Int) (x39_2 : Int), v39 = .int .i64 x39_2 ∧ Aside0 (der_PutOid.l1 kq x8_2 y321 (y321.length : Int) x39_2 = some (r1, r2)) ∧ Aside0 (kq ≤ k1) ∧ Aside0 (Kd.R (Kd.int .u8) 5 w' w.heap.size (fun _ => True) v8 x8_2) ∧ Aside0 (Below w.heap.size w w') ∧ Aside0 (Kd.R (Kd.int .u64) 278 w' w.heap.size (fun _ => True) (.slice (some ad316) t311.length co5) t311))
      case atStart => exact ⟨(t318), (0), (by first | rfl | (simp; done) | (simp [*]; done)), H', ⟨Nat.le_refl _⟩, ⟨Kd.R_u HO320.out⟩, ⟨bU HB.out⟩, ⟨Kd.R_u (Kd.R_mono HO_4.out (fun _ _ => trivial))⟩⟩
      case round =>
        clear H'
        try clear c1
        try clear q1
        try clear c2
        try clear p2
        try clear c3
        try clear p3
        try clear q3
        try clear hx3
        try clear qi3
        try clear c6
        try clear c6b0
        try clear p6
        try clear c7
        try clear c7b0
        try clear c8
        try clear c8b0
        try clear c9
        try clear c9b0
        try clear c10
        try clear c10b0
        try clear c10b1
        try clear c11
        try clear c11b0
        try clear c11b1
        try clear c13
        try clear c13b0
        try clear c13b1
        try clear c16
        try clear q16
        try clear hx315_0
        try clear hx316_0
        try clear hx317_0
        try clear p2
        try clear p315
        try clear p316
        try clear p317
        try clear q16
        try clear q315
        try clear q316
        try clear q317
        obtain ⟨x8_2, x39_2, rfl, HA, HK2, HO_8, HB, HO_4⟩ := hrel
        cases gk with
        | zero => exact absurd HA.out (by simp [der_PutOid.l1])
        | succ k2 =>
          have H := HA.out
          clear HA
          simp only [der_PutOid.l1] at H
          by_cases c17 : x39_2 < (y321.length : Int)
          rotate_left
          · rw [if_neg c17] at H
            have c17b0 : decide (x39_2 < (y321.length : Int)) = false := decide_eq_false c17
            clear c17
            simp only [Option.some.injEq, Prod.mk.injEq] at H
            obtain ⟨rfl, rfl⟩ := H
            go_wp2
            go_ret2
            exact ⟨_, by first | rfl | (simp [errW_none, errW_some] <;> rfl) | (simp [*, errW_none, errW_some] <;> rfl), by (with_reducible repeat (first | apply Kd.R_alloc | apply Kd.R_drewN | apply Kd.R_drew)); exact HO_8.out, bU HB.out⟩
          rw [if_pos c17] at H
          have c17b0 : decide (x39_2 < (y321.length : Int)) = true := decide_eq_true c17
          clear c17
          by_cases c18 : 0 ≤ x39_2
          rotate_left
          · rw [if_neg c18] at H
            exact absurd H (by simp)
          rw [if_pos c18] at H
          have c18b0 : decide (0 ≤ x39_2) = true := decide_eq_true c18
          clear c18
          by_cases c19 : x39_2 < (y321.length : Int)
          rotate_left
          · rw [if_neg c19] at H
            exact absurd H (by simp)
          rw [if_pos c19] at H
          have c19b0 : decide (x39_2 < (y321.length : Int)) = true := decide_eq_true c19
          clear c19
          replace H := Option.bind_eq_some_iff.mp H
          obtain ⟨t326, A200, H⟩ := H
          replace H : (if x8_2.length + t326.length < 140737488355328 then (der_PutOid.l1 k2 (x8_2 ++ t326) y321 (y321.length : Int) (wrap64 (x39_2 + 1))) else (none)) = some (r1, r2) := H
          have A20 := Aside0.mk A200
          clear A200
          by_cases c21 : x8_2.length + t326.length < 140737488355328
          rotate_left
          · rw [if_neg c21] at H
            exact absurd H (by simp)
          rw [if_pos c21] at H
          have LMc21 := Aside0.mk c21
          clear c21
          obtain ⟨y329, hy329⟩ : ∃ y_ : List Int, y_ = (x8_2 ++ t326) := ⟨_, rfl⟩
          replace H : (der_PutOid.l1 k2 y329 y321 (y321.length : Int) (wrap64 (x39_2 + 1))) = some (r1, r2) := by first | (rw [hy329]; with_reducible exact H) | (have H2_ := (Option.bind_some _ _).symm.trans H; rw [hy329]; with_reducible exact H2_) | (have H2_ := (Option.bind_some _ _).symm.trans H; with_reducible exact H2_) | with_reducible exact H | (rw [hy329]; exact H) | exact H
          have Ny329 := Aside0.mk hy329
          clear hy329
          have H' := Aside0.mk H
          clear H
          have p325 : 0 ≤ (x39_2 : Int) := of_decide_eq_true (by first | (with_reducible assumption) | assumption)
          have q325 : x39_2 < (y321.length : Int) := of_decide_eq_true (by first | (with_reducible assumption) | assumption)
          obtain ⟨ad325, e325, hx325_0⟩ := Kd.at_int (HDR.out _ (Kd.R_reads' HO_4.out).2.2) x39_2 p325 q325
          cases e325
          replace p325 := eq_true p325
          replace q325 := eq_true q325
          go_wp2_with (first | ((with_reducible refine gate_callee (f := 219) rfl ?_); refine goesL_ (some 45) rfl rfl Tryz.func219 (by kernel_rfl) rfl #[.int .u64 (rd y321 x39_2)] rfl (by (try simp only [List.map_toArray, List.map_cons, List.map_nil]); first | done | rfl | (simp only [List.length_drop, List.length_take]; rfl)) ?_; (with_reducible refine (der_seven.calls k2 (rd y321 x39_2) t326 _ A20.out).mono ?_); rintro e w22 ⟨v327, rfl, ho0, hb⟩; refine ⟨_, rfl, ?_⟩; have n0_ := Aside0.mk (Kd.R_elder' (Kd.R_u HO_8.out) (Kd.R_base ho0) hb); have n1_ := Aside0.mk (Kd.R_lower (Kd.R_new' ho0 (Kd.R_lt (Kd.R_u HO_8.out))) (below_size (bU HB.out))); have n2_ := Aside0.mk (below_step (bU HB.out) hb); have n9_ := Aside0.mk (Kd.R_below (Kd.R_u HO_4.out) hb); clear HO_4; have HO_4 := n9_; clear n9_; clear HO_8; clear HB; have HO_8 := n0_; have HO328 := n1_; have HB := n2_; clear n0_ n1_ n2_; (try clear hb); (try clear hb2); (try clear hk); (try clear hi); (try clear ho0); obtain ⟨Ao24, co24, eo24⟩ := Kd.R_slice HO328.out; subst eo24) | ((with_reducible refine gate_builtin (b := .append) (xs := #[.tmp 43, .tmp 45]) rfl ?_); at_builtin; refine Kd.R_append_rows (Kd.int .u8) (w0 := w) w.heap.size rfl (.tmp 43) (.tmp 45) 22 5 (.int .u8 0) 1 rfl Tryz.underlying22 info5 rfl (by decide) (by omega) u8 x8_2 t326 _ _ _ (fun k_ => some k_ ≠ (.slice Ao24 t326.length co24 : Value).ownBlock) (fun _ => False) rfl rfl ?aO ?aR (fun _ _ h => h) (fun _ h => h.elim) ?aF ?aB ?aS ?aL ?_; (case aR => exact Kd.C_u (Kd.R_reads' HO328.out).2.2); (case aB => exact (bU HB.out)); (case aF => exact (fun k_ hk => Kd.fresh' (Kd.R_lt (Kd.R_u HO328.out)) k_ hk)); (case aO => exact (Kd.R_u (Kd.R_mono HO_8.out (fun _ hk => hk.2)))); (case aS => exact (below_size (bU HB.out))); (case aL => have := LMc21.out; omega); intro v330 w23 ho hb hg hat; rw [← Ny329.out] at ho; have n9_ := Aside0.mk (Kd.R_mono (Kd.R_grown (Kd.R_apart' (Kd.R_u HO_4.out) (Kd.R_typed (Kd.R_u (Kd.R_mono HO_8.out (fun _ hk => hk.2)))) (by decide)) hg (fun _ hk => hk.2)) (fun _ _ => trivial)); clear HO_4; have HO_4 := n9_; clear n9_; have n0_ := Aside0.mk (Kd.R_after (ok := (fun _ => True)) (Kd.R_u HO328.out) hg hat); have n1_ := Aside0.mk (hb); have n2_ := Aside0.mk (ho); clear HO328; clear HB; clear HO_8; have HO328 := n0_; have HB := n1_; have HO331 := n2_; clear n0_ n1_ n2_; clear ho hb hg hat))
          go_roundg k2
          case measure => have := HK1.out; have := HK2.out; omega
          case rel => exact ⟨(y329), (wrap64 (x39_2 + 1)), (by first | rfl | (simp; done) | (simp [*]; done)), H', ⟨by have := HK1.out; have := HK2.out; omega⟩, ⟨Kd.R_u (Kd.R_mono HO331.out (fun _ hk => trivial))⟩, ⟨bU HB.out⟩, ⟨Kd.R_u HO_4.out⟩⟩
end Go.Proofs.YtkioddjjfifadaaGreatDoor.P
namespace Go.Proofs.YtkioddjjfifadaaGreatDoor.P
open Go.RowKit Go.Proofs.YtkioddjjfifadaaGreatDoorW.PrintWords Go.Proofs.YtkioddjjfifadaaGreatDoorW.PrintLast Go.Proofs.YtkioddjjfifadaaGreatDoorW.PrintMore
attribute [local go_sem] max2_int min2_int max_two min_two max_three min_three max_four min_four   -- for this text's walks alone
set_option linter.unusedVariables false
set_option linter.unusedSimpArgs false
mutual
def chirographref04_arcs.l0 : Nat → ByteArray → List Int → Int → Int → Option (List Int × Bool)
  | 0, _, _, _, _ => none
  | k + 1, x0, x4, x5, x6 => if x6 ≤ (x0.size : Int) then (if x6 < (x0.size : Int) then (if 0 ≤ x6 then (chirographref04_arcs.j1 k x0 x4 x5 x6 ((bt x0 x6) != 46)) else (none)) else (chirographref04_arcs.j1 k x0 x4 x5 x6 false)) else (if (x4.length : Int) ≥ 2 then (if 0 < (x4.length : Int) then (if (rd x4 0) ≤ 2 then (if (rd x4 0) = 2 then (some (x4, true)) else (if 1 < (x4.length : Int) then (some (x4, decide ((rd x4 1) < 40))) else (none))) else (some (x4, false))) else (none)) else (some (x4, false)))
def chirographref04_arcs.j1 : Nat → ByteArray → List Int → Int → Int → Bool → Option (List Int × Bool)
  | 0, _, _, _, _, _ => none
  | k + 1, x0, x4, x5, x6, x24 => if x24 = true then (if 0 ≤ x6 then (if x6 < (x0.size : Int) then (if (bt x0 x6) < 48 then (some (([] : List Int), false)) else (if (bt x0 x6) > 57 then (some (([] : List Int), false)) else (chirographref04_arcs.l0 k x0 x4 x5 (wrap64 (x6 + 1))))) else (none)) else (none)) else (if x6 = x5 then (chirographref04_arcs.j2 k x0 x4 x5 x6 true) else (if 0 ≤ x5 then (if x5 < (x0.size : Int) then (if (bt x0 x5) = 48 then (chirographref04_arcs.j2 k x0 x4 x5 x6 (decide (x6 > (wrap64 (x5 + 1))))) else (chirographref04_arcs.j2 k x0 x4 x5 x6 false)) else (none)) else (none)))
def chirographref04_arcs.j2 : Nat → ByteArray → List Int → Int → Int → Bool → Option (List Int × Bool)
  | 0, _, _, _, _, _ => none
  | k + 1, x0, x4, x5, x6, x49 => if x49 = true then (some (([] : List Int), false)) else (chirographref04_arcs.l1 k x0 x4 x6 0 x5)
def chirographref04_arcs.l1 : Nat → ByteArray → List Int → Int → Int → Int → Option (List Int × Bool)
  | 0, _, _, _, _, _ => none
  | k + 1, x0, x4, x6, x7, x8 => if x8 < x6 then (if 0 ≤ x8 then (if x8 < (x0.size : Int) then (if (wrap64 ((wrap64 (x7 * 10)) + (((bt x0 x8) - 48) % 256))) > 1099511627776 then (chirographref04_arcs.l1 k x0 x4 x6 1099511627776 (wrap64 (x8 + 1))) else (chirographref04_arcs.l1 k x0 x4 x6 (wrap64 ((wrap64 (x7 * 10)) + (((bt x0 x8) - 48) % 256))) (wrap64 (x8 + 1)))) else (none)) else (none)) else (if x4.length < 17592186044416 then (chirographref04_arcs.l0 k x0 (x4 ++ [x7]) (wrap64 (x6 + 1)) (wrap64 (x6 + 1))) else (none))
end
def chirographref04_arcs.f (k : Nat) (a0 : ByteArray) : Option (List Int × Bool) := chirographref04_arcs.l0 k a0 ([] : List Int) 0 0
end Go.Proofs.YtkioddjjfifadaaGreatDoor.P
namespace Go.Proofs.YtkioddjjfifadaaGreatDoor.P
open Go.RowKit Go.Proofs.YtkioddjjfifadaaGreatDoorW.PrintWords Go.Proofs.YtkioddjjfifadaaGreatDoorW.PrintLast Go.Proofs.YtkioddjjfifadaaGreatDoorW.PrintMore
attribute [local go_sem] max2_int min2_int max_two min_two max_three min_three max_four min_four   -- for this text's walks alone
set_option linter.unusedVariables false
set_option linter.unusedSimpArgs false
mutual
def chirographref04_PutOid.l0 : Nat → List Int → Int → Option (List Int × Int)
  | 0, _, _ => none
  | k + 1, x4, x6 => if x6 < (x4.length : Int) then (if 0 ≤ x6 then (if (rd x4 x6) > 2147483647 then (some (([] : List Int), 3)) else (chirographref04_PutOid.l0 k x4 (wrap64 (x6 + 1)))) else (none)) else (if 1 < (x4.length : Int) then (if 0 < (x4.length : Int) then (chirographref04_PutOid.l1 k (x4.set (1 : Int).toNat (wrap64 ((rd x4 1) + (wrap64 (40 * (rd x4 0)))))) ([] : List Int) 1) else (none)) else (none))
def chirographref04_PutOid.l1 : Nat → List Int → List Int → Int → Option (List Int × Int)
  | 0, _, _, _ => none
  | k + 1, x4, x7, x8 => if x8 < (x4.length : Int) then (if 0 ≤ x8 then (chirographref04_PutOid.l2 k x4 x7 x8 (([(Int.tmod (rd x4 x8) 128) % 256] : List Int)) (wrap64 (Int.tdiv (rd x4 x8) 128))) else (none)) else (some (x7, 0))
def chirographref04_PutOid.l2 : Nat → List Int → List Int → Int → List Int → Int → Option (List Int × Int)
  | 0, _, _, _, _, _ => none
  | k + 1, x4, x7, x8, x9, x10 => if x10 > 0 then ((some (([(wrap64 ((Int.tmod x10 128) + 128)) % 256] : List Int) : List Int)).bind fun y1009 => (if y1009.length + x9.length < 140737488355328 then (chirographref04_PutOid.l2 k x4 x7 x8 (y1009 ++ x9) (wrap64 (Int.tdiv x10 128))) else (none))) else (if x7.length + x9.length < 140737488355328 then (chirographref04_PutOid.l1 k x4 (x7 ++ x9) (wrap64 (x8 + 1))) else (none))
end
def chirographref04_PutOid.f (k : Nat) (a0 : ByteArray) : Option (List Int × Int) := (chirographref04_arcs.f k a0).bind fun bt996 => (if bt996.2 = true then (chirographref04_PutOid.l0 k bt996.1 0) else (some (([] : List Int), 6)))
end Go.Proofs.YtkioddjjfifadaaGreatDoor.P
namespace Go.Proofs.YtkioddjjfifadaaGreatDoor.P
open Go.RowKit Go.Proofs.YtkioddjjfifadaaGreatDoorW.PrintWords
theorem bt_at (s : ByteArray) (p : Nat) (h : p < s.size) : bt s (p : Int) = ((s[p]'h).toNat : Int) := by
  unfold bt
  rw [dif_pos (by simpa using h)]
  rfl
theorem bt_rg (s : ByteArray) (p : Int) : 0 ≤ bt s p ∧ bt s p ≤ 255 := bt_range s p
/-- What is decoded at a place. -/
theorem dec_at (s : ByteArray) (p : Nat) (h : p < s.size) : (bt s (p : Int) < 128 → ((Utf8.decode s p).1 : Int) = bt s (p : Int) ∧ (Utf8.decode s p).2 = 1) ∧ (128 ≤ bt s (p : Int) → 128 ≤ ((Utf8.decode s p).1 : Int)) := by
  have hb := bt_at s p h
  refine ⟨fun hl => ?_, fun hg => ?_⟩
  · rw [decode_ascii s p h (by omega)]
    exact ⟨hb.symm, rfl⟩
  have e : s.get! p = s[p]'h := by
    simp [ByteArray.get!, getElem!_pos, h]
    rfl
  rw [Lib.decode_at, e]
  have hq : 128 ≤ (s[p]'h).toNat := by omega
  generalize (s[p]'h).toNat = b0 at *
  generalize s.size - p = n
  unfold Lib.decodeN
  rw [if_neg (by omega)]
  repeat' split
  all_goals (try simp only)
  all_goals omega
def endR (l : List Int) : List Int × Bool :=
  if (l.length : Int) ≥ 2 then (if rd l 0 ≤ 2 then (if rd l 0 = 2 then (l, true) else (l, decide (rd l 1 < 40))) else (l, false)) else (l, false)
def Agree (r : List Int × Bool) : Option (List Int) → Prop
  | none => r.2 = false
  | some l => r = endR l
theorem arcsGo_rng (S : ByteArray) : ∀ (f pos : Nat) (l : List Int) (v n : Int) (r : List Int), arcsGo S f pos l v n = some r → (∀ x ∈ l, 0 ≤ x ∧ x ≤ 1099511627776) → 0 ≤ v → v ≤ 1099511627776 → (∀ x ∈ r, 0 ≤ x ∧ x ≤ 1099511627776) ∧ r.length ≤ l.length + f
  | 0, pos, l, v, n, r, h, _, _, _ => by simp [arcsGo] at h
  | f + 1, pos, l, v, n, r, h, hl, h0, h1 => by
    rw [arcsGo] at h
    split at h
    · split at h
      · obtain ⟨g1, g2⟩ := arcsGo_rng S f _ _ _ _ r h (fun x hx => by
          rcases List.mem_append.1 hx with hx | hx
          · exact hl x hx
          · obtain rfl := List.mem_singleton.1 hx
            exact ⟨h0, h1⟩) (by decide) (by decide)
        refine ⟨g1, ?_⟩
        rw [List.length_append] at g2
        simp only [List.length_cons, List.length_nil] at g2
        omega
      · split at h
        · cases h
        · rename_i hn
          obtain ⟨g1, g2⟩ := arcsGo_rng S f _ _ _ _ r h hl (by omega) (by omega)
          exact ⟨g1, by omega⟩
    · obtain rfl := Option.some.inj h
      exact ⟨hl, by omega⟩
def bigA (x : Int) : Bool := decide (x > 2147483647)
/-- An identifier's bytes. -/
def oidS (a : ByteArray) : List Int × Int :=
  match arcsGo (a ++ ⟨#[46]⟩) (a.size + 2) 0 [] 0 0 with
  | none => ([], 6)
  | some l => if (arcsEnd l).2 = true then (if l.any bigA = true then ([], 3) else (sev (40 * rd l 0 + rd l 1) ++ ((l.drop 2).map sev).flatten, 0)) else ([], 6)
theorem end_facts {l : List Int} (h : (arcsEnd l).2 = true) : 2 ≤ l.length ∧ rd l 0 ≤ 2 ∧ (rd l 0 < 2 → rd l 1 < 40) := by
  unfold arcsEnd at h
  by_cases c0 : (l.length : Int) < 2
  · rw [if_pos c0] at h
    cases h
  rw [if_neg c0] at h
  by_cases c1 : 2 < rd l 0
  · rw [if_pos c1] at h
    cases h
  rw [if_neg c1] at h
  refine ⟨by omega, by omega, fun c2 => ?_⟩
  rw [if_pos c2] at h
  by_cases c3 : 40 ≤ rd l 1
  rotate_left
  · omega
  rw [if_pos c3] at h
  cases h
theorem end_true {l : List Int} (h : (arcsEnd l).2 = true) : arcsEnd l = (l, true) ∧ endR l = (l, true) ∧ 2 ≤ l.length := by
  obtain ⟨h1, h2, h3⟩ := end_facts h
  refine ⟨?_, ?_, h1⟩
  rotate_left
  · unfold endR
    rw [if_pos (by omega), if_pos h2]
    by_cases c2 : rd l 0 < 2
    rotate_left
    · rw [if_pos (by omega)]
    rw [if_neg (by omega), decide_eq_true (h3 c2)]
  unfold arcsEnd
  rw [if_neg (by omega), if_neg (by omega)]
  by_cases c2 : rd l 0 < 2
  rotate_left
  · rw [if_neg c2]
  have := h3 c2
  rw [if_pos c2, if_neg (by omega)]
theorem drop_rdI (l : List Int) (i : Int) (h0 : 0 ≤ i) (h1 : i < (l.length : Int)) : l.drop i.toNat = rd l i :: l.drop (i + 1).toNat := by
  have e : (i + 1).toNat = i.toNat + 1 := by omega
  rw [e, List.drop_eq_getElem_cons (by omega)]
  congr 1
  unfold rd
  rw [List.getD_eq_getElem?_getD, List.getElem?_eq_getElem (by omega), Option.getD_some]
theorem rd_memI (l : List Int) (i : Int) (h0 : 0 ≤ i) (h1 : i < (l.length : Int)) : rd l i ∈ l := by
  have h := drop_rdI l i h0 h1
  exact List.mem_of_mem_drop (h ▸ List.mem_cons_self)
theorem do_l1 (y : List Int) (hy : y.length ≤ 1000002) (hb : ∀ x ∈ y, 0 ≤ x ∧ x ≤ 2147483647) : ∀ (m k : Nat) (i : Int) (acc : List Int), 0 ≤ i → (y.length : Int) - i = m → m + 20 ≤ k → acc.length + 10 * m < 140737488355328 →
    der_PutOid.l1 k acc y (y.length : Int) i = some (acc ++ ((y.drop i.toNat).map sev).flatten, 0)
  | 0, k, i, acc, h0, hm, hk, ha => by
    obtain ⟨k1, rfl⟩ : ∃ k1, k = k1 + 1 := ⟨k - 1, by omega⟩
    rw [der_PutOid.l1, if_neg (by omega), List.drop_eq_nil_of_le (by omega)]
    simp
  | m + 1, k, i, acc, h0, hm, hk, ha => by
    obtain ⟨k1, rfl⟩ : ∃ k1, k = k1 + 1 := ⟨k - 1, by omega⟩
    obtain ⟨b0, b1⟩ := hb _ (rd_memI y i h0 (by omega))
    have hs := sev_len (rd y i)
    have ih := do_l1 y hy hb m k1 (i + 1) (acc ++ sev (rd y i)) (by omega) (by omega) (by omega) (by rw [List.length_append]; omega)
    rw [der_PutOid.l1, if_pos (by omega), if_pos h0, if_pos (by omega), der_sev k1 _ b0 (by omega) (by omega), Option.bind_some, if_pos (by omega), wb (by omega) (by omega), ih, drop_rdI y i h0 (by omega), List.map_cons, List.flatten_cons, List.append_assoc]
theorem do_l0 (l : List Int) (hl2 : 2 ≤ l.length) (hl : l.length ≤ 1000002) (hb : ∀ x ∈ l, 0 ≤ x ∧ x ≤ 1099511627776) : ∀ (m k : Nat) (i : Int), 0 ≤ i → (l.length : Int) - i = m → m + l.length + 30 ≤ k → ((l.drop i.toNat).any bigA = false → ∀ x ∈ l, x ≤ 2147483647) →
    der_PutOid.l0 k l l (l.length : Int) i = some (if (l.drop i.toNat).any bigA = true then ([], 3) else (sev (40 * rd l 0 + rd l 1) ++ ((l.drop 2).map sev).flatten, 0))
  | 0, k, i, h0, hm, hk, hA => by
    obtain ⟨k1, rfl⟩ : ∃ k1, k = k1 + 1 := ⟨k - 1, by omega⟩
    rw [List.drop_eq_nil_of_le (by omega)] at hA ⊢
    have hA' := hA rfl
    have m0 := rd_memI l 0 (Int.le_refl _) (by omega)
    have m1 := rd_memI l 1 (by decide) (by omega)
    have h00 := hb _ m0
    have h10 := hb _ m1
    have h01 := hA' _ m0
    have h11 := hA' _ m1
    have e1 : IntKind.u64.wrap (40 * rd l 0) = 40 * rd l 0 := by rw [IntKind.wrap_u64]; omega
    have e2 : IntKind.u64.wrap (40 * rd l 0 + rd l 1) = 40 * rd l 0 + rd l 1 := by rw [IntKind.wrap_u64]; omega
    have hs := sev_len (40 * rd l 0 + rd l 1)
    rw [der_PutOid.l0, if_neg (by omega), if_pos (by omega), if_pos (by omega), e1, e2, der_sev k1 _ (by omega) (by omega) (by omega), Option.bind_some, if_pos (by omega), Option.bind_some]
    rw [do_l1 (l.drop 2) (by rw [List.length_drop]; omega) (fun x hx => ⟨(hb x (List.mem_of_mem_drop hx)).1, hA' x (List.mem_of_mem_drop hx)⟩) (l.drop 2).length k1 0 _ (Int.le_refl _) (by omega) (by rw [List.length_drop]; omega) (by rw [List.length_drop]; omega)]
    rfl
  | m + 1, k, i, h0, hm, hk, hA => by
    obtain ⟨k1, rfl⟩ : ∃ k1, k = k1 + 1 := ⟨k - 1, by omega⟩
    have hd := drop_rdI l i h0 (by omega)
    rw [hd, List.any_cons] at hA ⊢
    rw [der_PutOid.l0, if_pos (by omega), if_pos h0, if_pos (by omega)]
    by_cases c : rd l i > 2147483647
    · have e : bigA (rd l i) = true := decide_eq_true c
      rw [if_pos c, e, Bool.true_or, if_pos rfl]
    · have e : bigA (rd l i) = false := decide_eq_false c
      rw [e, Bool.false_or] at hA ⊢
      rw [if_neg c, wb (by omega) (by omega)]
      exact do_l0 l hl2 hl hb m k1 (i + 1) (by omega) (by omega) (by omega) hA
/-- der.PutOid: what it lays. -/
theorem der_oid (k : Nat) (a : ByteArray) (ha : a.size ≤ 1000000) (hk : 2 * a.size + 50 ≤ k) : der_PutOid.f k a = some (oidS a) := by
  unfold der_PutOid.f der_arcs.f oidS
  rw [if_pos (by omega), Option.bind_some]
  cases e : arcsGo (a ++ (⟨#[46]⟩ : ByteArray)) (a.size + 2) 0 [] 0 0 with
  | none => exact if_neg (by decide)
  | some l =>
    obtain ⟨g1, g2⟩ := arcsGo_rng _ _ _ _ _ _ _ e (fun x hx => by cases hx) (by decide) (by decide)
    simp only [List.length_nil] at g2
    show (if (arcsEnd l).2 = true then _ else _) = some (if (arcsEnd l).2 = true then _ else _)
    by_cases c : (arcsEnd l).2 = true
    rotate_left
    · rw [if_neg c, if_neg c]
    obtain ⟨e1, _, e3⟩ := end_true c
    rw [if_pos c, if_pos c]
    show der_PutOid.l0 k (arcsEnd l).1 (arcsEnd l).1 (((arcsEnd l).1.length : Nat) : Int) 0 = _
    rw [e1]
    have := do_l0 l e3 (by omega) g1 l.length k 0 (Int.le_refl _) (by omega) (by omega) (fun h x hx => by
      rw [show (0 : Int).toNat = 0 from rfl, List.drop_zero] at h
      have := List.any_eq_false.1 h x hx
      unfold bigA at this
      rw [decide_eq_true_eq] at this
      omega)
    rw [show (0 : Int).toNat = 0 from rfl, List.drop_zero] at this
    exact this
theorem oidS_bytes (a : ByteArray) : ∀ y ∈ (oidS a).1, 0 ≤ y ∧ y ≤ 255 := by
  unfold oidS
  cases arcsGo (a ++ (⟨#[46]⟩ : ByteArray)) (a.size + 2) 0 [] 0 0 with
  | none => intro y hy; cases hy
  | some l =>
    show ∀ y ∈ (if (arcsEnd l).2 = true then _ else _ : List Int × Int).1, _
    split
    rotate_left
    · intro y hy; cases hy
    split
    · intro y hy; cases hy
    intro y hy
    rcases List.mem_append.1 hy with hy | hy
    · exact sev_bytes _ y hy
    obtain ⟨z, hz, hy⟩ := List.mem_flatten.1 hy
    obtain ⟨q, _, rfl⟩ := List.mem_map.1 hz
    exact sev_bytes _ y hy
end Go.Proofs.YtkioddjjfifadaaGreatDoor.P
namespace Go.Proofs.YtkioddjjfifadaaGreatDoor.P
open Go.RowKit Go.Proofs.YtkioddjjfifadaaGreatDoorW.PrintWords Go.Proofs.YtkioddjjfifadaaGreatDoorW.PrintLast Go.Proofs.YtkioddjjfifadaaGreatDoorW.PrintMore
attribute [local go_sem] max2_int min2_int max_two min_two max_three min_three max_four min_four   -- for this text's walks alone
set_option linter.unusedVariables false
set_option linter.unusedSimpArgs false
mutual
def der_Oid.j0 : Nat → List Int → Bool → Option (ByteArray × Int)
  | 0, _, _ => none
  | k + 1, x0, x22 => if x22 = true then (some ((⟨#[]⟩ : ByteArray), 6)) else (der_Oid.l0 k x0 x0 (x0.length : Int) 0)
def der_Oid.l0 : Nat → List Int → List Int → Int → Int → Option (ByteArray × Int)
  | 0, _, _, _, _ => none
  | k + 1, x0, x23, x24, x25 => if x25 < x24 then (if 0 ≤ x25 then (if x25 < (x23.length : Int) then (if (rd x23 x25) = 128 then (if x25 = 0 then (some ((⟨#[]⟩ : ByteArray), 6)) else (if 0 ≤ (wrap64 (x25 - 1)) then (if (wrap64 (x25 - 1)) < (x0.length : Int) then (if (rd x0 (wrap64 (x25 - 1))) < 128 then (some ((⟨#[]⟩ : ByteArray), 6)) else (der_Oid.l0 k x0 x23 x24 (wrap64 (x25 + 1)))) else (none)) else (none))) else (der_Oid.l0 k x0 x23 x24 (wrap64 (x25 + 1)))) else (none)) else (none)) else (der_Oid.l1 k (⟨#[]⟩ : ByteArray) 0 x0 (x0.length : Int) 0)
def der_Oid.l1 : Nat → ByteArray → Int → List Int → Int → Int → Option (ByteArray × Int)
  | 0, _, _, _, _, _ => none
  | k + 1, x6, x7, x45, x46, x47 => if x47 < x46 then (if 0 ≤ x47 then (if x47 < (x45.length : Int) then (if (rd x45 x47) ≥ 128 then (der_Oid.l1 k x6 (mn (Go.bits .or .u64 (IntKind.u64.wrap (x7 * 128)) (IntKind.u64.wrap (Go.bits .and .u8 (rd x45 x47) 127))) 1099511627776) x45 x46 (wrap64 (x47 + 1))) else (if x6.toList = ([] : List UInt8) then ((strconv_Itoa.f (wrap64 (mn (IntKind.u64.wrap (Int.tdiv (mn (Go.bits .or .u64 (IntKind.u64.wrap (x7 * 128)) (IntKind.u64.wrap (Go.bits .and .u8 (rd x45 x47) 127))) 1099511627776) 40)) 2))).bind fun t179 => (if (IntKind.u64.wrap ((mn (Go.bits .or .u64 (IntKind.u64.wrap (x7 * 128)) (IntKind.u64.wrap (Go.bits .and .u8 (rd x45 x47) 127))) 1099511627776) - (IntKind.u64.wrap (40 * (mn (IntKind.u64.wrap (Int.tdiv (mn (Go.bits .or .u64 (IntKind.u64.wrap (x7 * 128)) (IntKind.u64.wrap (Go.bits .and .u8 (rd x45 x47) 127))) 1099511627776) 40)) 2))))) > 2147483647 then (some ((⟨#[]⟩ : ByteArray), 3)) else ((strconv_Itoa.f (wrap64 (IntKind.u64.wrap ((mn (Go.bits .or .u64 (IntKind.u64.wrap (x7 * 128)) (IntKind.u64.wrap (Go.bits .and .u8 (rd x45 x47) 127))) 1099511627776) - (IntKind.u64.wrap (40 * (mn (IntKind.u64.wrap (Int.tdiv (mn (Go.bits .or .u64 (IntKind.u64.wrap (x7 * 128)) (IntKind.u64.wrap (Go.bits .and .u8 (rd x45 x47) 127))) 1099511627776) 40)) 2))))))).bind fun t180 => (if 1 + t180.size ≤ 9223372036854775807 then (if t179.size + ((⟨#[46]⟩ : ByteArray) ++ t180).size ≤ 9223372036854775807 then (der_Oid.l1 k (t179 ++ ((⟨#[46]⟩ : ByteArray) ++ t180)) 0 x45 x46 (wrap64 (x47 + 1))) else (none)) else (none))))) else (if (mn (Go.bits .or .u64 (IntKind.u64.wrap (x7 * 128)) (IntKind.u64.wrap (Go.bits .and .u8 (rd x45 x47) 127))) 1099511627776) > 2147483647 then (some ((⟨#[]⟩ : ByteArray), 3)) else ((strconv_Itoa.f (wrap64 (mn (Go.bits .or .u64 (IntKind.u64.wrap (x7 * 128)) (IntKind.u64.wrap (Go.bits .and .u8 (rd x45 x47) 127))) 1099511627776))).bind fun t181 => (if 1 + t181.size ≤ 9223372036854775807 then (if x6.size + ((⟨#[46]⟩ : ByteArray) ++ t181).size ≤ 9223372036854775807 then (der_Oid.l1 k (x6 ++ ((⟨#[46]⟩ : ByteArray) ++ t181)) 0 x45 x46 (wrap64 (x47 + 1))) else (none)) else (none)))))) else (none)) else (none)) else (some (x6, 0))
end
def der_Oid.f (k : Nat) (l0 : List Int) : Option (ByteArray × Int) := if (l0.length : Int) = 0 then (der_Oid.j0 k l0 true) else (if 0 ≤ (wrap64 ((l0.length : Int) - 1)) then (if (wrap64 ((l0.length : Int) - 1)) < (l0.length : Int) then (der_Oid.j0 k l0 (decide ((rd l0 (wrap64 ((l0.length : Int) - 1))) ≥ 128))) else (none)) else (none))
set_option maxHeartbeats 8000000 in
set_option maxRecDepth 100000 in
theorem der_Oid.calls (k : Nat) (A0 : Option Addr) (c0 : Nat) (l0 : List Int) (r1 : ByteArray) (r2 : Int) (w : World) (hr0 : Kd.C (Kd.int .u8) w A0 l0.length l0) (hc0 : l0.length ≤ c0) (h : der_Oid.f k l0 = some (r1, r2)) (hH : Tb w) :
    Calls Tryz.prog 163 #[.slice A0 l0.length c0] w fun e w' => e = .returned (.tuple #[.string r1, .int .i64 r2]) ∧ Below w.heap.size w w' := by
  have HR0 := Aside0.mk hr0
  have HC0 := Aside0.mk hc0
  clear hr0 hc0
  have HB := Aside0.mk (Below.refl w.heap.size w)
  have HHd := Aside0.mk hH
  clear hH
  have H : (if (l0.length : Int) = 0 then (der_Oid.j0 k l0 true) else (if 0 ≤ (wrap64 ((l0.length : Int) - 1)) then (if (wrap64 ((l0.length : Int) - 1)) < (l0.length : Int) then (der_Oid.j0 k l0 (decide ((rd l0 (wrap64 ((l0.length : Int) - 1))) ≥ 128))) else (none)) else (none))) = some (r1, r2) := h
  clear h
  have HC2 := Aside0.mk H
  clear H
  go_enter Tryz.func163, Tryz.ntmps163
  go_upto_region 1 with (fail)
  go_cut [22] (fun v22 wc => ∃ (kq : Nat) (x22_1 : Bool), v22 = .bool x22_1 ∧ Aside0 (der_Oid.j0 kq l0 x22_1 = some (r1, r2)) ∧ Aside0 (kq ≤ k) ∧ Aside0 (Below w.heap.size w wc))
  case first =>
    have H := HC2.out
    clear HC2
    by_cases c3 : (l0.length : Int) = 0
    · rw [if_pos c3] at H
      have c3b0 : ((l0.length : Int) == 0) = true := beq_iff_eq.mpr c3
      have c3b1 : ((l0.length : Int) != 0) = false := bne_eq_false_iff_eq.mpr c3
      clear c3
      (first | rw [c3b0] | (simp only [i64_w, i32_w]; rw [c3b0]) | skip)
      have H' := Aside0.mk H
      clear H
      go_wp2
      go_meet
      case rel => exact ⟨_, (true), (by first | rfl | (simp; done) | (simp [*]; done)), H', ⟨by first | omega | exact Nat.le_refl _⟩, ⟨bU HB.out⟩⟩
    rw [if_neg c3] at H
    have c3b0 : ((l0.length : Int) == 0) = false := beq_eq_false_iff_ne.mpr c3
    have c3b1 : ((l0.length : Int) != 0) = true := bne_iff_ne.mpr c3
    have c3b2 : ¬ (l0 = []) := fun h_ => c3 (by rw [h_]; rfl)
    (first | rw [c3b0] | (simp only [i64_w, i32_w]; rw [c3b0]) | skip)
    by_cases c4 : 0 ≤ (wrap64 ((l0.length : Int) - 1))
    rotate_left
    · rw [if_neg c4] at H
      exact absurd H (by simp)
    rw [if_pos c4] at H
    have c4b0 : decide (0 ≤ (wrap64 ((l0.length : Int) - 1))) = true := decide_eq_true c4
    clear c4
    by_cases c5 : (wrap64 ((l0.length : Int) - 1)) < (l0.length : Int)
    rotate_left
    · rw [if_neg c5] at H
      exact absurd H (by simp)
    rw [if_pos c5] at H
    have c5b0 : decide ((wrap64 ((l0.length : Int) - 1)) < (l0.length : Int)) = true := decide_eq_true c5
    clear c5
    have H' := Aside0.mk H
    clear H
    have p175 : 0 ≤ ((wrap64 ((l0.length : Int) - 1)) : Int) := of_decide_eq_true (by first | (with_reducible assumption) | assumption)
    have q175 : (wrap64 ((l0.length : Int) - 1)) < (l0.length : Int) := of_decide_eq_true (by first | (with_reducible assumption) | assumption)
    obtain ⟨ad175, e175, hx175_0⟩ := Kd.at_int HR0.out (wrap64 ((l0.length : Int) - 1)) p175 q175
    cases e175
    replace hx175_0 := (HB.out.cell (World.block_lt_of_cell? w _ hx175_0)).trans hx175_0
    replace p175 := eq_true p175
    replace q175 := eq_true q175
    go_wp2
    go_meet
    case rel => exact ⟨_, (decide ((rd l0 (wrap64 ((l0.length : Int) - 1))) ≥ 128)), (by first | rfl | (simp; done) | (simp [*]; done)), H', ⟨by first | omega | exact Nat.le_refl _⟩, ⟨bU HB.out⟩⟩
  clear HC2
  try clear c1
  try clear p1
  try clear q1
  try clear hx1
  try clear p2
  try clear c3
  try clear c3b0
  try clear c3b1
  try clear c3b2
  try clear c4
  try clear c4b0
  try clear c5
  try clear c5b0
  try clear hx175_0
  try clear p175
  try clear q175
  obtain ⟨kq, x22_1, rfl, HA, HJ1, HB⟩ := hcut
  cases kq with
  | zero => exact absurd HA.out (by simp [der_Oid.j0])
  | succ kj1 =>
    have H := HA.out
    clear HA
    simp only [der_Oid.j0] at H
    by_cases c6 : x22_1 = true
    · subst c6
      have H1 : (some ((⟨#[]⟩ : ByteArray), 6)) = some (r1, r2) := by rw [if_pos rfl] at H; exact H
      clear H
      have H := H1
      clear H1
      simp only [Option.some.injEq, Prod.mk.injEq] at H
      obtain ⟨rfl, rfl⟩ := H
      go_wp2
      go_ret2
      exact ⟨by first | rfl | (simp [errW_none, errW_some] <;> rfl) | (simp [*, errW_none, errW_some] <;> rfl), bU HB.out⟩
    replace c6 := Bool.eq_false_iff.mpr c6
    subst c6
    have H1 : (der_Oid.l0 kj1 l0 l0 (l0.length : Int) 0) = some (r1, r2) := by rw [if_neg (show ¬ (false = true) by decide)] at H; exact H
    clear H
    have H := H1
    clear H1
    have H' := Aside0.mk H
    clear H
    go_wp2
    go_loopg [25] kj1 (fun kq v25 w' => ∃ (x25_2 : Int), v25 = .int .i64 x25_2 ∧ Aside0 (der_Oid.l0 kq l0 l0 (l0.length : Int) x25_2 = some (r1, r2)) ∧ Aside0 (kq ≤ kj1) ∧ Aside0 (Below w.heap.size w w'))
    case atStart => exact ⟨(0), (by first | rfl | (simp; done) | (simp [*]; done)), H', ⟨Nat.le_refl _⟩, ⟨bU HB.out⟩⟩
    case round =>
      clear H'
      try clear c1
      try clear p1
      try clear q1
      try clear hx1
      try clear p2
      try clear c3
      try clear c3b0
      try clear c3b1
      try clear c3b2
      try clear c4
      try clear c4b0
      try clear c5
      try clear c5b0
      try clear c6
      try clear p6
      try clear hx175_0
      try clear p1
      try clear p175
      try clear p2
      try clear q1
      try clear q175
      obtain ⟨x25_2, rfl, HA, HK2, HB⟩ := hrel
      cases gk with
      | zero => exact absurd HA.out (by simp [der_Oid.l0])
      | succ k2 =>
        have H := HA.out
        clear HA
        simp only [der_Oid.l0] at H
        by_cases c7 : x25_2 < (l0.length : Int)
        · rw [if_pos c7] at H
          have c7b0 : decide (x25_2 < (l0.length : Int)) = true := decide_eq_true c7
          clear c7
          by_cases c8 : 0 ≤ x25_2
          rotate_left
          · rw [if_neg c8] at H
            exact absurd H (by simp)
          rw [if_pos c8] at H
          have c8b0 : decide (0 ≤ x25_2) = true := decide_eq_true c8
          clear c8
          by_cases c9 : x25_2 < (l0.length : Int)
          rotate_left
          · rw [if_neg c9] at H
            exact absurd H (by simp)
          rw [if_pos c9] at H
          have c9b0 : decide (x25_2 < (l0.length : Int)) = true := decide_eq_true c9
          clear c9
          by_cases c10 : (rd l0 x25_2) = 128
          rotate_left
          · rw [if_neg c10] at H
            have c10b0 : ((rd l0 x25_2) == 128) = false := beq_eq_false_iff_ne.mpr c10
            have c10b1 : ((rd l0 x25_2) != 128) = true := bne_iff_ne.mpr c10
            have H' := Aside0.mk H
            clear H
            have p176 : 0 ≤ (x25_2 : Int) := of_decide_eq_true (by first | (with_reducible assumption) | assumption)
            have q176 : x25_2 < (l0.length : Int) := of_decide_eq_true (by first | (with_reducible assumption) | assumption)
            obtain ⟨ad176, e176, hx176_0⟩ := Kd.at_int HR0.out x25_2 p176 q176
            cases e176
            replace hx176_0 := (HB.out.cell (World.block_lt_of_cell? w _ hx176_0)).trans hx176_0
            replace p176 := eq_true p176
            replace q176 := eq_true q176
            go_wp2
            go_roundg k2
            case measure => have := HJ1.out; have := HK2.out; omega
            case rel => exact ⟨(wrap64 (x25_2 + 1)), (by first | rfl | (simp; done) | (simp [*]; done)), H', ⟨by have := HJ1.out; have := HK2.out; omega⟩, ⟨bU HB.out⟩⟩
          rw [if_pos c10] at H
          have c10b0 : ((rd l0 x25_2) == 128) = true := beq_iff_eq.mpr c10
          have c10b1 : ((rd l0 x25_2) != 128) = false := bne_eq_false_iff_eq.mpr c10
          clear c10
          by_cases c11 : x25_2 = 0
          · rw [if_pos c11] at H
            have c11b0 : (x25_2 == 0) = true := beq_iff_eq.mpr c11
            have c11b1 : (x25_2 != 0) = false := bne_eq_false_iff_eq.mpr c11
            clear c11
            simp only [Option.some.injEq, Prod.mk.injEq] at H
            obtain ⟨rfl, rfl⟩ := H
            have p176 : 0 ≤ (x25_2 : Int) := of_decide_eq_true (by first | (with_reducible assumption) | assumption)
            have q176 : x25_2 < (l0.length : Int) := of_decide_eq_true (by first | (with_reducible assumption) | assumption)
            obtain ⟨ad176, e176, hx176_0⟩ := Kd.at_int HR0.out x25_2 p176 q176
            cases e176
            replace hx176_0 := (HB.out.cell (World.block_lt_of_cell? w _ hx176_0)).trans hx176_0
            replace p176 := eq_true p176
            replace q176 := eq_true q176
            go_wp2
            go_ret2
            exact ⟨by first | rfl | (simp [errW_none, errW_some] <;> rfl) | (simp [*, errW_none, errW_some] <;> rfl), bU HB.out⟩
          rw [if_neg c11] at H
          have c11b0 : (x25_2 == 0) = false := beq_eq_false_iff_ne.mpr c11
          have c11b1 : (x25_2 != 0) = true := bne_iff_ne.mpr c11
          by_cases c12 : 0 ≤ (wrap64 (x25_2 - 1))
          rotate_left
          · rw [if_neg c12] at H
            exact absurd H (by simp)
          rw [if_pos c12] at H
          have c12b0 : decide (0 ≤ (wrap64 (x25_2 - 1))) = true := decide_eq_true c12
          clear c12
          by_cases c13 : (wrap64 (x25_2 - 1)) < (l0.length : Int)
          rotate_left
          · rw [if_neg c13] at H
            exact absurd H (by simp)
          rw [if_pos c13] at H
          have c13b0 : decide ((wrap64 (x25_2 - 1)) < (l0.length : Int)) = true := decide_eq_true c13
          clear c13
          by_cases c14 : (rd l0 (wrap64 (x25_2 - 1))) < 128
          · rw [if_pos c14] at H
            have c14b0 : decide ((rd l0 (wrap64 (x25_2 - 1))) < 128) = true := decide_eq_true c14
            clear c14
            simp only [Option.some.injEq, Prod.mk.injEq] at H
            obtain ⟨rfl, rfl⟩ := H
            have p176 : 0 ≤ (x25_2 : Int) := of_decide_eq_true (by first | (with_reducible assumption) | assumption)
            have q176 : x25_2 < (l0.length : Int) := of_decide_eq_true (by first | (with_reducible assumption) | assumption)
            obtain ⟨ad176, e176, hx176_0⟩ := Kd.at_int HR0.out x25_2 p176 q176
            cases e176
            replace hx176_0 := (HB.out.cell (World.block_lt_of_cell? w _ hx176_0)).trans hx176_0
            replace p176 := eq_true p176
            replace q176 := eq_true q176
            have p177 : 0 ≤ ((wrap64 (x25_2 - 1)) : Int) := of_decide_eq_true (by first | (with_reducible assumption) | assumption)
            have q177 : (wrap64 (x25_2 - 1)) < (l0.length : Int) := of_decide_eq_true (by first | (with_reducible assumption) | assumption)
            obtain ⟨ad177, e177, hx177_0⟩ := Kd.at_int HR0.out (wrap64 (x25_2 - 1)) p177 q177
            obtain rfl : ad176 = ad177 := (by injection e177)
            replace hx177_0 := (HB.out.cell (World.block_lt_of_cell? w _ hx177_0)).trans hx177_0
            replace p177 := eq_true p177
            replace q177 := eq_true q177
            go_wp2
            go_ret2
            exact ⟨by first | rfl | (simp [errW_none, errW_some] <;> rfl) | (simp [*, errW_none, errW_some] <;> rfl), bU HB.out⟩
          rw [if_neg c14] at H
          have c14b0 : decide ((rd l0 (wrap64 (x25_2 - 1))) < 128) = false := decide_eq_false c14
          clear c14
          have H' := Aside0.mk H
          clear H
          have p176 : 0 ≤ (x25_2 : Int) := of_decide_eq_true (by first | (with_reducible assumption) | assumption)
          have q176 : x25_2 < (l0.length : Int) := of_decide_eq_true (by first | (with_reducible assumption) | assumption)
          obtain ⟨ad176, e176, hx176_0⟩ := Kd.at_int HR0.out x25_2 p176 q176
          cases e176
          replace hx176_0 := (HB.out.cell (World.block_lt_of_cell? w _ hx176_0)).trans hx176_0
          replace p176 := eq_true p176
          replace q176 := eq_true q176
          have p177 : 0 ≤ ((wrap64 (x25_2 - 1)) : Int) := of_decide_eq_true (by first | (with_reducible assumption) | assumption)
          have q177 : (wrap64 (x25_2 - 1)) < (l0.length : Int) := of_decide_eq_true (by first | (with_reducible assumption) | assumption)
          obtain ⟨ad177, e177, hx177_0⟩ := Kd.at_int HR0.out (wrap64 (x25_2 - 1)) p177 q177
          obtain rfl : ad176 = ad177 := (by injection e177)
          replace hx177_0 := (HB.out.cell (World.block_lt_of_cell? w _ hx177_0)).trans hx177_0
          replace p177 := eq_true p177
          replace q177 := eq_true q177
          go_wp2
          go_roundg k2
          case measure => have := HJ1.out; have := HK2.out; omega
          case rel => exact ⟨(wrap64 (x25_2 + 1)), (by first | rfl | (simp; done) | (simp [*]; done)), H', ⟨by have := HJ1.out; have := HK2.out; omega⟩, ⟨bU HB.out⟩⟩
        rw [if_neg c7] at H
        have c7b0 : decide (x25_2 < (l0.length : Int)) = false := decide_eq_false c7
        clear c7
        have H' := Aside0.mk H
        clear H
        go_wp2
        go_loopg [6, 7, 47] k2 (fun kq v6 v7 v47 w' => ∃ (x6_3 : ByteArray) (x7_3 : Int) (x47_3 : Int), v6 = .string x6_3 ∧ v7 = .int .u64 x7_3 ∧ v47 = .int .i64 x47_3 ∧ Aside0 (der_Oid.l1 kq x6_3 x7_3 l0 (l0.length : Int) x47_3 = some (r1, r2)) ∧ Aside0 (kq ≤ k2) ∧ Aside0 (Below w.heap.size w w'))
        case atStart => exact ⟨((⟨#[]⟩ : ByteArray)), (0), (0), (by first | rfl | (simp; done) | (simp [*]; done)), (by first | rfl | (simp; done) | (simp [*]; done)), (by first | rfl | (simp; done) | (simp [*]; done)), H', ⟨Nat.le_refl _⟩, ⟨bU HB.out⟩⟩
        case round =>
          clear H'
          try clear c1
          try clear p1
          try clear q1
          try clear hx1
          try clear p2
          try clear c3
          try clear c3b0
          try clear c3b1
          try clear c3b2
          try clear c4
          try clear c4b0
          try clear c5
          try clear c5b0
          try clear c6
          try clear p6
          try clear c7
          try clear c7b0
          try clear c8
          try clear c8b0
          try clear c9
          try clear c9b0
          try clear c10
          try clear c10b0
          try clear c10b1
          try clear c11
          try clear c11b0
          try clear c11b1
          try clear c12
          try clear c12b0
          try clear c13
          try clear c13b0
          try clear c14
          try clear c14b0
          try clear hx175_0
          try clear hx176_0
          try clear hx177_0
          try clear p1
          try clear p175
          try clear p176
          try clear p177
          try clear p2
          try clear p6
          try clear q1
          try clear q175
          try clear q176
          try clear q177
          obtain ⟨x6_3, x7_3, x47_3, rfl, rfl, rfl, HA, HK3, HB⟩ := hrel
          cases gk with
          | zero => exact absurd HA.out (by simp [der_Oid.l1])
          | succ k3 =>
            have H := HA.out
            clear HA
            simp only [der_Oid.l1] at H
            by_cases c15 : x47_3 < (l0.length : Int)
            rotate_left
            · rw [if_neg c15] at H
              have c15b0 : decide (x47_3 < (l0.length : Int)) = false := decide_eq_false c15
              clear c15
              simp only [Option.some.injEq, Prod.mk.injEq] at H
              obtain ⟨rfl, rfl⟩ := H
              go_wp2
              go_ret2
              exact ⟨by first | rfl | (simp [errW_none, errW_some] <;> rfl) | (simp [*, errW_none, errW_some] <;> rfl), bU HB.out⟩
            rw [if_pos c15] at H
            have c15b0 : decide (x47_3 < (l0.length : Int)) = true := decide_eq_true c15
            clear c15
            by_cases c16 : 0 ≤ x47_3
            rotate_left
            · rw [if_neg c16] at H
              exact absurd H (by simp)
            rw [if_pos c16] at H
            have c16b0 : decide (0 ≤ x47_3) = true := decide_eq_true c16
            clear c16
            by_cases c17 : x47_3 < (l0.length : Int)
            rotate_left
            · rw [if_neg c17] at H
              exact absurd H (by simp)
            rw [if_pos c17] at H
            have c17b0 : decide (x47_3 < (l0.length : Int)) = true := decide_eq_true c17
            clear c17
            obtain ⟨ji18, hji18⟩ : ∃ j_ : Int, (mn (Go.bits .or .u64 (IntKind.u64.wrap (x7_3 * 128)) (IntKind.u64.wrap (Go.bits .and .u8 (rd l0 x47_3) 127))) 1099511627776) = j_ := ⟨_, rfl⟩
            replace H : (if (rd l0 x47_3) ≥ 128 then (der_Oid.l1 k3 x6_3 ji18 l0 (l0.length : Int) (wrap64 (x47_3 + 1))) else (if x6_3.toList = ([] : List UInt8) then ((strconv_Itoa.f (wrap64 (mn (IntKind.u64.wrap (Int.tdiv (ji18) 40)) 2))).bind fun t179 => (if (IntKind.u64.wrap ((ji18) - (IntKind.u64.wrap (40 * (mn (IntKind.u64.wrap (Int.tdiv (ji18) 40)) 2))))) > 2147483647 then (some ((⟨#[]⟩ : ByteArray), 3)) else ((strconv_Itoa.f (wrap64 (IntKind.u64.wrap ((ji18) - (IntKind.u64.wrap (40 * (mn (IntKind.u64.wrap (Int.tdiv (ji18) 40)) 2))))))).bind fun t180 => (if 1 + t180.size ≤ 9223372036854775807 then (if t179.size + ((⟨#[46]⟩ : ByteArray) ++ t180).size ≤ 9223372036854775807 then (der_Oid.l1 k3 (t179 ++ ((⟨#[46]⟩ : ByteArray) ++ t180)) 0 l0 (l0.length : Int) (wrap64 (x47_3 + 1))) else (none)) else (none))))) else (if (ji18) > 2147483647 then (some ((⟨#[]⟩ : ByteArray), 3)) else ((strconv_Itoa.f (wrap64 (ji18))).bind fun t181 => (if 1 + t181.size ≤ 9223372036854775807 then (if x6_3.size + ((⟨#[46]⟩ : ByteArray) ++ t181).size ≤ 9223372036854775807 then (der_Oid.l1 k3 (x6_3 ++ ((⟨#[46]⟩ : ByteArray) ++ t181)) 0 l0 (l0.length : Int) (wrap64 (x47_3 + 1))) else (none)) else (none)))))) = some (r1, r2) := by first | (rw [hji18] at H; exact H) | (simp only [hji18] at H ⊢; exact H)
            have hji18_ : (if 1099511627776 < (Go.bits .or .u64 (IntKind.u64.wrap (x7_3 * 128)) (IntKind.u64.wrap (Go.bits .and .u8 (rd l0 x47_3) 127))) then 1099511627776 else (Go.bits .or .u64 (IntKind.u64.wrap (x7_3 * 128)) (IntKind.u64.wrap (Go.bits .and .u8 (rd l0 x47_3) 127)))) = ji18 := hji18
            by_cases c19 : (rd l0 x47_3) ≥ 128
            · rw [if_pos c19] at H
              have c19b0 : decide (128 ≤ (rd l0 x47_3)) = true := decide_eq_true c19
              clear c19
              have H' := Aside0.mk H
              clear H
              have p178 : 0 ≤ (x47_3 : Int) := of_decide_eq_true (by first | (with_reducible assumption) | assumption)
              have q178 : x47_3 < (l0.length : Int) := of_decide_eq_true (by first | (with_reducible assumption) | assumption)
              obtain ⟨ad178, e178, hx178_0⟩ := Kd.at_int HR0.out x47_3 p178 q178
              cases e178
              replace hx178_0 := (HB.out.cell (World.block_lt_of_cell? w _ hx178_0)).trans hx178_0
              replace p178 := eq_true p178
              replace q178 := eq_true q178
              go_wp2
              go_roundg k3
              case measure => have := HJ1.out; have := HK2.out; have := HK3.out; omega
              case rel => exact ⟨(x6_3), (ji18), (wrap64 (x47_3 + 1)), (by first | rfl | (simp; done) | (simp [*]; done)), (by first | rfl | (simp; done) | (simp only [← hji18] <;> (first | rfl | simp)) | (simp [*]; done)), (by first | rfl | (simp; done) | (simp [*]; done)), H', ⟨by have := HJ1.out; have := HK2.out; have := HK3.out; omega⟩, ⟨bU HB.out⟩⟩
            rw [if_neg c19] at H
            have c19b0 : decide (128 ≤ (rd l0 x47_3)) = false := decide_eq_false c19
            clear c19
            by_cases c20 : x6_3.toList = ([] : List UInt8)
            rotate_left
            · rw [if_neg c20] at H
              have c20b0 : (x6_3.toList == ([] : List UInt8)) = false := beq_eq_false_iff_ne.mpr c20
              have c20b1 : (x6_3.toList != ([] : List UInt8)) = true := bne_iff_ne.mpr c20
              by_cases c30 : (ji18) > 2147483647
              · rw [if_pos c30] at H
                have c30b0 : decide (2147483647 < (ji18)) = true := decide_eq_true c30
                clear c30
                simp only [Option.some.injEq, Prod.mk.injEq] at H
                obtain ⟨rfl, rfl⟩ := H
                have p178 : 0 ≤ (x47_3 : Int) := of_decide_eq_true (by first | (with_reducible assumption) | assumption)
                have q178 : x47_3 < (l0.length : Int) := of_decide_eq_true (by first | (with_reducible assumption) | assumption)
                obtain ⟨ad178, e178, hx178_0⟩ := Kd.at_int HR0.out x47_3 p178 q178
                cases e178
                replace hx178_0 := (HB.out.cell (World.block_lt_of_cell? w _ hx178_0)).trans hx178_0
                replace p178 := eq_true p178
                replace q178 := eq_true q178
                go_wp2
                go_ret2
                exact ⟨by first | rfl | (simp [errW_none, errW_some] <;> rfl) | (simp only [← hji18]; first | rfl | (simp [errW_none, errW_some] <;> rfl)) | (simp [*, errW_none, errW_some] <;> rfl), bU HB.out⟩
              rw [if_neg c30] at H
              have c30b0 : decide (2147483647 < (ji18)) = false := decide_eq_false c30
              clear c30
              replace H := Option.bind_eq_some_iff.mp H
              obtain ⟨t181, A310, H⟩ := H
              replace H : (if 1 + t181.size ≤ 9223372036854775807 then (if x6_3.size + ((⟨#[46]⟩ : ByteArray) ++ t181).size ≤ 9223372036854775807 then (der_Oid.l1 k3 (x6_3 ++ ((⟨#[46]⟩ : ByteArray) ++ t181)) 0 l0 (l0.length : Int) (wrap64 (x47_3 + 1))) else (none)) else (none)) = some (r1, r2) := H
              have A31 := Aside0.mk A310
              clear A310
              by_cases c32 : 1 + t181.size ≤ 9223372036854775807
              rotate_left
              · rw [if_neg c32] at H
                exact absurd H (by simp)
              rw [if_pos c32] at H
              have c32b0 := eq_true c32
              have c32b1 : decide (1 + t181.size ≤ 9223372036854775807) = true := decide_eq_true c32
              try have c32b2 : (9223372036854775807 < 1 + t181.size) = False := eq_false (Nat.not_lt.2 c32)
              by_cases c33 : x6_3.size + ((⟨#[46]⟩ : ByteArray) ++ t181).size ≤ 9223372036854775807
              rotate_left
              · rw [if_neg c33] at H
                exact absurd H (by simp)
              rw [if_pos c33] at H
              have c33b0 := eq_true c33
              have c33b1 : decide (x6_3.size + ((⟨#[46]⟩ : ByteArray) ++ t181).size ≤ 9223372036854775807) = true := decide_eq_true c33
              try have c33b2 : (9223372036854775807 < x6_3.size + ((⟨#[46]⟩ : ByteArray) ++ t181).size) = False := eq_false (Nat.not_lt.2 c33)
              have H' := Aside0.mk H
              clear H
              have p178 : 0 ≤ (x47_3 : Int) := of_decide_eq_true (by first | (with_reducible assumption) | assumption)
              have q178 : x47_3 < (l0.length : Int) := of_decide_eq_true (by first | (with_reducible assumption) | assumption)
              obtain ⟨ad178, e178, hx178_0⟩ := Kd.at_int HR0.out x47_3 p178 q178
              cases e178
              replace hx178_0 := (HB.out.cell (World.block_lt_of_cell? w _ hx178_0)).trans hx178_0
              replace p178 := eq_true p178
              replace q178 := eq_true q178
              go_wp2_with (first | ((with_reducible refine gate_callee (f := 160) rfl ?_); refine goesL_ (some 77) rfl rfl Tryz.func160 (by kernel_rfl) rfl #[.int .i64 (wrap64 (ji18))] rfl (by (try simp only [List.map_toArray, List.map_cons, List.map_nil]); first | done | (simp only [hji18]; rfl) | rfl | (simp only [List.length_drop, List.length_take]; rfl)) ?_; (with_reducible refine (strconv_Itoa.calls (wrap64 (ji18)) t181 _ A31.out (Tb.below HHd.out (bU HB.out))).mono ?_); rintro e w34 ⟨rfl, hb⟩; refine ⟨_, rfl, ?_⟩; have n0_ := Aside0.mk (below_step (bU HB.out) hb); replace HB := n0_; clear n0_; (try clear hb); (try clear hb2); (try clear hk); (try clear hi)))
              go_roundg k3
              case measure => have := HJ1.out; have := HK2.out; have := HK3.out; omega
              case rel => exact ⟨(x6_3 ++ ((⟨#[46]⟩ : ByteArray) ++ t181)), (0), (wrap64 (x47_3 + 1)), (by first | rfl | (simp; done) | (simp [*]; done)), (by first | rfl | (simp; done) | (simp [*]; done)), (by first | rfl | (simp; done) | (simp [*]; done)), H', ⟨by have := HJ1.out; have := HK2.out; have := HK3.out; omega⟩, ⟨bU HB.out⟩⟩
            rw [if_pos c20] at H
            have c20b0 : (x6_3.toList == ([] : List UInt8)) = true := beq_iff_eq.mpr c20
            have c20b1 : (x6_3.toList != ([] : List UInt8)) = false := bne_eq_false_iff_eq.mpr c20
            clear c20
            obtain ⟨ji21, hji21⟩ : ∃ j_ : Int, (mn (IntKind.u64.wrap (Int.tdiv (ji18) 40)) 2) = j_ := ⟨_, rfl⟩
            replace H : ((strconv_Itoa.f (wrap64 (ji21))).bind fun t179 => (if (IntKind.u64.wrap ((ji18) - (IntKind.u64.wrap (40 * (ji21))))) > 2147483647 then (some ((⟨#[]⟩ : ByteArray), 3)) else ((strconv_Itoa.f (wrap64 (IntKind.u64.wrap ((ji18) - (IntKind.u64.wrap (40 * (ji21))))))).bind fun t180 => (if 1 + t180.size ≤ 9223372036854775807 then (if t179.size + ((⟨#[46]⟩ : ByteArray) ++ t180).size ≤ 9223372036854775807 then (der_Oid.l1 k3 (t179 ++ ((⟨#[46]⟩ : ByteArray) ++ t180)) 0 l0 (l0.length : Int) (wrap64 (x47_3 + 1))) else (none)) else (none))))) = some (r1, r2) := by first | (rw [hji21] at H; exact H) | (simp only [hji21] at H ⊢; exact H)
            have hji21_ : (if 2 < (IntKind.u64.wrap (Int.tdiv (ji18) 40)) then 2 else (IntKind.u64.wrap (Int.tdiv (ji18) 40))) = ji21 := hji21
            replace H := Option.bind_eq_some_iff.mp H
            obtain ⟨t179, A220, H⟩ := H
            replace H : (if (IntKind.u64.wrap ((ji18) - (IntKind.u64.wrap (40 * (ji21))))) > 2147483647 then (some ((⟨#[]⟩ : ByteArray), 3)) else ((strconv_Itoa.f (wrap64 (IntKind.u64.wrap ((ji18) - (IntKind.u64.wrap (40 * (ji21))))))).bind fun t180 => (if 1 + t180.size ≤ 9223372036854775807 then (if t179.size + ((⟨#[46]⟩ : ByteArray) ++ t180).size ≤ 9223372036854775807 then (der_Oid.l1 k3 (t179 ++ ((⟨#[46]⟩ : ByteArray) ++ t180)) 0 l0 (l0.length : Int) (wrap64 (x47_3 + 1))) else (none)) else (none)))) = some (r1, r2) := H
            have A22 := Aside0.mk A220
            clear A220
            by_cases c23 : (IntKind.u64.wrap ((ji18) - (IntKind.u64.wrap (40 * (ji21))))) > 2147483647
            · rw [if_pos c23] at H
              have c23b0 : decide (2147483647 < (IntKind.u64.wrap ((ji18) - (IntKind.u64.wrap (40 * (ji21)))))) = true := decide_eq_true c23
              clear c23
              simp only [Option.some.injEq, Prod.mk.injEq] at H
              obtain ⟨rfl, rfl⟩ := H
              have p178 : 0 ≤ (x47_3 : Int) := of_decide_eq_true (by first | (with_reducible assumption) | assumption)
              have q178 : x47_3 < (l0.length : Int) := of_decide_eq_true (by first | (with_reducible assumption) | assumption)
              obtain ⟨ad178, e178, hx178_0⟩ := Kd.at_int HR0.out x47_3 p178 q178
              cases e178
              replace hx178_0 := (HB.out.cell (World.block_lt_of_cell? w _ hx178_0)).trans hx178_0
              replace p178 := eq_true p178
              replace q178 := eq_true q178
              go_wp2_with (first | ((with_reducible refine gate_callee (f := 160) rfl ?_); refine goesL_ (some 67) rfl rfl Tryz.func160 (by kernel_rfl) rfl #[.int .i64 (wrap64 (ji21))] rfl (by (try simp only [List.map_toArray, List.map_cons, List.map_nil]); first | done | (simp only [hji21]; rfl) | rfl | (simp only [List.length_drop, List.length_take]; rfl)) ?_; (with_reducible refine (strconv_Itoa.calls (wrap64 (ji21)) t179 _ A22.out (Tb.below HHd.out (bU HB.out))).mono ?_); rintro e w24 ⟨rfl, hb⟩; refine ⟨_, rfl, ?_⟩; have n0_ := Aside0.mk (below_step (bU HB.out) hb); replace HB := n0_; clear n0_; (try clear hb); (try clear hb2); (try clear hk); (try clear hi)))
              go_ret2
              exact ⟨by first | rfl | (simp [errW_none, errW_some] <;> rfl) | (simp only [← hji18, ← hji21]; first | rfl | (simp [errW_none, errW_some] <;> rfl)) | (simp [*, errW_none, errW_some] <;> rfl), bU HB.out⟩
            rw [if_neg c23] at H
            have c23b0 : decide (2147483647 < (IntKind.u64.wrap ((ji18) - (IntKind.u64.wrap (40 * (ji21)))))) = false := decide_eq_false c23
            clear c23
            replace H := Option.bind_eq_some_iff.mp H
            obtain ⟨t180, A250, H⟩ := H
            replace H : (if 1 + t180.size ≤ 9223372036854775807 then (if t179.size + ((⟨#[46]⟩ : ByteArray) ++ t180).size ≤ 9223372036854775807 then (der_Oid.l1 k3 (t179 ++ ((⟨#[46]⟩ : ByteArray) ++ t180)) 0 l0 (l0.length : Int) (wrap64 (x47_3 + 1))) else (none)) else (none)) = some (r1, r2) := H
            have A25 := Aside0.mk A250
            clear A250
            by_cases c26 : 1 + t180.size ≤ 9223372036854775807
            rotate_left
            · rw [if_neg c26] at H
              exact absurd H (by simp)
            rw [if_pos c26] at H
            have c26b0 := eq_true c26
            have c26b1 : decide (1 + t180.size ≤ 9223372036854775807) = true := decide_eq_true c26
            try have c26b2 : (9223372036854775807 < 1 + t180.size) = False := eq_false (Nat.not_lt.2 c26)
            by_cases c27 : t179.size + ((⟨#[46]⟩ : ByteArray) ++ t180).size ≤ 9223372036854775807
            rotate_left
            · rw [if_neg c27] at H
              exact absurd H (by simp)
            rw [if_pos c27] at H
            have c27b0 := eq_true c27
            have c27b1 : decide (t179.size + ((⟨#[46]⟩ : ByteArray) ++ t180).size ≤ 9223372036854775807) = true := decide_eq_true c27
            try have c27b2 : (9223372036854775807 < t179.size + ((⟨#[46]⟩ : ByteArray) ++ t180).size) = False := eq_false (Nat.not_lt.2 c27)
            have H' := Aside0.mk H
            clear H
            have p178 : 0 ≤ (x47_3 : Int) := of_decide_eq_true (by first | (with_reducible assumption) | assumption)
            have q178 : x47_3 < (l0.length : Int) := of_decide_eq_true (by first | (with_reducible assumption) | assumption)
            obtain ⟨ad178, e178, hx178_0⟩ := Kd.at_int HR0.out x47_3 p178 q178
            cases e178
            replace hx178_0 := (HB.out.cell (World.block_lt_of_cell? w _ hx178_0)).trans hx178_0
            replace p178 := eq_true p178
            replace q178 := eq_true q178
            go_wp2_with (first | ((with_reducible refine gate_callee (f := 160) rfl ?_); refine goesL_ (some 67) rfl rfl Tryz.func160 (by kernel_rfl) rfl #[.int .i64 (wrap64 (ji21))] rfl (by (try simp only [List.map_toArray, List.map_cons, List.map_nil]); first | done | (simp only [hji21]; rfl) | rfl | (simp only [List.length_drop, List.length_take]; rfl)) ?_; (with_reducible refine (strconv_Itoa.calls (wrap64 (ji21)) t179 _ A22.out (Tb.below HHd.out (bU HB.out))).mono ?_); rintro e w28 ⟨rfl, hb⟩; refine ⟨_, rfl, ?_⟩; have n0_ := Aside0.mk (below_step (bU HB.out) hb); replace HB := n0_; clear n0_; (try clear hb); (try clear hb2); (try clear hk); (try clear hi)) | ((with_reducible refine gate_callee (f := 160) rfl ?_); refine goesL_ (some 77) rfl rfl Tryz.func160 (by kernel_rfl) rfl #[.int .i64 (wrap64 (IntKind.u64.wrap ((ji18) - (IntKind.u64.wrap (40 * (ji21))))))] rfl (by (try simp only [List.map_toArray, List.map_cons, List.map_nil]); first | done | (simp only [hji18, hji21]; rfl) | rfl | (simp only [List.length_drop, List.length_take]; rfl)) ?_; (with_reducible refine (strconv_Itoa.calls (wrap64 (IntKind.u64.wrap ((ji18) - (IntKind.u64.wrap (40 * (ji21)))))) t180 _ A25.out (Tb.below HHd.out (bU HB.out))).mono ?_); rintro e w29 ⟨rfl, hb⟩; refine ⟨_, rfl, ?_⟩; have n0_ := Aside0.mk (below_step (bU HB.out) hb); replace HB := n0_; clear n0_; (try clear hb); (try clear hb2); (try clear hk); (try clear hi)))
            go_roundg k3
            case measure => have := HJ1.out; have := HK2.out; have := HK3.out; omega
            case rel => exact ⟨(t179 ++ ((⟨#[46]⟩ : ByteArray) ++ t180)), (0), (wrap64 (x47_3 + 1)), (by first | rfl | (simp; done) | (simp [*]; done)), (by first | rfl | (simp; done) | (simp [*]; done)), (by first | rfl | (simp; done) | (simp [*]; done)), H', ⟨by have := HJ1.out; have := HK2.out; have := HK3.out; omega⟩, ⟨bU HB.out⟩⟩
end Go.Proofs.YtkioddjjfifadaaGreatDoor.P
namespace Go.Proofs.YtkioddjjfifadaaGreatDoor.P
open Go.RowKit Go.Proofs.YtkioddjjfifadaaGreatDoorW.PrintWords Go.Proofs.YtkioddjjfifadaaGreatDoorW.PrintMore
def upF : Nat → Int → List Int
  | 0, _ => []
  | f + 1, x => if x > 0 then upF f (x / 128) ++ [128 + x % 128] else []
theorem sevLoop_up : ∀ (f : Nat) (x : Int) (acc : List Int), sevLoop f x acc = upF f x ++ acc
  | 0, x, acc => rfl
  | f + 1, x, acc => by
    rw [sevLoop, upF]
    split
    · rw [sevLoop_up f, List.append_assoc]
      rfl
    · rfl
theorem sev_up (v : Int) : sev v = upF 9 (v / 128) ++ [v % 128] := sevLoop_up 9 _ _
/-- No arc begins with a byte of 128. -/
def chk (start : Bool) : List Int → Bool
  | [] => true
  | b :: r => (!(start && b == 128)) && chk (decide (b < 128)) r
theorem chk_up : ∀ (f : Nat) (x : Int) (r : List Int), 0 < x → x < 128 ^ f → chk true (upF f x ++ r) = chk false r
  | 0, x, r, h0, h1 => by
    rw [Int.pow_zero] at h1
    omega
  | f + 1, x, r, h0, h1 => by
    obtain ⟨g0, g1⟩ := pow_step (by omega) h1
    rw [upF, if_pos h0, List.append_assoc]
    by_cases c : 0 < x / 128
    · rw [chk_up f _ _ c g1]
      show chk false ((128 + x % 128) :: r) = _
      rw [chk, decide_eq_false (by omega)]
      simp
    · have e : upF f (x / 128) = [] := by
        cases f with
        | zero => rfl
        | succ f => rw [upF, if_neg c]
      rw [e]
      show chk true ((128 + x % 128) :: r) = _
      rw [chk, decide_eq_false (by omega), beq_eq_false_iff_ne.mpr (show 128 + x % 128 ≠ 128 by omega)]
      simp
theorem chk_sev (v : Int) (h0 : 0 ≤ v) (h1 : v < 9223372036854775808) (r : List Int) : chk true (sev v ++ r) = chk true r := by
  rw [sev_up, List.append_assoc]
  by_cases c : 0 < v / 128
  · rw [chk_up 9 _ _ c (by rw [show (128 : Int) ^ 9 = 9223372036854775808 by decide]; omega)]
    show chk false ((v % 128) :: r) = _
    rw [chk, decide_eq_true (by omega)]
    simp
  have e : upF 9 (v / 128) = [] := by rw [upF, if_neg c]
  rw [e]
  show chk true ((v % 128) :: r) = _
  rw [chk, decide_eq_true (by omega), beq_eq_false_iff_ne.mpr (show v % 128 ≠ 128 by omega)]
  simp
theorem chk_all : ∀ (ys : List Int), (∀ y ∈ ys, 0 ≤ y ∧ y < 9223372036854775808) → chk true (ys.map sev).flatten = true
  | [], _ => rfl
  | y :: ys, h => by
    obtain ⟨h0, h1⟩ := h y List.mem_cons_self
    rw [List.map_cons, List.flatten_cons, chk_sev y h0 h1]
    exact chk_all ys fun z hz => h z (List.mem_cons_of_mem _ hz)
def startAt (x0 : List Int) (i : Nat) : Bool := decide (i = 0) || decide (rd x0 ((i : Int) - 1) < 128)
theorem oid_l0 (x0 : List Int) (hl : x0.length ≤ 1000000000) (r : ByteArray × Int) (K : Nat) (hr : ∀ k', K ≤ k' → der_Oid.l1 k' (⟨#[]⟩ : ByteArray) 0 x0 (x0.length : Int) 0 = some r) : ∀ (m k i : Nat), x0.length - i = m → i ≤ x0.length → m + 1 + K ≤ k → chk (startAt x0 i) (x0.drop i) = true →
    der_Oid.l0 k x0 x0 (x0.length : Int) (i : Int) = some r
  | 0, k, i, hm, hi, hk, hc => by
    obtain ⟨k1, rfl⟩ : ∃ k1, k = k1 + 1 := ⟨k - 1, by omega⟩
    rw [der_Oid.l0, if_neg (by omega)]
    exact hr k1 (by omega)
  | m + 1, k, i, hm, hi, hk, hc => by
    obtain ⟨k1, rfl⟩ : ∃ k1, k = k1 + 1 := ⟨k - 1, by omega⟩
    obtain ⟨b, t, hd⟩ : ∃ b t, x0.drop i = b :: t := by
      cases h : x0.drop i with
      | nil =>
        have := congrArg List.length h
        rw [List.length_drop, List.length_nil] at this
        omega
      | cons b t => exact ⟨b, t, rfl⟩
    obtain ⟨e1, e2, e3⟩ := rd_at hd
    rw [hd, chk, Bool.and_eq_true] at hc
    have hst : startAt x0 (i + 1) = decide (b < 128) := by
      unfold startAt
      rw [decide_eq_false (by omega), Bool.false_or, show (((i + 1 : Nat) : Int) - 1) = (i : Int) by omega, e1]
    have ih := oid_l0 x0 hl r K hr m k1 (i + 1) (by omega) (by omega) (by omega) (by rw [hst, e3]; exact hc.2)
    have hw : wrap64 ((i : Int) + 1) = ((i + 1 : Nat) : Int) := by rw [wb (by omega) (by omega)]; rfl
    rw [der_Oid.l0, if_pos (by omega), if_pos (by omega), if_pos (by omega), e1]
    by_cases c : b = 128
    · have hs : startAt x0 i = false := by
        have h1 := hc.1
        rw [c] at h1
        simpa using h1
      unfold startAt at hs
      rw [Bool.or_eq_false_iff] at hs
      have s0 := of_decide_eq_false hs.1
      have s1 := of_decide_eq_false hs.2
      rw [if_pos c, if_neg (by omega), wb (n := (i : Int) - 1) (by omega) (by omega), if_pos (by omega), if_pos (by omega), if_neg s1, hw]
      exact ih
    · rw [if_neg c, hw]
      exact ih
theorem or7u (v d : Int) (h0 : 0 ≤ v) (h1 : v ≤ 1099511627776) (d0 : 0 ≤ d) (d1 : d < 128) : Go.bits .or .u64 (v * 128) d = v * 128 + d := by
  have hb := (bits_nat .u64 63 (by decide) (fun n h₀ h₁ => by rw [IntKind.wrap_u64]; omega) (v.toNat * 2 ^ 7) d.toNat (by omega) (by omega)).2
  rw [← Nat.shiftLeft_eq, ← Nat.shiftLeft_add_eq_or_of_lt (by omega), Nat.shiftLeft_eq] at hb
  rw [show ((v.toNat * 2 ^ 7 : Nat) : Int) = v * 128 by omega, show (d.toNat : Int) = d by omega, show ((v.toNat * 2 ^ 7 + d.toNat : Nat) : Int) = v * 128 + d by omega] at hb
  exact hb
theorem val_step (b v : Int) (b0 : 0 ≤ b) (b1 : b ≤ 255) (v0 : 0 ≤ v) (v1 : v * 128 + b % 128 ≤ 1099511627776) : mn (Go.bits .or .u64 (IntKind.u64.wrap (v * 128)) (IntKind.u64.wrap (Go.bits .and .u8 b 127))) 1099511627776 = v * 128 + b % 128 := by
  have e1 : IntKind.u64.wrap (v * 128) = v * 128 := by rw [IntKind.wrap_u64]; omega
  have e2 : IntKind.u64.wrap (b % 128) = b % 128 := by rw [IntKind.wrap_u64]; omega
  rw [and127b b b0 b1, e1, e2, or7u v _ v0 (by omega) (by omega) (by omega)]
  unfold mn
  split <;> omega
theorem up_read (x0 : List Int) (hl : x0.length ≤ 1000000000) (t : ByteArray) : ∀ (f : Nat) (x : Int) (k q : Nat) (r : List Int), 0 ≤ x → x < 128 ^ f → x ≤ 8589934592 → x0.drop q = upF f x ++ r →
    der_Oid.l1 (k + (upF f x).length) t 0 x0 (x0.length : Int) (q : Int) = der_Oid.l1 k t x x0 (x0.length : Int) ((q + (upF f x).length : Nat) : Int)
  | 0, x, k, q, r, h0, h1, hx, hd => by
    rw [Int.pow_zero] at h1
    obtain rfl : x = 0 := by omega
    rfl
  | f + 1, x, k, q, r, h0, h1, hx, hd => by
    rw [upF] at hd ⊢
    by_cases c : x > 0
    · obtain ⟨g0, g1⟩ := pow_step h0 h1
      rw [if_pos c] at hd ⊢
      rw [List.append_assoc] at hd
      rw [List.length_append, show k + ((upF f (x / 128)).length + [128 + x % 128].length) = (k + 1) + (upF f (x / 128)).length by simp only [List.length_cons, List.length_nil]; omega, up_read x0 hl t f (x / 128) (k + 1) q _ g0 g1 (by omega) hd]
      have hd2 : x0.drop (q + (upF f (x / 128)).length) = (128 + x % 128) :: r := drop_app hd
      obtain ⟨e1, e2, e3⟩ := rd_at hd2
      have hv : mn (Go.bits .or .u64 (IntKind.u64.wrap (x / 128 * 128)) (IntKind.u64.wrap (Go.bits .and .u8 (128 + x % 128) 127))) 1099511627776 = x := by
        rw [val_step _ _ (by omega) (by omega) (by omega) (by omega)]
        omega
      rw [der_Oid.l1, if_pos (by omega), if_pos (by omega), if_pos (by omega), e1, if_pos (by omega), hv, wb (by omega) (by omega)]
      congr 1
    · rw [if_neg c] at hd ⊢
      obtain rfl : x = 0 := by omega
      rfl
abbrev T (l : List UInt8) : ByteArray := ⟨l.toArray⟩
theorem T_app (a b : List UInt8) : T a ++ T b = T (a ++ b) := by
  apply ByteArray.ext
  simp [T]
theorem T_size (a : List UInt8) : (T a).size = a.length := by simp [T, ByteArray.size]
theorem itoa_at (x : Int) (h0 : 0 ≤ x) (h1 : x ≤ 9223372036854775807) : strconv_Itoa.f x = some (T (Lib.itoa x)) ∧ (Lib.itoa x).length ≤ 21 := by
  unfold strconv_Itoa.f
  rw [if_pos ⟨by omega, h1⟩]
  exact ⟨rfl, Lib.itoa_length_le x (by omega) h1⟩
theorem next_read (x0 : List Int) (hl : x0.length ≤ 1000000000) : ∀ (ys : List Int), (∀ y ∈ ys, 0 ≤ y ∧ y ≤ 2147483647) → ∀ (k q : Nat) (t : List UInt8), t ≠ [] → t.length + 22 * ys.length ≤ 1000000000 → x0.drop q = (ys.map sev).flatten → q ≤ x0.length → (ys.map sev).flatten.length + 1 ≤ k →
    der_Oid.l1 k (T t) 0 x0 (x0.length : Int) (q : Int) = some (T (t ++ (ys.map fun y => 46 :: Lib.itoa y).flatten), 0)
  | [], _, k, q, t, ht, hs, hd, hq, hk => by
    obtain ⟨k1, rfl⟩ : ∃ k1, k = k1 + 1 := ⟨k - 1, by omega⟩
    have := congrArg List.length hd
    rw [List.length_drop] at this
    simp only [List.map_nil, List.flatten_nil, List.length_nil] at this
    rw [der_Oid.l1, if_neg (by omega)]
    simp
  | y :: ys, hy, k, q, t, ht, hs, hd, hq, hk => by
    obtain ⟨y0, y1⟩ := hy y List.mem_cons_self
    rw [List.map_cons, List.flatten_cons] at hd hk
    rw [List.length_append] at hk
    have hd1 := hd
    rw [sev_up, List.append_assoc] at hd1
    have hsl : (sev y).length = (upF 9 (y / 128)).length + 1 := by rw [sev_up, List.length_append]; rfl
    obtain ⟨k1, rfl⟩ : ∃ k1, k = (k1 + 1) + (upF 9 (y / 128)).length := ⟨k - 1 - (upF 9 (y / 128)).length, by omega⟩
    rw [up_read x0 hl (T t) 9 (y / 128) (k1 + 1) q _ (by omega) (by rw [show (128 : Int) ^ 9 = 9223372036854775808 by decide]; omega) (by omega) hd1]
    have hd2 : x0.drop (q + (upF 9 (y / 128)).length) = (y % 128) :: (ys.map sev).flatten := drop_app hd1
    obtain ⟨e1, e2, e3⟩ := rd_at hd2
    have hv : mn (Go.bits .or .u64 (IntKind.u64.wrap (y / 128 * 128)) (IntKind.u64.wrap (Go.bits .and .u8 (y % 128) 127))) 1099511627776 = y := by
      rw [val_step _ _ (by omega) (by omega) (by omega) (by omega)]
      omega
    obtain ⟨i1, i2⟩ := itoa_at y y0 (by omega)
    simp only [List.length_cons] at hs
    have hne : ¬ (T t).toList = [] := by
      rw [Lib.toList_data]
      simpa [T] using ht
    have z1 : (⟨#[46]⟩ : ByteArray) = T [46] := rfl
    rw [der_Oid.l1, if_pos (by omega), if_pos (by omega), if_pos (by omega), e1, if_neg (by omega), if_neg hne, hv, if_neg (by omega), wb (n := y) (by omega) (by omega), i1, Option.bind_some, z1, T_app, T_app, T_size, T_size, T_size, if_pos (by omega), if_pos (by simp only [List.length_append, List.length_cons, List.length_nil]; omega), wb (by omega) (by omega)]
    have := next_read x0 hl ys (fun z hz => hy z (List.mem_cons_of_mem _ hz)) k1 (q + (upF 9 (y / 128)).length + 1) (t ++ ([46] ++ Lib.itoa y)) (by simp) (by simp only [List.length_append, List.length_cons, List.length_nil]; omega) e3 (by omega) (by omega)
    rw [show ((q + (upF 9 (y / 128)).length + 1 : Nat) : Int) = ((q + (upF 9 (y / 128)).length : Nat) : Int) + 1 by omega] at this
    rw [this, List.map_cons, List.flatten_cons, List.append_assoc]
    rfl
/-- The text of an identifier, a dot behind each number. -/
def txt (l : List Int) : List UInt8 := (l.map fun x => Lib.itoa x ++ [46]).flatten
theorem txt_snoc (l : List Int) (v : Int) : txt (l ++ [v]) = txt l ++ (Lib.itoa v ++ [46]) := by
  unfold txt
  simp
theorem dots (a : Int) (r : List Int) : Lib.itoa a ++ (r.map fun y => 46 :: Lib.itoa y).flatten ++ [46] = txt (a :: r) := by
  induction r generalizing a with
  | nil => simp [txt]
  | cons b r ih =>
    have := ih b
    unfold txt at *
    simp only [List.map_cons, List.flatten_cons, List.append_assoc, List.cons_append] at *
    rw [← this]
    simp
/-- der.Oid of what was laid of these numbers. -/
theorem oid_read (a b : Int) (r : List Int) (ha0 : 0 ≤ a) (ha1 : a ≤ 2) (hb0 : 0 ≤ b) (hb1 : b ≤ 2147483647) (hab : a < 2 → b < 40) (hr : ∀ y ∈ r, 0 ≤ y ∧ y ≤ 2147483647) (hl : r.length ≤ 10000000) (x0 : List Int) (hx : x0 = sev (40 * a + b) ++ (r.map sev).flatten) (k : Nat) (hk : 2 * x0.length + 10 ≤ k) (hxl : x0.length ≤ 1000000000) :
    der_Oid.f k x0 = some (T (Lib.itoa a ++ ((b :: r).map fun y => 46 :: Lib.itoa y).flatten), 0) := by
  have hsl : (sev (40 * a + b)).length = (upF 9 ((40 * a + b) / 128)).length + 1 := by rw [sev_up, List.length_append]; rfl
  have hlen := congrArg List.length hx
  rw [List.length_append] at hlen
  have hall : x0 = (((40 * a + b) :: r).map sev).flatten := by rw [hx, List.map_cons, List.flatten_cons]
  -- the last byte
  have hlast : rd x0 ((x0.length : Int) - 1) < 128 := by
    obtain ⟨ys, y, hy⟩ : ∃ ys y, ((40 * a + b) :: r) = ys ++ [y] := ⟨_, _, (List.dropLast_concat_getLast (by simp)).symm⟩
    rw [hy] at hall
    rw [List.map_append, List.flatten_append, List.map_cons, List.map_nil, List.flatten_cons, List.flatten_nil, List.append_nil, sev_up, ← List.append_assoc] at hall
    have e := congrArg List.length hall
    rw [List.length_append] at e
    have hd : x0.drop ((ys.map sev).flatten ++ upF 9 (y / 128)).length = [y % 128] := by
      rw [hall]
      exact List.drop_left
    obtain ⟨e1, _, _⟩ := rd_at hd
    rw [show ((x0.length : Int) - 1) = ((((ys.map sev).flatten ++ upF 9 (y / 128)).length : Nat) : Int) by simp only [List.length_cons, List.length_nil] at e; omega, e1]
    omega
  have hchk : chk (startAt x0 0) (x0.drop 0) = true := by
    rw [List.drop_zero, hall]
    exact chk_all _ (fun y hy => by
      rcases List.mem_cons.1 hy with rfl | hy
      · omega
      · have := hr y hy
        omega)
  have hread : ∀ k', x0.length + 1 ≤ k' → der_Oid.l1 k' (⟨#[]⟩ : ByteArray) 0 x0 (x0.length : Int) 0 = some (T (Lib.itoa a ++ ((b :: r).map fun y => 46 :: Lib.itoa y).flatten), 0) := fun k' hk' => by
    have hd1 : x0.drop 0 = upF 9 ((40 * a + b) / 128) ++ ([(40 * a + b) % 128] ++ (r.map sev).flatten) := by rw [List.drop_zero, hx, sev_up, List.append_assoc]
    obtain ⟨k1, rfl⟩ : ∃ k1, k' = (k1 + 1) + (upF 9 ((40 * a + b) / 128)).length := ⟨k' - 1 - (upF 9 ((40 * a + b) / 128)).length, by omega⟩
    have h := up_read x0 hxl (⟨#[]⟩ : ByteArray) 9 ((40 * a + b) / 128) (k1 + 1) 0 _ (by omega) (by rw [show (128 : Int) ^ 9 = 9223372036854775808 by decide]; omega) (by omega) hd1
    rw [show ((0 : Nat) : Int) = 0 from rfl] at h
    rw [h]
    have hd2 : x0.drop (0 + (upF 9 ((40 * a + b) / 128)).length) = ((40 * a + b) % 128) :: (r.map sev).flatten := drop_app hd1
    obtain ⟨e1, e2, e3⟩ := rd_at hd2
    have hv : mn (Go.bits .or .u64 (IntKind.u64.wrap ((40 * a + b) / 128 * 128)) (IntKind.u64.wrap (Go.bits .and .u8 ((40 * a + b) % 128) 127))) 1099511627776 = 40 * a + b := by
      rw [val_step _ _ (by omega) (by omega) (by omega) (by omega)]
      omega
    have ht : mn (IntKind.u64.wrap (Int.tdiv (40 * a + b) 40)) 2 = a := by
      have e1 : Int.tdiv (40 * a + b) 40 = (40 * a + b) / 40 := Int.tdiv_eq_ediv_of_nonneg (by omega)
      have e2 : IntKind.u64.wrap ((40 * a + b) / 40) = (40 * a + b) / 40 := by rw [IntKind.wrap_u64]; omega
      rw [e1, e2]
      unfold mn
      split
      · by_cases c : a < 2
        · have := hab c
          omega
        · omega
      · by_cases c : a < 2
        · have := hab c
          omega
        · omega
    have hb : IntKind.u64.wrap ((40 * a + b) - (IntKind.u64.wrap (40 * a))) = b := by rw [IntKind.wrap_u64, IntKind.wrap_u64]; omega
    obtain ⟨i1, i2⟩ := itoa_at a ha0 (by omega)
    obtain ⟨j1, j2⟩ := itoa_at b hb0 (by omega)
    have hne : (⟨#[]⟩ : ByteArray).toList = [] := by rw [Lib.toList_data]
    have z1 : (⟨#[46]⟩ : ByteArray) = T [46] := rfl
    rw [der_Oid.l1, if_pos (by omega), if_pos (by omega), if_pos (by omega), e1, if_neg (by omega), if_pos hne, hv, ht, wb (n := a) (by omega) (by omega), i1, Option.bind_some, hb, if_neg (by omega), wb (n := b) (by omega) (by omega), j1, Option.bind_some, z1, T_app, T_app, T_size, T_size, T_size, if_pos (by omega), if_pos (by simp only [List.length_append, List.length_cons, List.length_nil]; omega), wb (by omega) (by omega)]
    have := next_read x0 hxl r hr k1 (0 + (upF 9 ((40 * a + b) / 128)).length + 1) (Lib.itoa a ++ ([46] ++ Lib.itoa b)) (by simp) (by simp only [List.length_append, List.length_cons, List.length_nil]; omega) e3 (by omega) (by omega)
    rw [show ((0 + (upF 9 ((40 * a + b) / 128)).length + 1 : Nat) : Int) = ((0 + (upF 9 ((40 * a + b) / 128)).length : Nat) : Int) + 1 by omega] at this
    rw [this, List.map_cons, List.flatten_cons, List.append_assoc]
    rfl
  obtain ⟨k1, rfl⟩ : ∃ k1, k = k1 + 1 := ⟨k - 1, by omega⟩
  unfold der_Oid.f
  rw [if_neg (by omega), wb (by omega) (by omega), if_pos (by omega), if_pos (by omega), decide_eq_false (by omega), der_Oid.j0, if_neg (by decide)]
  exact oid_l0 x0 hxl _ (x0.length + 1) hread x0.length k1 0 (by omega) (Nat.zero_le _) (by omega) hchk
theorem arcsGo_pre (S : ByteArray) : ∀ (f pos : Nat) (l : List Int) (v n : Int) (r : List Int), arcsGo S f pos l v n = some r → ∀ x ∈ l, x ∈ r
  | 0, pos, l, v, n, r, h => by simp [arcsGo] at h
  | f + 1, pos, l, v, n, r, h => by
    rw [arcsGo] at h
    split at h
    · split at h
      · exact fun x hx => arcsGo_pre S f _ _ _ _ r h x (List.mem_append_left _ hx)
      · split at h
        · cases h
        · exact arcsGo_pre S f _ _ _ _ r h
    · obtain rfl := Option.some.inj h
      exact fun x hx => hx
theorem itoa_digit (d : Int) (h0 : 0 ≤ d) (h1 : d < 10) : Lib.itoa d = [UInt8.ofNat (48 + d.toNat)] := by
  unfold Lib.itoa
  rw [if_neg (by omega), Lib.decDigits, dif_pos (by omega)]
theorem itoa_more (v d : Int) (hv : 0 < v) (h0 : 0 ≤ d) (h1 : d < 10) : Lib.itoa (10 * v + d) = Lib.itoa v ++ [UInt8.ofNat (48 + d.toNat)] := by
  unfold Lib.itoa
  rw [if_neg (by omega), if_neg (by omega), Lib.decDigits, dif_neg (by omega), show (10 * v + d).toNat / 10 = v.toNat by omega, show (10 * v + d).toNat % 10 = d.toNat by omega]
theorem byte_at (S : ByteArray) (pos : Nat) (h : pos < S.size) : S.data.toList.take (pos + 1) = S.data.toList.take pos ++ [UInt8.ofNat (bt S (pos : Int)).toNat] := by
  have hl : pos < S.data.toList.length := by rw [Array.length_toList]; exact h
  have e : S.data.toList[pos] = S[pos]'h := by rw [Array.getElem_toList]; rfl
  rw [List.take_succ_eq_append_getElem hl, bt_at S pos h, Int.toNat_natCast, UInt8.ofNat_toNat, e]
theorem arcs_text (S : ByteArray) : ∀ (f pos : Nat) (l : List Int) (v n : Int) (r : List Int) (cur : List UInt8), arcsGo S f pos l v n = some r → (∀ x ∈ r, x ≤ 2147483647) → pos ≤ S.size → S.data.toList.take pos = txt l ++ cur → 0 ≤ v →
    ((n = 0 ∧ v = 0 ∧ cur = []) ∨ (1 ≤ n ∧ cur ≠ [] ∧ (∀ c ∈ cur, c ≠ 46) ∧ (n ≠ 1 → 0 < v) ∧ (v ≤ 2147483647 → cur = Lib.itoa v))) →
    ∃ cur', S.data.toList = txt r ++ cur' ∧ ∀ c ∈ cur', c ≠ 46
  | 0, pos, l, v, n, r, cur, h, _, _, _, _, _ => by simp [arcsGo] at h
  | f + 1, pos, l, v, n, r, cur, h, hr, hp, ht, hv, hI => by
    rw [arcsGo] at h
    split at h
    · rename_i hps
      obtain ⟨dl, dh⟩ := dec_at S pos hps
      obtain ⟨b0, b1⟩ := bt_rg S (pos : Int)
      have hby := byte_at S pos hps
      have hn0 : 0 ≤ n := by rcases hI with hI | hI <;> omega
      split at h
      · rename_i c46
        have hlt : bt S (pos : Int) < 128 := by
          by_cases c : bt S (pos : Int) < 128
          · exact c
          · have := dh (by omega)
            omega
        obtain ⟨d1, d2⟩ := dl hlt
        rw [d2] at h
        have hvr : v ≤ 2147483647 := hr v (arcsGo_pre S f _ _ _ _ r h v (by simp))
        rcases hI with hI | hI
        · omega
        · have hc := hI.2.2.2.2 hvr
          refine arcs_text S f (pos + 1) (l ++ [v]) 0 0 r [] h hr (by omega) ?_ (Int.le_refl _) (Or.inl ⟨rfl, rfl, rfl⟩)
          rw [hby, ht, hc, txt_snoc, ← d1, c46.1, List.append_nil, List.append_assoc]
          rfl
      · rename_i c46
        split at h
        · cases h
        · rename_i cbad
          have hlt : bt S (pos : Int) < 128 := by
            by_cases c : bt S (pos : Int) < 128
            · exact c
            · have := dh (by omega)
              omega
          obtain ⟨d1, d2⟩ := dl hlt
          rw [d1] at cbad h
          rw [d2] at h
          have q0 : 48 ≤ bt S (pos : Int) := by omega
          have q1 : bt S (pos : Int) ≤ 57 := by omega
          have hch : UInt8.ofNat (bt S (pos : Int)).toNat = UInt8.ofNat (48 + (bt S (pos : Int) - 48).toNat) := by congr 1; omega
          have hch46 : UInt8.ofNat (bt S (pos : Int)).toNat ≠ 46 := by
            intro e
            have := congrArg UInt8.toNat e
            rw [UInt8.toNat_ofNat_of_lt' (by show (bt S (pos : Int)).toNat < 256; omega)] at this
            have h46 : (46 : UInt8).toNat = 46 := rfl
            omega
          refine arcs_text S f (pos + 1) l _ _ r (cur ++ [UInt8.ofNat (bt S (pos : Int)).toNat]) h hr (by omega) (by rw [hby, ht, List.append_assoc]) (by omega) (Or.inr ⟨by omega, by simp, ?_, ?_, ?_⟩)
          · intro c hc
            rcases List.mem_append.1 hc with hc | hc
            · rcases hI with hI | hI
              · rw [hI.2.2] at hc
                cases hc
              · exact hI.2.2.1 c hc
            · obtain rfl := List.mem_singleton.1 hc
              exact hch46
          · intro hn1
            rcases hI with hI | hI
            · omega
            · have : 0 < v := by
                by_cases c1 : n = 1
                · omega
                · exact hI.2.2.2.1 c1
              omega
          · intro hcap
            rcases hI with hI | hI
            · rw [hI.2.2, hI.2.1, List.nil_append, show min (10 * 0 + (bt S (pos : Int) - 48)) 1099511627776 = bt S (pos : Int) - 48 by omega, itoa_digit _ (by omega) (by omega), hch]
            · have hv0 : 0 < v := by
                by_cases c1 : n = 1
                · omega
                · exact hI.2.2.2.1 c1
              rw [hI.2.2.2.2 (by omega), show min (10 * v + (bt S (pos : Int) - 48)) 1099511627776 = 10 * v + (bt S (pos : Int) - 48) by omega, itoa_more v _ hv0 (by omega) (by omega), hch]
    · rename_i hps
      obtain rfl := Option.some.inj h
      refine ⟨cur, ?_, ?_⟩
      · rw [← ht, List.take_of_length_le]
        have : S.data.toList.length = S.size := by rw [Array.length_toList]; rfl
        omega
      · intro c hc
        rcases hI with hI | hI
        · rw [hI.2.2] at hc
          cases hc
        · exact hI.2.2.1 c hc
/-- What was laid of a text is read as that text. -/
theorem oid_back (a : ByteArray) (ha : a.size ≤ 1000000) (h : (oidS a).2 = 0) (k : Nat) (hk : 100 * a.size + 1000 ≤ k) : der_Oid.f k (oidS a).1 = some (a, 0) := by
  unfold oidS at h ⊢
  cases e : arcsGo (a ++ (⟨#[46]⟩ : ByteArray)) (a.size + 2) 0 [] 0 0 with
  | none =>
    rw [e] at h
    exact absurd h (by decide)
  | some l =>
    rw [e] at h
    obtain ⟨g1, g2⟩ := arcsGo_rng _ _ _ _ _ _ _ e (fun x hx => by cases hx) (by decide) (by decide)
    simp only [List.length_nil] at g2
    have h : (if (arcsEnd l).2 = true then (if l.any bigA = true then (([], 3) : List Int × Int) else (sev (40 * rd l 0 + rd l 1) ++ ((l.drop 2).map sev).flatten, 0)) else ([], 6)).2 = 0 := h
    show der_Oid.f k (if (arcsEnd l).2 = true then (if l.any bigA = true then (([], 3) : List Int × Int) else (sev (40 * rd l 0 + rd l 1) ++ ((l.drop 2).map sev).flatten, 0)) else ([], 6)).1 = some (a, 0)
    by_cases c : (arcsEnd l).2 = true
    rotate_left
    · rw [if_neg c] at h
      exact absurd h (by decide)
    rw [if_pos c] at h ⊢
    by_cases c1 : l.any bigA = true
    · rw [if_pos c1] at h
      exact absurd h (by decide)
    rw [if_neg c1]
    have hsm : ∀ x ∈ l, x ≤ 2147483647 := fun x hx => by
      have := List.any_eq_false.1 (show l.any bigA = false by simpa using c1) x hx
      unfold bigA at this
      rw [decide_eq_true_eq] at this
      omega
    obtain ⟨_, _, e3⟩ := end_true c
    obtain ⟨cur, ht, hc46⟩ := arcs_text _ _ _ _ _ _ _ [] e hsm (Nat.zero_le _) (by simp [txt]) (Int.le_refl _) (Or.inl ⟨rfl, rfl, rfl⟩)
    have hS : (a ++ (⟨#[46]⟩ : ByteArray)).data.toList = a.data.toList ++ [46] := by rw [ByteArray.data_append, Array.toList_append]
    have hcur : cur = [] := by
      cases hq : cur.reverse with
      | nil => simpa using hq
      | cons z zs =>
        have hz : cur = zs.reverse ++ [z] := by
          have := congrArg List.reverse hq
          simpa using this
        rw [hS, hz, ← List.append_assoc] at ht
        have := (List.append_inj' ht rfl).2
        have hz46 : z = 46 := by simpa using this.symm
        exact absurd hz46 (hc46 z (by rw [hz]; simp))
    match l, e3, g1, g2, hsm, c, ht with
    | p :: q :: r, e3, g1, g2, hsm, c, ht =>
      have r0 : rd (p :: q :: r) 0 = p := rfl
      have r1 : rd (p :: q :: r) 1 = q := rfl
      simp only [List.length_cons] at g2
      have hp := g1 p (by simp)
      have hq := g1 q (by simp)
      have hq2 := hsm q (by simp)
      have hpq : p ≤ 2 ∧ (p < 2 → q < 40) := by
        unfold arcsEnd at c
        rw [r0, r1, if_neg (by simp only [List.length_cons]; omega)] at c
        by_cases d1 : 2 < p
        · rw [if_pos d1] at c
          cases c
        rw [if_neg d1] at c
        refine ⟨by omega, fun d2 => ?_⟩
        rw [if_pos d2] at c
        by_cases d3 : 40 ≤ q
        rotate_left
        · omega
        rw [if_pos d3] at c
        cases c
      have hbl : (sev (40 * p + q) ++ (r.map sev).flatten).length ≤ 10 * (r.length + 1) := by
        rw [List.length_append]
        have h1 := sev_len (40 * p + q)
        have h2 : ∀ r : List Int, (r.map sev).flatten.length ≤ 10 * r.length := fun r => by
          induction r with
          | nil => simp
          | cons z r ih =>
            have := sev_len z
            rw [List.map_cons, List.flatten_cons, List.length_append, List.length_cons]
            omega
        have := h2 r
        omega
      have := oid_read p q r hp.1 hpq.1 hq.1 hq2 hpq.2 (fun y hy => ⟨(g1 y (by simp [hy])).1, hsm y (by simp [hy])⟩) (by omega) _ rfl k (by omega) (by omega)
      rw [r0, r1]
      show der_Oid.f k (sev (40 * p + q) ++ (r.map sev).flatten) = _
      rw [this]
      congr 2
      have hd := dots p (q :: r)
      rw [hS, hcur, List.append_nil, ← hd] at ht
      have := (List.append_inj' ht rfl).1
      apply ByteArray.ext
      rw [← Array.toList_inj, this]
end Go.Proofs.YtkioddjjfifadaaGreatDoor.P
namespace Go.Proofs.YtkioddjjfifadaaGreatDoor.P
open Go.RowKit Go.Proofs.YtkioddjjfifadaaGreatDoorW.PrintWords Go.Proofs.YtkioddjjfifadaaGreatDoorW.PrintLast Go.Proofs.YtkioddjjfifadaaGreatDoorW.PrintMore
/-- One byte string less than another, as Go's strings are held. -/
def ltL (a b : List Int) : Bool := Op.bytesLess (strOfNums a).toList (strOfNums b).toList
def bub : Nat → List (List Int) → List (List Int)
  | 0, l => l
  | k + 1, l => if ltL (l.getD (k + 1) []) (l.getD k []) = true then bub k ((l.set (k + 1) (l.getD k [])).set k (l.getD (k + 1) [])) else l
def insL (out : List (List Int)) (x : List Int) : List (List Int) := bub out.length (out ++ [x])
def sortedL (l : List (List Int)) : List (List Int) := l.foldl insL []
def chirographref07_sorted.f (l : List (List Int)) : Option (List (List Int)) := if l.length ≤ 1000000 then some (sortedL l) else none
end Go.Proofs.YtkioddjjfifadaaGreatDoor.P
