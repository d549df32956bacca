/- What the proof of NameParses needs of: He0, He1, Pxf141, Lp1, Ht3, Hp1, Pxf199, Pxf125, Pxf65, Lb1, Pxf196, Pxf197. -/
import Derived.Lib.OthersKept
import Derived.Lib.RuneCountTail
import Derived.Laws.RangeString
import Derived.Lib.TrimUEq
import Derived.Test.YtkioddjjfifadaaGreatDoorNp2
import Derived.Test.YtkioddjjfifadaaGreatDoorNp3
import Derived.Test.YtkioddjjfifadaaGreatDoorNp4
set_option linter.unusedVariables false
set_option linter.unusedSimpArgs false
namespace Go.Proofs.YtkioddjjfifadaaGreatDoor.P
open Go.RowKit Go.Extern.Stop Go.Stop Go.Extern Go.Proofs.YtkioddjjfifadaaGreatDoorW.PrintWords Go.Proofs.YtkioddjjfifadaaGreatDoorW.PrintLast Go.Proofs.YtkioddjjfifadaaGreatDoorW.PrintMore
inductive NE where
  | low (e : Int)
  | flt (f : Int)
  | part (i : Int) (x : NE)
def NE.val : NE → Value
  | .low e => .iface 222 (.agg #[.int .i64 e])
  | .flt f => .iface 225 (.int .i64 f)
  | .part i x => .iface 229 (.agg #[.int .i64 i, x.val])
def NE.leaf : NE → NE
  | .part _ x => x.leaf
  | x => x
def NE.num : NE → Int
  | .low e => e
  | .flt f => if f = 1 then 4 else if f = 2 then 5 else if f = 4 then 1 else 30
  | .part _ x => x.num
def NE.depth : NE → Nat
  | .part _ x => x.depth + 1
  | _ => 0
def NE.isLow : NE → Option Int
  | .low e => some e
  | .flt _ => none
  | .part _ x => x.isLow
def NE.isFlt (g : Int) : NE → Bool
  | .low _ => false
  | .flt f => f == g
  | .part _ x => x.isFlt g
theorem NE.val_iface (x : NE) : ∃ t v, x.val = .iface t v ∧ (t = 222 ∨ t = 225 ∨ t = 229) := by
  cases x <;> exact ⟨_, _, rfl, by simp⟩
theorem Nm.valueOf231 (t : Addr) (w : World) : (ReflectliteValue.unpack (.iface 231 (.pointer (some t)))).run Tryz.prog w
    = .ok (.agg #[.pointer (some ⟨7, 231, none⟩), .pointer (some ⟨w.heap.size, 0, none⟩), .int .u64 150]) (w.alloc (.cells #[.pointer (some t)] 231)) := by kernel_rfl
theorem Nm.type231 (a : Addr) (w : World) : (ReflectliteValue.methodAny (ReflectliteValue.valueError "reflectlite.Value.Type" 0) (fun t _ _ _ => ReflectliteType.toType t) #[.agg #[.pointer (some ⟨7, 231, none⟩), .pointer (some a), .int .u64 150]]).run Tryz.prog w
    = .ok (.iface 336 (.agg #[.pointer (some ⟨7, 231, none⟩)])) w := by kernel_rfl
theorem Nm.kind231 (w : World) : ((ReflectliteType.abiMethod fun t => (fun a : Nat => Value.int IntKind.u8 (a : Int)) <$> Rtype.kind t) #[.pointer (some ⟨7, 231, none⟩)]).run Tryz.prog w = .ok (.int .u8 22) w := by kernel_rfl
theorem Nm.kind222 (w : World) : ((ReflectliteType.abiMethod fun t => (fun a : Nat => Value.int IntKind.u8 (a : Int)) <$> Rtype.kind t) #[.pointer (some ⟨7, 222, none⟩)]).run Tryz.prog w = .ok (.int .u8 25) w := by kernel_rfl
theorem Nm.parts231 (a : Addr) (w : World) : (ReflectliteValue.parts (.agg #[.pointer (some ⟨7, 231, none⟩), .pointer (some a), .int .u64 150])).run Tryz.prog w = .ok (some (231, a, 150)) w := by kernel_rfl
theorem Nm.isNil231 (a p : Addr) (W : World) (ha : W.cell? a = some (.pointer (some p))) :
    (ReflectliteValue.method (ReflectliteValue.valueError "reflectlite.Value.IsNil" 0) ReflectliteValue.isNil #[.agg #[.pointer (some ⟨7, 231, none⟩), .pointer (some a), .int .u64 150]]).run Tryz.prog W = .ok (.bool false) W := by
  rw [rlm]
  simp only [Sem.run_bind, Nm.parts231, Result.andThen]
  simp [ReflectliteValue.isNil, loadVar, isAgg, underlying, Tryz.underlying231, ha, Result.andThen]
theorem Nm.elem231 (w : World) : (ReflectliteType.method ReflectliteType.elem #[.agg #[.pointer (some ⟨7, 231, none⟩)]]).run Tryz.prog w = .ok (.iface 336 (.agg #[.pointer (some ⟨7, 222, none⟩)])) w := by kernel_rfl
theorem Nm.implements222 (w : World) : (ReflectliteType.relation "Implements" ReflectliteType.implements_ #[.agg #[.pointer (some ⟨7, 222, none⟩)], .iface 336 (.agg #[.pointer (some ⟨7, 132, none⟩)])]).run Tryz.prog w = .ok (.bool true) w := by kernel_rfl
theorem Nm.typeOf222 (v : Value) (w : World) : (ReflectliteType.typeOf #[.iface 222 v]).run Tryz.prog w = .ok (.iface 336 (.agg #[.pointer (some ⟨7, 222, none⟩)])) w := by kernel_rfl
theorem Nm.typeOf225 (v : Value) (w : World) : (ReflectliteType.typeOf #[.iface 225 v]).run Tryz.prog w = .ok (.iface 336 (.agg #[.pointer (some ⟨7, 225, none⟩)])) w := by kernel_rfl
theorem Nm.typeOf229 (v : Value) (w : World) : (ReflectliteType.typeOf #[.iface 229 v]).run Tryz.prog w = .ok (.iface 336 (.agg #[.pointer (some ⟨7, 229, none⟩)])) w := by kernel_rfl
theorem Nm.assignable222 (w : World) : (ReflectliteType.relation "AssignableTo" ReflectliteType.assignableTo #[.agg #[.pointer (some ⟨7, 222, none⟩)], .iface 336 (.agg #[.pointer (some ⟨7, 222, none⟩)])]).run Tryz.prog w = .ok (.bool true) w := by kernel_rfl
theorem Nm.assignable225 (w : World) : (ReflectliteType.relation "AssignableTo" ReflectliteType.assignableTo #[.agg #[.pointer (some ⟨7, 225, none⟩)], .iface 336 (.agg #[.pointer (some ⟨7, 222, none⟩)])]).run Tryz.prog w = .ok (.bool false) w := by kernel_rfl
theorem Nm.assignable229 (w : World) : (ReflectliteType.relation "AssignableTo" ReflectliteType.assignableTo #[.agg #[.pointer (some ⟨7, 229, none⟩)], .iface 336 (.agg #[.pointer (some ⟨7, 222, none⟩)])]).run Tryz.prog w = .ok (.bool false) w := by kernel_rfl
theorem Nm.valueOf222 (e : Int) (w : World) : (ReflectliteValue.unpack (.iface 222 (.agg #[.int .i64 e]))).run Tryz.prog w
    = .ok (.agg #[.pointer (some ⟨7, 222, none⟩), .pointer (some ⟨w.heap.size, 0, none⟩), .int .u64 153]) (w.alloc (.cells #[.int .i64 e] 222)) := by kernel_rfl
theorem Nm.elemOf231 (w : World) : (Rtype.elem? 231).run Tryz.prog w = .ok (some 222) w := by kernel_rfl
theorem Nm.mk222 (p : Addr) (w : World) : (ReflectliteValue.mk 222 p ReflectliteValue.flagAddr).run Tryz.prog w = .ok (.agg #[.pointer (some ⟨7, 222, none⟩), .pointer (some p), .int .u64 409]) w := by kernel_rfl
theorem Nm.elemV231 (a p : Addr) (W : World) (ha : W.cell? a = some (.pointer (some p))) :
    (ReflectliteValue.method (ReflectliteValue.valueError "reflectlite.Value.Elem" 0) ReflectliteValue.elem #[.agg #[.pointer (some ⟨7, 231, none⟩), .pointer (some a), .int .u64 150]]).run Tryz.prog W
      = .ok (.agg #[.pointer (some ⟨7, 222, none⟩), .pointer (some p), .int .u64 409]) W := by
  rw [rlm]
  simp only [Sem.run_bind, Nm.parts231, Result.andThen]
  simp [ReflectliteValue.elem, loadVar, isAgg, underlying, Tryz.underlying231, ha, Result.andThen, Nm.elemOf231, Nm.mk222]
theorem Nm.parts222a (a : Addr) (w : World) : (ReflectliteValue.parts (.agg #[.pointer (some ⟨7, 222, none⟩), .pointer (some a), .int .u64 409])).run Tryz.prog w = .ok (some (222, a, 409)) w := by kernel_rfl
theorem Nm.parts222 (a : Addr) (w : World) : (ReflectliteValue.parts (.agg #[.pointer (some ⟨7, 222, none⟩), .pointer (some a), .int .u64 153])).run Tryz.prog w = .ok (some (222, a, 153)) w := by kernel_rfl
theorem Nm.direct222 (w : World) : (Rtype.directlyAssignable 222 222).run Tryz.prog w = .ok true w := by kernel_rfl
theorem Nm.size222 (w : World) : (sizeOf 222).run Tryz.prog w = .ok 1 w := by kernel_rfl
theorem Nm.set222 (ta b : Addr) (e : Int) (old : Value) (W : World) (hb : W.cell? b = some (.int .i64 e)) (ht : W.cell? ta = some old) (hf : W.frozen? ta = false) :
    (ReflectliteValue.set #[.agg #[.pointer (some ⟨7, 222, none⟩), .pointer (some ta), .int .u64 409], .agg #[.pointer (some ⟨7, 222, none⟩), .pointer (some b), .int .u64 153]]).run Tryz.prog W
      = .ok (.tuple #[]) (W.setCell ta (.int .i64 e)) := by
  have hl : (loadVar 222 b).run Tryz.prog W = .ok (.agg #[.int .i64 e]) W := by
    have hc : (loadCells b 1).run Tryz.prog W = .ok #[.int .i64 e] W := run_loadCells_list (P := Tryz.prog) W b [.int .i64 e] (fun j u hj => by
      cases j with
      | zero => cases hj; rw [show b.add 0 = b from rfl]; exact hb
      | succ n => cases hj)
    simp [loadVar, isAgg, underlying, Tryz.underlying222, Result.andThen, Nm.size222, hc]
  rw [rls]
  simp only [Sem.run_bind, Nm.parts222a, Nm.parts222, Result.andThen]
  simp [ReflectliteValue.flagAddr, hl, Result.andThen, Nm.direct222, storeVar, Value.cells, storeCells, Addr.add]
  rw [run_store Tryz.prog W ta _ _ (by rfl)]
  simp [ht, hf]
theorem Nm.methodUnwrap (v : Value) (w : World) : (Go.method 558 229 v "Unwrap").run Tryz.prog w = .ok (340, v) w := by kernel_rfl
theorem Nm.methodComparable (h : Value) (w : World) : (Go.method 558 336 h "Comparable").run Tryz.prog w = .ok (348, h) w := by kernel_rfl
theorem Nm.comparable225 (w : World) : ((ReflectliteType.method fun t => do Rtype.noPackHeld "Comparable" t; (fun a => Value.bool a.comparable) <$> typeInfo t) #[.agg #[.pointer (some ⟨7, 225, none⟩)]]).run Tryz.prog w = .ok (.bool true) w := by kernel_rfl
theorem Nm.noAs (t : TypeId) (ht : t = 222 ∨ t = 225 ∨ t = 229) (v : Value) (xT : TypeId) (w : World) : (Instr.typeAssert (.iface t v) xT 340 true).run Tryz.prog w = .ok (.tuple #[.nilIface, .bool false]) w := by
  rcases ht with rfl | rfl | rfl <;> exact run_typeAssert_lacksB Tryz.underlying340 (by kernel_rfl) (by kernel_rfl) v xT w
theorem Nm.noIs (t : TypeId) (ht : t = 222 ∨ t = 225 ∨ t = 229) (v : Value) (xT : TypeId) (w : World) : (Instr.typeAssert (.iface t v) xT 348 true).run Tryz.prog w = .ok (.tuple #[.nilIface, .bool false]) w := by
  rcases ht with rfl | rfl | rfl <;> exact run_typeAssert_lacksB Tryz.underlying348 (by kernel_rfl) (by kernel_rfl) v xT w
theorem Nm.noUnwraps (t : TypeId) (ht : t = 222 ∨ t = 225 ∨ t = 229) (v : Value) (xT : TypeId) (w : World) : (Instr.typeAssert (.iface t v) xT 345 true).run Tryz.prog w = .ok (.tuple #[.nilIface, .bool false]) w := by
  rcases ht with rfl | rfl | rfl <;> exact run_typeAssert_lacksB Tryz.underlying345 (by kernel_rfl) (by kernel_rfl) v xT w
theorem Nm.noUnwrap (t : TypeId) (ht : t = 222 ∨ t = 225) (v : Value) (xT : TypeId) (w : World) : (Instr.typeAssert (.iface t v) xT 343 true).run Tryz.prog w = .ok (.tuple #[.nilIface, .bool false]) w := by
  rcases ht with rfl | rfl <;> exact run_typeAssert_lacksB Tryz.underlying343 (by kernel_rfl) (by kernel_rfl) v xT w
theorem Nm.hasUnwrap (v : Value) (xT : TypeId) (w : World) : (Instr.typeAssert (.iface 229 v) xT 343 true).run Tryz.prog w = .ok (.tuple #[.iface 229 v, .bool true]) w := run_typeAssert_hasB Tryz.underlying343 (by kernel_rfl) v xT w
theorem Nm.eql_flt (f g : Int) (w : World) : (binOp .eql 132 (.iface 225 (.int .i64 f)) (.iface 225 (.int .i64 g))).run Tryz.prog w = .ok (.bool (f == g)) w := by kernel_rfl
theorem Nm.eql_low (v : Value) (g : Int) (w : World) : (binOp .eql 132 (.iface 222 v) (.iface 225 (.int .i64 g))).run Tryz.prog w = .ok (.bool false) w := run_eql_iface_types 222 225 v _ Tryz.underlying132 (by decide) w
theorem Nm.eql_part (v : Value) (g : Int) (w : World) : (binOp .eql 132 (.iface 229 v) (.iface 225 (.int .i64 g))).run Tryz.prog w = .ok (.bool false) w := run_eql_iface_types 229 225 v _ Tryz.underlying132 (by decide) w
theorem unwrap_calls (i : Int) (v : Value) (hv : v.oneCell' = true) (w : World) : Calls Tryz.prog 340 #[.agg #[.int .i64 i, v]] w fun e w' => e = .returned v ∧ Below w.heap.size w w' := by
  have HV := Aside0.mk hv
  clear hv
  go_enter Tryz.func340, Tryz.ntmps340
  go_wp2_with (first | ((with_reducible refine gate_dst (N := 1) rfl ?_); refine box_event ?hg (N := 1) ?hd (cs := #[.int .i64 i, v]) (t := 229) ?hr ?_; (case hd => rfl); (case hg => rfl); (case hr => first | (go_simp; done) | (go_simp; rfl)); intro gb hg w4 hbox hb; have HB := Aside0.mk hb; have hcz : w4.cell? ⟨gb, 1, none⟩ = some v := (blk_cell hbox 1).trans rfl; clear hg hbox hb))
  go_ret
  exact ⟨rfl, HB.out⟩
set_option maxRecDepth 100000 in
set_option maxHeartbeats 4000000 in
theorem is_ne (x : NE) (g : Int) (w : World) :
    Calls Tryz.prog 195 #[x.val, .iface 225 (.int .i64 g), .bool true] w fun e w' => e = .returned (.bool (x.isFlt g)) ∧ Below w.heap.size w w' := by
  have HB := Aside0.mk (Below.refl w.heap.size w)
  go_enter Tryz.func195, Tryz.ntmps195
  go_wp2_with fail
  go_loopg [0] (x.depth + 1) (fun kq v0 w' => ∃ (y : NE), v0 = y.val ∧ Aside0 (y.isFlt g = x.isFlt g) ∧ Aside0 (y.depth < kq) ∧ Aside0 (Below w.heap.size w w'))
  case atStart => exact ⟨x, rfl, ⟨rfl⟩, ⟨by omega⟩, HB⟩
  case round =>
    clear HB
    obtain ⟨y, rfl, HF, HD, HB⟩ := hrel
    cases gk with
    | zero => exact absurd HD.out (by omega)
    | succ g1 =>
      cases y with
      | low e =>
        have q1 := Nm.noIs 222 (by simp) (.agg #[.int .i64 e]) 132 wr
        have q2 := Nm.noUnwrap 222 (by simp) (.agg #[.int .i64 e]) 132 wr
        have q3 := Nm.noUnwraps 222 (by simp) (.agg #[.int .i64 e]) 132 wr
        have q4 := Nm.eql_low (.agg #[.int .i64 e]) g wr
        simp only [NE.val] at *
        go_wp2_with fail
        go_ret
        exact ⟨by rw [← HF.out]; rfl, HB.out⟩
      | flt f =>
        have q1 := Nm.noIs 225 (by simp) (.int .i64 f) 132 wr
        have q2 := Nm.noUnwrap 225 (by simp) (.int .i64 f) 132 wr
        have q3 := Nm.noUnwraps 225 (by simp) (.int .i64 f) 132 wr
        have q4 := Nm.eql_flt f g wr
        have hf : (f == g) = x.isFlt g := HF.out
        clear HF
        rw [hf] at q4
        clear hf
        obtain ⟨bb, hbb⟩ : ∃ bb, x.isFlt g = bb := ⟨_, rfl⟩
        rw [hbb] at q4
        have HH := Aside0.mk hbb
        clear hbb
        simp only [NE.val] at *
        cases bb
        all_goals
          go_wp2_with fail
          go_ret
          exact ⟨by rw [HH.out]; rfl, HB.out⟩
      | part i z =>
        obtain ⟨zt, zv, hz, hzt⟩ := z.val_iface
        have q1 := Nm.noIs 229 (by simp) (.agg #[.int .i64 i, .iface zt zv]) 132 wr
        have q2 := Nm.hasUnwrap (.agg #[.int .i64 i, .iface zt zv]) 132 wr
        have q4 := Nm.eql_part (.agg #[.int .i64 i, .iface zt zv]) g wr
        have q5 := Nm.methodUnwrap
        have HZ := Aside0.mk hz
        have hz' : NE.val (.part i z) = .iface 229 (.agg #[.int .i64 i, .iface zt zv]) := by rw [NE.val, hz]
        rw [hz'] at *
        clear hz hz'
        go_wp2_with ((with_reducible refine (unwrap_calls i (.iface zt zv) rfl _).mono ?_); rintro e w4 ⟨rfl, hb⟩; have n0 := Aside0.mk (below_step HB.out hb); clear hb HB; have HB := n0; clear n0)
        go_roundg g1
        case measure => exact Nat.lt_succ_self _
        case rel => exact ⟨z, HZ.out.symm, ⟨HF.out⟩, ⟨by have := HD.out; simp only [NE.depth] at this; omega⟩, HB⟩
set_option maxRecDepth 100000 in
set_option maxHeartbeats 4000000 in
theorem errors_Is_ne (x : NE) (g : Int) (w : World) :
    Calls Tryz.prog 144 #[x.val, .iface 225 (.int .i64 g)] w fun e w' => e = .returned (.bool (x.isFlt g)) ∧ Below w.heap.size w w' := by
  have h8 := @run_callFunc_extern Tryz.prog 194 _ ReflectliteType.typeOf Tryz.func194 (by kernel_rfl) (by kernel_rfl) (by kernel_rfl) (by kernel_rfl)
  have h32 := @run_callFunc_extern Tryz.prog 348 _ (ReflectliteType.method fun t => do Rtype.noPackHeld "Comparable" t; pure (.bool (← typeInfo t).comparable)) Tryz.func348 (by kernel_rfl) (by kernel_rfl) (by kernel_rfl) (by kernel_rfl)
  have tT := Nm.typeOf225
  have cT := Nm.comparable225
  have mR := Nm.methodComparable
  obtain ⟨zt, zv, hz, hzt⟩ := x.val_iface
  have HZ := Aside0.mk hz
  rw [hz]
  clear hz hzt
  go_enter Tryz.func144, Tryz.ntmps144
  go_wp2_with (go_at_call 195; rw [← HZ.out]; (with_reducible refine (is_ne x g _).mono ?_); rintro e w4 ⟨rfl, hb⟩; have HB := Aside0.mk hb; clear hb)
  go_ret
  exact ⟨rfl, HB.out⟩
set_option maxRecDepth 100000 in
set_option maxHeartbeats 4000000 in
theorem as_ne (x : NE) (g b t : Nat) (w0 w : World) (hB : Below w0.heap.size w0 w) (hg : w0.heap.size ≤ g) (ht : w.heap[g]? = some (.cells #[.int .i64 0] 222 (0, 0))) (hb : w.heap[b]? = some (.cells #[.pointer (some ⟨g, 0, none⟩)] 231 (0, 0))) (hgb : b ≠ g) :
    Calls Tryz.prog 193 #[x.val, .iface 231 (.pointer (some ⟨g, 0, none⟩)), .agg #[.pointer (some ⟨7, 231, none⟩), .pointer (some ⟨b, 0, none⟩), .int .u64 150], .iface 336 (.agg #[.pointer (some ⟨7, 222, none⟩)])] w fun e w' =>
      e = .returned (.bool x.isLow.isSome) ∧ w'.heap[g]? = some (.cells #[.int .i64 (x.isLow.getD 0)] 222 (0, 0)) ∧ Below w0.heap.size w0 w' := by
  have h6 := @run_callFunc_extern Tryz.prog 190 _ (fun args => ReflectliteValue.unpack (args.getD 0 (.tuple #[]))) Tryz.func190 (by kernel_rfl) (by kernel_rfl) (by kernel_rfl) (by kernel_rfl)
  have h10 := @run_callFunc_extern Tryz.prog 194 _ ReflectliteType.typeOf Tryz.func194 (by kernel_rfl) (by kernel_rfl) (by kernel_rfl) (by kernel_rfl)
  have h35 := @run_callFunc_extern Tryz.prog 347 _ (ReflectliteType.relation "AssignableTo" ReflectliteType.assignableTo) Tryz.func347 (by kernel_rfl) (by kernel_rfl) (by kernel_rfl) (by kernel_rfl)
  have h11 := @run_callFunc_extern Tryz.prog 236 _ (ReflectliteValue.method (ReflectliteValue.valueError "reflectlite.Value.Elem" 0) ReflectliteValue.elem) Tryz.func236 (by kernel_rfl) (by kernel_rfl) (by kernel_rfl) (by kernel_rfl)
  have h12 := @run_callFunc_extern Tryz.prog 237 _ ReflectliteValue.set Tryz.func237 (by kernel_rfl) (by kernel_rfl) (by kernel_rfl) (by kernel_rfl)
  have mA := Ref.methodAssignableTo
  have HB := Aside0.mk hB
  have HG := Aside0.mk hg
  have HT := Aside0.mk ht
  have HBK := Aside0.mk hb
  have HN := Aside0.mk hgb
  clear hB hg ht hb hgb
  go_enter Tryz.func193, Tryz.ntmps193
  go_wp2_with (first | ((with_reducible refine gate_dst (N := 6) rfl ?_); refine box_event ?hg (N := 6) ?hd (cs := #[.pointer (some ⟨7, 231, none⟩), .pointer (some ⟨b, 0, none⟩), .int .u64 150]) (t := 289) ?hr ?_; (case hd => rfl); (case hg => rfl); (case hr => first | (go_simp; done) | (go_simp; rfl)); intro gb hgq w4 hbox hb; have HB6 := Aside0.mk hbox; have n1 := Aside0.mk (below_step HB.out hb); have n2 := Aside0.mk (blk_below HT.out hb); have n3 := Aside0.mk (blk_below HBK.out hb); have HGB := Aside0.mk (show w0.heap.size ≤ gb by rw [hgq]; exact HB.out.size); clear hbox hb hgq HB HT HBK; have HB := n1; have HT := n2; have HBK := n3; clear n1 n2 n3))
  go_loopg [0] (x.depth + 1) (fun kq v0 w' => ∃ (y : NE), v0 = y.val ∧ Aside0 (y.isLow = x.isLow) ∧ Aside0 (y.depth < kq) ∧ Aside0 (Below w0.heap.size w0 w') ∧ Aside0 (w'.heap[g]? = some (.cells #[.int .i64 0] 222 (0, 0))) ∧ Aside0 (w'.heap[b]? = some (.cells #[.pointer (some ⟨g, 0, none⟩)] 231 (0, 0))) ∧ Aside0 (w'.heap[gb]? = some (.cells #[.pointer (some ⟨7, 231, none⟩), .pointer (some ⟨b, 0, none⟩), .int .u64 150] 289 (0, 0))))
  case atStart => exact ⟨x, rfl, ⟨rfl⟩, ⟨by omega⟩, HB, HT, HBK, HB6⟩
  case round =>
    clear HB HT HBK HB6
    obtain ⟨y, rfl, HF, HD, HB, HT, HBK, HB6⟩ := hrel
    cases gk with
    | zero => exact absurd HD.out (by omega)
    | succ g1 =>
      cases y with
      | low e =>
        have tO := Nm.typeOf222 (.agg #[.int .i64 e]) wr
        have a25 := Nm.assignable222 wr
        have v25 := Nm.valueOf222 e wr
        have z0 : wr.cell? ⟨gb, 0, none⟩ = some (.pointer (some ⟨7, 231, none⟩)) := (blk_cell HB6.out 0).trans rfl
        have z1 : wr.cell? ⟨gb, 1, none⟩ = some (.pointer (some ⟨b, 0, none⟩)) := (blk_cell HB6.out 1).trans rfl
        have z2 : wr.cell? ⟨gb, 2, none⟩ = some (.int .u64 150) := (blk_cell HB6.out 2).trans rfl
        have el := Nm.elemV231 ⟨b, 0, none⟩ ⟨g, 0, none⟩ wr ((blk_cell HBK.out 0).trans rfl)
        have HT2 := Aside0.mk (blk_alloc HT.out (.cells #[.int .i64 e] 222))
        have st := Nm.set222 ⟨g, 0, none⟩ ⟨wr.heap.size, 0, none⟩ e (.int .i64 0) (wr.alloc (.cells #[.int .i64 e] 222)) ((blk_cell (heap_alloc_new wr _) 0).trans rfl) ((blk_cell HT2.out 0).trans rfl) (blk_frozen HT2.out 0)
        simp only [NE.val] at *
        go_wp2_with fail
        go_ret
        refine ⟨by rw [← HF.out]; rfl, ?_, ?_⟩
        rotate_left
        · exact below_set (below_alloc HB.out _) HG.out
        rw [← HF.out]
        exact blk_put HT2.out 0 (.int .i64 e) rfl
      | flt f =>
        have tO := Nm.typeOf225 (.int .i64 f) wr
        have a25 := Nm.assignable225 wr
        have q1 := Nm.noAs 225 (by simp) (.int .i64 f) 132 wr
        have q2 := Nm.noUnwrap 225 (by simp) (.int .i64 f) 132 wr
        have q3 := Nm.noUnwraps 225 (by simp) (.int .i64 f) 132 wr
        simp only [NE.val] at *
        go_wp2_with fail
        go_ret
        exact ⟨by rw [← HF.out]; rfl, by rw [← HF.out]; exact HT.out, HB.out⟩
      | part i z =>
        obtain ⟨zt, zv, hz, hzt⟩ := z.val_iface
        have tO := Nm.typeOf229 (.agg #[.int .i64 i, .iface zt zv]) wr
        have a25 := Nm.assignable229 wr
        have q1 := Nm.noAs 229 (by simp) (.agg #[.int .i64 i, .iface zt zv]) 132 wr
        have q2 := Nm.hasUnwrap (.agg #[.int .i64 i, .iface zt zv]) 132 wr
        have q5 := Nm.methodUnwrap
        have HZ := Aside0.mk hz
        have hz' : NE.val (.part i z) = .iface 229 (.agg #[.int .i64 i, .iface zt zv]) := by rw [NE.val, hz]
        rw [hz'] at *
        clear hz hz'
        go_wp2_with ((with_reducible refine (unwrap_calls i (.iface zt zv) rfl _).mono ?_); rintro e w4 ⟨rfl, hb⟩; have n0 := Aside0.mk (below_step HB.out hb); have n1 := Aside0.mk (blk_below HT.out hb); have n2 := Aside0.mk (blk_below HBK.out hb); have n3 := Aside0.mk (blk_below HB6.out hb); clear hb HB HT HBK HB6; have HB := n0; have HT := n1; have HBK := n2; have HB6 := n3; clear n0 n1 n2 n3)
        go_roundg g1
        case measure => exact Nat.lt_succ_self _
        case rel => exact ⟨z, HZ.out.symm, ⟨HF.out⟩, ⟨by have := HD.out; simp only [NE.depth] at this; omega⟩, HB, HT, HBK, HB6⟩
set_option maxRecDepth 100000 in
set_option maxHeartbeats 4000000 in
theorem errors_As_ne (x : NE) (g : Nat) (w0 w : World) (hB : Below w0.heap.size w0 w) (hH : Hd w) (hg : w0.heap.size ≤ g) (ht : w.heap[g]? = some (.cells #[.int .i64 0] 222 (0, 0))) :
    Calls Tryz.prog 143 #[x.val, .iface 231 (.pointer (some ⟨g, 0, none⟩))] w fun e w' =>
      e = .returned (.bool x.isLow.isSome) ∧ w'.heap[g]? = some (.cells #[.int .i64 (x.isLow.getD 0)] 222 (0, 0)) ∧ Below w0.heap.size w0 w' := by
  have h6 := @run_callFunc_extern Tryz.prog 190 _ (fun args => ReflectliteValue.unpack (args.getD 0 (.tuple #[]))) Tryz.func190 (by kernel_rfl) (by kernel_rfl) (by kernel_rfl) (by kernel_rfl)
  have h7 := @run_callFunc_extern Tryz.prog 191 _ (ReflectliteValue.methodAny (ReflectliteValue.valueError "reflectlite.Value.Type" 0) (fun t _ _ _ => ReflectliteType.toType t)) Tryz.func191 (by kernel_rfl) (by kernel_rfl) (by kernel_rfl) (by kernel_rfl)
  have h8 := @run_callFunc_extern Tryz.prog 192 _ (ReflectliteValue.method (ReflectliteValue.valueError "reflectlite.Value.IsNil" 0) ReflectliteValue.isNil) Tryz.func192 (by kernel_rfl) (by kernel_rfl) (by kernel_rfl) (by kernel_rfl)
  have h27 := @run_callFunc_extern Tryz.prog 333 _ (ReflectliteType.abiMethod fun t => do pure (.int .u8 (← Rtype.kind t))) Tryz.func333 (by kernel_rfl) (by kernel_rfl) (by kernel_rfl) (by kernel_rfl)
  have h37 := @run_callFunc_extern Tryz.prog 349 _ (ReflectliteType.method ReflectliteType.elem) Tryz.func349 (by kernel_rfl) (by kernel_rfl) (by kernel_rfl) (by kernel_rfl)
  have h38 := @run_callFunc_extern Tryz.prog 350 _ (ReflectliteType.relation "Implements" ReflectliteType.implements_) Tryz.func350 (by kernel_rfl) (by kernel_rfl) (by kernel_rfl) (by kernel_rfl)
  have f6 := Nm.valueOf231
  have f7 := Nm.type231
  have mK := Ref.methodKind
  have mE := Ref.methodElem
  have mI := Ref.methodImplements
  have k27 := Nm.kind231
  have k25 := Nm.kind222
  have e27 := Nm.elem231
  have i25 := Nm.implements222
  obtain ⟨zt, zv, hz, hzt⟩ := x.val_iface
  have HZ := Aside0.mk hz
  rw [hz]
  have n8 := Nm.isNil231 ⟨w.heap.size, 0, none⟩ ⟨g, 0, none⟩ ((w.alloc (.cells #[.pointer (some ⟨g, 0, none⟩)] 231)).alloc (.cells #[.pointer (some ⟨7, 231, none⟩), .pointer (some ⟨w.heap.size, 0, none⟩), .int .u64 150] 289)) (by simp)
  have hg2 : ((w.alloc (.cells #[.pointer (some ⟨g, 0, none⟩)] 231)).alloc (.cells #[.pointer (some ⟨7, 231, none⟩), .pointer (some ⟨w.heap.size, 0, none⟩), .int .u64 150] 289)).cell? ⟨0, 0, none⟩ = some (.iface 336 (.agg #[.pointer (some ⟨7, 132, none⟩)])) := by
    rw [World.cell?_alloc_lt _ _ ⟨0, 0, none⟩ (by simp), World.cell?_alloc_lt _ _ ⟨0, 0, none⟩ hH.lt]
    exact hH
  have HBK := Aside0.mk (blk_alloc (heap_alloc_new w (.cells #[.pointer (some ⟨g, 0, none⟩)] 231)) (.cells #[.pointer (some ⟨7, 231, none⟩), .pointer (some ⟨w.heap.size, 0, none⟩), .int .u64 150] 289))
  have HT := Aside0.mk (blk_alloc (blk_alloc ht (.cells #[.pointer (some ⟨g, 0, none⟩)] 231)) (.cells #[.pointer (some ⟨7, 231, none⟩), .pointer (some ⟨w.heap.size, 0, none⟩), .int .u64 150] 289))
  have HB := Aside0.mk (below_alloc (below_alloc hB (.cells #[.pointer (some ⟨g, 0, none⟩)] 231)) (.cells #[.pointer (some ⟨7, 231, none⟩), .pointer (some ⟨w.heap.size, 0, none⟩), .int .u64 150] 289))
  have HG := Aside0.mk hg
  have HN := Aside0.mk (show w.heap.size ≠ g from fun h => by have := blk_lt ht; omega)
  clear hz hzt hB hH hg ht
  go_enter Tryz.func143, Tryz.ntmps143
  go_wp2_with (go_at_call 193; rw [← HZ.out]; (with_reducible refine (as_ne x g w.heap.size 0 w0 _ HB.out HG.out HT.out HBK.out HN.out).mono ?_); rintro e w4 ⟨rfl, ht, hb⟩; have HT2 := Aside0.mk ht; have HB2 := Aside0.mk hb; clear ht hb)
  go_ret
  exact ⟨rfl, HT2.out, HB2.out⟩
theorem NE.num_of (x : NE) : x.num = match x.isLow with
    | some e => e
    | none => if x.isFlt 1 = true then 4 else if x.isFlt 2 = true then 5 else if x.isFlt 4 = true then 1 else 30 := by
  induction x with
  | low e => rfl
  | flt f => simp [NE.num, NE.isLow, NE.isFlt]
  | part i x ih => exact ih
set_option maxRecDepth 100000 in
set_option maxHeartbeats 4000000 in
theorem name_number_ne (x : NE) (w : World) (hH : Hd w) : Calls Tryz.prog 80 #[x.val] w fun e w' => e = .returned (.int .i64 x.num) ∧ Below w.heap.size w w' := by
  obtain ⟨zt, zv, hz, hzt⟩ := x.val_iface
  have HZ := Aside0.mk hz
  rw [hz]
  have HX := Aside0.mk x.num_of
  have HB := Aside0.mk (below_alloc (Below.refl w.heap.size w) (.cells #[.int .i64 0] 222))
  have HT := Aside0.mk (heap_alloc_new w (.cells #[.int .i64 0] 222))
  have HH := Aside0.mk (hH.below (below_alloc (Below.refl w.heap.size w) (.cells #[.int .i64 0] 222)))
  clear hz hzt hH
  obtain ⟨lo, hlo⟩ : ∃ lo, x.isLow = lo := ⟨_, rfl⟩
  obtain ⟨f1, hf1⟩ : ∃ lo, x.isFlt 1 = lo := ⟨_, rfl⟩
  obtain ⟨f2, hf2⟩ : ∃ lo, x.isFlt 2 = lo := ⟨_, rfl⟩
  obtain ⟨f4, hf4⟩ : ∃ lo, x.isFlt 4 = lo := ⟨_, rfl⟩
  have HL := Aside0.mk hlo
  have HF1 := Aside0.mk hf1
  have HF2 := Aside0.mk hf2
  have HF4 := Aside0.mk hf4
  clear hlo hf1 hf2 hf4
  cases lo with
  | some e =>
    go_enter Tryz.func80, Tryz.ntmps80
    go_wp2_with (first | (go_at_call 143; rw [← HZ.out]; (with_reducible refine (errors_As_ne x w.heap.size w _ HB.out HH.out (Nat.le_refl _) HT.out).mono ?_); rintro e_ w4 ⟨rfl, ht, hb⟩; rw [HL.out] at ht ⊢; have HB2 := Aside0.mk hb; have z0 : w4.cell? ⟨w.heap.size, 0, none⟩ = some (.int .i64 e) := (blk_cell ht 0).trans rfl; clear ht hb))
    go_ret
    exact ⟨by rw [HX.out, HL.out]; rfl, HB2.out⟩
  | none =>
    have ARM : ∀ (g : Int) (bb : Bool), x.isFlt g = bb → ∀ W : World, Calls Tryz.prog 144 #[x.val, .iface 225 (.int .i64 g)] W fun e w' => e = .returned (.bool bb) ∧ Below W.heap.size W w' := fun g bb h W => h ▸ errors_Is_ne x g W
    cases f1 <;> cases f2 <;> cases f4
    all_goals
      go_enter Tryz.func80, Tryz.ntmps80
      go_wp2_with (first | (go_at_call 143; rw [← HZ.out]; (with_reducible refine (errors_As_ne x w.heap.size w _ HB.out HH.out (Nat.le_refl _) HT.out).mono ?_); rintro e_ w4 ⟨rfl, ht, hb⟩; rw [HL.out] at ht ⊢; have HB2 := Aside0.mk hb; clear ht hb) | ((with_reducible refine (ARM 1 _ HF1.out _).mono ?_); rintro e_ w5 ⟨rfl, hb⟩; have n0 := Aside0.mk (below_step HB2.out hb); clear hb HB2; have HB2 := n0; clear n0) | ((with_reducible refine (ARM 2 _ HF2.out _).mono ?_); rintro e_ w5 ⟨rfl, hb⟩; have n0 := Aside0.mk (below_step HB2.out hb); clear hb HB2; have HB2 := n0; clear n0) | ((with_reducible refine (ARM 4 _ HF4.out _).mono ?_); rintro e_ w5 ⟨rfl, hb⟩; have n0 := Aside0.mk (below_step HB2.out hb); clear hb HB2; have HB2 := n0; clear n0))
      go_ret
      exact ⟨by rw [HX.out, HL.out]; simp only [HF1.out, HF2.out, HF4.out]; rfl, HB2.out⟩
end Go.Proofs.YtkioddjjfifadaaGreatDoor.P
set_option linter.unusedVariables false
set_option linter.unusedSimpArgs false
namespace Go.Proofs.YtkioddjjfifadaaGreatDoor.P
open Go.RowKit Go.Proofs.YtkioddjjfifadaaGreatDoorW.PrintWords Go.Proofs.YtkioddjjfifadaaGreatDoorW.PrintLast Go.Proofs.YtkioddjjfifadaaGreatDoorW.PrintMore
def EV (v : Value) (n : Int) : Prop := (n = 0 ∧ v = .nilIface) ∨ (n ≠ 0 ∧ ∃ x : NE, v = x.val ∧ x.num = n)
theorem EV.nil : EV .nilIface 0 := Or.inl ⟨rfl, rfl⟩
theorem EV.f30 : EV (.iface 225 (.int .i64 3)) 30 := Or.inr ⟨by decide, .flt 3, rfl, rfl⟩
theorem EV.f5 : EV (.iface 225 (.int .i64 2)) 5 := Or.inr ⟨by decide, .flt 2, rfl, rfl⟩
theorem EV.f4 : EV (.iface 225 (.int .i64 1)) 4 := Or.inr ⟨by decide, .flt 1, rfl, rfl⟩
theorem EV.f1 : EV (.iface 225 (.int .i64 4)) 1 := Or.inr ⟨by decide, .flt 4, rfl, rfl⟩
theorem EV.low {e : Int} (h : ¬ e = 0) : EV (.iface 222 (.agg #[.int .i64 e])) e := Or.inr ⟨h, .low e, rfl, rfl⟩
theorem EV.part {i n : Int} {t : TypeId} {u : Value} (h : EV (.iface t u) n) : EV (.iface 229 (.agg #[.int .i64 i, .iface t u])) n := by
  rcases h with ⟨_, h⟩ | ⟨hn, x, hx, hm⟩
  rotate_left
  · exact Or.inr ⟨hn, .part i x, by rw [NE.val, hx], hm⟩
  cases h
theorem EV.nil_of {v : Value} {n : Int} (h : EV v n) (hn : (n == 0) = true) : v = .nilIface := by
  rcases h with ⟨_, h⟩ | ⟨h, _⟩
  rotate_left
  · exact absurd (beq_iff_eq.mp hn) h
  exact h
theorem EV.some_of {v : Value} {n : Int} (h : EV v n) (hn : (n == 0) = false) : ∃ t u, v = .iface t u := by
  rcases h with ⟨h, _⟩ | ⟨_, x, h, _⟩
  · exact absurd h (beq_eq_false_iff_ne.mp hn)
  obtain ⟨t, u, hx, _⟩ := x.val_iface
  exact ⟨t, u, h.trans hx⟩
theorem name_number_nil (w : World) : Calls Tryz.prog 80 #[.nilIface] w fun e w' => e = .returned (.int .i64 0) ∧ Below w.heap.size w w' := by
  have HB := Aside0.mk (below_alloc (Below.refl w.heap.size w) (.cells #[.int .i64 0] 222))
  go_enter Tryz.func80, Tryz.ntmps80
  go_wp2_with fail
  go_ret
  exact ⟨rfl, HB.out⟩
theorem name_number_ev {v : Value} {n : Int} (h : EV v n) (w : World) (hH : Hd w) : Calls Tryz.prog 80 #[v] w fun e w' => e = .returned (.int .i64 n) ∧ Below w.heap.size w w' := by
  rcases h with ⟨rfl, rfl⟩ | ⟨_, x, rfl, rfl⟩
  rotate_left
  · exact name_number_ne x w hH
  exact name_number_nil w
end Go.Proofs.YtkioddjjfifadaaGreatDoor.P
namespace Go.Proofs.YtkioddjjfifadaaGreatDoor.P
open Go.RowKit Go.Proofs.YtkioddjjfifadaaGreatDoorW.PrintWords Go.Proofs.YtkioddjjfifadaaGreatDoorW.PrintLast Go.Proofs.YtkioddjjfifadaaGreatDoorW.PrintMore
attribute [local go_sem] max2_int min2_int max_two min_two max_three min_three max_four min_four
set_option linter.unusedVariables false
set_option linter.unusedSimpArgs false
def name_inside.j0 : Nat → Bool → Int → Int → Bool → List Int → List Int → Option ((List (S77)) × Int)
  | 0, _, _, _, _, _, _ => none
  | k + 1, x22, x162000, x162001, x162002, x162003, x162004 => if x22 = true then (some (([] : List (S77)), 30)) else ((der_Split.f k x162003).bind fun bt162 => (if bt162.2.1 = 0 then (some (bt162.1, 0)) else (some (([] : List (S77)), bt162.2.1))))
def name_inside.f (k : Nat) (a0_0 : Int) (a0_1 : Int) (a0_2 : Bool) (l0_3 : List Int) (l0_4 : List Int) (a1 : Int) : Option ((List (S77)) × Int) := if a0_0 = 0 then (if a0_1 = a1 then (name_inside.j0 k (!a0_2) a0_0 a0_1 a0_2 l0_3 l0_4) else (name_inside.j0 k true a0_0 a0_1 a0_2 l0_3 l0_4)) else (name_inside.j0 k true a0_0 a0_1 a0_2 l0_3 l0_4)
set_option maxHeartbeats 8000000 in
set_option maxRecDepth 100000 in
theorem name_inside.calls (k : Nat) (a0_0 : Int) (a0_1 : Int) (a0_2 : Bool) (A0_3 : Option Addr) (c0_3 : Nat) (l0_3 : List Int) (A0_4 : Option Addr) (c0_4 : Nat) (l0_4 : List Int) (a1 : Int) (r1 : List (S77)) (r2 : Int) (w : World) (hr0_3 : Kd.C (Kd.int .u8) w A0_3 l0_3.length l0_3) (hc0_3 : l0_3.length ≤ c0_3) (hr0_4 : Kd.C (Kd.int .u8) w A0_4 l0_4.length l0_4) (hc0_4 : l0_4.length ≤ c0_4) (h : name_inside.f k a0_0 a0_1 a0_2 l0_3 l0_4 a1 = some (r1, r2)) :
    Calls Tryz.prog 141 #[.agg #[.int .i64 a0_0, .int .i64 a0_1, .bool a0_2, .slice A0_3 l0_3.length c0_3, .slice A0_4 l0_4.length c0_4], .int .i64 a1] w fun e w' => ∃ v0_ ev_ : Value, e = .returned (.tuple #[v0_, ev_]) ∧ EV ev_ r2 ∧ Kd.S k77 77 w' w.heap.size (fun _ => True) v0_ r1 ∧ Below w.heap.size w w' := by
  have hu77 := Tryz.underlying77
  have HR0_3 := Aside0.mk hr0_3
  have HC0_3 := Aside0.mk hc0_3
  clear hr0_3 hc0_3
  have HR0_4 := Aside0.mk hr0_4
  have HC0_4 := Aside0.mk hc0_4
  clear hr0_4 hc0_4
  have HB := Aside0.mk (Below.refl w.heap.size w)
  have H : (if a0_0 = 0 then (if a0_1 = a1 then (name_inside.j0 k (!a0_2) a0_0 a0_1 a0_2 l0_3 l0_4) else (name_inside.j0 k true a0_0 a0_1 a0_2 l0_3 l0_4)) else (name_inside.j0 k true a0_0 a0_1 a0_2 l0_3 l0_4)) = some (r1, r2) := h
  clear h
  have HC3 := Aside0.mk H
  clear H
  go_enter Tryz.func141, Tryz.ntmps141
  go_upto_region 1 with (first | ((with_reducible refine gate_dst (N := 2) rfl ?_); refine box_event ?hg (N := 2) ?hd (cs := #[.int .i64 a0_0, .int .i64 a0_1, .bool a0_2, .slice A0_3 l0_3.length c0_3, .slice A0_4 l0_4.length c0_4]) (t := 77) ?hr ?_; (case hd => rfl); (case hg => rfl); (case hr => first | (go_simp; done) | (go_simp; rfl)); intro gb161 hg w4 hbox hb; have n0_ := Aside0.mk (below_step (bU HB.out) hb); have n1_ := Aside0.mk (hbox); have n2_ := Aside0.mk ((by rw [hg]; exact (below_size (bU HB.out)) : w.heap.size ≤ gb161)); have n3_ := Aside0.mk ((by rw [hg]; exact (below_size (bU HB.out)) : w.heap.size ≤ gb161)); replace HB := n0_; have BK161 := n1_; have GW161 := n2_; have GE161 := n3_; clear n0_ n1_ n2_ n3_; clear hb hbox hg))
  (try simp only [Act.put, List.setIfInBounds_toArray, List.set_cons_zero, List.set_cons_succ])
  go_cut [22] (fun v22 wc => ∃ (kq : Nat) (x22_2 : Bool), v22 = .bool x22_2 ∧ Aside0 (name_inside.j0 kq x22_2 a0_0 a0_1 a0_2 l0_3 l0_4 = some (r1, r2)) ∧ Aside0 (kq ≤ k) ∧ Aside0 (wc.heap[gb161]? = some (.cells #[.int .i64 a0_0, .int .i64 a0_1, .bool a0_2, (.slice A0_3 l0_3.length c0_3), (.slice A0_4 l0_4.length c0_4)] 77 (0, 0))) ∧ Aside0 (Below w.heap.size w wc))
  case first =>
    have H := HC3.out
    clear HC3
    by_cases c5 : a0_0 = 0
    rotate_left
    · rw [if_neg c5] at H
      have c5b0 : (a0_0 == 0) = false := beq_eq_false_iff_ne.mpr c5
      have c5b1 : (a0_0 != 0) = true := bne_iff_ne.mpr c5
      (first | rw [c5b0] | (simp only [i64_w, i32_w]; rw [c5b0]) | skip)
      have H' := Aside0.mk H
      clear H
      have hcz9_0 : w4.cell? ⟨gb161, 0, none⟩ = some (.int .i64 a0_0) := (blk_cell BK161.out 0).trans rfl
      have hcz9_1 : w4.cell? ⟨gb161, 1, none⟩ = some (.int .i64 a0_1) := (blk_cell BK161.out 1).trans rfl
      have hcz9_2 : w4.cell? ⟨gb161, 2, none⟩ = some (.bool a0_2) := (blk_cell BK161.out 2).trans rfl
      have hcz9_3 : w4.cell? ⟨gb161, 3, none⟩ = some (.slice A0_3 l0_3.length c0_3) := (blk_cell BK161.out 3).trans rfl
      have hcz9_4 : w4.cell? ⟨gb161, 4, none⟩ = some (.slice A0_4 l0_4.length c0_4) := (blk_cell BK161.out 4).trans rfl
      have hfz9_0 := blk_frozen BK161.out 0
      have hfz9_1 := blk_frozen BK161.out 1
      have hfz9_2 := blk_frozen BK161.out 2
      have hfz9_3 := blk_frozen BK161.out 3
      have hfz9_4 := blk_frozen BK161.out 4
      go_wp2
      go_meet
      case rel => exact ⟨_, (true), (by first | rfl | (simp; done) | (simp [*]; done)), H', ⟨by first | omega | exact Nat.le_refl _⟩, ⟨blk_u BK161.out⟩, ⟨by repeat (first | exact HB.out | apply below_alloc | apply pw_below_drewN | apply below_drew1 | refine below_set ?_ GE161.out)⟩⟩
    rw [if_pos c5] at H
    have c5b0 : (a0_0 == 0) = true := beq_iff_eq.mpr c5
    have c5b1 : (a0_0 != 0) = false := bne_eq_false_iff_eq.mpr c5
    clear c5
    (first | rw [c5b0] | (simp only [i64_w, i32_w]; rw [c5b0]) | skip)
    by_cases c6 : a0_1 = a1
    rotate_left
    · rw [if_neg c6] at H
      have c6b0 : (a0_1 == a1) = false := beq_eq_false_iff_ne.mpr c6
      have c6b1 : (a0_1 != a1) = true := bne_iff_ne.mpr c6
      have H' := Aside0.mk H
      clear H
      have hcz8_0 : w4.cell? ⟨gb161, 0, none⟩ = some (.int .i64 a0_0) := (blk_cell BK161.out 0).trans rfl
      have hcz8_1 : w4.cell? ⟨gb161, 1, none⟩ = some (.int .i64 a0_1) := (blk_cell BK161.out 1).trans rfl
      have hcz8_2 : w4.cell? ⟨gb161, 2, none⟩ = some (.bool a0_2) := (blk_cell BK161.out 2).trans rfl
      have hcz8_3 : w4.cell? ⟨gb161, 3, none⟩ = some (.slice A0_3 l0_3.length c0_3) := (blk_cell BK161.out 3).trans rfl
      have hcz8_4 : w4.cell? ⟨gb161, 4, none⟩ = some (.slice A0_4 l0_4.length c0_4) := (blk_cell BK161.out 4).trans rfl
      have hfz8_0 := blk_frozen BK161.out 0
      have hfz8_1 := blk_frozen BK161.out 1
      have hfz8_2 := blk_frozen BK161.out 2
      have hfz8_3 := blk_frozen BK161.out 3
      have hfz8_4 := blk_frozen BK161.out 4
      go_wp2
      go_meet
      case rel => exact ⟨_, (true), (by first | rfl | (simp; done) | (simp [*]; done)), H', ⟨by first | omega | exact Nat.le_refl _⟩, ⟨blk_u BK161.out⟩, ⟨by repeat (first | exact HB.out | apply below_alloc | apply pw_below_drewN | apply below_drew1 | refine below_set ?_ GE161.out)⟩⟩
    rw [if_pos c6] at H
    have c6b0 : (a0_1 == a1) = true := beq_iff_eq.mpr c6
    have c6b1 : (a0_1 != a1) = false := bne_eq_false_iff_eq.mpr c6
    clear c6
    have H' := Aside0.mk H
    clear H
    have hcz7_0 : w4.cell? ⟨gb161, 0, none⟩ = some (.int .i64 a0_0) := (blk_cell BK161.out 0).trans rfl
    have hcz7_1 : w4.cell? ⟨gb161, 1, none⟩ = some (.int .i64 a0_1) := (blk_cell BK161.out 1).trans rfl
    have hcz7_2 : w4.cell? ⟨gb161, 2, none⟩ = some (.bool a0_2) := (blk_cell BK161.out 2).trans rfl
    have hcz7_3 : w4.cell? ⟨gb161, 3, none⟩ = some (.slice A0_3 l0_3.length c0_3) := (blk_cell BK161.out 3).trans rfl
    have hcz7_4 : w4.cell? ⟨gb161, 4, none⟩ = some (.slice A0_4 l0_4.length c0_4) := (blk_cell BK161.out 4).trans rfl
    have hfz7_0 := blk_frozen BK161.out 0
    have hfz7_1 := blk_frozen BK161.out 1
    have hfz7_2 := blk_frozen BK161.out 2
    have hfz7_3 := blk_frozen BK161.out 3
    have hfz7_4 := blk_frozen BK161.out 4
    go_wp2
    go_meet
    case rel => exact ⟨_, (!a0_2), (by first | rfl | (simp; done) | (simp [*]; done)), H', ⟨by first | omega | exact Nat.le_refl _⟩, ⟨blk_u BK161.out⟩, ⟨by repeat (first | exact HB.out | apply below_alloc | apply pw_below_drewN | apply below_drew1 | refine below_set ?_ GE161.out)⟩⟩
  clear HC3
  try clear c1
  try clear p2
  try clear c5
  try clear c5b0
  try clear c5b1
  try clear c6
  try clear c6b0
  try clear c6b1
  try clear hcz7_0 hcz7_1 hcz7_2 hcz7_3 hcz7_4
  try clear hcz8_0 hcz8_1 hcz8_2 hcz8_3 hcz8_4
  try clear hcz9_0 hcz9_1 hcz9_2 hcz9_3 hcz9_4
  try clear hfz7_0 hfz7_1 hfz7_2 hfz7_3 hfz7_4
  try clear hfz8_0 hfz8_1 hfz8_2 hfz8_3 hfz8_4
  try clear hfz9_0 hfz9_1 hfz9_2 hfz9_3 hfz9_4
  obtain ⟨kq, x22_2, rfl, HA, HJ2, BK161, HB⟩ := hcut
  cases kq with
  | zero => exact absurd HA.out (by simp [name_inside.j0])
  | succ kj2 =>
    have H := HA.out
    clear HA
    simp only [name_inside.j0] at H
    by_cases c10 : x22_2 = true
    · subst c10
      have H1 : (some (([] : List (S77)), 30)) = some (r1, r2) := by rw [if_pos rfl] at H; exact H
      clear H
      have H := H1
      clear H1
      simp only [Option.some.injEq, Prod.mk.injEq] at H
      obtain ⟨rfl, rfl⟩ := H
      go_wp2
      go_ret2
      exact ⟨_, _, by first | rfl | (simp [errW_none, errW_some] <;> rfl), (by first | exact EV.nil | exact EV.f30 | exact EV.f5 | exact EV.f4 | exact EV.f1 | exact EV.low (by assumption) | exact HEV_.out | exact EV.part HEV_.out), by first | exact Kd.S_nil _ _ _ _ _ | exact Kd.N_nil _ _ _ _ _ | exact Kd.V_nil _ _ _ _ _ | exact Kd.Q_nil _ _ _ _ _ | exact Kd.R_nil _ _ _ _ _, by repeat (first | exact HB.out | apply below_alloc | apply pw_below_drewN | apply below_drew1 | refine below_set ?_ GE161.out)⟩
    replace c10 := Bool.eq_false_iff.mpr c10
    subst c10
    have H1 : ((der_Split.f kj2 l0_3).bind fun bt162 => (if bt162.2.1 = 0 then (some (bt162.1, 0)) else (some (([] : List (S77)), bt162.2.1)))) = some (r1, r2) := by rw [if_neg (show ¬ (false = true) by decide)] at H; exact H
    clear H
    have H := H1
    clear H1
    replace H := Option.bind_eq_some_iff.mp H
    obtain ⟨⟨t162, t163, t164⟩, A110, H⟩ := H
    try dsimp only at H
    have A11 := Aside0.mk A110
    clear A110
    by_cases c12 : t163 = 0
    rotate_left
    · rw [if_neg c12] at H
      have c12b0 : (t163 == 0) = false := beq_eq_false_iff_ne.mpr c12
      have c12b1 : (t163 != 0) = true := bne_iff_ne.mpr c12
      simp only [Option.some.injEq, Prod.mk.injEq] at H
      obtain ⟨rfl, rfl⟩ := H
      have hcz15_0 : wc.cell? ⟨gb161, 0, none⟩ = some (.int .i64 a0_0) := (blk_cell BK161.out 0).trans rfl
      have hcz15_1 : wc.cell? ⟨gb161, 1, none⟩ = some (.int .i64 a0_1) := (blk_cell BK161.out 1).trans rfl
      have hcz15_2 : wc.cell? ⟨gb161, 2, none⟩ = some (.bool a0_2) := (blk_cell BK161.out 2).trans rfl
      have hcz15_3 : wc.cell? ⟨gb161, 3, none⟩ = some (.slice A0_3 l0_3.length c0_3) := (blk_cell BK161.out 3).trans rfl
      have hcz15_4 : wc.cell? ⟨gb161, 4, none⟩ = some (.slice A0_4 l0_4.length c0_4) := (blk_cell BK161.out 4).trans rfl
      have hfz15_0 := blk_frozen BK161.out 0
      have hfz15_1 := blk_frozen BK161.out 1
      have hfz15_2 := blk_frozen BK161.out 2
      have hfz15_3 := blk_frozen BK161.out 3
      have hfz15_4 := blk_frozen BK161.out 4
      go_wp2_with (first | ((with_reducible refine gate_callee (f := 162) rfl ?_); refine goesL_ (some 27) rfl rfl Tryz.func162 (by kernel_rfl) rfl #[.slice A0_3 l0_3.length c0_3] rfl (by (try simp only [List.map_toArray, List.map_cons, List.map_nil]); first | done | rfl | (simp only [List.length_drop, List.length_take]; rfl)) ?_; (with_reducible refine (der_Split.calls kj2 _ _ l0_3 t162 t163 t164 _ ?side1 ?side2 A11.out).mono ?_); (case side1 => exact Kd.C_u (Kd.C_below HR0_3.out HB.out)); (case side2 => exact HC0_3.out); rintro e w16 ⟨v165, rfl, ho0, hb⟩; refine ⟨_, rfl, ?_⟩; have n0_ := Aside0.mk (Kd.S_lower (Kd.S_newB ho0 (blk_u BK161.out)) (below_size (by repeat (first | exact HB.out | apply below_alloc | apply pw_below_drewN | apply below_drew1 | refine below_set ?_ GE161.out)))); have n1_ := Aside0.mk (blk_below (blk_u BK161.out) hb); have n2_ := Aside0.mk (below_step (by repeat (first | exact HB.out | apply below_alloc | apply pw_below_drewN | apply below_drew1 | refine below_set ?_ GE161.out)) hb); clear BK161; clear HB; have HO166 := n0_; have BK161 := n1_; have HB := n2_; clear n0_ n1_ n2_; (try clear hb); (try clear hb2); (try clear hk); (try clear hi); (try clear ho0)))
      go_ret2
      exact ⟨_, _, by first | rfl | (simp [errW_none, errW_some] <;> rfl), (by first | exact EV.nil | exact EV.f30 | exact EV.f5 | exact EV.f4 | exact EV.f1 | exact EV.low (by assumption) | exact HEV_.out | exact EV.part HEV_.out), by first | exact Kd.S_nil _ _ _ _ _ | exact Kd.N_nil _ _ _ _ _ | exact Kd.V_nil _ _ _ _ _ | exact Kd.Q_nil _ _ _ _ _ | exact Kd.R_nil _ _ _ _ _, by repeat (first | exact HB.out | apply below_alloc | apply pw_below_drewN | apply below_drew1 | refine below_set ?_ GE161.out)⟩
    rw [if_pos c12] at H
    have c12b0 : (t163 == 0) = true := beq_iff_eq.mpr c12
    have c12b1 : (t163 != 0) = false := bne_eq_false_iff_eq.mpr c12
    clear c12
    simp only [Option.some.injEq, Prod.mk.injEq] at H
    obtain ⟨rfl, rfl⟩ := H
    have hcz13_0 : wc.cell? ⟨gb161, 0, none⟩ = some (.int .i64 a0_0) := (blk_cell BK161.out 0).trans rfl
    have hcz13_1 : wc.cell? ⟨gb161, 1, none⟩ = some (.int .i64 a0_1) := (blk_cell BK161.out 1).trans rfl
    have hcz13_2 : wc.cell? ⟨gb161, 2, none⟩ = some (.bool a0_2) := (blk_cell BK161.out 2).trans rfl
    have hcz13_3 : wc.cell? ⟨gb161, 3, none⟩ = some (.slice A0_3 l0_3.length c0_3) := (blk_cell BK161.out 3).trans rfl
    have hcz13_4 : wc.cell? ⟨gb161, 4, none⟩ = some (.slice A0_4 l0_4.length c0_4) := (blk_cell BK161.out 4).trans rfl
    have hfz13_0 := blk_frozen BK161.out 0
    have hfz13_1 := blk_frozen BK161.out 1
    have hfz13_2 := blk_frozen BK161.out 2
    have hfz13_3 := blk_frozen BK161.out 3
    have hfz13_4 := blk_frozen BK161.out 4
    go_wp2_with (first | ((with_reducible refine gate_callee (f := 162) rfl ?_); refine goesL_ (some 27) rfl rfl Tryz.func162 (by kernel_rfl) rfl #[.slice A0_3 l0_3.length c0_3] rfl (by (try simp only [List.map_toArray, List.map_cons, List.map_nil]); first | done | rfl | (simp only [List.length_drop, List.length_take]; rfl)) ?_; (with_reducible refine (der_Split.calls kj2 _ _ l0_3 t162 t163 t164 _ ?side1 ?side2 A11.out).mono ?_); (case side1 => exact Kd.C_u (Kd.C_below HR0_3.out HB.out)); (case side2 => exact HC0_3.out); rintro e w14 ⟨v165, rfl, ho0, hb⟩; refine ⟨_, rfl, ?_⟩; have n0_ := Aside0.mk (Kd.S_lower (Kd.S_newB ho0 (blk_u BK161.out)) (below_size (by repeat (first | exact HB.out | apply below_alloc | apply pw_below_drewN | apply below_drew1 | refine below_set ?_ GE161.out)))); have n1_ := Aside0.mk (blk_below (blk_u BK161.out) hb); have n2_ := Aside0.mk (below_step (by repeat (first | exact HB.out | apply below_alloc | apply pw_below_drewN | apply below_drew1 | refine below_set ?_ GE161.out)) hb); clear BK161; clear HB; have HO166 := n0_; have BK161 := n1_; have HB := n2_; clear n0_ n1_ n2_; (try clear hb); (try clear hb2); (try clear hk); (try clear hi); (try clear ho0)))
    go_ret2
    exact ⟨_, _, by first | rfl | (simp [errW_none, errW_some] <;> rfl), (by first | exact EV.nil | exact EV.f30 | exact EV.f5 | exact EV.f4 | exact EV.f1 | exact EV.low (by assumption) | exact HEV_.out | exact EV.part HEV_.out), by (with_reducible repeat (first | apply Kd.S_alloc | apply Kd.S_drewN | apply Kd.S_drew)); exact Kd.S_mono HO166.out (fun _ hk => trivial), by repeat (first | exact HB.out | apply below_alloc | apply pw_below_drewN | apply below_drew1 | refine below_set ?_ GE161.out)⟩
end Go.Proofs.YtkioddjjfifadaaGreatDoor.P
namespace Go.Proofs.YtkioddjjfifadaaGreatDoor.P
open Go.RowKit Go.Proofs.YtkioddjjfifadaaGreatDoorW.PrintWords Go.Proofs.YtkioddjjfifadaaGreatDoorW.PrintMore
structure El where
  cons : Bool
  tag : Int
  data : List Int
def El.enc (e : El) : List Int := hdL (if e.cons then 32 else 0) e.tag ++ (lenL (e.data.length : Int) ++ e.data)
def El.ok (e : El) : Prop := 1 ≤ e.tag ∧ e.tag ≤ 268435455 ∧ e.data.length < 16777216
end Go.Proofs.YtkioddjjfifadaaGreatDoor.P
namespace Go.Proofs.YtkioddjjfifadaaGreatDoor.P
open Go.RowKit Go.Proofs.YtkioddjjfifadaaGreatDoorW.PrintWords Go.Proofs.YtkioddjjfifadaaGreatDoorW.PrintLast Go.Proofs.YtkioddjjfifadaaGreatDoorW.PrintMore
theorem decode_width (s : ByteArray) (pos : Nat) (h : pos < s.size) : 1 ≤ (Utf8.decode s pos).2 ∧ pos + (Utf8.decode s pos).2 ≤ s.size ∧ (Utf8.decode s pos).2 ≤ 4 := by
  unfold Utf8.decode
  simp only []
  split
  · simp; omega
  split
  · rename_i h1
    simp only [Bool.and_eq_true, decide_eq_true_eq, beq_iff_eq] at h1
    split <;> simp <;> omega
  split
  · rename_i h1
    simp only [Bool.and_eq_true, decide_eq_true_eq, beq_iff_eq] at h1
    split <;> simp <;> omega
  split
  rotate_left
  · simp; omega
  rename_i h1
  simp only [Bool.and_eq_true, decide_eq_true_eq, beq_iff_eq] at h1
  split <;> simp <;> omega
def low (c : Int) : Int := if 65 ≤ c ∧ c ≤ 90 then c + 32 else c
def foldOut (bl : Bool) (out : List Int) : List Int := if bl = true ∧ 0 < out.length then out ++ [32] else out
def foldGo (s : ByteArray) : Nat → Nat → Bool → List Int → List Int
  | 0, _, _, out => out
  | f + 1, pos, bl, out =>
    if pos < s.size then
      (if ((Utf8.decode s pos).1 : Int) = 32 then foldGo s f (pos + (Utf8.decode s pos).2) true out
      else if low ((Utf8.decode s pos).1 : Int) = 65533 then foldGo s f (pos + (Utf8.decode s pos).2) false (foldOut bl out ++ bytesOf (s.extract pos (pos + (Utf8.decode s pos).2)))
      else foldGo s f (pos + (Utf8.decode s pos).2) false (foldOut bl out ++ Lib.encodeRuneZ (low ((Utf8.decode s pos).1 : Int))))
    else out
def text_Fold.f (s : ByteArray) : Option ByteArray := if s.size ≤ 1099511627776 then some (strOfNums (foldGo s s.size 0 false [])) else none
theorem R_iter {B kb p : Nat} {s : ByteArray} {w : World} {v : Value} {xs : List Int} (h : (Kd.int .u8).R 5 w B (fun _ => True) v xs) (hb : w.heap[kb]? = some (.stringIter s p)) (p' : Nat) : (Kd.int .u8).R 5 (w.iterAt kb s p') B (fun _ => True) v xs :=
  Kd.R_mono (Kd.R_move (Kd.R_bound h) (fun k hk => by
    refine Lib.iterAt_other w kb k s p' ?_
    rintro rfl
    obtain ⟨_, _, _, _, _, cells, hc⟩ := hk
    rw [hb] at hc
    cases hc)) (fun _ hk => hk.1)
theorem iter_ne {B kb p : Nat} {s : ByteArray} {w : World} {v : Value} {xs : List Int} (h : (Kd.int .u8).R 5 w B (fun _ => True) v xs) (hb : w.heap[kb]? = some (.stringIter s p)) : some kb ≠ v.ownBlock := fun e => by
  obtain ⟨inner, ho⟩ := Kd.R_own h
  obtain ⟨cells, hc⟩ := own_typed ho kb e.symm
  rw [hb] at hc
  cases hc
theorem keep_blk {w w1 : World} {g : Nat} {o : Obj} (hb : Below w.heap.size w w1) (h : w.heap[g]? = some o) : w1.heap[g]? = some o := (hb.block g (blk_lt h)).trans h
theorem ext_size (s : ByteArray) (a b : Nat) (h : b ≤ s.size) : (s.extract a b).size = b - a := by
  rw [ByteArray.size_extract]
  omega
set_option maxRecDepth 100000 in
set_option maxHeartbeats 8000000 in
theorem text_Fold.calls (a0 : ByteArray) (r : ByteArray) (w : World) (h : text_Fold.f a0 = some r) (hH : Tb w) :
    Calls Tryz.prog 211 #[.string a0] w fun e w' => e = .returned (.string r) ∧ Below w.heap.size w w' := by
  unfold text_Fold.f at h
  split at h
  case isFalse => cases h
  case isTrue hlen =>
  obtain rfl := Option.some.inj h
  have HT := Aside0.mk hH
  have HLEN := Aside0.mk hlen
  have HB := Aside0.mk (Below.refl w.heap.size w)
  clear h hH hlen
  go_enter Tryz.func211, Tryz.ntmps211
  go_wp2_with ((with_reducible refine gate_dst (N := 12) rfl ?_); refine make_bytes w rfl rfl rfl a0.size rfl Tryz.underlying22 info5 (by have := HLEN.out; omega) HB.out ?_; intro v w1 hv hb; have HO := Aside0.mk hv; have HB1 := Aside0.mk hb; clear hv hb HB)
  generalize hkb : w1.heap.size = kb
  have HKB : Aside0 (w.heap.size ≤ kb) := ⟨by rw [← hkb]; exact HB1.out.size⟩
  have HIT : Aside0 ((w1.alloc (.stringIter a0 0)).heap[kb]? = some (.stringIter a0 0)) := ⟨by rw [← hkb]; exact heap_alloc_new w1 _⟩
  have HO0 := Aside0.mk (Kd.R_alloc HO.out (.stringIter a0 0))
  have HB0 := Aside0.mk (below_alloc HB1.out (.stringIter a0 0))
  clear HO HB1 hkb
  go_loopg [3, 4] (a0.size + 1) (fun kq v3 v4 w' => ∃ (pos : Nat) (bl : Bool) (acc : List Int) (f : Nat), v4 = .bool bl ∧ Aside0 (foldGo a0 f pos bl acc = foldGo a0 a0.size 0 false []) ∧ Aside0 (pos ≤ a0.size ∧ a0.size ≤ f + pos ∧ a0.size < kq + pos) ∧ Aside0 (acc.length ≤ 5 * pos) ∧
    Aside0 ((Kd.int .u8).R 5 w' w.heap.size (fun _ => True) v3 acc) ∧ Aside0 (w'.heap[kb]? = some (.stringIter a0 pos)) ∧ Aside0 (Below w.heap.size w w'))
  case atStart => exact ⟨0, false, [], a0.size, rfl, ⟨rfl⟩, ⟨⟨Nat.zero_le _, by omega, by omega⟩⟩, ⟨Nat.zero_le _⟩, HO0, HIT, HB0⟩
  case round =>
    clear HO0 HB0 HIT
    obtain ⟨pos, bl, acc, f, rfl, HF, HI, HA, HO, HIT, HB⟩ := hrel
    cases gk with
    | zero => exact absurd HI.out (by omega)
    | succ g1 =>
      by_cases hp : pos < a0.size
      rotate_left
      · have hnx : ∀ ty, (Instr.next (.pointer (some ⟨kb, 0, none⟩)) true ty).run Tryz.prog wr = _ := fun ty => Lib.run_next_end_at wr kb a0 pos ty HIT.out hp
        have hcv := own_string (P := Tryz.prog) Tryz.underlying22 Tryz.underlying5 Tryz.underlying9 (Kd.own_of_R HO.out)
        have hfe : foldGo a0 a0.size 0 false [] = acc := by
          rw [← HF.out]
          cases f with
          | zero => rfl
          | succ f => rw [foldGo, if_neg hp]
        go_wp2_with fail
        go_ret
        exact ⟨by rw [hfe]; rfl, HB.out⟩
      have hnx0 : ∀ ty, (Instr.next (.pointer (some ⟨kb, 0, none⟩)) true ty).run Tryz.prog wr = _ := fun ty => Lib.run_next_any_at wr kb a0 pos ty HIT.out hp
      obtain ⟨n1, n2, n4⟩ := decode_width a0 pos hp
      have hle := decode_le a0 pos
      obtain ⟨f1, rfl⟩ : ∃ f1, f = f1 + 1 := ⟨f - 1, by have := HI.out; omega⟩
      have hf := HF.out
      rw [foldGo, if_pos hp] at hf
      have hdg : Lib.decodeGo (a0.extract pos a0.size) = Utf8.decode a0 pos := by
        unfold Lib.decodeGo
        rw [if_neg (by rw [Lib.tail_size]; omega), Lib.tail_decode]
        first | done | rfl
      have HO1 := Aside0.mk (R_iter HO.out HIT.out (pos + (Utf8.decode a0 pos).2))
      have HIT1 := Aside0.mk (Lib.iterAt_heap wr kb a0 pos (pos + (Utf8.decode a0 pos).2) HIT.out)
      have HB1 := Aside0.mk (Lib.below_iterAt HB.out HKB.out a0 (pos + (Utf8.decode a0 pos).2))
      have hnx := hnx0
      clear HF HO HIT HB hnx0
      generalize wr.iterAt kb a0 (pos + (Utf8.decode a0 pos).2) = W2 at *
      generalize hc : (Utf8.decode a0 pos).1 = C at *
      generalize hn : (Utf8.decode a0 pos).2 = n at *
      have DG1 : Aside0 ((Lib.decodeGo (a0.extract pos a0.size)).1 = C) := ⟨by rw [hdg]; exact hc⟩
      have DG2 : Aside0 ((Lib.decodeGo (a0.extract pos a0.size)).2 = n) := ⟨by rw [hdg]; exact hn⟩
      have HFF := Aside0.mk hf
      have hw : wrap64 ((pos : Int) + (n : Int)) = (pos : Int) + (n : Int) := by unfold wrap64; have := HLEN.out; omega
      clear hdg hc hn hf
      by_cases h32 : (C : Int) = 32
      · have e1 : ((C : Int) == 32) = true := beq_iff_eq.2 h32
        go_wp2_with fail
        go_roundg g1
        case measure => exact Nat.lt_succ_self _
        case rel => exact ⟨pos + n, true, acc, f1, rfl, ⟨by have := HFF.out; rw [if_pos h32] at this; exact this⟩, ⟨by have := HI.out; omega⟩, ⟨by have := HA.out; omega⟩, HO1, HIT1, HB1⟩
      have e1 : ((C : Int) == 32) = false := by simpa using h32
      have HF2 : Aside0 ((if low (C : Int) = 65533 then foldGo a0 f1 (pos + n) false (foldOut bl acc ++ bytesOf (a0.extract pos (pos + n))) else foldGo a0 f1 (pos + n) false (foldOut bl acc ++ Lib.encodeRuneZ (low (C : Int)))) = foldGo a0 a0.size 0 false []) := ⟨by have := HFF.out; rw [if_neg h32] at this; exact this⟩
      clear HFF
      cases bl with
      | true =>
        obtain ⟨Ao, co, hu⟩ := Kd.R_slice HO1.out
        subst hu
        by_cases hlen : 0 < acc.length
        rotate_left
        · have e2 : decide ((0 : Int) < (acc.length : Int)) = false := decide_eq_false (by omega)
          by_cases u1 : (65 : Int) ≤ (C : Int)
          rotate_left
          · have e3 : decide ((65 : Int) ≤ (C : Int)) = false := decide_eq_false u1
            have e5 : ((C : Int) == 65533) = false := by simp; omega
            have hlo : low (C : Int) = (C : Int) := if_neg (by omega)
            have hfo : foldOut true acc = acc := by simp [foldOut, hlen]
            go_wp2_with fail
            refine (append_rune w (.slice Ao acc.length co) (acc) ((C : Int)) (by omega) (by omega) _ HO1.out (by have := HA.out; have := HLEN.out; omega) HB1.out).mono ?_
            rintro e W5 ⟨v5, rfl, hR5, hb5, hk5⟩
            have HO5 := Aside0.mk hR5
            have HB5 := Aside0.mk hb5
            have HIT5 := Aside0.mk (hk5 kb _ HIT1.out (iter_ne HO1.out HIT1.out))
            clear hR5 hb5 hk5
            go_wp2_with fail
            go_roundg g1
            case measure => exact Nat.lt_succ_self _
            case rel => exact ⟨pos + n, false, (acc) ++ Lib.encodeRuneZ ((C : Int)), f1, rfl, ⟨by have := HF2.out; rw [if_neg (by rw [hlo]; omega), hfo, hlo] at this; exact this⟩, ⟨by have := HI.out; omega⟩, ⟨by rw [List.length_append]; have := encodeRuneZ_len ((C : Int)); have := HA.out; omega⟩, HO5, HIT5, HB5⟩
          have e3 : decide ((65 : Int) ≤ (C : Int)) = true := decide_eq_true u1
          by_cases u2 : (C : Int) ≤ 90
          · have e4 : decide ((C : Int) ≤ 90) = true := decide_eq_true u2
            have e5 : ((C : Int) + 32 == 65533) = false := by simp; omega
            have hlo : low (C : Int) = (C : Int) + 32 := if_pos ⟨u1, u2⟩
            have hfo : foldOut true acc = acc := by simp [foldOut, hlen]
            go_wp2_with fail
            refine (append_rune w (.slice Ao acc.length co) (acc) ((C : Int) + 32) (by omega) (by omega) _ HO1.out (by have := HA.out; have := HLEN.out; omega) HB1.out).mono ?_
            rintro e W5 ⟨v5, rfl, hR5, hb5, hk5⟩
            have HO5 := Aside0.mk hR5
            have HB5 := Aside0.mk hb5
            have HIT5 := Aside0.mk (hk5 kb _ HIT1.out (iter_ne HO1.out HIT1.out))
            clear hR5 hb5 hk5
            go_wp2_with fail
            go_roundg g1
            case measure => exact Nat.lt_succ_self _
            case rel => exact ⟨pos + n, false, (acc) ++ Lib.encodeRuneZ ((C : Int) + 32), f1, rfl, ⟨by have := HF2.out; rw [if_neg (by rw [hlo]; omega), hfo, hlo] at this; exact this⟩, ⟨by have := HI.out; omega⟩, ⟨by rw [List.length_append]; have := encodeRuneZ_len ((C : Int) + 32); have := HA.out; omega⟩, HO5, HIT5, HB5⟩
          have e4 : decide ((C : Int) ≤ 90) = false := decide_eq_false u2
          have hl0 : low (C : Int) = (C : Int) := if_neg (by omega)
          by_cases u3_ : (C : Int) = 65533
          rotate_left
          · have e5 : ((C : Int) == 65533) = false := by simpa using u3_
            have hlo : low (C : Int) = (C : Int) := hl0
            have hfo : foldOut true acc = acc := by simp [foldOut, hlen]
            go_wp2_with fail
            refine (append_rune w (.slice Ao acc.length co) (acc) ((C : Int)) (by omega) (by omega) _ HO1.out (by have := HA.out; have := HLEN.out; omega) HB1.out).mono ?_
            rintro e W5 ⟨v5, rfl, hR5, hb5, hk5⟩
            have HO5 := Aside0.mk hR5
            have HB5 := Aside0.mk hb5
            have HIT5 := Aside0.mk (hk5 kb _ HIT1.out (iter_ne HO1.out HIT1.out))
            clear hR5 hb5 hk5
            go_wp2_with fail
            go_roundg g1
            case measure => exact Nat.lt_succ_self _
            case rel => exact ⟨pos + n, false, (acc) ++ Lib.encodeRuneZ ((C : Int)), f1, rfl, ⟨by have := HF2.out; rw [if_neg (by rw [hlo]; omega), hfo, hlo] at this; exact this⟩, ⟨by have := HI.out; omega⟩, ⟨by rw [List.length_append]; have := encodeRuneZ_len ((C : Int)); have := HA.out; omega⟩, HO5, HIT5, HB5⟩
          have e5 : ((C : Int) == 65533) = true := beq_iff_eq.2 u3_
          have hlo : low (C : Int) = 65533 := hl0.trans u3_
          have hfo : foldOut true acc = acc := by simp [foldOut, hlen]
          go_wp2_with fail
          refine (Tryz.utf8_DecodeRuneInString (a0.extract pos a0.size) _ (HT.out.below HB1.out).utf).mono ?_
          rintro e W5 ⟨rfl, hb5⟩
          rw [DG1.out, DG2.out]
          have HO5 := Aside0.mk (Kd.R_below HO1.out hb5)
          have HIT5 := Aside0.mk (keep_blk hb5 HIT1.out)
          have HB5 := Aside0.mk (below_step HB1.out hb5)
          clear hb5
          have hsl : (Instr.slice 9 (.string a0) (some (.int .i64 (pos : Int))) (some (.int .i64 ((pos : Int) + (n : Int)))) none).run Tryz.prog W5 = .ok (.string (a0.extract pos (pos + n))) W5 := by
            have := run_slice_string (P := Tryz.prog) W5 9 a0 .i64 .i64 (pos : Int) ((pos : Int) + (n : Int)) Tryz.underlying9 (by omega) (by omega) (by omega)
            rwa [Int.toNat_natCast, show ((pos : Int) + (n : Int)).toNat = pos + n by omega] at this
          go_wp2_with ((with_reducible refine gate_builtin (b := .append) (xs := #[.tmp 48, .tmp 54]) rfl ?_); at_builtin; refine print_append_str (w0 := w) w.heap.size rfl (.tmp 48) (.tmp 54) 22 9 5 rfl Tryz.underlying22 Tryz.underlying9 info5 (.slice Ao acc.length co) (acc) (a0.extract pos (pos + n)) rfl ?sx ?sO ?sB ?sS ?sL ?_; (case sx => rfl); (case sO => exact Kd.own_of_R HO5.out); (case sB => exact HB5.out); (case sS => exact below_size HB5.out); (case sL => have hz := ext_size a0 pos (pos + n) n2; have := HA.out; have := HLEN.out; omega); intro v6 W6 ho hb hgr; have HO6 : Aside0 ((Kd.int .u8).R 5 W6 w.heap.size (fun _ => True) v6 ((acc) ++ bytesOf (a0.extract pos (pos + n)))) := ⟨Kd.R_of_own ho (fun _ _ => trivial)⟩; have HB6 := Aside0.mk hb; have HIT6 := Aside0.mk (blk_grown HIT5.out hgr (iter_ne HO5.out HIT5.out)); clear ho hb hgr)
          go_roundg g1
          case measure => exact Nat.lt_succ_self _
          case rel => exact ⟨pos + n, false, (acc) ++ bytesOf (a0.extract pos (pos + n)), f1, rfl, ⟨by have := HF2.out; rw [if_pos hlo, hfo] at this; exact this⟩, ⟨by have := HI.out; omega⟩, ⟨by rw [List.length_append, bytesOf_length, ext_size a0 pos (pos + n) n2]; have := HA.out; omega⟩, HO6, HIT6, HB6⟩
        have e2 : decide ((0 : Int) < (acc.length : Int)) = true := decide_eq_true (by omega)
        by_cases u1 : (65 : Int) ≤ (C : Int)
        rotate_left
        · have e3 : decide ((65 : Int) ≤ (C : Int)) = false := decide_eq_false u1
          have e5 : ((C : Int) == 65533) = false := by simp; omega
          have hlo : low (C : Int) = (C : Int) := if_neg (by omega)
          have hfo : foldOut true acc = acc ++ [32] := by simp [foldOut, hlen]
          go_wp2_with (first | ((with_reducible refine gate_builtin (b := .append) (xs := #[.tmp 28, .tmp 29]) rfl ?_); at_builtin; refine Kd.R_append (Kd.int .u8) (w0 := w) w.heap.size rfl (.tmp 28) (.tmp 29) 22 5 (.int .u8 0) 1 rfl Tryz.underlying22 info5 rfl (by decide) (by omega) (.slice Ao acc.length co) acc 32 [.int .u8 32] (fun _ => True) (fun _ => False) rfl rfl ?aP (fun _ hk => hk.elim) ?aF ?aO ?aB ?aS ?aL ?_; (case aP => exact rfl); (case aF => exact (fun _ _ => trivial)); (case aO => exact HO1.out); (case aB => exact HB1.out); (case aS => exact (below_size HB1.out)); (case aL => have := HA.out; have := HLEN.out; omega); intro v2 W3 ho hb hgr hat; have HO2 := Aside0.mk ho; have HB2 := Aside0.mk hb; have HIT2 := Aside0.mk (blk_grown HIT1.out hgr (iter_ne HO1.out HIT1.out)); clear ho hb hgr hat))
          refine (append_rune w v2 (acc ++ [32]) ((C : Int)) (by omega) (by omega) _ HO2.out (by rw [List.length_append, List.length_singleton]; have := HA.out; have := HLEN.out; omega) HB2.out).mono ?_
          rintro e W5 ⟨v5, rfl, hR5, hb5, hk5⟩
          have HO5 := Aside0.mk hR5
          have HB5 := Aside0.mk hb5
          have HIT5 := Aside0.mk (hk5 kb _ HIT2.out (iter_ne HO2.out HIT2.out))
          clear hR5 hb5 hk5
          go_wp2_with fail
          go_roundg g1
          case measure => exact Nat.lt_succ_self _
          case rel => exact ⟨pos + n, false, (acc ++ [32]) ++ Lib.encodeRuneZ ((C : Int)), f1, rfl, ⟨by have := HF2.out; rw [if_neg (by rw [hlo]; omega), hfo, hlo] at this; exact this⟩, ⟨by have := HI.out; omega⟩, ⟨by rw [List.length_append]; rw [List.length_append, List.length_singleton]; have := encodeRuneZ_len ((C : Int)); have := HA.out; omega⟩, HO5, HIT5, HB5⟩
        have e3 : decide ((65 : Int) ≤ (C : Int)) = true := decide_eq_true u1
        by_cases u2 : (C : Int) ≤ 90
        · have e4 : decide ((C : Int) ≤ 90) = true := decide_eq_true u2
          have e5 : ((C : Int) + 32 == 65533) = false := by simp; omega
          have hlo : low (C : Int) = (C : Int) + 32 := if_pos ⟨u1, u2⟩
          have hfo : foldOut true acc = acc ++ [32] := by simp [foldOut, hlen]
          go_wp2_with (first | ((with_reducible refine gate_builtin (b := .append) (xs := #[.tmp 28, .tmp 29]) rfl ?_); at_builtin; refine Kd.R_append (Kd.int .u8) (w0 := w) w.heap.size rfl (.tmp 28) (.tmp 29) 22 5 (.int .u8 0) 1 rfl Tryz.underlying22 info5 rfl (by decide) (by omega) (.slice Ao acc.length co) acc 32 [.int .u8 32] (fun _ => True) (fun _ => False) rfl rfl ?aP (fun _ hk => hk.elim) ?aF ?aO ?aB ?aS ?aL ?_; (case aP => exact rfl); (case aF => exact (fun _ _ => trivial)); (case aO => exact HO1.out); (case aB => exact HB1.out); (case aS => exact (below_size HB1.out)); (case aL => have := HA.out; have := HLEN.out; omega); intro v2 W3 ho hb hgr hat; have HO2 := Aside0.mk ho; have HB2 := Aside0.mk hb; have HIT2 := Aside0.mk (blk_grown HIT1.out hgr (iter_ne HO1.out HIT1.out)); clear ho hb hgr hat))
          refine (append_rune w v2 (acc ++ [32]) ((C : Int) + 32) (by omega) (by omega) _ HO2.out (by rw [List.length_append, List.length_singleton]; have := HA.out; have := HLEN.out; omega) HB2.out).mono ?_
          rintro e W5 ⟨v5, rfl, hR5, hb5, hk5⟩
          have HO5 := Aside0.mk hR5
          have HB5 := Aside0.mk hb5
          have HIT5 := Aside0.mk (hk5 kb _ HIT2.out (iter_ne HO2.out HIT2.out))
          clear hR5 hb5 hk5
          go_wp2_with fail
          go_roundg g1
          case measure => exact Nat.lt_succ_self _
          case rel => exact ⟨pos + n, false, (acc ++ [32]) ++ Lib.encodeRuneZ ((C : Int) + 32), f1, rfl, ⟨by have := HF2.out; rw [if_neg (by rw [hlo]; omega), hfo, hlo] at this; exact this⟩, ⟨by have := HI.out; omega⟩, ⟨by rw [List.length_append]; rw [List.length_append, List.length_singleton]; have := encodeRuneZ_len ((C : Int) + 32); have := HA.out; omega⟩, HO5, HIT5, HB5⟩
        have e4 : decide ((C : Int) ≤ 90) = false := decide_eq_false u2
        have hl0 : low (C : Int) = (C : Int) := if_neg (by omega)
        by_cases u3_ : (C : Int) = 65533
        rotate_left
        · have e5 : ((C : Int) == 65533) = false := by simpa using u3_
          have hlo : low (C : Int) = (C : Int) := hl0
          have hfo : foldOut true acc = acc ++ [32] := by simp [foldOut, hlen]
          go_wp2_with (first | ((with_reducible refine gate_builtin (b := .append) (xs := #[.tmp 28, .tmp 29]) rfl ?_); at_builtin; refine Kd.R_append (Kd.int .u8) (w0 := w) w.heap.size rfl (.tmp 28) (.tmp 29) 22 5 (.int .u8 0) 1 rfl Tryz.underlying22 info5 rfl (by decide) (by omega) (.slice Ao acc.length co) acc 32 [.int .u8 32] (fun _ => True) (fun _ => False) rfl rfl ?aP (fun _ hk => hk.elim) ?aF ?aO ?aB ?aS ?aL ?_; (case aP => exact rfl); (case aF => exact (fun _ _ => trivial)); (case aO => exact HO1.out); (case aB => exact HB1.out); (case aS => exact (below_size HB1.out)); (case aL => have := HA.out; have := HLEN.out; omega); intro v2 W3 ho hb hgr hat; have HO2 := Aside0.mk ho; have HB2 := Aside0.mk hb; have HIT2 := Aside0.mk (blk_grown HIT1.out hgr (iter_ne HO1.out HIT1.out)); clear ho hb hgr hat))
          refine (append_rune w v2 (acc ++ [32]) ((C : Int)) (by omega) (by omega) _ HO2.out (by rw [List.length_append, List.length_singleton]; have := HA.out; have := HLEN.out; omega) HB2.out).mono ?_
          rintro e W5 ⟨v5, rfl, hR5, hb5, hk5⟩
          have HO5 := Aside0.mk hR5
          have HB5 := Aside0.mk hb5
          have HIT5 := Aside0.mk (hk5 kb _ HIT2.out (iter_ne HO2.out HIT2.out))
          clear hR5 hb5 hk5
          go_wp2_with fail
          go_roundg g1
          case measure => exact Nat.lt_succ_self _
          case rel => exact ⟨pos + n, false, (acc ++ [32]) ++ Lib.encodeRuneZ ((C : Int)), f1, rfl, ⟨by have := HF2.out; rw [if_neg (by rw [hlo]; omega), hfo, hlo] at this; exact this⟩, ⟨by have := HI.out; omega⟩, ⟨by rw [List.length_append]; rw [List.length_append, List.length_singleton]; have := encodeRuneZ_len ((C : Int)); have := HA.out; omega⟩, HO5, HIT5, HB5⟩
        have e5 : ((C : Int) == 65533) = true := beq_iff_eq.2 u3_
        have hlo : low (C : Int) = 65533 := hl0.trans u3_
        have hfo : foldOut true acc = acc ++ [32] := by simp [foldOut, hlen]
        go_wp2_with (first | ((with_reducible refine gate_builtin (b := .append) (xs := #[.tmp 28, .tmp 29]) rfl ?_); at_builtin; refine Kd.R_append (Kd.int .u8) (w0 := w) w.heap.size rfl (.tmp 28) (.tmp 29) 22 5 (.int .u8 0) 1 rfl Tryz.underlying22 info5 rfl (by decide) (by omega) (.slice Ao acc.length co) acc 32 [.int .u8 32] (fun _ => True) (fun _ => False) rfl rfl ?aP (fun _ hk => hk.elim) ?aF ?aO ?aB ?aS ?aL ?_; (case aP => exact rfl); (case aF => exact (fun _ _ => trivial)); (case aO => exact HO1.out); (case aB => exact HB1.out); (case aS => exact (below_size HB1.out)); (case aL => have := HA.out; have := HLEN.out; omega); intro v2 W3 ho hb hgr hat; have HO2 := Aside0.mk ho; have HB2 := Aside0.mk hb; have HIT2 := Aside0.mk (blk_grown HIT1.out hgr (iter_ne HO1.out HIT1.out)); clear ho hb hgr hat))
        refine (Tryz.utf8_DecodeRuneInString (a0.extract pos a0.size) _ (HT.out.below HB2.out).utf).mono ?_
        rintro e W5 ⟨rfl, hb5⟩
        rw [DG1.out, DG2.out]
        have HO5 := Aside0.mk (Kd.R_below HO2.out hb5)
        have HIT5 := Aside0.mk (keep_blk hb5 HIT2.out)
        have HB5 := Aside0.mk (below_step HB2.out hb5)
        clear hb5
        have hsl : (Instr.slice 9 (.string a0) (some (.int .i64 (pos : Int))) (some (.int .i64 ((pos : Int) + (n : Int)))) none).run Tryz.prog W5 = .ok (.string (a0.extract pos (pos + n))) W5 := by
          have := run_slice_string (P := Tryz.prog) W5 9 a0 .i64 .i64 (pos : Int) ((pos : Int) + (n : Int)) Tryz.underlying9 (by omega) (by omega) (by omega)
          rwa [Int.toNat_natCast, show ((pos : Int) + (n : Int)).toNat = pos + n by omega] at this
        go_wp2_with ((with_reducible refine gate_builtin (b := .append) (xs := #[.tmp 48, .tmp 54]) rfl ?_); at_builtin; refine print_append_str (w0 := w) w.heap.size rfl (.tmp 48) (.tmp 54) 22 9 5 rfl Tryz.underlying22 Tryz.underlying9 info5 v2 (acc ++ [32]) (a0.extract pos (pos + n)) rfl ?sx ?sO ?sB ?sS ?sL ?_; (case sx => rfl); (case sO => exact Kd.own_of_R HO5.out); (case sB => exact HB5.out); (case sS => exact below_size HB5.out); (case sL => have hz := ext_size a0 pos (pos + n) n2; rw [List.length_append, List.length_singleton]; have := HA.out; have := HLEN.out; omega); intro v6 W6 ho hb hgr; have HO6 : Aside0 ((Kd.int .u8).R 5 W6 w.heap.size (fun _ => True) v6 ((acc ++ [32]) ++ bytesOf (a0.extract pos (pos + n)))) := ⟨Kd.R_of_own ho (fun _ _ => trivial)⟩; have HB6 := Aside0.mk hb; have HIT6 := Aside0.mk (blk_grown HIT5.out hgr (iter_ne HO5.out HIT5.out)); clear ho hb hgr)
        go_roundg g1
        case measure => exact Nat.lt_succ_self _
        case rel => exact ⟨pos + n, false, (acc ++ [32]) ++ bytesOf (a0.extract pos (pos + n)), f1, rfl, ⟨by have := HF2.out; rw [if_pos hlo, hfo] at this; exact this⟩, ⟨by have := HI.out; omega⟩, ⟨by rw [List.length_append, bytesOf_length, ext_size a0 pos (pos + n) n2]; rw [List.length_append, List.length_singleton]; have := HA.out; omega⟩, HO6, HIT6, HB6⟩
      | false =>
        by_cases u1 : (65 : Int) ≤ (C : Int)
        rotate_left
        · have e3 : decide ((65 : Int) ≤ (C : Int)) = false := decide_eq_false u1
          have e5 : ((C : Int) == 65533) = false := by simp; omega
          have hlo : low (C : Int) = (C : Int) := if_neg (by omega)
          have hfo : foldOut false acc = acc := by simp [foldOut]
          go_wp2_with fail
          refine (append_rune w u3 (acc) ((C : Int)) (by omega) (by omega) _ HO1.out (by have := HA.out; have := HLEN.out; omega) HB1.out).mono ?_
          rintro e W5 ⟨v5, rfl, hR5, hb5, hk5⟩
          have HO5 := Aside0.mk hR5
          have HB5 := Aside0.mk hb5
          have HIT5 := Aside0.mk (hk5 kb _ HIT1.out (iter_ne HO1.out HIT1.out))
          clear hR5 hb5 hk5
          go_wp2_with fail
          go_roundg g1
          case measure => exact Nat.lt_succ_self _
          case rel => exact ⟨pos + n, false, (acc) ++ Lib.encodeRuneZ ((C : Int)), f1, rfl, ⟨by have := HF2.out; rw [if_neg (by rw [hlo]; omega), hfo, hlo] at this; exact this⟩, ⟨by have := HI.out; omega⟩, ⟨by rw [List.length_append]; have := encodeRuneZ_len ((C : Int)); have := HA.out; omega⟩, HO5, HIT5, HB5⟩
        have e3 : decide ((65 : Int) ≤ (C : Int)) = true := decide_eq_true u1
        by_cases u2 : (C : Int) ≤ 90
        · have e4 : decide ((C : Int) ≤ 90) = true := decide_eq_true u2
          have e5 : ((C : Int) + 32 == 65533) = false := by simp; omega
          have hlo : low (C : Int) = (C : Int) + 32 := if_pos ⟨u1, u2⟩
          have hfo : foldOut false acc = acc := by simp [foldOut]
          go_wp2_with fail
          refine (append_rune w u3 (acc) ((C : Int) + 32) (by omega) (by omega) _ HO1.out (by have := HA.out; have := HLEN.out; omega) HB1.out).mono ?_
          rintro e W5 ⟨v5, rfl, hR5, hb5, hk5⟩
          have HO5 := Aside0.mk hR5
          have HB5 := Aside0.mk hb5
          have HIT5 := Aside0.mk (hk5 kb _ HIT1.out (iter_ne HO1.out HIT1.out))
          clear hR5 hb5 hk5
          go_wp2_with fail
          go_roundg g1
          case measure => exact Nat.lt_succ_self _
          case rel => exact ⟨pos + n, false, (acc) ++ Lib.encodeRuneZ ((C : Int) + 32), f1, rfl, ⟨by have := HF2.out; rw [if_neg (by rw [hlo]; omega), hfo, hlo] at this; exact this⟩, ⟨by have := HI.out; omega⟩, ⟨by rw [List.length_append]; have := encodeRuneZ_len ((C : Int) + 32); have := HA.out; omega⟩, HO5, HIT5, HB5⟩
        have e4 : decide ((C : Int) ≤ 90) = false := decide_eq_false u2
        have hl0 : low (C : Int) = (C : Int) := if_neg (by omega)
        by_cases u3_ : (C : Int) = 65533
        rotate_left
        · have e5 : ((C : Int) == 65533) = false := by simpa using u3_
          have hlo : low (C : Int) = (C : Int) := hl0
          have hfo : foldOut false acc = acc := by simp [foldOut]
          go_wp2_with fail
          refine (append_rune w u3 (acc) ((C : Int)) (by omega) (by omega) _ HO1.out (by have := HA.out; have := HLEN.out; omega) HB1.out).mono ?_
          rintro e W5 ⟨v5, rfl, hR5, hb5, hk5⟩
          have HO5 := Aside0.mk hR5
          have HB5 := Aside0.mk hb5
          have HIT5 := Aside0.mk (hk5 kb _ HIT1.out (iter_ne HO1.out HIT1.out))
          clear hR5 hb5 hk5
          go_wp2_with fail
          go_roundg g1
          case measure => exact Nat.lt_succ_self _
          case rel => exact ⟨pos + n, false, (acc) ++ Lib.encodeRuneZ ((C : Int)), f1, rfl, ⟨by have := HF2.out; rw [if_neg (by rw [hlo]; omega), hfo, hlo] at this; exact this⟩, ⟨by have := HI.out; omega⟩, ⟨by rw [List.length_append]; have := encodeRuneZ_len ((C : Int)); have := HA.out; omega⟩, HO5, HIT5, HB5⟩
        have e5 : ((C : Int) == 65533) = true := beq_iff_eq.2 u3_
        have hlo : low (C : Int) = 65533 := hl0.trans u3_
        have hfo : foldOut false acc = acc := by simp [foldOut]
        go_wp2_with fail
        refine (Tryz.utf8_DecodeRuneInString (a0.extract pos a0.size) _ (HT.out.below HB1.out).utf).mono ?_
        rintro e W5 ⟨rfl, hb5⟩
        rw [DG1.out, DG2.out]
        have HO5 := Aside0.mk (Kd.R_below HO1.out hb5)
        have HIT5 := Aside0.mk (keep_blk hb5 HIT1.out)
        have HB5 := Aside0.mk (below_step HB1.out hb5)
        clear hb5
        have hsl : (Instr.slice 9 (.string a0) (some (.int .i64 (pos : Int))) (some (.int .i64 ((pos : Int) + (n : Int)))) none).run Tryz.prog W5 = .ok (.string (a0.extract pos (pos + n))) W5 := by
          have := run_slice_string (P := Tryz.prog) W5 9 a0 .i64 .i64 (pos : Int) ((pos : Int) + (n : Int)) Tryz.underlying9 (by omega) (by omega) (by omega)
          rwa [Int.toNat_natCast, show ((pos : Int) + (n : Int)).toNat = pos + n by omega] at this
        go_wp2_with ((with_reducible refine gate_builtin (b := .append) (xs := #[.tmp 48, .tmp 54]) rfl ?_); at_builtin; refine print_append_str (w0 := w) w.heap.size rfl (.tmp 48) (.tmp 54) 22 9 5 rfl Tryz.underlying22 Tryz.underlying9 info5 u3 (acc) (a0.extract pos (pos + n)) rfl ?sx ?sO ?sB ?sS ?sL ?_; (case sx => rfl); (case sO => exact Kd.own_of_R HO5.out); (case sB => exact HB5.out); (case sS => exact below_size HB5.out); (case sL => have hz := ext_size a0 pos (pos + n) n2; have := HA.out; have := HLEN.out; omega); intro v6 W6 ho hb hgr; have HO6 : Aside0 ((Kd.int .u8).R 5 W6 w.heap.size (fun _ => True) v6 ((acc) ++ bytesOf (a0.extract pos (pos + n)))) := ⟨Kd.R_of_own ho (fun _ _ => trivial)⟩; have HB6 := Aside0.mk hb; have HIT6 := Aside0.mk (blk_grown HIT5.out hgr (iter_ne HO5.out HIT5.out)); clear ho hb hgr)
        go_roundg g1
        case measure => exact Nat.lt_succ_self _
        case rel => exact ⟨pos + n, false, (acc) ++ bytesOf (a0.extract pos (pos + n)), f1, rfl, ⟨by have := HF2.out; rw [if_pos hlo, hfo] at this; exact this⟩, ⟨by have := HI.out; omega⟩, ⟨by rw [List.length_append, bytesOf_length, ext_size a0 pos (pos + n) n2]; have := HA.out; omega⟩, HO6, HIT6, HB6⟩
end Go.Proofs.YtkioddjjfifadaaGreatDoor.P
set_option linter.unusedVariables false
set_option linter.unusedSimpArgs false
namespace Go.Proofs.YtkioddjjfifadaaGreatDoor.P
open Go.RowKit Go.Proofs.YtkioddjjfifadaaGreatDoorW.PrintWords Go.Proofs.YtkioddjjfifadaaGreatDoorW.PrintLast Go.Proofs.YtkioddjjfifadaaGreatDoorW.PrintMore
attribute [local go_sem] max2_int min2_int max_two min_two max_three min_three max_four min_four
theorem R_iterG {α : Type} {d : Kd α} {e B kb p : Nat} {ok : Nat → Prop} {s : ByteArray} {w : World} {v : Value} {xs : List α} (h : d.R e w B ok v xs) (hb : w.heap[kb]? = some (.stringIter s p)) (p' : Nat) : d.R e (w.iterAt kb s p') B ok v xs :=
  Kd.R_mono (Kd.R_move (Kd.R_bound h) (fun k hk => by
    refine Lib.iterAt_other w kb k s p' ?_
    rintro rfl
    obtain ⟨_, _, _, _, _, cells, hc⟩ := hk
    rw [hb] at hc
    cases hc)) (fun _ hk => hk.1)
theorem iter_neG {α : Type} {d : Kd α} {e B kb p : Nat} {ok : Nat → Prop} {s : ByteArray} {w : World} {v : Value} {xs : List α} (h : d.R e w B ok v xs) (hb : w.heap[kb]? = some (.stringIter s p)) : some kb ≠ v.ownBlock := fun e => by
  obtain ⟨inner, ho⟩ := Kd.R_own h
  obtain ⟨cells, hc⟩ := own_typed ho kb e.symm
  rw [hb] at hc
  cases hc
def arcsGo (s : ByteArray) : Nat → Nat → List Int → Int → Int → Option (List Int)
  | 0, _, _, _, _ => none
  | f + 1, pos, l, v, n =>
    if pos < s.size then
      (if ((Utf8.decode s pos).1 : Int) = 46 ∧ 0 < n then arcsGo s f (pos + (Utf8.decode s pos).2) (l ++ [v]) 0 0
       else if ((Utf8.decode s pos).1 : Int) < 48 ∨ 57 < ((Utf8.decode s pos).1 : Int) ∨ (n = 1 ∧ v = 0) then none
       else arcsGo s f (pos + (Utf8.decode s pos).2) l (min (10 * v + (((Utf8.decode s pos).1 : Int) - 48)) 1099511627776) (min (n + 1) 20))
    else some l
def arcsEnd (l : List Int) : List Int × Bool :=
  if (l.length : Int) < 2 then ([], false) else if 2 < rd l 0 then ([], false) else if rd l 0 < 2 then (if 40 ≤ rd l 1 then ([], false) else (l, true)) else (l, true)
def der_arcs.f (a0 : ByteArray) : Option (List Int × Bool) :=
  if a0.size < 8796093022208 then some (match arcsGo (a0 ++ ⟨#[46]⟩) (a0.size + 2) 0 [] 0 0 with | none => ([], false) | some l => arcsEnd l) else none
set_option maxRecDepth 100000 in
set_option maxHeartbeats 8000000 in
theorem der_arcs.calls (a0 : ByteArray) (r1 : List Int) (r2 : Bool) (w : World) (h : der_arcs.f a0 = some (r1, r2)) :
    Calls Tryz.prog 238 #[.string a0] w fun e w' => ∃ v0_ : Value, e = .returned (.tuple #[v0_, .bool r2]) ∧ Kd.R (Kd.int .u64) 278 w' w.heap.size (fun _ => True) v0_ r1 ∧ Below w.heap.size w w' := by
  unfold der_arcs.f at h
  split at h
  case isFalse => cases h
  case isTrue hlen =>
  have h := Option.some.inj h
  have HLEN := Aside0.mk hlen
  have z46 : (⟨#[46]⟩ : ByteArray).size = 1 := rfl
  have hsz : (a0 ++ (⟨#[46]⟩ : ByteArray)).size = a0.size + 1 := by rw [ByteArray.size_append, z46]
  have yy : (9223372036854775807 < a0.size + 1) = False := eq_false (by omega)
  have HB0 := Aside0.mk (below_alloc (Below.refl w.heap.size w) (.stringIter (a0 ++ (⟨#[46]⟩ : ByteArray)) 0))
  have HIT : Aside0 ((w.alloc (.stringIter (a0 ++ (⟨#[46]⟩ : ByteArray)) 0)).heap[w.heap.size]? = some (.stringIter (a0 ++ (⟨#[46]⟩ : ByteArray)) 0)) := ⟨heap_alloc_new w _⟩
  have HE := Aside0.mk h
  have HSZ := Aside0.mk hsz
  clear h hsz hlen
  go_enter Tryz.func238, Tryz.ntmps238
  go_wp2_with fail
  generalize hS : a0 ++ (⟨#[46]⟩ : ByteArray) = S at *
  clear hS yy z46
  go_loopg [4, 5, 6] (S.size + 1) (fun kq v4 v5 v6 w' => ∃ (pos : Nat) (l : List Int) (v n : Int) (f : Nat), v5 = .int .u64 v ∧ v6 = .int .i64 n ∧ Aside0 (arcsGo S f pos l v n = arcsGo S (a0.size + 2) 0 [] 0 0) ∧ Aside0 (pos ≤ S.size ∧ S.size < f + pos ∧ S.size < kq + pos) ∧ Aside0 (l.length ≤ pos) ∧
    Aside0 (0 ≤ v ∧ v ≤ 1099511627776 ∧ 0 ≤ n ∧ n ≤ 20) ∧ Aside0 ((Kd.int .u64).R 278 w' w.heap.size (fun _ => True) v4 l) ∧ Aside0 (w'.heap[w.heap.size]? = some (.stringIter S pos)) ∧ Aside0 (Below w.heap.size w w'))
  case atStart => exact ⟨0, [], 0, 0, a0.size + 2, rfl, rfl, ⟨rfl⟩, ⟨⟨Nat.zero_le _, by have := HSZ.out; omega, by omega⟩⟩, ⟨Nat.zero_le _⟩, ⟨by decide⟩, ⟨Kd.R_nil _ _ _ _ _⟩, HIT, HB0⟩
  case round =>
    clear HB0 HIT
    obtain ⟨pos, l, v, n, f, rfl, rfl, HF, HI, HA, HV, HO, HIT, HB⟩ := hrel
    cases gk with
    | zero => exact absurd HI.out (by omega)
    | succ g1 =>
      obtain ⟨f1, rfl⟩ : ∃ f1, f = f1 + 1 := ⟨f - 1, by have := HI.out; omega⟩
      by_cases hp : pos < S.size
      rotate_left
      · have he : pos = S.size := by have := HI.out; omega
        have HR : Aside0 (arcsGo S (a0.size + 2) 0 [] 0 0 = some l) := ⟨by have := HF.out; rw [arcsGo, if_neg hp] at this; exact this.symm⟩
        have hE := HE.out
        rw [HR.out] at hE
        have HE2 : Aside0 (arcsEnd l = (r1, r2)) := ⟨hE⟩
        have hnx0 : ∀ ty, (Instr.next (.pointer (some ⟨w.heap.size, 0, none⟩)) true ty).run Tryz.prog wr = _ := fun ty => Lib.run_next_end_at wr w.heap.size S pos ty HIT.out (by omega)
        obtain ⟨Ao, co, hu⟩ := Kd.R_slice HO.out
        subst hu
        have HC := Aside0.mk (Kd.R_reads' HO.out).2.2
        have hnx := hnx0
        clear hnx0 hE
        by_cases hl : (l.length : Int) < 2
        · have e1 : decide ((l.length : Int) < 2) = true := decide_eq_true hl
          have HX : Aside0 (([], false) = (r1, r2)) := ⟨by have := HE2.out; rw [arcsEnd, if_pos hl] at this; exact this⟩
          clear hl
          go_wp2_with fail
          go_ret2
          obtain ⟨rfl, rfl⟩ := Prod.mk.inj (HX.out)
          exact ⟨_, rfl, Kd.R_nil _ _ _ _ _, HB.out⟩
        have e1 : decide ((l.length : Int) < 2) = false := decide_eq_false hl
        have p244 : 0 ≤ (0 : Int) := (by omega)
        have q244 : 0 < (l.length : Int) := by omega
        obtain ⟨ad244, e244, hx244_0⟩ := Kd.at_int HC.out 0 p244 q244
        cases e244
        have qi244 : (0 < l.length) = True := eq_true (by omega)
        (try rw [show ((0 : Int)).toNat = 0 from rfl] at hx244_0)
        (try rw [Addr.add_zero'] at hx244_0)
        replace p244 := eq_true p244
        replace q244 := eq_true q244
        by_cases h2 : 2 < rd l 0
        · have e2 : decide (2 < rd l 0) = true := decide_eq_true h2
          have HX : Aside0 (([], false) = (r1, r2)) := ⟨by have := HE2.out; rw [arcsEnd, if_neg hl, if_pos h2] at this; exact this⟩
          clear h2
          clear hl
          go_wp2_with fail
          go_ret2
          obtain ⟨rfl, rfl⟩ := Prod.mk.inj (HX.out)
          exact ⟨_, rfl, Kd.R_nil _ _ _ _ _, HB.out⟩
        have e2 : decide (2 < rd l 0) = false := decide_eq_false h2
        by_cases h3 : rd l 0 < 2
        rotate_left
        · have e3 : decide (rd l 0 < 2) = false := decide_eq_false h3
          have HX : Aside0 ((l, true) = (r1, r2)) := ⟨by have := HE2.out; rw [arcsEnd, if_neg hl, if_neg h2, if_neg h3] at this; exact this⟩
          clear h2 h3
          clear hl
          go_wp2_with fail
          go_ret2
          obtain ⟨rfl, rfl⟩ := Prod.mk.inj (HX.out)
          exact ⟨_, rfl, HO.out, HB.out⟩
        have e3 : decide (rd l 0 < 2) = true := decide_eq_true h3
        have p245 : 0 ≤ (1 : Int) := (by omega)
        have q245 : 1 < (l.length : Int) := by omega
        obtain ⟨ad245, e245, hx245_0⟩ := Kd.at_int HC.out 1 p245 q245
        obtain rfl : ad244 = ad245 := (by injection e245)
        (try simp only [show (1 : Int).toNat = 1 from rfl, Nat.reduceMul, Nat.reduceEqDiff, Go.Addr.add, ↓reduceIte] at hx245_0)
        have qi245 : (1 < l.length) = True := eq_true (by omega)
        (try rw [show ((1 : Int)).toNat = 1 from rfl] at hx245_0)
        replace p245 := eq_true p245
        replace q245 := eq_true q245
        by_cases h4 : 40 ≤ rd l 1
        rotate_left
        · have e4 : decide (40 ≤ rd l 1) = false := decide_eq_false h4
          have HX : Aside0 ((l, true) = (r1, r2)) := ⟨by have := HE2.out; rw [arcsEnd, if_neg hl, if_neg h2, if_pos h3, if_neg h4] at this; exact this⟩
          clear h2 h3 h4
          clear hl
          go_wp2_with fail
          go_ret2
          obtain ⟨rfl, rfl⟩ := Prod.mk.inj (HX.out)
          exact ⟨_, rfl, HO.out, HB.out⟩
        have e4 : decide (40 ≤ rd l 1) = true := decide_eq_true h4
        have HX : Aside0 (([], false) = (r1, r2)) := ⟨by have := HE2.out; rw [arcsEnd, if_neg hl, if_neg h2, if_pos h3, if_pos h4] at this; exact this⟩
        clear h2 h3 h4
        clear hl
        go_wp2_with fail
        go_ret2
        obtain ⟨rfl, rfl⟩ := Prod.mk.inj (HX.out)
        exact ⟨_, rfl, Kd.R_nil _ _ _ _ _, HB.out⟩
      have hnx0 : ∀ ty, (Instr.next (.pointer (some ⟨w.heap.size, 0, none⟩)) true ty).run Tryz.prog wr = _ := fun ty => Lib.run_next_any_at wr w.heap.size S pos ty HIT.out hp
      obtain ⟨n1, n2, n4⟩ := decode_width S pos hp
      have hle := decode_le S pos
      have hf := HF.out
      rw [arcsGo, if_pos hp] at hf
      have HO1 := Aside0.mk (R_iterG HO.out HIT.out (pos + (Utf8.decode S pos).2))
      have HIT1 := Aside0.mk (Lib.iterAt_heap wr w.heap.size S pos (pos + (Utf8.decode S pos).2) HIT.out)
      have HB1 := Aside0.mk (Lib.below_iterAt HB.out (Nat.le_refl _) S (pos + (Utf8.decode S pos).2))
      have hnx := hnx0
      clear HF HO HIT HB hnx0
      generalize wr.iterAt w.heap.size S (pos + (Utf8.decode S pos).2) = W2 at *
      generalize hc : (Utf8.decode S pos).1 = C at *
      generalize hn : (Utf8.decode S pos).2 = m at *
      have HFF := Aside0.mk hf
      clear hc hn hf
      have hv0 := HV.out.1
      have hv1 := HV.out.2.1
      have hn0 := HV.out.2.2.1
      have hn2 := HV.out.2.2.2
      obtain ⟨Ao, co, hu⟩ := Kd.R_slice HO1.out
      subst hu
      by_cases h46 : (C : Int) = 46
      · have e1 : ((C : Int) == 46) = true := beq_iff_eq.2 h46
        by_cases hn3 : 0 < n
        · have e2 : decide (0 < n) = true := decide_eq_true hn3
          clear hv0 hv1 hn0 hn2
          go_wp2_with ((with_reducible refine gate_builtin (b := .append) (xs := #[.tmp 32, .tmp 34]) rfl ?_); at_builtin; refine Kd.R_append (Kd.int .u64) (w0 := w) w.heap.size rfl (.tmp 32) (.tmp 34) 277 278 (.int .u64 0) 8 rfl Tryz.underlying277 info278 rfl (by decide) (by omega) (.slice Ao l.length co) l v [.int .u64 v] (fun _ => True) (fun _ => False) rfl rfl ?aP (fun _ hk => hk.elim) ?aF ?aO ?aB ?aS ?aL ?_; (case aP => exact rfl); (case aF => exact (fun _ _ => trivial)); (case aO => exact HO1.out); (case aB => exact HB1.out); (case aS => exact (below_size HB1.out)); (case aL => have := HA.out; have := HI.out; have := HLEN.out; have := HSZ.out; omega); intro v2 W3 ho hb hgr hat; have HO2 := Aside0.mk ho; have HB2 := Aside0.mk hb; have HIT2 := Aside0.mk (blk_grown HIT1.out hgr (iter_neG HO1.out HIT1.out)); clear ho hb hgr hat)
          go_roundg g1
          case measure => exact Nat.lt_succ_self _
          case rel => exact ⟨pos + m, l ++ [v], 0, 0, f1, rfl, rfl, ⟨by have := HFF.out; rw [if_pos ⟨h46, hn3⟩] at this; exact this⟩, ⟨by have := HI.out; omega⟩, ⟨by rw [List.length_append, List.length_singleton]; have := HA.out; omega⟩, ⟨by decide⟩, HO2, HIT2, HB2⟩
        have e2 : decide (0 < n) = false := decide_eq_false hn3
        have e3 : decide ((C : Int) < 48) = true := decide_eq_true (by omega)
        have HR : Aside0 (arcsGo S (a0.size + 2) 0 [] 0 0 = none) := ⟨by have := HFF.out; rw [if_neg (fun q => hn3 q.2), if_pos (Or.inl (by omega))] at this; exact this.symm⟩
        clear hv0 hv1 hn0 hn2
        go_wp2_with fail
        go_ret2
        have hE := HE.out
        rw [HR.out] at hE
        obtain ⟨rfl, rfl⟩ := Prod.mk.inj hE
        exact ⟨_, rfl, Kd.R_nil _ _ _ _ _, HB1.out⟩
      have e1 : ((C : Int) == 46) = false := by simpa using h46
      by_cases h48 : (C : Int) < 48
      · have e3 : decide ((C : Int) < 48) = true := decide_eq_true h48
        have HR : Aside0 (arcsGo S (a0.size + 2) 0 [] 0 0 = none) := ⟨by have := HFF.out; rw [if_neg (fun q => h46 q.1), if_pos (Or.inl h48)] at this; exact this.symm⟩
        clear hv0 hv1 hn0 hn2
        go_wp2_with fail
        go_ret2
        have hE := HE.out
        rw [HR.out] at hE
        obtain ⟨rfl, rfl⟩ := Prod.mk.inj hE
        exact ⟨_, rfl, Kd.R_nil _ _ _ _ _, HB1.out⟩
      have e3 : decide ((C : Int) < 48) = false := decide_eq_false h48
      by_cases h57 : 57 < (C : Int)
      · have e4 : decide (57 < (C : Int)) = true := decide_eq_true h57
        have HR : Aside0 (arcsGo S (a0.size + 2) 0 [] 0 0 = none) := ⟨by have := HFF.out; rw [if_neg (fun q => h46 q.1), if_pos (Or.inr (Or.inl h57))] at this; exact this.symm⟩
        clear hv0 hv1 hn0 hn2
        go_wp2_with fail
        go_ret2
        have hE := HE.out
        rw [HR.out] at hE
        obtain ⟨rfl, rfl⟩ := Prod.mk.inj hE
        exact ⟨_, rfl, Kd.R_nil _ _ _ _ _, HB1.out⟩
      have e4 : decide (57 < (C : Int)) = false := decide_eq_false h57
      by_cases hq : n = 1 ∧ v = 0
      · have e5 : (n == 1) = true := beq_iff_eq.2 hq.1
        have e6 : (v == 0) = true := beq_iff_eq.2 hq.2
        have HR : Aside0 (arcsGo S (a0.size + 2) 0 [] 0 0 = none) := ⟨by have := HFF.out; rw [if_neg (fun q => h46 q.1), if_pos (Or.inr (Or.inr hq))] at this; exact this.symm⟩
        clear hv0 hv1 hn0 hn2 hq
        go_wp2_with fail
        go_ret2
        have hE := HE.out
        rw [HR.out] at hE
        obtain ⟨rfl, rfl⟩ := Prod.mk.inj hE
        exact ⟨_, rfl, Kd.R_nil _ _ _ _ _, HB1.out⟩
      have HN : Aside0 (arcsGo S f1 (pos + m) l (min (10 * v + ((C : Int) - 48)) 1099511627776) (min (n + 1) 20) = arcsGo S (a0.size + 2) 0 [] 0 0) := ⟨by have := HFF.out; rw [if_neg (fun q => h46 q.1), if_neg (fun q => by rcases q with q | q | q; exact h48 q; exact h57 q; exact hq q)] at this; exact this⟩
      have h48' : (48 : Int) ≤ (C : Int) := by omega
      have h57' : (C : Int) ≤ 57 := by omega
      have hm0 : 0 ≤ (C : Int) - 48 := by omega
      have hm1 : (C : Int) - 48 ≤ 9 := by omega
      have hk0 : 0 ≤ 10 * v + ((C : Int) - 48) := by omega
      have hk1 : 10 * v + ((C : Int) - 48) ≤ 10995116277769 := by omega
      have HN0 : Aside0 (0 ≤ min (10 * v + ((C : Int) - 48)) 1099511627776 ∧ min (10 * v + ((C : Int) - 48)) 1099511627776 ≤ 1099511627776 ∧ 0 ≤ min (n + 1) 20 ∧ min (n + 1) 20 ≤ 20) := ⟨by omega⟩
      have u1 : IntKind.u64.wrap (10 * v) = 10 * v := by simp [IntKind.wrap, show IntKind.u64.signed = false from rfl, show IntKind.u64.bits = 64 from rfl]; omega
      have u2 : IntKind.i32.wrap ((C : Int) - 48) = (C : Int) - 48 := by simp [IntKind.wrap, show IntKind.i32.signed = true from rfl, show IntKind.i32.bits = 32 from rfl]; omega
      have u3 : IntKind.u64.wrap ((C : Int) - 48) = (C : Int) - 48 := by simp [IntKind.wrap, show IntKind.u64.signed = false from rfl, show IntKind.u64.bits = 64 from rfl]; omega
      have u4 : IntKind.u64.wrap (10 * v + ((C : Int) - 48)) = 10 * v + ((C : Int) - 48) := by simp [IntKind.wrap, show IntKind.u64.signed = false from rfl, show IntKind.u64.bits = 64 from rfl]; omega
      have u5 : wrap64 (n + 1) = n + 1 := by unfold wrap64; omega
      by_cases q5 : n = 1
      rotate_left
      · have e5 : (n == 1) = false := by simpa using q5
        clear hq q5 hv0 hv1 hn0 hn2 h48 h57
        go_wp2_with fail
        all_goals
          clear u1 u2 u3 u4 u5
          go_roundg g1
          case measure => exact Nat.lt_succ_self _
          case rel => exact ⟨pos + m, l, _, _, f1, rfl, rfl, ⟨(congr (congrArg (arcsGo S f1 (pos + m) l) (by omega)) (by omega)).trans HN.out⟩, ⟨by have := HI.out; omega⟩, ⟨by have := HA.out; omega⟩, ⟨by have := HV.out; omega⟩, HO1, HIT1, HB1⟩
      have e5 : (n == 1) = true := beq_iff_eq.2 q5
      have e6 : (v == 0) = false := by simpa using (fun q => hq ⟨q5, q⟩ : ¬ v = 0)
      clear hq q5 hv0 hv1 hn0 hn2 h48 h57
      go_wp2_with fail
      all_goals
        clear u1 u2 u3 u4 u5
        go_roundg g1
        case measure => exact Nat.lt_succ_self _
        case rel => exact ⟨pos + m, l, _, _, f1, rfl, rfl, ⟨(congr (congrArg (arcsGo S f1 (pos + m) l) (by omega)) (by omega)).trans HN.out⟩, ⟨by have := HI.out; omega⟩, ⟨by have := HA.out; omega⟩, ⟨by have := HV.out; omega⟩, HO1, HIT1, HB1⟩
end Go.Proofs.YtkioddjjfifadaaGreatDoor.P
namespace Go.Proofs.YtkioddjjfifadaaGreatDoor.P
open Go.RowKit Go.Proofs.YtkioddjjfifadaaGreatDoorW.PrintWords Go.Proofs.YtkioddjjfifadaaGreatDoorW.PrintLast Go.Proofs.YtkioddjjfifadaaGreatDoorW.PrintMore
attribute [local go_sem] max2_int min2_int max_two min_two max_three min_three max_four min_four
set_option linter.unusedVariables false
set_option linter.unusedSimpArgs false
mutual
def der_PutOid.l0 : Nat → List Int → List Int → Int → Int → Option (List Int × Int)
  | 0, _, _, _, _ => none
  | k + 1, x4, x18, x19, x20 => if x20 < x19 then (if 0 ≤ x20 then (if x20 < (x18.length : Int) then (if (rd x18 x20) > 2147483647 then (some (([] : List Int), 3)) else (der_PutOid.l0 k x4 x18 x19 (wrap64 (x20 + 1)))) else (none)) else (none)) else (if 0 < (x4.length : Int) then (if 1 < (x4.length : Int) then ((der_seven.f k (IntKind.u64.wrap ((IntKind.u64.wrap (40 * (rd x4 0))) + (rd x4 1)))).bind fun t318 => (if 2 ≤ (x4.length : Int) then ((some (x4.drop 2 : List Int)).bind fun y321 => (der_PutOid.l1 k t318 y321 (y321.length : Int) 0)) else (none))) else (none)) else (none))
def der_PutOid.l1 : Nat → List Int → List Int → Int → Int → Option (List Int × Int)
  | 0, _, _, _, _ => none
  | k + 1, x8, x37, x38, x39 => if x39 < x38 then (if 0 ≤ x39 then (if x39 < (x37.length : Int) then ((der_seven.f k (rd x37 x39)).bind fun t326 => (if x8.length + t326.length < 140737488355328 then (der_PutOid.l1 k (x8 ++ t326) x37 x38 (wrap64 (x39 + 1))) else (none))) else (none)) else (none)) else (some (x8, 0))
end
def der_PutOid.f (k : Nat) (a0 : ByteArray) : Option (List Int × Int) := (der_arcs.f a0).bind fun bt311 => (if bt311.2 = true then (der_PutOid.l0 k bt311.1 bt311.1 (bt311.1.length : Int) 0) else (some (([] : List Int), 6)))
def der_PutOid.T10 : Bool × List (List Nat × List Nat) := (true, [([], []), ([0], [0]), ([1], [1]), ([2], [2]), ([], []), ([4], [4]), ([5], [5]), ([3, 6], [3, 6]), ([7], [7]), ([8, 8, 0, 1, 2, 3, 4, 5, 6, 7, 8], [8])])
def der_PutOid.B10 : List Nat := [0, 1, 3, 7, 0, 16, 48, 127, 255, 511]
theorem der_PutOid.tab10 : rtab .any (opsOf Tryz.f199 10) = der_PutOid.T10 := by kernel_rfl
theorem der_PutOid.bits10 : waitsOk der_PutOid.T10.2 der_PutOid.B10 = true := by kernel_rfl
set_option maxHeartbeats 8000000 in
set_option maxRecDepth 100000 in
theorem der_PutOid.calls (k : Nat) (a0 : ByteArray) (r1 : List Int) (r2 : Int) (w : World) (h : der_PutOid.f k a0 = some (r1, r2)) :
    Calls Tryz.prog 199 #[.string a0] w fun e w' => ∃ v0_ : Value, e = .returned (.tuple #[v0_, .int .i64 r2]) ∧ Kd.R (Kd.int .u8) 5 w' w.heap.size (fun _ => True) v0_ r1 ∧ Below w.heap.size w w' := by
  have HB := Aside0.mk (Below.refl w.heap.size w)
  have H : ((der_arcs.f a0).bind fun bt311 => (if bt311.2 = true then (der_PutOid.l0 k bt311.1 bt311.1 (bt311.1.length : Int) 0) else (some (([] : List Int), 6)))) = some (r1, r2) := h
  clear h
  replace H := Option.bind_eq_some_iff.mp H
  obtain ⟨⟨t311, t312⟩, A20, H⟩ := H
  try dsimp only at H
  have A2 := Aside0.mk A20
  clear A20
  by_cases c3 : t312 = true
  rotate_left
  · replace c3 := Bool.eq_false_iff.mpr c3
    subst c3
    have H1 : (some (([] : List Int), 6)) = some (r1, r2) := by rw [if_neg (show ¬ (false = true) by decide)] at H; exact H
    clear H
    have H := H1
    clear H1
    simp only [Option.some.injEq, Prod.mk.injEq] at H
    obtain ⟨rfl, rfl⟩ := H
    go_enter Tryz.func199, Tryz.ntmps199
    go_wp2_with (first | ((with_reducible refine gate_callee (f := 238) rfl ?_); refine goesL_ (some 13) rfl rfl Tryz.func238 (by kernel_rfl) rfl #[.string a0] rfl (by (try simp only [List.map_toArray, List.map_cons, List.map_nil]); first | done | rfl | (simp only [List.length_drop, List.length_take]; rfl)) ?_; (with_reducible refine (der_arcs.calls a0 t311 false _ A2.out).mono ?_); rintro e w25 ⟨v313, rfl, ho0, hb⟩; refine ⟨_, rfl, ?_⟩; have n0_ := Aside0.mk (Kd.R_lower ho0 (below_size (bU HB.out))); have n1_ := Aside0.mk (below_step (bU HB.out) hb); clear HB; have HO314 := n0_; have HB := n1_; clear n0_ n1_; (try clear hb); (try clear hb2); (try clear hk); (try clear hi); (try clear ho0)))
    go_ret2
    exact ⟨_, by first | rfl | (simp [errW_none, errW_some] <;> rfl), by first | exact Kd.R_nil _ _ _ _ _ | exact Kd.N_nil _ _ _ _ _ | exact Kd.V_nil _ _ _ _ _ | exact Kd.Q_nil _ _ _ _ _ | exact Kd.S_nil _ _ _ _ _, bU HB.out⟩
  subst c3
  have H1 : (der_PutOid.l0 k t311 t311 (t311.length : Int) 0) = some (r1, r2) := by rw [if_pos rfl] at H; exact H
  clear H
  have H := H1
  clear H1
  have H' := Aside0.mk H
  clear H
  go_enter Tryz.func199, Tryz.ntmps199
  go_wp2_with (first | ((with_reducible refine gate_callee (f := 238) rfl ?_); refine goesL_ (some 13) rfl rfl Tryz.func238 (by kernel_rfl) rfl #[.string a0] rfl (by (try simp only [List.map_toArray, List.map_cons, List.map_nil]); first | done | rfl | (simp only [List.length_drop, List.length_take]; rfl)) ?_; (with_reducible refine (der_arcs.calls a0 t311 true _ A2.out).mono ?_); rintro e w4 ⟨v313, rfl, ho0, hb⟩; refine ⟨_, rfl, ?_⟩; have n0_ := Aside0.mk (Kd.R_lower ho0 (below_size (bU HB.out))); have n1_ := Aside0.mk (below_step (bU HB.out) hb); clear HB; have HO314 := n0_; have HB := n1_; clear n0_ n1_; (try clear hb); (try clear hb2); (try clear hk); (try clear hi); (try clear ho0); obtain ⟨Ao5, co5, eo5⟩ := Kd.R_slice HO314.out; subst eo5))
  go_loopg [20] k (fun kq v20 w' => ∃ (x20_1 : Int), v20 = .int .i64 x20_1 ∧ Aside0 (der_PutOid.l0 kq t311 t311 (t311.length : Int) x20_1 = some (r1, r2)) ∧ Aside0 (kq ≤ k) ∧ Aside0 (Kd.R (Kd.int .u64) 278 w' w.heap.size (fun _ => True) (.slice Ao5 t311.length co5) t311) ∧ Aside0 (Kd.R (Kd.int .u64) 278 w' w.heap.size (fun _ => True) (.slice Ao5 t311.length co5) t311) ∧ Aside0 (Below w.heap.size w w'))
  case atStart => exact ⟨(0), (by first | rfl | (simp; done) | (simp [*]; done)), H', ⟨Nat.le_refl _⟩, ⟨Kd.R_u HO314.out⟩, ⟨Kd.R_u HO314.out⟩, ⟨bU HB.out⟩⟩
  case round =>
    clear H'
    try clear c1
    try clear c2
    try clear p2
    try clear c3
    obtain ⟨x20_1, rfl, HA, HK1, HO_4, HO_18, HB⟩ := hrel
    cases gk with
    | zero => exact absurd HA.out (by simp [der_PutOid.l0])
    | succ k1 =>
      have H := HA.out
      clear HA
      simp only [der_PutOid.l0] at H
      by_cases c6 : x20_1 < (t311.length : Int)
      · rw [if_pos c6] at H
        have c6b0 : decide (x20_1 < (t311.length : Int)) = true := decide_eq_true c6
        clear c6
        by_cases c7 : 0 ≤ x20_1
        rotate_left
        · rw [if_neg c7] at H
          exact absurd H (by simp)
        rw [if_pos c7] at H
        have c7b0 : decide (0 ≤ x20_1) = true := decide_eq_true c7
        clear c7
        by_cases c8 : x20_1 < (t311.length : Int)
        rotate_left
        · rw [if_neg c8] at H
          exact absurd H (by simp)
        rw [if_pos c8] at H
        have c8b0 : decide (x20_1 < (t311.length : Int)) = true := decide_eq_true c8
        clear c8
        by_cases c9 : (rd t311 x20_1) > 2147483647
        · rw [if_pos c9] at H
          have c9b0 : decide (2147483647 < (rd t311 x20_1)) = true := decide_eq_true c9
          clear c9
          simp only [Option.some.injEq, Prod.mk.injEq] at H
          obtain ⟨rfl, rfl⟩ := H
          have p315 : 0 ≤ (x20_1 : Int) := of_decide_eq_true (by first | (with_reducible assumption) | assumption)
          have q315 : x20_1 < (t311.length : Int) := of_decide_eq_true (by first | (with_reducible assumption) | assumption)
          obtain ⟨ad315, e315, hx315_0⟩ := Kd.at_int (Kd.R_reads' HO_18.out).2.2 x20_1 p315 q315
          cases e315
          replace p315 := eq_true p315
          replace q315 := eq_true q315
          go_wp2
          go_ret2
          exact ⟨_, by first | rfl | (simp [errW_none, errW_some] <;> rfl), by first | exact Kd.R_nil _ _ _ _ _ | exact Kd.N_nil _ _ _ _ _ | exact Kd.V_nil _ _ _ _ _ | exact Kd.Q_nil _ _ _ _ _ | exact Kd.S_nil _ _ _ _ _, bU HB.out⟩
        rw [if_neg c9] at H
        have c9b0 : decide (2147483647 < (rd t311 x20_1)) = false := decide_eq_false c9
        clear c9
        have H' := Aside0.mk H
        clear H
        have p315 : 0 ≤ (x20_1 : Int) := of_decide_eq_true (by first | (with_reducible assumption) | assumption)
        have q315 : x20_1 < (t311.length : Int) := of_decide_eq_true (by first | (with_reducible assumption) | assumption)
        obtain ⟨ad315, e315, hx315_0⟩ := Kd.at_int (Kd.R_reads' HO_18.out).2.2 x20_1 p315 q315
        cases e315
        replace p315 := eq_true p315
        replace q315 := eq_true q315
        go_wp2
        go_roundg k1
        case measure => have := HK1.out; omega
        case rel => exact ⟨(wrap64 (x20_1 + 1)), (by first | rfl | (simp; done) | (simp [*]; done)), H', ⟨by have := HK1.out; omega⟩, ⟨Kd.R_u HO_4.out⟩, ⟨Kd.R_u HO_18.out⟩, ⟨bU HB.out⟩⟩
      rw [if_neg c6] at H
      have c6b0 : decide (x20_1 < (t311.length : Int)) = false := decide_eq_false c6
      clear c6
      by_cases c10 : 0 < (t311.length : Int)
      rotate_left
      · rw [if_neg c10] at H
        exact absurd H (by simp)
      rw [if_pos c10] at H
      have c10b0 : decide (0 < (t311.length : Int)) = true := decide_eq_true c10
      have c10b1 : decide (0 < t311.length) = true := decide_eq_true (by omega)
      clear c10
      by_cases c11 : 1 < (t311.length : Int)
      rotate_left
      · rw [if_neg c11] at H
        exact absurd H (by simp)
      rw [if_pos c11] at H
      have c11b0 : decide (1 < (t311.length : Int)) = true := decide_eq_true c11
      have c11b1 : decide (1 < t311.length) = true := decide_eq_true (by omega)
      clear c11
      replace H := Option.bind_eq_some_iff.mp H
      obtain ⟨t318, A120, H⟩ := H
      try dsimp only at H
      have A12 := Aside0.mk A120
      clear A120
      by_cases c13 : 2 ≤ (t311.length : Int)
      rotate_left
      · rw [if_neg c13] at H
        exact absurd H (by simp)
      rw [if_pos c13] at H
      have c13b0 := eq_true c13
      have c13b1 : decide (2 ≤ (t311.length : Int)) = true := decide_eq_true c13
      clear c13
      obtain ⟨y321, hy321⟩ : ∃ y_ : List Int, y_ = (t311.drop 2) := ⟨_, rfl⟩
      replace H : (der_PutOid.l1 k1 t318 y321 (y321.length : Int) 0) = some (r1, r2) := by first | (rw [hy321]; with_reducible exact H) | (have H2_ := (Option.bind_some _ _).symm.trans H; rw [hy321]; with_reducible exact H2_) | (have H2_ := (Option.bind_some _ _).symm.trans H; with_reducible exact H2_) | with_reducible exact H | (rw [hy321]; exact H) | exact H
      have Ny321 := Aside0.mk hy321
      clear hy321
      have H' := Aside0.mk H
      clear H
      try go_wp2
      have n0_ := Aside0.mk (Kd.R_drew HO_4.out)
      have n1_ := Aside0.mk (Kd.R_drew HO_18.out)
      have n2_ := Aside0.mk (below_drew1 HB.out)
      clear HO_4
      clear HO_18
      clear HB
      have HO_4 := n0_
      have HO_18 := n1_
      have HB := n2_
      clear n0_ n1_ n2_
      have p316 : 0 ≤ (0 : Int) := (by omega)
      have q316 : 0 < (t311.length : Int) := of_decide_eq_true (by first | (with_reducible assumption) | assumption)
      obtain ⟨ad316, e316, hx316_0⟩ := Kd.at_int (Kd.R_reads' HO_4.out).2.2 0 p316 q316
      cases e316
      have qi316 : (0 < t311.length) = True := eq_true (by omega)
      (try rw [show ((0 : Int)).toNat = 0 from rfl] at hx316_0)
      (try rw [Addr.add_zero'] at hx316_0)
      replace p316 := eq_true p316
      replace q316 := eq_true q316
      have p317 : 0 ≤ (1 : Int) := (by omega)
      have q317 : 1 < (t311.length : Int) := of_decide_eq_true (by first | (with_reducible assumption) | assumption)
      obtain ⟨ad317, e317, hx317_0⟩ := Kd.at_int (Kd.R_reads' HO_4.out).2.2 1 p317 q317
      obtain rfl : ad316 = ad317 := (by injection e317)
      (try simp only [show (1 : Int).toNat = 1 from rfl, Nat.reduceMul, Nat.reduceEqDiff, Go.Addr.add, ↓reduceIte] at hx317_0)
      have qi317 : (1 < t311.length) = True := eq_true (by omega)
      (try rw [show ((1 : Int)).toNat = 1 from rfl] at hx317_0)
      replace p317 := eq_true p317
      replace q317 := eq_true q317
      refine start_ (n := 10) (S := fun w' => w'.cell? ad316 = some (.int .u64 (rd t311 0)) ∧ w'.cell? ⟨ad316.block, ad316.off + 1, none⟩ = some (.int .u64 (rd t311 1))) (ds := []) #[false, false, false, false, false, false, false, false, false, false] (by kernel_rfl) rfl rfl ⟨hx316_0, hx317_0⟩ (fun hHeld => ?_); refine with_tabW der_PutOid.tab10 der_PutOid.bits10 (fun HT_ HW_ => ?_)
      generalize wr.drew = w14 at HO_4 HO_18 HB hx316_0 hx317_0 hHeld ⊢
      refine pure_ (i := 0) (N := some 27) (v := ?_) (a' := ?_) #[true, false, false, false, false, false, false, false, false, false] rfl rfl (any_of HT_.out (by kernel_rfl)) (fun _ _ _ h => h) (Or.inl ⟨by rfl, ?_⟩) ?_ ?_; rotate_left; (intro w'; go_simp; with_reducible rfl); rotate_left; (simp only [Act.put, List.setIfInBounds_toArray, List.set_cons_zero, List.set_cons_succ, i64_w, i32_w]; rfl)
      refine pure_ (i := 1) (N := some 28) (v := ?_) (a' := ?_) #[true, true, false, false, false, false, false, false, false, false] rfl rfl (any_of HT_.out (by kernel_rfl)) (fun _ _ _ h => h) (Or.inl ⟨by rfl, ?_⟩) ?_ ?_; rotate_left; (intro w'; go_simp; with_reducible rfl); rotate_left; (simp only [Act.put, List.setIfInBounds_toArray, List.set_cons_zero, List.set_cons_succ, i64_w, i32_w]; rfl)
      refine pure_ (i := 4) (N := some 31) (v := ?_) (a' := ?_) #[true, true, false, false, true, false, false, false, false, false] rfl rfl (any_of HT_.out (by kernel_rfl)) (fun _ _ _ h => h) (Or.inl ⟨by rfl, ?_⟩) ?_ ?_; rotate_left; (intro w'; go_simp; with_reducible rfl); rotate_left; (simp only [Act.put, List.setIfInBounds_toArray, List.set_cons_zero, List.set_cons_succ, i64_w, i32_w]; rfl)
      refine pure_ (i := 5) (N := some 32) (v := ?_) (a' := ?_) #[true, true, false, false, true, true, false, false, false, false] rfl rfl (any_of HT_.out (by kernel_rfl)) (fun _ _ _ h => h) (Or.inl ⟨by rfl, ?_⟩) ?_ ?_; rotate_left; (intro w'; go_simp; with_reducible rfl); rotate_left; (simp only [Act.put, List.setIfInBounds_toArray, List.set_cons_zero, List.set_cons_succ, i64_w, i32_w]; rfl)
      refine take_ (i := 2) (N := some 29) (v := ?_) (a' := ?_) #[true, true, true, false, true, true, false, false, false, false] rfl rfl (take_ofW HT_.out HW_.out (by kernel_rfl)) (fun _ _ _ h => h) (Or.inl ⟨by rfl, ?_⟩) hHeld ?_ ?_; rotate_left; (rintro w' ⟨s0, s1⟩; go_simp; with_reducible rfl); rotate_left; (simp only [Act.put, List.setIfInBounds_toArray, List.set_cons_zero, List.set_cons_succ, i64_w, i32_w]; rfl)
      refine pure_ (i := 3) (N := some 30) (v := ?_) (a' := ?_) #[true, true, true, true, true, true, false, false, false, false] rfl rfl (any_of HT_.out (by kernel_rfl)) (fun _ _ _ h => h) (Or.inl ⟨by rfl, ?_⟩) ?_ ?_; rotate_left; (intro w'; go_simp; with_reducible rfl); rotate_left; (simp only [Act.put, List.setIfInBounds_toArray, List.set_cons_zero, List.set_cons_succ, i64_w, i32_w]; rfl)
      refine take_ (i := 6) (N := some 33) (v := ?_) (a' := ?_) #[true, true, true, true, true, true, true, false, false, false] rfl rfl (take_ofW HT_.out HW_.out (by kernel_rfl)) (fun _ _ _ h => h) (Or.inl ⟨by rfl, ?_⟩) hHeld ?_ ?_; rotate_left; (rintro w' ⟨s0, s1⟩; go_simp; with_reducible rfl); rotate_left; (simp only [Act.put, List.setIfInBounds_toArray, List.set_cons_zero, List.set_cons_succ, i64_w, i32_w]; rfl)
      refine pure_ (i := 7) (N := some 34) (v := ?_) (a' := ?_) #[true, true, true, true, true, true, true, true, false, false] rfl rfl (any_of HT_.out (by kernel_rfl)) (fun _ _ _ h => h) (Or.inl ⟨by rfl, ?_⟩) ?_ ?_; rotate_left; (intro w'; go_simp; with_reducible rfl); rotate_left; (simp only [Act.put, List.setIfInBounds_toArray, List.set_cons_zero, List.set_cons_succ, i64_w, i32_w]; rfl)
      refine one_ (i := 8) (N := some 35) #[true, true, true, true, true, true, true, true, true, false] rfl rfl (one_of HT_.out (by kernel_rfl)) (by decide) (fun K hK => ?_)
      refine goes_ Tryz.func219 (by kernel_rfl) rfl #[.int .u64 (IntKind.u64.wrap ((IntKind.u64.wrap (40 * (rd t311 0))) + (rd t311 1)))] (by rfl) rfl rfl (by (try simp only [List.map_toArray, List.map_cons, List.map_nil]); first | done | rfl | (simp only [List.length_drop, List.length_take]; rfl)) ?_
      with_reducible refine (der_seven.calls k1 (IntKind.u64.wrap ((IntKind.u64.wrap (40 * (rd t311 0))) + (rd t311 1))) t318 _ A12.out).mono ?_
      rintro e w15 ⟨v319, rfl, ho0, hb⟩
      have HS0_ := (hb.cell (World.block_lt_of_cell? _ _ (hHeld.1))).trans (hHeld.1)
      have HS1_ := (hb.cell (World.block_lt_of_cell? _ _ (hHeld.2))).trans (hHeld.2)
      refine ⟨_, rfl, ?_⟩
      have n0_ := Aside0.mk (Kd.R_below (Kd.R_u HO_4.out) hb)
      have n1_ := Aside0.mk (Kd.R_below (Kd.R_u HO_18.out) hb)
      have n2_ := Aside0.mk (Kd.R_lower ho0 (below_size (bU HB.out)))
      have n3_ := Aside0.mk (below_step (bU HB.out) hb)
      clear HO_4
      clear HO_18
      clear HB
      have HO_4 := n0_
      have HO_18 := n1_
      have HO320 := n2_
      have HB := n3_
      clear n0_ n1_ n2_ n3_
      (try clear hb)
      (try clear hb2)
      (try clear hk)
      (try clear hi)
      (try clear ho0)
      refine hK.out _ _ ⟨HS0_, HS1_⟩ (fun hHeld => ?_)
      clear hK K
      refine norm_ (a' := ?_) ?_ ?_; rotate_left; (show Act.put _ (some 35) _ = _; simp only [Act.put, List.setIfInBounds_toArray, List.set_cons_zero, List.set_cons_succ, i64_w, i32_w]; rfl)
      refine pure_ (i := 9) (N := some 8) (v := ?_) (a' := ?_) #[true, true, true, true, true, true, true, true, true, true] rfl rfl (any_of HT_.out (by kernel_rfl)) (fun _ _ _ h => h) (Or.inl ⟨by rfl, ?_⟩) ?_ ?_; rotate_left; (intro w'; go_simp; with_reducible rfl); rotate_left; (simp only [Act.put, List.setIfInBounds_toArray, List.set_cons_zero, List.set_cons_succ, i64_w, i32_w]; rfl)
      refine done_ (done_of HT_.out (by kernel_rfl)) ?_
      have q16 : (2 : Int) ≤ ((t311.length : Int) : Int) := of_decide_eq_true (by first | (with_reducible assumption) | assumption)
      obtain ⟨i016, hi016, _, hsz16, _⟩ := info_parts info278
      have hroom16 : t311.length ≤ co5 := (Kd.R_reads' HO_4.out).2.1
      have hC16 : Kd.C (Kd.int .u64) _ (some ad316) t311.length t311 := (Kd.R_reads' HO_4.out).2.2
      have hcut16 := cut_from (P := Tryz.prog) 277 278 .i64 Tryz.underlying277 hi016 1 hsz16 (some ad316) t311.length co5 2 (by omega) q16
      have hr16 := Kd.C_drop (m := (2 : Int).toNat) (c := co5) hC16 (by omega) hroom16
      obtain ⟨A16, hA16⟩ : ∃ A1, A1 = (if co5 = (2 : Int).toNat then (some ad316) else ((some ad316) : Option Addr).map (·.add ((2 : Int).toNat * 1))) := ⟨_, rfl⟩
      obtain ⟨c16, hc16⟩ : ∃ c1, c1 = co5 - (2 : Int).toNat := ⟨_, rfl⟩
      have hy16 : y321.length = t311.length - (2 : Int).toNat := (by rw [Ny321.out, List.length_drop] <;> omega)
      rw [show (t311).drop (2 : Int).toNat = y321 from Ny321.out.symm] at hr16
      replace hr16 : Kd.C (Kd.int .u64) _ A16 y321.length y321 := (by rw [hA16]; exact hr16)
      rw [← hy16, ← hA16, ← hc16] at hcut16
      have HDR : Aside0 (∀ W' : World, Kd.C (Kd.int .u64) W' (some ad316) t311.length t311 → Kd.C (Kd.int .u64) W' A16 y321.length y321) := ⟨fun W' hC_ => by
        have h_ := Kd.C_drop (m := (2 : Int).toNat) (c := co5) hC_ (by omega) hroom16
        rw [show (t311).drop (2 : Int).toNat = y321 from Ny321.out.symm] at h_
        rw [hA16]; exact h_⟩
      have HR324 := Aside0.mk hr16
      have HC324 := Aside0.mk (show y321.length ≤ c16 from by rw [hy16, hc16]; exact Nat.sub_le_sub_right hroom16 _)
      clear hr16 hC16 hroom16 hi016 hsz16 hc16
      have KY16 := Aside0.mk hy16
      have KA16 := Aside0.mk hA16
      clear hy16 hA16
      have KL16 := Aside0.mk (show 2 ≤ t311.length from by omega)
      replace q16 := eq_true q16
      try go_wp2
      go_loopg [8, 39] k1 (fun kq v8 v39 w' => ∃ (x8_2 : List Int) (x39_2 : Int), v39 = .int .i64 x39_2 ∧ Aside0 (der_PutOid.l1 kq x8_2 y321 (y321.length : Int) x39_2 = some (r1, r2)) ∧ Aside0 (kq ≤ k1) ∧ Aside0 (Kd.R (Kd.int .u8) 5 w' w.heap.size (fun _ => True) v8 x8_2) ∧ Aside0 (Below w.heap.size w w') ∧ Aside0 (Kd.R (Kd.int .u64) 278 w' w.heap.size (fun _ => True) (.slice (some ad316) t311.length co5) t311))
      case atStart => exact ⟨(t318), (0), (by first | rfl | (simp; done) | (simp [*]; done)), H', ⟨Nat.le_refl _⟩, ⟨Kd.R_u HO320.out⟩, ⟨bU HB.out⟩, ⟨Kd.R_u (Kd.R_mono HO_4.out (fun _ _ => trivial))⟩⟩
      case round =>
        clear H'
        try clear c1
        try clear q1
        try clear c2
        try clear p2
        try clear c3
        try clear p3
        try clear q3
        try clear hx3
        try clear qi3
        try clear c6
        try clear c6b0
        try clear p6
        try clear c7
        try clear c7b0
        try clear c8
        try clear c8b0
        try clear c9
        try clear c9b0
        try clear c10
        try clear c10b0
        try clear c10b1
        try clear c11
        try clear c11b0
        try clear c11b1
        try clear c13
        try clear c13b0
        try clear c13b1
        try clear c16
        try clear q16
        try clear hx315_0
        try clear hx316_0
        try clear hx317_0
        try clear p2
        try clear p315
        try clear p316
        try clear p317
        try clear q16
        try clear q315
        try clear q316
        try clear q317
        obtain ⟨x8_2, x39_2, rfl, HA, HK2, HO_8, HB, HO_4⟩ := hrel
        cases gk with
        | zero => exact absurd HA.out (by simp [der_PutOid.l1])
        | succ k2 =>
          have H := HA.out
          clear HA
          simp only [der_PutOid.l1] at H
          by_cases c17 : x39_2 < (y321.length : Int)
          rotate_left
          · rw [if_neg c17] at H
            have c17b0 : decide (x39_2 < (y321.length : Int)) = false := decide_eq_false c17
            clear c17
            simp only [Option.some.injEq, Prod.mk.injEq] at H
            obtain ⟨rfl, rfl⟩ := H
            go_wp2
            go_ret2
            exact ⟨_, by first | rfl | (simp [errW_none, errW_some] <;> rfl), by (with_reducible repeat (first | apply Kd.R_alloc | apply Kd.R_drewN | apply Kd.R_drew)); exact HO_8.out, bU HB.out⟩
          rw [if_pos c17] at H
          have c17b0 : decide (x39_2 < (y321.length : Int)) = true := decide_eq_true c17
          clear c17
          by_cases c18 : 0 ≤ x39_2
          rotate_left
          · rw [if_neg c18] at H
            exact absurd H (by simp)
          rw [if_pos c18] at H
          have c18b0 : decide (0 ≤ x39_2) = true := decide_eq_true c18
          clear c18
          by_cases c19 : x39_2 < (y321.length : Int)
          rotate_left
          · rw [if_neg c19] at H
            exact absurd H (by simp)
          rw [if_pos c19] at H
          have c19b0 : decide (x39_2 < (y321.length : Int)) = true := decide_eq_true c19
          clear c19
          replace H := Option.bind_eq_some_iff.mp H
          obtain ⟨t326, A200, H⟩ := H
          try dsimp only at H
          have A20 := Aside0.mk A200
          clear A200
          by_cases c21 : x8_2.length + t326.length < 140737488355328
          rotate_left
          · rw [if_neg c21] at H
            exact absurd H (by simp)
          rw [if_pos c21] at H
          have LMc21 := Aside0.mk c21
          clear c21
          obtain ⟨y329, hy329⟩ : ∃ y_ : List Int, y_ = (x8_2 ++ t326) := ⟨_, rfl⟩
          replace H : (der_PutOid.l1 k2 y329 y321 (y321.length : Int) (wrap64 (x39_2 + 1))) = some (r1, r2) := by first | (rw [hy329]; with_reducible exact H) | (have H2_ := (Option.bind_some _ _).symm.trans H; rw [hy329]; with_reducible exact H2_) | (have H2_ := (Option.bind_some _ _).symm.trans H; with_reducible exact H2_) | with_reducible exact H | (rw [hy329]; exact H) | exact H
          have Ny329 := Aside0.mk hy329
          clear hy329
          have H' := Aside0.mk H
          clear H
          have p325 : 0 ≤ (x39_2 : Int) := of_decide_eq_true (by first | (with_reducible assumption) | assumption)
          have q325 : x39_2 < (y321.length : Int) := of_decide_eq_true (by first | (with_reducible assumption) | assumption)
          obtain ⟨ad325, e325, hx325_0⟩ := Kd.at_int (HDR.out _ (Kd.R_reads' HO_4.out).2.2) x39_2 p325 q325
          cases e325
          replace p325 := eq_true p325
          replace q325 := eq_true q325
          go_wp2_with (first | ((with_reducible refine gate_callee (f := 219) rfl ?_); refine goesL_ (some 45) rfl rfl Tryz.func219 (by kernel_rfl) rfl #[.int .u64 (rd y321 x39_2)] rfl (by (try simp only [List.map_toArray, List.map_cons, List.map_nil]); first | done | rfl | (simp only [List.length_drop, List.length_take]; rfl)) ?_; (with_reducible refine (der_seven.calls k2 (rd y321 x39_2) t326 _ A20.out).mono ?_); rintro e w22 ⟨v327, rfl, ho0, hb⟩; refine ⟨_, rfl, ?_⟩; have n0_ := Aside0.mk (Kd.R_elder' (Kd.R_u HO_8.out) (Kd.R_base ho0) hb); have n1_ := Aside0.mk (Kd.R_lower (Kd.R_new' ho0 (Kd.R_lt (Kd.R_u HO_8.out))) (below_size (bU HB.out))); have n2_ := Aside0.mk (below_step (bU HB.out) hb); have n9_ := Aside0.mk (Kd.R_below (Kd.R_u HO_4.out) hb); clear HO_4; have HO_4 := n9_; clear n9_; clear HO_8; clear HB; have HO_8 := n0_; have HO328 := n1_; have HB := n2_; clear n0_ n1_ n2_; (try clear hb); (try clear hb2); (try clear hk); (try clear hi); (try clear ho0); obtain ⟨Ao24, co24, eo24⟩ := Kd.R_slice HO328.out; subst eo24) | ((with_reducible refine gate_builtin (b := .append) (xs := #[.tmp 43, .tmp 45]) rfl ?_); at_builtin; refine Kd.R_append_rows (Kd.int .u8) (w0 := w) w.heap.size rfl (.tmp 43) (.tmp 45) 22 5 (.int .u8 0) 1 rfl Tryz.underlying22 info5 rfl (by decide) (by omega) u8 x8_2 t326 _ _ _ (fun k_ => some k_ ≠ (.slice Ao24 t326.length co24 : Value).ownBlock) (fun _ => False) rfl rfl ?aO ?aR (fun _ _ h => h) (fun _ h => h.elim) ?aF ?aB ?aS ?aL ?_; (case aR => exact Kd.C_u (Kd.R_reads' HO328.out).2.2); (case aB => exact (bU HB.out)); (case aF => exact (fun k_ hk => Kd.fresh' (Kd.R_lt (Kd.R_u HO328.out)) k_ hk)); (case aO => exact (Kd.R_u (Kd.R_mono HO_8.out (fun _ hk => hk.2)))); (case aS => exact (below_size (bU HB.out))); (case aL => have := LMc21.out; omega); intro v330 w23 ho hb hg hat; rw [← Ny329.out] at ho; have n9_ := Aside0.mk (Kd.R_mono (Kd.R_grown (Kd.R_apart' (Kd.R_u HO_4.out) (Kd.R_typed (Kd.R_u (Kd.R_mono HO_8.out (fun _ hk => hk.2)))) (by decide)) hg (fun _ hk => hk.2)) (fun _ _ => trivial)); clear HO_4; have HO_4 := n9_; clear n9_; have n0_ := Aside0.mk (Kd.R_after (ok := (fun _ => True)) (Kd.R_u HO328.out) hg hat); have n1_ := Aside0.mk (hb); have n2_ := Aside0.mk (ho); clear HO328; clear HB; clear HO_8; have HO328 := n0_; have HB := n1_; have HO331 := n2_; clear n0_ n1_ n2_; clear ho hb hg hat))
          go_roundg k2
          case measure => have := HK1.out; have := HK2.out; omega
          case rel => exact ⟨(y329), (wrap64 (x39_2 + 1)), (by first | rfl | (simp; done) | (simp [*]; done)), H', ⟨by have := HK1.out; have := HK2.out; omega⟩, ⟨Kd.R_u (Kd.R_mono HO331.out (fun _ hk => trivial))⟩, ⟨bU HB.out⟩, ⟨Kd.R_u HO_4.out⟩⟩
end Go.Proofs.YtkioddjjfifadaaGreatDoor.P
namespace Go.Proofs.YtkioddjjfifadaaGreatDoor.P
open Go.RowKit Go.Proofs.YtkioddjjfifadaaGreatDoorW.PrintWords Go.Proofs.YtkioddjjfifadaaGreatDoorW.PrintLast Go.Proofs.YtkioddjjfifadaaGreatDoorW.PrintMore
attribute [local go_sem] max2_int min2_int max_two min_two max_three min_three max_four min_four
set_option linter.unusedVariables false
set_option linter.unusedSimpArgs false
mutual
def chirographref04_arcs.l0 : Nat → ByteArray → List Int → Int → Int → Option (List Int × Bool)
  | 0, _, _, _, _ => none
  | k + 1, x0, x4, x5, x6 => if x6 ≤ (x0.size : Int) then (if x6 < (x0.size : Int) then (if 0 ≤ x6 then (chirographref04_arcs.j1 k x0 x4 x5 x6 ((bt x0 x6) != 46)) else (none)) else (chirographref04_arcs.j1 k x0 x4 x5 x6 false)) else (if (x4.length : Int) ≥ 2 then (if 0 < (x4.length : Int) then (if (rd x4 0) ≤ 2 then (if (rd x4 0) = 2 then (some (x4, true)) else (if 1 < (x4.length : Int) then (some (x4, decide ((rd x4 1) < 40))) else (none))) else (some (x4, false))) else (none)) else (some (x4, false)))
def chirographref04_arcs.j1 : Nat → ByteArray → List Int → Int → Int → Bool → Option (List Int × Bool)
  | 0, _, _, _, _, _ => none
  | k + 1, x0, x4, x5, x6, x24 => if x24 = true then (if 0 ≤ x6 then (if x6 < (x0.size : Int) then (if (bt x0 x6) < 48 then (some (([] : List Int), false)) else (if (bt x0 x6) > 57 then (some (([] : List Int), false)) else (chirographref04_arcs.l0 k x0 x4 x5 (wrap64 (x6 + 1))))) else (none)) else (none)) else (if x6 = x5 then (chirographref04_arcs.j2 k x0 x4 x5 x6 true) else (if 0 ≤ x5 then (if x5 < (x0.size : Int) then (if (bt x0 x5) = 48 then (chirographref04_arcs.j2 k x0 x4 x5 x6 (decide (x6 > (wrap64 (x5 + 1))))) else (chirographref04_arcs.j2 k x0 x4 x5 x6 false)) else (none)) else (none)))
def chirographref04_arcs.j2 : Nat → ByteArray → List Int → Int → Int → Bool → Option (List Int × Bool)
  | 0, _, _, _, _, _ => none
  | k + 1, x0, x4, x5, x6, x49 => if x49 = true then (some (([] : List Int), false)) else (chirographref04_arcs.l1 k x0 x4 x6 0 x5)
def chirographref04_arcs.l1 : Nat → ByteArray → List Int → Int → Int → Int → Option (List Int × Bool)
  | 0, _, _, _, _, _ => none
  | k + 1, x0, x4, x6, x7, x8 => if x8 < x6 then (if 0 ≤ x8 then (if x8 < (x0.size : Int) then (if (wrap64 ((wrap64 (x7 * 10)) + (((bt x0 x8) - 48) % 256))) > 1099511627776 then (chirographref04_arcs.l1 k x0 x4 x6 1099511627776 (wrap64 (x8 + 1))) else (chirographref04_arcs.l1 k x0 x4 x6 (wrap64 ((wrap64 (x7 * 10)) + (((bt x0 x8) - 48) % 256))) (wrap64 (x8 + 1)))) else (none)) else (none)) else (if x4.length < 17592186044416 then (chirographref04_arcs.l0 k x0 (x4 ++ [x7]) (wrap64 (x6 + 1)) (wrap64 (x6 + 1))) else (none))
end
def chirographref04_arcs.f (k : Nat) (a0 : ByteArray) : Option (List Int × Bool) := chirographref04_arcs.l0 k a0 ([] : List Int) 0 0
end Go.Proofs.YtkioddjjfifadaaGreatDoor.P
namespace Go.Proofs.YtkioddjjfifadaaGreatDoor.P
open Go.RowKit Go.Proofs.YtkioddjjfifadaaGreatDoorW.PrintWords Go.Proofs.YtkioddjjfifadaaGreatDoorW.PrintLast Go.Proofs.YtkioddjjfifadaaGreatDoorW.PrintMore
attribute [local go_sem] max2_int min2_int max_two min_two max_three min_three max_four min_four
set_option linter.unusedVariables false
set_option linter.unusedSimpArgs false
mutual
def chirographref04_PutOid.l0 : Nat → List Int → Int → Option (List Int × Int)
  | 0, _, _ => none
  | k + 1, x4, x6 => if x6 < (x4.length : Int) then (if 0 ≤ x6 then (if (rd x4 x6) > 2147483647 then (some (([] : List Int), 3)) else (chirographref04_PutOid.l0 k x4 (wrap64 (x6 + 1)))) else (none)) else (if 1 < (x4.length : Int) then (if 0 < (x4.length : Int) then (chirographref04_PutOid.l1 k (x4.set (1 : Int).toNat (wrap64 ((rd x4 1) + (wrap64 (40 * (rd x4 0)))))) ([] : List Int) 1) else (none)) else (none))
def chirographref04_PutOid.l1 : Nat → List Int → List Int → Int → Option (List Int × Int)
  | 0, _, _, _ => none
  | k + 1, x4, x7, x8 => if x8 < (x4.length : Int) then (if 0 ≤ x8 then (chirographref04_PutOid.l2 k x4 x7 x8 (([(Int.tmod (rd x4 x8) 128) % 256] : List Int)) (wrap64 (Int.tdiv (rd x4 x8) 128))) else (none)) else (some (x7, 0))
def chirographref04_PutOid.l2 : Nat → List Int → List Int → Int → List Int → Int → Option (List Int × Int)
  | 0, _, _, _, _, _ => none
  | k + 1, x4, x7, x8, x9, x10 => if x10 > 0 then ((some (([(wrap64 ((Int.tmod x10 128) + 128)) % 256] : List Int) : List Int)).bind fun y1009 => (if y1009.length + x9.length < 140737488355328 then (chirographref04_PutOid.l2 k x4 x7 x8 (y1009 ++ x9) (wrap64 (Int.tdiv x10 128))) else (none))) else (if x7.length + x9.length < 140737488355328 then (chirographref04_PutOid.l1 k x4 (x7 ++ x9) (wrap64 (x8 + 1))) else (none))
end
def chirographref04_PutOid.f (k : Nat) (a0 : ByteArray) : Option (List Int × Int) := (chirographref04_arcs.f k a0).bind fun bt996 => (if bt996.2 = true then (chirographref04_PutOid.l0 k bt996.1 0) else (some (([] : List Int), 6)))
end Go.Proofs.YtkioddjjfifadaaGreatDoor.P
namespace Go.Proofs.YtkioddjjfifadaaGreatDoor.P
open Go.RowKit Go.Proofs.YtkioddjjfifadaaGreatDoorW.PrintWords
theorem drop_rdI (l : List Int) (i : Int) (h0 : 0 ≤ i) (h1 : i < (l.length : Int)) : l.drop i.toNat = rd l i :: l.drop (i + 1).toNat := by
  have e : (i + 1).toNat = i.toNat + 1 := by omega
  rw [e, List.drop_eq_getElem_cons (by omega)]
  congr 1
  unfold rd
  rw [List.getD_eq_getElem?_getD, List.getElem?_eq_getElem (by omega), Option.getD_some]
theorem rd_memI (l : List Int) (i : Int) (h0 : 0 ≤ i) (h1 : i < (l.length : Int)) : rd l i ∈ l := by
  have h := drop_rdI l i h0 h1
  exact List.mem_of_mem_drop (h ▸ List.mem_cons_self)
end Go.Proofs.YtkioddjjfifadaaGreatDoor.P
namespace Go.Proofs.YtkioddjjfifadaaGreatDoor.P
open Go.RowKit Go.Proofs.YtkioddjjfifadaaGreatDoorW.PrintWords Go.Proofs.YtkioddjjfifadaaGreatDoorW.PrintLast Go.Proofs.YtkioddjjfifadaaGreatDoorW.PrintMore
attribute [local go_sem] max2_int min2_int max_two min_two max_three min_three max_four min_four
set_option linter.unusedVariables false
set_option linter.unusedSimpArgs false
mutual
def chirographref04_tag.l0 : Nat → List Int → Int → Int → Int → Option (Int × Int × Int × Int)
  | 0, _, _, _, _ => none
  | k + 1, x0, x1, x8, x9 => if x9 < (x0.length : Int) then (if 0 ≤ x9 then (if (wrap64 ((wrap64 (x8 * 128)) + (wrap64 (Int.tmod (rd x0 x9) 128)))) > 268435455 then (chirographref04_tag.j1 k x0 x1 (wrap64 ((wrap64 (x8 * 128)) + (wrap64 (Int.tmod (rd x0 x9) 128)))) x9 true) else (if x9 = (wrap64 (x1 + 1)) then (chirographref04_tag.j1 k x0 x1 (wrap64 ((wrap64 (x8 * 128)) + (wrap64 (Int.tmod (rd x0 x9) 128)))) x9 ((rd x0 x9) == 128)) else (chirographref04_tag.j1 k x0 x1 (wrap64 ((wrap64 (x8 * 128)) + (wrap64 (Int.tmod (rd x0 x9) 128)))) x9 false))) else (none)) else (some (0, 0, 2, (x0.length : Int)))
def chirographref04_tag.j1 : Nat → List Int → Int → Int → Int → Bool → Option (Int × Int × Int × Int)
  | 0, _, _, _, _, _ => none
  | k + 1, x0, x1, x8, x9, x69 => if x69 = true then (some (0, 0, 30, x9)) else (if 0 ≤ x9 then (if x9 < (x0.length : Int) then (if (rd x0 x9) < 128 then (if x8 < 31 then (some (0, 0, 30, x9)) else (some (x8, wrap64 (x9 + 1), 0, 0))) else (chirographref04_tag.l0 k x0 x1 x8 (wrap64 (x9 + 1)))) else (none)) else (none))
end
def chirographref04_tag.f (k : Nat) (l0 : List Int) (a1 : Int) : Option (Int × Int × Int × Int) := if 0 ≤ a1 then (if a1 < (l0.length : Int) then (if (Int.tmod (rd l0 a1) 32) = 31 then (chirographref04_tag.l0 k l0 a1 0 (wrap64 (a1 + 1))) else (if (Int.tmod (rd l0 a1) 32) = 0 then (if (rd l0 a1) < 64 then (some (0, 0, 30, a1)) else (some (wrap64 (Int.tmod (rd l0 a1) 32), wrap64 (a1 + 1), 0, 0))) else (some (wrap64 (Int.tmod (rd l0 a1) 32), wrap64 (a1 + 1), 0, 0)))) else (none)) else (none)
theorem chirographref04_tag.mono_l : ∀ k, (∀ y0 y1 y2 y3, LeO (chirographref04_tag.l0 k y0 y1 y2 y3) (chirographref04_tag.l0 (k + 1) y0 y1 y2 y3)) ∧ (∀ y0 y1 y2 y3 y4, LeO (chirographref04_tag.j1 k y0 y1 y2 y3 y4) (chirographref04_tag.j1 (k + 1) y0 y1 y2 y3 y4))
  | 0 => ⟨fun _ _ _ _ r h => by simp [chirographref04_tag.l0] at h, fun _ _ _ _ _ r h => by simp [chirographref04_tag.j1] at h⟩
  | k + 1 => by
    obtain ⟨ih0, ih1⟩ := chirographref04_tag.mono_l k
    refine ⟨?_, ?_⟩
    · intro y0 y1 y2 y3
      unfold chirographref04_tag.l0
      repeat' first
      | (with_reducible exact ih0 _ _ _ _)
      | (with_reducible exact ih1 _ _ _ _ _)
      | (with_reducible exact LeO.refl _)
      | (with_reducible exact LeO.none _)
      | (with_reducible refine LeO.ite ?_ ?_)
      | (with_reducible refine LeO.bind ?_ (fun _ => ?_))
      | exact ih0 _ _ _ _
      | exact ih1 _ _ _ _ _
      | exact LeO.none _
      | refine LeO.ite ?_ ?_
      | refine LeO.bind ?_ (fun _ => ?_)
    · intro y0 y1 y2 y3 y4
      unfold chirographref04_tag.j1
      repeat' first
      | (with_reducible exact ih0 _ _ _ _)
      | (with_reducible exact ih1 _ _ _ _ _)
      | (with_reducible exact LeO.refl _)
      | (with_reducible exact LeO.none _)
      | (with_reducible refine LeO.ite ?_ ?_)
      | (with_reducible refine LeO.bind ?_ (fun _ => ?_))
      | exact ih0 _ _ _ _
      | exact ih1 _ _ _ _ _
      | exact LeO.none _
      | refine LeO.ite ?_ ?_
      | refine LeO.bind ?_ (fun _ => ?_)
theorem chirographref04_tag.mono : ∀ a0 a1 k, LeO (chirographref04_tag.f k a0 a1) (chirographref04_tag.f (k + 1) a0 a1) := by
  intro a0 a1 k
  obtain ⟨ih0, ih1⟩ := chirographref04_tag.mono_l k
  unfold chirographref04_tag.f
  repeat' first
      | (with_reducible exact ih0 _ _ _ _)
      | (with_reducible exact ih1 _ _ _ _ _)
      | (with_reducible exact LeO.refl _)
      | (with_reducible exact LeO.none _)
      | (with_reducible refine LeO.ite ?_ ?_)
      | (with_reducible refine LeO.bind ?_ (fun _ => ?_))
      | exact ih0 _ _ _ _
      | exact ih1 _ _ _ _ _
      | exact LeO.none _
      | refine LeO.ite ?_ ?_
      | refine LeO.bind ?_ (fun _ => ?_)
set_option maxHeartbeats 8000000 in
set_option maxRecDepth 100000 in
theorem chirographref04_tag.calls (k : Nat) (A0 : Option Addr) (c0 : Nat) (l0 : List Int) (a1 : Int) (r1 : Int) (r2 : Int) (r3 : Int) (r4 : Int) (w : World) (hr0 : Kd.C (Kd.int .u8) w A0 l0.length l0) (hc0 : l0.length ≤ c0) (h : chirographref04_tag.f k l0 a1 = some (r1, r2, r3, r4)) :
    Calls Tryz.prog 196 #[.slice A0 l0.length c0, .int .i64 a1] w fun e w' => e = .returned (.tuple #[.int .i64 r1, .int .i64 r2, .int .i64 r3, .int .i64 r4]) ∧ Drawn0 w w' := by
  have HR0 := Aside0.mk hr0
  have HC0 := Aside0.mk hc0
  clear hr0 hc0
  have H : (if 0 ≤ a1 then (if a1 < (l0.length : Int) then (if (Int.tmod (rd l0 a1) 32) = 31 then (chirographref04_tag.l0 k l0 a1 0 (wrap64 (a1 + 1))) else (if (Int.tmod (rd l0 a1) 32) = 0 then (if (rd l0 a1) < 64 then (some (0, 0, 30, a1)) else (some (wrap64 (Int.tmod (rd l0 a1) 32), wrap64 (a1 + 1), 0, 0))) else (some (wrap64 (Int.tmod (rd l0 a1) 32), wrap64 (a1 + 1), 0, 0)))) else (none)) else (none)) = some (r1, r2, r3, r4) := h
  clear h
  by_cases c3 : 0 ≤ a1
  rotate_left
  · rw [if_neg c3] at H
    exact absurd H (by simp)
  rw [if_pos c3] at H
  have c3b0 : decide (0 ≤ a1) = true := decide_eq_true c3
  clear c3
  by_cases c4 : a1 < (l0.length : Int)
  rotate_left
  · rw [if_neg c4] at H
    exact absurd H (by simp)
  rw [if_pos c4] at H
  have c4b0 : decide (a1 < (l0.length : Int)) = true := decide_eq_true c4
  clear c4
  by_cases c5 : (Int.tmod (rd l0 a1) 32) = 31
  rotate_left
  · rw [if_neg c5] at H
    have c5b0 : ((Int.tmod (rd l0 a1) 32) == 31) = false := beq_eq_false_iff_ne.mpr c5
    have c5b1 : ((Int.tmod (rd l0 a1) 32) != 31) = true := bne_iff_ne.mpr c5
    by_cases c16 : (Int.tmod (rd l0 a1) 32) = 0
    rotate_left
    · rw [if_neg c16] at H
      have c16b0 : ((Int.tmod (rd l0 a1) 32) == 0) = false := beq_eq_false_iff_ne.mpr c16
      have c16b1 : ((Int.tmod (rd l0 a1) 32) != 0) = true := bne_iff_ne.mpr c16
      simp only [Option.some.injEq, Prod.mk.injEq] at H
      obtain ⟨rfl, rfl, rfl, rfl⟩ := H
      have p832 : 0 ≤ (a1 : Int) := of_decide_eq_true (by first | (with_reducible assumption) | assumption)
      have q832 : a1 < (l0.length : Int) := of_decide_eq_true (by first | (with_reducible assumption) | assumption)
      obtain ⟨ad832, e832, hx832_0⟩ := Kd.at_int HR0.out a1 p832 q832
      cases e832
      replace p832 := eq_true p832
      replace q832 := eq_true q832
      have p833 : 0 ≤ (a1 : Int) := of_decide_eq_true (by first | (with_reducible assumption) | assumption)
      have q833 : a1 < (l0.length : Int) := of_decide_eq_true (by first | (with_reducible assumption) | assumption)
      obtain ⟨ad833, e833, hx833_0⟩ := Kd.at_int HR0.out a1 p833 q833
      obtain rfl : ad832 = ad833 := (by injection e833)
      replace p833 := eq_true p833
      replace q833 := eq_true q833
      have p836 : 0 ≤ (a1 : Int) := of_decide_eq_true (by first | (with_reducible assumption) | assumption)
      have q836 : a1 < (l0.length : Int) := of_decide_eq_true (by first | (with_reducible assumption) | assumption)
      obtain ⟨ad836, e836, hx836_0⟩ := Kd.at_int HR0.out a1 p836 q836
      obtain rfl : ad832 = ad836 := (by injection e836)
      replace p836 := eq_true p836
      replace q836 := eq_true q836
      go_enter Tryz.func196, Tryz.ntmps196
      go_wp2
      refine bodyPost_ret (results_list (rs := [.tmp 4, .tmp 5, .tmp 6, .tmp 7]) rfl (by simp) (.tmp (.tmp (.tmp (.tmp .nil))))) rfl ?_
      exact ⟨by first | rfl | (simp; done) | (simp [*]; done), by repeat (first | exact Drawn0.refl _ | apply Drawn0.step)⟩
    rw [if_pos c16] at H
    have c16b0 : ((Int.tmod (rd l0 a1) 32) == 0) = true := beq_iff_eq.mpr c16
    have c16b1 : ((Int.tmod (rd l0 a1) 32) != 0) = false := bne_eq_false_iff_eq.mpr c16
    clear c16
    by_cases c17 : (rd l0 a1) < 64
    · rw [if_pos c17] at H
      have c17b0 : decide ((rd l0 a1) < 64) = true := decide_eq_true c17
      clear c17
      simp only [Option.some.injEq, Prod.mk.injEq] at H
      obtain ⟨rfl, rfl, rfl, rfl⟩ := H
      have p832 : 0 ≤ (a1 : Int) := of_decide_eq_true (by first | (with_reducible assumption) | assumption)
      have q832 : a1 < (l0.length : Int) := of_decide_eq_true (by first | (with_reducible assumption) | assumption)
      obtain ⟨ad832, e832, hx832_0⟩ := Kd.at_int HR0.out a1 p832 q832
      cases e832
      replace p832 := eq_true p832
      replace q832 := eq_true q832
      have p833 : 0 ≤ (a1 : Int) := of_decide_eq_true (by first | (with_reducible assumption) | assumption)
      have q833 : a1 < (l0.length : Int) := of_decide_eq_true (by first | (with_reducible assumption) | assumption)
      obtain ⟨ad833, e833, hx833_0⟩ := Kd.at_int HR0.out a1 p833 q833
      obtain rfl : ad832 = ad833 := (by injection e833)
      replace p833 := eq_true p833
      replace q833 := eq_true q833
      have p834 : 0 ≤ (a1 : Int) := of_decide_eq_true (by first | (with_reducible assumption) | assumption)
      have q834 : a1 < (l0.length : Int) := of_decide_eq_true (by first | (with_reducible assumption) | assumption)
      obtain ⟨ad834, e834, hx834_0⟩ := Kd.at_int HR0.out a1 p834 q834
      obtain rfl : ad832 = ad834 := (by injection e834)
      replace p834 := eq_true p834
      replace q834 := eq_true q834
      go_enter Tryz.func196, Tryz.ntmps196
      go_wp2
      refine bodyPost_ret (results_list (rs := [.tmp 4, .tmp 5, .tmp 6, .tmp 7]) rfl (by simp) (.tmp (.tmp (.tmp (.tmp .nil))))) rfl ?_
      exact ⟨by first | rfl | (simp; done) | (simp [*]; done), by repeat (first | exact Drawn0.refl _ | apply Drawn0.step)⟩
    rw [if_neg c17] at H
    have c17b0 : decide ((rd l0 a1) < 64) = false := decide_eq_false c17
    clear c17
    simp only [Option.some.injEq, Prod.mk.injEq] at H
    obtain ⟨rfl, rfl, rfl, rfl⟩ := H
    have p832 : 0 ≤ (a1 : Int) := of_decide_eq_true (by first | (with_reducible assumption) | assumption)
    have q832 : a1 < (l0.length : Int) := of_decide_eq_true (by first | (with_reducible assumption) | assumption)
    obtain ⟨ad832, e832, hx832_0⟩ := Kd.at_int HR0.out a1 p832 q832
    cases e832
    replace p832 := eq_true p832
    replace q832 := eq_true q832
    have p833 : 0 ≤ (a1 : Int) := of_decide_eq_true (by first | (with_reducible assumption) | assumption)
    have q833 : a1 < (l0.length : Int) := of_decide_eq_true (by first | (with_reducible assumption) | assumption)
    obtain ⟨ad833, e833, hx833_0⟩ := Kd.at_int HR0.out a1 p833 q833
    obtain rfl : ad832 = ad833 := (by injection e833)
    replace p833 := eq_true p833
    replace q833 := eq_true q833
    have p834 : 0 ≤ (a1 : Int) := of_decide_eq_true (by first | (with_reducible assumption) | assumption)
    have q834 : a1 < (l0.length : Int) := of_decide_eq_true (by first | (with_reducible assumption) | assumption)
    obtain ⟨ad834, e834, hx834_0⟩ := Kd.at_int HR0.out a1 p834 q834
    obtain rfl : ad832 = ad834 := (by injection e834)
    replace p834 := eq_true p834
    replace q834 := eq_true q834
    have p835 : 0 ≤ (a1 : Int) := of_decide_eq_true (by first | (with_reducible assumption) | assumption)
    have q835 : a1 < (l0.length : Int) := of_decide_eq_true (by first | (with_reducible assumption) | assumption)
    obtain ⟨ad835, e835, hx835_0⟩ := Kd.at_int HR0.out a1 p835 q835
    obtain rfl : ad832 = ad835 := (by injection e835)
    replace p835 := eq_true p835
    replace q835 := eq_true q835
    go_enter Tryz.func196, Tryz.ntmps196
    go_wp2
    refine bodyPost_ret (results_list (rs := [.tmp 4, .tmp 5, .tmp 6, .tmp 7]) rfl (by simp) (.tmp (.tmp (.tmp (.tmp .nil))))) rfl ?_
    exact ⟨by first | rfl | (simp; done) | (simp [*]; done), by repeat (first | exact Drawn0.refl _ | apply Drawn0.step)⟩
  rw [if_pos c5] at H
  have c5b0 : ((Int.tmod (rd l0 a1) 32) == 31) = true := beq_iff_eq.mpr c5
  have c5b1 : ((Int.tmod (rd l0 a1) 32) != 31) = false := bne_eq_false_iff_eq.mpr c5
  clear c5
  have H' := Aside0.mk H
  clear H
  have p832 : 0 ≤ (a1 : Int) := of_decide_eq_true (by first | (with_reducible assumption) | assumption)
  have q832 : a1 < (l0.length : Int) := of_decide_eq_true (by first | (with_reducible assumption) | assumption)
  obtain ⟨ad832, e832, hx832_0⟩ := Kd.at_int HR0.out a1 p832 q832
  cases e832
  replace p832 := eq_true p832
  replace q832 := eq_true q832
  go_enter Tryz.func196, Tryz.ntmps196
  go_wp2
  go_loopg [8, 9] k (fun kq v8 v9 w' => ∃ (x8_1 : Int) (x9_1 : Int), v8 = .int .i64 x8_1 ∧ v9 = .int .i64 x9_1 ∧ Aside0 (chirographref04_tag.l0 kq l0 a1 x8_1 x9_1 = some (r1, r2, r3, r4)) ∧ Aside0 (kq ≤ k) ∧ Drawn0 w w')
  case atStart => exact ⟨(0), (wrap64 (a1 + 1)), (by first | rfl | (simp; done) | (simp [*]; done)), (by first | rfl | (simp; done) | (simp [*]; done)), H', ⟨Nat.le_refl _⟩, by repeat (first | exact Drawn0.refl _ | apply Drawn0.step)⟩
  case round =>
    clear H'
    try clear c1
    try clear p2
    try clear c3
    try clear c3b0
    try clear c4
    try clear c4b0
    try clear c5
    try clear c5b0
    try clear c5b1
    try clear hx832_0
    try clear p832
    try clear q832
    obtain ⟨x8_1, x9_1, rfl, rfl, HA, HK1, ⟨m1, rfl⟩⟩ := hrel
    cases gk with
    | zero => exact absurd HA.out (by simp [chirographref04_tag.l0])
    | succ k1 =>
      have H := HA.out
      clear HA
      simp only [chirographref04_tag.l0] at H
      by_cases c6 : x9_1 < (l0.length : Int)
      rotate_left
      · rw [if_neg c6] at H
        have c6b0 : decide (x9_1 < (l0.length : Int)) = false := decide_eq_false c6
        clear c6
        simp only [Option.some.injEq, Prod.mk.injEq] at H
        obtain ⟨rfl, rfl, rfl, rfl⟩ := H
        go_wp2
        refine bodyPost_ret (results_list (rs := [.tmp 4, .tmp 5, .tmp 6, .tmp 7]) rfl (by simp) (.tmp (.tmp (.tmp (.tmp .nil))))) rfl ?_
        exact ⟨by first | rfl | (simp; done) | (simp [*]; done), by repeat (first | exact Drawn0.refl _ | apply Drawn0.step)⟩
      rw [if_pos c6] at H
      have c6b0 : decide (x9_1 < (l0.length : Int)) = true := decide_eq_true c6
      clear c6
      by_cases c7 : 0 ≤ x9_1
      rotate_left
      · rw [if_neg c7] at H
        exact absurd H (by simp)
      rw [if_pos c7] at H
      have c7b0 : decide (0 ≤ x9_1) = true := decide_eq_true c7
      clear c7
      have HC8 := Aside0.mk H
      clear H
      have p837 : 0 ≤ (x9_1 : Int) := of_decide_eq_true (by first | (with_reducible assumption) | assumption)
      have q837 : x9_1 < (l0.length : Int) := of_decide_eq_true (by first | (with_reducible assumption) | assumption)
      obtain ⟨ad837, e837, hx837_0⟩ := Kd.at_int HR0.out x9_1 p837 q837
      obtain rfl : ad832 = ad837 := (by injection e837)
      replace p837 := eq_true p837
      replace q837 := eq_true q837
      go_upto_region 10 with (fail)
      go_cut [69] (fun v69 wc => ∃ (kq : Nat) (x69_7 : Bool), v69 = .bool x69_7 ∧ Aside0 (chirographref04_tag.j1 kq l0 a1 (wrap64 ((wrap64 (x8_1 * 128)) + (wrap64 (Int.tmod (rd l0 x9_1) 128)))) x9_1 x69_7 = some (r1, r2, r3, r4)) ∧ Aside0 (kq ≤ k1) ∧ Drawn0 w wc)
      case first =>
        have H := HC8.out
        clear HC8
        by_cases c9 : (wrap64 ((wrap64 (x8_1 * 128)) + (wrap64 (Int.tmod (rd l0 x9_1) 128)))) > 268435455
        · rw [if_pos c9] at H
          have c9b0 : decide (268435455 < (wrap64 ((wrap64 (x8_1 * 128)) + (wrap64 (Int.tmod (rd l0 x9_1) 128))))) = true := decide_eq_true c9
          clear c9
          (first | rw [c9b0] | (simp only [i64_w, i32_w]; rw [c9b0]) | skip)
          have H' := Aside0.mk H
          clear H
          go_wp2
          go_meet
          case rel => exact ⟨_, (true), (by first | rfl | (simp; done) | (simp [*]; done)), H', ⟨by have := HK1.out; first | omega | exact Nat.le_refl _⟩, by repeat (first | exact Drawn0.refl _ | apply Drawn0.step)⟩
        rw [if_neg c9] at H
        have c9b0 : decide (268435455 < (wrap64 ((wrap64 (x8_1 * 128)) + (wrap64 (Int.tmod (rd l0 x9_1) 128))))) = false := decide_eq_false c9
        clear c9
        (first | rw [c9b0] | (simp only [i64_w, i32_w]; rw [c9b0]) | skip)
        by_cases c10 : x9_1 = (wrap64 (a1 + 1))
        rotate_left
        · rw [if_neg c10] at H
          have c10b0 : (x9_1 == (wrap64 (a1 + 1))) = false := beq_eq_false_iff_ne.mpr c10
          have c10b1 : (x9_1 != (wrap64 (a1 + 1))) = true := bne_iff_ne.mpr c10
          have H' := Aside0.mk H
          clear H
          go_wp2
          go_meet
          case rel => exact ⟨_, (false), (by first | rfl | (simp; done) | (simp [*]; done)), H', ⟨by have := HK1.out; first | omega | exact Nat.le_refl _⟩, by repeat (first | exact Drawn0.refl _ | apply Drawn0.step)⟩
        rw [if_pos c10] at H
        have c10b0 : (x9_1 == (wrap64 (a1 + 1))) = true := beq_iff_eq.mpr c10
        have c10b1 : (x9_1 != (wrap64 (a1 + 1))) = false := bne_eq_false_iff_eq.mpr c10
        clear c10
        have H' := Aside0.mk H
        clear H
        have p838 : 0 ≤ (x9_1 : Int) := of_decide_eq_true (by first | (with_reducible assumption) | assumption)
        have q838 : x9_1 < (l0.length : Int) := of_decide_eq_true (by first | (with_reducible assumption) | assumption)
        obtain ⟨ad838, e838, hx838_0⟩ := Kd.at_int HR0.out x9_1 p838 q838
        obtain rfl : ad832 = ad838 := (by injection e838)
        replace p838 := eq_true p838
        replace q838 := eq_true q838
        go_wp2
        go_meet
        case rel => exact ⟨_, (((rd l0 x9_1) == 128)), (by first | rfl | (simp; done) | (simp [*]; done)), H', ⟨by have := HK1.out; first | omega | exact Nat.le_refl _⟩, by repeat (first | exact Drawn0.refl _ | apply Drawn0.step)⟩
      clear HC8
      try clear c1
      try clear p2
      try clear c3
      try clear c3b0
      try clear c4
      try clear c4b0
      try clear c5
      try clear c5b0
      try clear c5b1
      try clear c6
      try clear c6b0
      try clear p6
      try clear c7
      try clear c7b0
      try clear p8
      try clear q8
      try clear hx8
      try clear c9
      try clear c9b0
      try clear c10
      try clear c10b0
      try clear c10b1
      try clear hx832_0
      try clear hx837_0
      try clear hx838_0
      try clear p2
      try clear p832
      try clear p837
      try clear p838
      try clear q832
      try clear q837
      try clear q838
      obtain ⟨kq, x69_7, rfl, HA, HJ7, ⟨mc7, rfl⟩⟩ := hcut
      cases kq with
      | zero => exact absurd HA.out (by simp [chirographref04_tag.j1])
      | succ kj7 =>
        have H := HA.out
        clear HA
        simp only [chirographref04_tag.j1] at H
        by_cases c11 : x69_7 = true
        · subst c11
          have H1 : (some (0, 0, 30, x9_1)) = some (r1, r2, r3, r4) := by rw [if_pos rfl] at H; exact H
          clear H
          have H := H1
          clear H1
          simp only [Option.some.injEq, Prod.mk.injEq] at H
          obtain ⟨rfl, rfl, rfl, rfl⟩ := H
          go_wp2
          refine bodyPost_ret (results_list (rs := [.tmp 4, .tmp 5, .tmp 6, .tmp 7]) rfl (by simp) (.tmp (.tmp (.tmp (.tmp .nil))))) rfl ?_
          exact ⟨by first | rfl | (simp; done) | (simp [*]; done), by repeat (first | exact Drawn0.refl _ | apply Drawn0.step)⟩
        replace c11 := Bool.eq_false_iff.mpr c11
        subst c11
        have H1 : (if 0 ≤ x9_1 then (if x9_1 < (l0.length : Int) then (if (rd l0 x9_1) < 128 then (if (wrap64 ((wrap64 (x8_1 * 128)) + (wrap64 (Int.tmod (rd l0 x9_1) 128)))) < 31 then (some (0, 0, 30, x9_1)) else (some ((wrap64 ((wrap64 (x8_1 * 128)) + (wrap64 (Int.tmod (rd l0 x9_1) 128)))), wrap64 (x9_1 + 1), 0, 0))) else (chirographref04_tag.l0 kj7 l0 a1 (wrap64 ((wrap64 (x8_1 * 128)) + (wrap64 (Int.tmod (rd l0 x9_1) 128)))) (wrap64 (x9_1 + 1)))) else (none)) else (none)) = some (r1, r2, r3, r4) := by rw [if_neg (show ¬ (false = true) by decide)] at H; exact H
        clear H
        have H := H1
        clear H1
        by_cases c12 : 0 ≤ x9_1
        rotate_left
        · rw [if_neg c12] at H
          exact absurd H (by simp)
        rw [if_pos c12] at H
        have c12b0 : decide (0 ≤ x9_1) = true := decide_eq_true c12
        clear c12
        by_cases c13 : x9_1 < (l0.length : Int)
        rotate_left
        · rw [if_neg c13] at H
          exact absurd H (by simp)
        rw [if_pos c13] at H
        have c13b0 : decide (x9_1 < (l0.length : Int)) = true := decide_eq_true c13
        clear c13
        by_cases c14 : (rd l0 x9_1) < 128
        rotate_left
        · rw [if_neg c14] at H
          have c14b0 : decide ((rd l0 x9_1) < 128) = false := decide_eq_false c14
          clear c14
          have H' := Aside0.mk H
          clear H
          have p839 : 0 ≤ (x9_1 : Int) := of_decide_eq_true (by first | (with_reducible assumption) | assumption)
          have q839 : x9_1 < (l0.length : Int) := of_decide_eq_true (by first | (with_reducible assumption) | assumption)
          obtain ⟨ad839, e839, hx839_0⟩ := Kd.at_int HR0.out x9_1 p839 q839
          obtain rfl : ad832 = ad839 := (by injection e839)
          replace p839 := eq_true p839
          replace q839 := eq_true q839
          go_wp2
          go_roundg kj7
          case measure => have := HK1.out; have := HJ7.out; omega
          case rel => exact ⟨((wrap64 ((wrap64 (x8_1 * 128)) + (wrap64 (Int.tmod (rd l0 x9_1) 128))))), (wrap64 (x9_1 + 1)), (by first | rfl | (simp; done) | (simp [*]; done)), (by first | rfl | (simp; done) | (simp [*]; done)), H', ⟨by have := HK1.out; have := HJ7.out; omega⟩, by repeat (first | exact Drawn0.refl _ | apply Drawn0.step)⟩
        rw [if_pos c14] at H
        have c14b0 : decide ((rd l0 x9_1) < 128) = true := decide_eq_true c14
        clear c14
        by_cases c15 : (wrap64 ((wrap64 (x8_1 * 128)) + (wrap64 (Int.tmod (rd l0 x9_1) 128)))) < 31
        rotate_left
        · rw [if_neg c15] at H
          have c15b0 : decide ((wrap64 ((wrap64 (x8_1 * 128)) + (wrap64 (Int.tmod (rd l0 x9_1) 128)))) < 31) = false := decide_eq_false c15
          clear c15
          simp only [Option.some.injEq, Prod.mk.injEq] at H
          obtain ⟨rfl, rfl, rfl, rfl⟩ := H
          have p839 : 0 ≤ (x9_1 : Int) := of_decide_eq_true (by first | (with_reducible assumption) | assumption)
          have q839 : x9_1 < (l0.length : Int) := of_decide_eq_true (by first | (with_reducible assumption) | assumption)
          obtain ⟨ad839, e839, hx839_0⟩ := Kd.at_int HR0.out x9_1 p839 q839
          obtain rfl : ad832 = ad839 := (by injection e839)
          replace p839 := eq_true p839
          replace q839 := eq_true q839
          go_wp2
          refine bodyPost_ret (results_list (rs := [.tmp 4, .tmp 5, .tmp 6, .tmp 7]) rfl (by simp) (.tmp (.tmp (.tmp (.tmp .nil))))) rfl ?_
          exact ⟨by first | rfl | (simp; done) | (simp [*]; done), by repeat (first | exact Drawn0.refl _ | apply Drawn0.step)⟩
        rw [if_pos c15] at H
        have c15b0 : decide ((wrap64 ((wrap64 (x8_1 * 128)) + (wrap64 (Int.tmod (rd l0 x9_1) 128)))) < 31) = true := decide_eq_true c15
        clear c15
        simp only [Option.some.injEq, Prod.mk.injEq] at H
        obtain ⟨rfl, rfl, rfl, rfl⟩ := H
        have p839 : 0 ≤ (x9_1 : Int) := of_decide_eq_true (by first | (with_reducible assumption) | assumption)
        have q839 : x9_1 < (l0.length : Int) := of_decide_eq_true (by first | (with_reducible assumption) | assumption)
        obtain ⟨ad839, e839, hx839_0⟩ := Kd.at_int HR0.out x9_1 p839 q839
        obtain rfl : ad832 = ad839 := (by injection e839)
        replace p839 := eq_true p839
        replace q839 := eq_true q839
        go_wp2
        refine bodyPost_ret (results_list (rs := [.tmp 4, .tmp 5, .tmp 6, .tmp 7]) rfl (by simp) (.tmp (.tmp (.tmp (.tmp .nil))))) rfl ?_
        exact ⟨by first | rfl | (simp; done) | (simp [*]; done), by repeat (first | exact Drawn0.refl _ | apply Drawn0.step)⟩
end Go.Proofs.YtkioddjjfifadaaGreatDoor.P
namespace Go.Proofs.YtkioddjjfifadaaGreatDoor.P
open Go.RowKit Go.Proofs.YtkioddjjfifadaaGreatDoorW.PrintWords Go.Proofs.YtkioddjjfifadaaGreatDoorW.PrintLast Go.Proofs.YtkioddjjfifadaaGreatDoorW.PrintMore
attribute [local go_sem] max2_int min2_int max_two min_two max_three min_three max_four min_four
set_option linter.unusedVariables false
set_option linter.unusedSimpArgs false
mutual
def chirographref04_length.j0 : Nat → List Int → Int → Int → Int → Bool → Option (Int × Int × Int × Int)
  | 0, _, _, _, _, _ => none
  | k + 1, x0, x1, x8, x9, x30 => if x30 = true then (some (0, 0, 31, x1)) else (if x8 > 128 then (if (wrap64 ((wrap64 (x1 + 1)) + (wrap64 (x8 - 128)))) > (x0.length : Int) then (some (0, 0, 2, (x0.length : Int))) else (chirographref04_length.l0 k x0 x1 0 (wrap64 (x8 - 128)) (wrap64 (x1 + 1)))) else (if x8 > (wrap64 ((x0.length : Int) - x9)) then (some (0, 0, 31, x1)) else (some (x8, x9, 0, 0))))
def chirographref04_length.l0 : Nat → List Int → Int → Int → Int → Int → Option (Int × Int × Int × Int)
  | 0, _, _, _, _, _ => none
  | k + 1, x0, x1, x8, x10, x11 => if x11 ≤ (wrap64 (x1 + x10)) then (if 0 ≤ x11 then (if x11 < (x0.length : Int) then (if (wrap64 ((wrap64 (x8 * 256)) + (wrap64 (rd x0 x11)))) > 16777216 then (chirographref04_length.l0 k x0 x1 16777217 x10 (wrap64 (x11 + 1))) else (chirographref04_length.l0 k x0 x1 (wrap64 ((wrap64 (x8 * 256)) + (wrap64 (rd x0 x11)))) x10 (wrap64 (x11 + 1)))) else (none)) else (none)) else (if x8 < 128 then (chirographref04_length.j2 k x0 x1 x8 x10 true) else (if 0 ≤ (wrap64 (x1 + 1)) then (if (wrap64 (x1 + 1)) < (x0.length : Int) then (chirographref04_length.j2 k x0 x1 x8 x10 ((rd x0 (wrap64 (x1 + 1))) == 0)) else (none)) else (none)))
def chirographref04_length.j2 : Nat → List Int → Int → Int → Int → Bool → Option (Int × Int × Int × Int)
  | 0, _, _, _, _, _ => none
  | k + 1, x0, x1, x8, x10, x73 => if x73 = true then (some (0, 0, 31, x1)) else (if x8 > (wrap64 ((x0.length : Int) - (wrap64 ((wrap64 (x1 + 1)) + x10)))) then (some (0, 0, 31, x1)) else (some (x8, wrap64 ((wrap64 (x1 + 1)) + x10), 0, 0)))
end
def chirographref04_length.f (k : Nat) (l0 : List Int) (a1 : Int) : Option (Int × Int × Int × Int) := if a1 ≥ (l0.length : Int) then (some (0, 0, 2, (l0.length : Int))) else (if 0 ≤ a1 then (if a1 < (l0.length : Int) then (if (wrap64 (rd l0 a1)) = 128 then (chirographref04_length.j0 k l0 a1 (wrap64 (rd l0 a1)) (wrap64 (a1 + 1)) true) else (chirographref04_length.j0 k l0 a1 (wrap64 (rd l0 a1)) (wrap64 (a1 + 1)) ((wrap64 (rd l0 a1)) == 255))) else (none)) else (none))
theorem chirographref04_length.mono_l : ∀ k, (∀ y0 y1 y2 y3 y4, LeO (chirographref04_length.j0 k y0 y1 y2 y3 y4) (chirographref04_length.j0 (k + 1) y0 y1 y2 y3 y4)) ∧ (∀ y0 y1 y2 y3 y4, LeO (chirographref04_length.l0 k y0 y1 y2 y3 y4) (chirographref04_length.l0 (k + 1) y0 y1 y2 y3 y4)) ∧ (∀ y0 y1 y2 y3 y4, LeO (chirographref04_length.j2 k y0 y1 y2 y3 y4) (chirographref04_length.j2 (k + 1) y0 y1 y2 y3 y4))
  | 0 => ⟨fun _ _ _ _ _ r h => by simp [chirographref04_length.j0] at h, fun _ _ _ _ _ r h => by simp [chirographref04_length.l0] at h, fun _ _ _ _ _ r h => by simp [chirographref04_length.j2] at h⟩
  | k + 1 => by
    obtain ⟨ih0, ih1, ih2⟩ := chirographref04_length.mono_l k
    refine ⟨?_, ?_, ?_⟩
    · intro y0 y1 y2 y3 y4
      unfold chirographref04_length.j0
      repeat' first
      | (with_reducible exact ih0 _ _ _ _ _)
      | (with_reducible exact ih1 _ _ _ _ _)
      | (with_reducible exact ih2 _ _ _ _ _)
      | (with_reducible exact LeO.refl _)
      | (with_reducible exact LeO.none _)
      | (with_reducible refine LeO.ite ?_ ?_)
      | (with_reducible refine LeO.bind ?_ (fun _ => ?_))
      | exact ih0 _ _ _ _ _
      | exact ih1 _ _ _ _ _
      | exact ih2 _ _ _ _ _
      | exact LeO.none _
      | refine LeO.ite ?_ ?_
      | refine LeO.bind ?_ (fun _ => ?_)
    · intro y0 y1 y2 y3 y4
      unfold chirographref04_length.l0
      repeat' first
      | (with_reducible exact ih0 _ _ _ _ _)
      | (with_reducible exact ih1 _ _ _ _ _)
      | (with_reducible exact ih2 _ _ _ _ _)
      | (with_reducible exact LeO.refl _)
      | (with_reducible exact LeO.none _)
      | (with_reducible refine LeO.ite ?_ ?_)
      | (with_reducible refine LeO.bind ?_ (fun _ => ?_))
      | exact ih0 _ _ _ _ _
      | exact ih1 _ _ _ _ _
      | exact ih2 _ _ _ _ _
      | exact LeO.none _
      | refine LeO.ite ?_ ?_
      | refine LeO.bind ?_ (fun _ => ?_)
    · intro y0 y1 y2 y3 y4
      unfold chirographref04_length.j2
      repeat' first
      | (with_reducible exact ih0 _ _ _ _ _)
      | (with_reducible exact ih1 _ _ _ _ _)
      | (with_reducible exact ih2 _ _ _ _ _)
      | (with_reducible exact LeO.refl _)
      | (with_reducible exact LeO.none _)
      | (with_reducible refine LeO.ite ?_ ?_)
      | (with_reducible refine LeO.bind ?_ (fun _ => ?_))
      | exact ih0 _ _ _ _ _
      | exact ih1 _ _ _ _ _
      | exact ih2 _ _ _ _ _
      | exact LeO.none _
      | refine LeO.ite ?_ ?_
      | refine LeO.bind ?_ (fun _ => ?_)
theorem chirographref04_length.mono : ∀ a0 a1 k, LeO (chirographref04_length.f k a0 a1) (chirographref04_length.f (k + 1) a0 a1) := by
  intro a0 a1 k
  obtain ⟨ih0, ih1, ih2⟩ := chirographref04_length.mono_l k
  unfold chirographref04_length.f
  repeat' first
      | (with_reducible exact ih0 _ _ _ _ _)
      | (with_reducible exact ih1 _ _ _ _ _)
      | (with_reducible exact ih2 _ _ _ _ _)
      | (with_reducible exact LeO.refl _)
      | (with_reducible exact LeO.none _)
      | (with_reducible refine LeO.ite ?_ ?_)
      | (with_reducible refine LeO.bind ?_ (fun _ => ?_))
      | exact ih0 _ _ _ _ _
      | exact ih1 _ _ _ _ _
      | exact ih2 _ _ _ _ _
      | exact LeO.none _
      | refine LeO.ite ?_ ?_
      | refine LeO.bind ?_ (fun _ => ?_)
set_option maxHeartbeats 8000000 in
set_option maxRecDepth 100000 in
theorem chirographref04_length.calls (k : Nat) (A0 : Option Addr) (c0 : Nat) (l0 : List Int) (a1 : Int) (r1 : Int) (r2 : Int) (r3 : Int) (r4 : Int) (w : World) (hr0 : Kd.C (Kd.int .u8) w A0 l0.length l0) (hc0 : l0.length ≤ c0) (h : chirographref04_length.f k l0 a1 = some (r1, r2, r3, r4)) :
    Calls Tryz.prog 197 #[.slice A0 l0.length c0, .int .i64 a1] w fun e w' => e = .returned (.tuple #[.int .i64 r1, .int .i64 r2, .int .i64 r3, .int .i64 r4]) ∧ Drawn0 w w' := by
  have HR0 := Aside0.mk hr0
  have HC0 := Aside0.mk hc0
  clear hr0 hc0
  have H : (if a1 ≥ (l0.length : Int) then (some (0, 0, 2, (l0.length : Int))) else (if 0 ≤ a1 then (if a1 < (l0.length : Int) then (if (wrap64 (rd l0 a1)) = 128 then (chirographref04_length.j0 k l0 a1 (wrap64 (rd l0 a1)) (wrap64 (a1 + 1)) true) else (chirographref04_length.j0 k l0 a1 (wrap64 (rd l0 a1)) (wrap64 (a1 + 1)) ((wrap64 (rd l0 a1)) == 255))) else (none)) else (none))) = some (r1, r2, r3, r4) := h
  clear h
  by_cases c3 : a1 ≥ (l0.length : Int)
  · rw [if_pos c3] at H
    have c3b0 : decide ((l0.length : Int) ≤ a1) = true := decide_eq_true c3
    clear c3
    simp only [Option.some.injEq, Prod.mk.injEq] at H
    obtain ⟨rfl, rfl, rfl, rfl⟩ := H
    go_enter Tryz.func197, Tryz.ntmps197
    go_wp2
    refine bodyPost_ret (results_list (rs := [.tmp 4, .tmp 5, .tmp 6, .tmp 7]) rfl (by simp) (.tmp (.tmp (.tmp (.tmp .nil))))) rfl ?_
    exact ⟨by first | rfl | (simp; done) | (simp [*]; done), by repeat (first | exact Drawn0.refl _ | apply Drawn0.step)⟩
  rw [if_neg c3] at H
  have c3b0 : decide ((l0.length : Int) ≤ a1) = false := decide_eq_false c3
  clear c3
  by_cases c4 : 0 ≤ a1
  rotate_left
  · rw [if_neg c4] at H
    exact absurd H (by simp)
  rw [if_pos c4] at H
  have c4b0 : decide (0 ≤ a1) = true := decide_eq_true c4
  clear c4
  by_cases c5 : a1 < (l0.length : Int)
  rotate_left
  · rw [if_neg c5] at H
    exact absurd H (by simp)
  rw [if_pos c5] at H
  have c5b0 : decide (a1 < (l0.length : Int)) = true := decide_eq_true c5
  clear c5
  have HC6 := Aside0.mk H
  clear H
  have p840 : 0 ≤ (a1 : Int) := of_decide_eq_true (by first | (with_reducible assumption) | assumption)
  have q840 : a1 < (l0.length : Int) := of_decide_eq_true (by first | (with_reducible assumption) | assumption)
  obtain ⟨ad840, e840, hx840_0⟩ := Kd.at_int HR0.out a1 p840 q840
  cases e840
  replace p840 := eq_true p840
  replace q840 := eq_true q840
  go_enter Tryz.func197, Tryz.ntmps197
  go_upto_region 5 with (fail)
  go_cut [30] (fun v30 wc => ∃ (kq : Nat) (x30_5 : Bool), v30 = .bool x30_5 ∧ Aside0 (chirographref04_length.j0 kq l0 a1 (wrap64 (rd l0 a1)) (wrap64 (a1 + 1)) x30_5 = some (r1, r2, r3, r4)) ∧ Aside0 (kq ≤ k) ∧ Drawn0 w wc)
  case first =>
    have H := HC6.out
    clear HC6
    by_cases c7 : (wrap64 (rd l0 a1)) = 128
    rotate_left
    · rw [if_neg c7] at H
      have c7b0 : ((wrap64 (rd l0 a1)) == 128) = false := beq_eq_false_iff_ne.mpr c7
      have c7b1 : ((wrap64 (rd l0 a1)) != 128) = true := bne_iff_ne.mpr c7
      (first | rw [c7b0] | (simp only [i64_w, i32_w]; rw [c7b0]) | skip)
      have H' := Aside0.mk H
      clear H
      go_wp2
      go_meet
      case rel => exact ⟨_, (((wrap64 (rd l0 a1)) == 255)), (by first | rfl | (simp; done) | (simp [*]; done)), H', ⟨by first | omega | exact Nat.le_refl _⟩, by repeat (first | exact Drawn0.refl _ | apply Drawn0.step)⟩
    rw [if_pos c7] at H
    have c7b0 : ((wrap64 (rd l0 a1)) == 128) = true := beq_iff_eq.mpr c7
    have c7b1 : ((wrap64 (rd l0 a1)) != 128) = false := bne_eq_false_iff_eq.mpr c7
    clear c7
    (first | rw [c7b0] | (simp only [i64_w, i32_w]; rw [c7b0]) | skip)
    have H' := Aside0.mk H
    clear H
    go_wp2
    go_meet
    case rel => exact ⟨_, (true), (by first | rfl | (simp; done) | (simp [*]; done)), H', ⟨by first | omega | exact Nat.le_refl _⟩, by repeat (first | exact Drawn0.refl _ | apply Drawn0.step)⟩
  clear HC6
  try clear c1
  try clear p2
  try clear c3
  try clear c3b0
  try clear c4
  try clear c4b0
  try clear c5
  try clear c5b0
  try clear p6
  try clear c7
  try clear c7b0
  try clear c7b1
  try clear hx840_0
  try clear p840
  try clear q840
  obtain ⟨kq, x30_5, rfl, HA, HJ5, ⟨mc5, rfl⟩⟩ := hcut
  cases kq with
  | zero => exact absurd HA.out (by simp [chirographref04_length.j0])
  | succ kj5 =>
    have H := HA.out
    clear HA
    simp only [chirographref04_length.j0] at H
    by_cases c8 : x30_5 = true
    · subst c8
      have H1 : (some (0, 0, 31, a1)) = some (r1, r2, r3, r4) := by rw [if_pos rfl] at H; exact H
      clear H
      have H := H1
      clear H1
      simp only [Option.some.injEq, Prod.mk.injEq] at H
      obtain ⟨rfl, rfl, rfl, rfl⟩ := H
      go_wp2
      refine bodyPost_ret (results_list (rs := [.tmp 4, .tmp 5, .tmp 6, .tmp 7]) rfl (by simp) (.tmp (.tmp (.tmp (.tmp .nil))))) rfl ?_
      exact ⟨by first | rfl | (simp; done) | (simp [*]; done), by repeat (first | exact Drawn0.refl _ | apply Drawn0.step)⟩
    replace c8 := Bool.eq_false_iff.mpr c8
    subst c8
    have H1 : (if (wrap64 (rd l0 a1)) > 128 then (if (wrap64 ((wrap64 (a1 + 1)) + (wrap64 ((wrap64 (rd l0 a1)) - 128)))) > (l0.length : Int) then (some (0, 0, 2, (l0.length : Int))) else (chirographref04_length.l0 kj5 l0 a1 0 (wrap64 ((wrap64 (rd l0 a1)) - 128)) (wrap64 (a1 + 1)))) else (if (wrap64 (rd l0 a1)) > (wrap64 ((l0.length : Int) - (wrap64 (a1 + 1)))) then (some (0, 0, 31, a1)) else (some ((wrap64 (rd l0 a1)), (wrap64 (a1 + 1)), 0, 0)))) = some (r1, r2, r3, r4) := by rw [if_neg (show ¬ (false = true) by decide)] at H; exact H
    clear H
    have H := H1
    clear H1
    by_cases c9 : (wrap64 (rd l0 a1)) > 128
    rotate_left
    · rw [if_neg c9] at H
      have c9b0 : decide (128 < (wrap64 (rd l0 a1))) = false := decide_eq_false c9
      clear c9
      by_cases c21 : (wrap64 (rd l0 a1)) > (wrap64 ((l0.length : Int) - (wrap64 (a1 + 1))))
      rotate_left
      · rw [if_neg c21] at H
        have c21b0 : decide ((wrap64 ((l0.length : Int) - (wrap64 (a1 + 1)))) < (wrap64 (rd l0 a1))) = false := decide_eq_false c21
        clear c21
        simp only [Option.some.injEq, Prod.mk.injEq] at H
        obtain ⟨rfl, rfl, rfl, rfl⟩ := H
        go_wp2
        refine bodyPost_ret (results_list (rs := [.tmp 4, .tmp 5, .tmp 6, .tmp 7]) rfl (by simp) (.tmp (.tmp (.tmp (.tmp .nil))))) rfl ?_
        exact ⟨by first | rfl | (simp; done) | (simp [*]; done), by repeat (first | exact Drawn0.refl _ | apply Drawn0.step)⟩
      rw [if_pos c21] at H
      have c21b0 : decide ((wrap64 ((l0.length : Int) - (wrap64 (a1 + 1)))) < (wrap64 (rd l0 a1))) = true := decide_eq_true c21
      clear c21
      simp only [Option.some.injEq, Prod.mk.injEq] at H
      obtain ⟨rfl, rfl, rfl, rfl⟩ := H
      go_wp2
      refine bodyPost_ret (results_list (rs := [.tmp 4, .tmp 5, .tmp 6, .tmp 7]) rfl (by simp) (.tmp (.tmp (.tmp (.tmp .nil))))) rfl ?_
      exact ⟨by first | rfl | (simp; done) | (simp [*]; done), by repeat (first | exact Drawn0.refl _ | apply Drawn0.step)⟩
    rw [if_pos c9] at H
    have c9b0 : decide (128 < (wrap64 (rd l0 a1))) = true := decide_eq_true c9
    clear c9
    by_cases c10 : (wrap64 ((wrap64 (a1 + 1)) + (wrap64 ((wrap64 (rd l0 a1)) - 128)))) > (l0.length : Int)
    · rw [if_pos c10] at H
      have c10b0 : decide ((l0.length : Int) < (wrap64 ((wrap64 (a1 + 1)) + (wrap64 ((wrap64 (rd l0 a1)) - 128))))) = true := decide_eq_true c10
      clear c10
      simp only [Option.some.injEq, Prod.mk.injEq] at H
      obtain ⟨rfl, rfl, rfl, rfl⟩ := H
      go_wp2
      refine bodyPost_ret (results_list (rs := [.tmp 4, .tmp 5, .tmp 6, .tmp 7]) rfl (by simp) (.tmp (.tmp (.tmp (.tmp .nil))))) rfl ?_
      exact ⟨by first | rfl | (simp; done) | (simp [*]; done), by repeat (first | exact Drawn0.refl _ | apply Drawn0.step)⟩
    rw [if_neg c10] at H
    have c10b0 : decide ((l0.length : Int) < (wrap64 ((wrap64 (a1 + 1)) + (wrap64 ((wrap64 (rd l0 a1)) - 128))))) = false := decide_eq_false c10
    clear c10
    have H' := Aside0.mk H
    clear H
    go_wp2
    go_loopg [8, 11] kj5 (fun kq v8 v11 w' => ∃ (x8_2 : Int) (x11_2 : Int), v8 = .int .i64 x8_2 ∧ v11 = .int .i64 x11_2 ∧ Aside0 (chirographref04_length.l0 kq l0 a1 x8_2 (wrap64 ((wrap64 (rd l0 a1)) - 128)) x11_2 = some (r1, r2, r3, r4)) ∧ Aside0 (kq ≤ kj5) ∧ Drawn0 w w')
    case atStart => exact ⟨(0), (wrap64 (a1 + 1)), (by first | rfl | (simp; done) | (simp [*]; done)), (by first | rfl | (simp; done) | (simp [*]; done)), H', ⟨Nat.le_refl _⟩, by repeat (first | exact Drawn0.refl _ | apply Drawn0.step)⟩
    case round =>
      clear H'
      try clear c1
      try clear p2
      try clear c3
      try clear c3b0
      try clear c4
      try clear c4b0
      try clear c5
      try clear c5b0
      try clear p6
      try clear c7
      try clear c7b0
      try clear c7b1
      try clear c8
      try clear p8
      try clear q8
      try clear hx8
      try clear c9
      try clear c9b0
      try clear c10
      try clear c10b0
      try clear hx840_0
      try clear p2
      try clear p6
      try clear p840
      try clear q840
      obtain ⟨x8_2, x11_2, rfl, rfl, HA, HK2, ⟨m2, rfl⟩⟩ := hrel
      cases gk with
      | zero => exact absurd HA.out (by simp [chirographref04_length.l0])
      | succ k2 =>
        have H := HA.out
        clear HA
        simp only [chirographref04_length.l0] at H
        by_cases c11 : x11_2 ≤ (wrap64 (a1 + (wrap64 ((wrap64 (rd l0 a1)) - 128))))
        · rw [if_pos c11] at H
          have c11b0 : decide (x11_2 ≤ (wrap64 (a1 + (wrap64 ((wrap64 (rd l0 a1)) - 128))))) = true := decide_eq_true c11
          clear c11
          by_cases c12 : 0 ≤ x11_2
          rotate_left
          · rw [if_neg c12] at H
            exact absurd H (by simp)
          rw [if_pos c12] at H
          have c12b0 : decide (0 ≤ x11_2) = true := decide_eq_true c12
          clear c12
          by_cases c13 : x11_2 < (l0.length : Int)
          rotate_left
          · rw [if_neg c13] at H
            exact absurd H (by simp)
          rw [if_pos c13] at H
          have c13b0 : decide (x11_2 < (l0.length : Int)) = true := decide_eq_true c13
          clear c13
          by_cases c14 : (wrap64 ((wrap64 (x8_2 * 256)) + (wrap64 (rd l0 x11_2)))) > 16777216
          rotate_left
          · rw [if_neg c14] at H
            have c14b0 : decide (16777216 < (wrap64 ((wrap64 (x8_2 * 256)) + (wrap64 (rd l0 x11_2))))) = false := decide_eq_false c14
            clear c14
            have H' := Aside0.mk H
            clear H
            have p841 : 0 ≤ (x11_2 : Int) := of_decide_eq_true (by first | (with_reducible assumption) | assumption)
            have q841 : x11_2 < (l0.length : Int) := of_decide_eq_true (by first | (with_reducible assumption) | assumption)
            obtain ⟨ad841, e841, hx841_0⟩ := Kd.at_int HR0.out x11_2 p841 q841
            obtain rfl : ad840 = ad841 := (by injection e841)
            replace p841 := eq_true p841
            replace q841 := eq_true q841
            go_wp2
            go_roundg k2
            case measure => have := HJ5.out; have := HK2.out; omega
            case rel => exact ⟨(wrap64 ((wrap64 (x8_2 * 256)) + (wrap64 (rd l0 x11_2)))), (wrap64 (x11_2 + 1)), (by first | rfl | (simp; done) | (simp [*]; done)), (by first | rfl | (simp; done) | (simp [*]; done)), H', ⟨by have := HJ5.out; have := HK2.out; omega⟩, by repeat (first | exact Drawn0.refl _ | apply Drawn0.step)⟩
          rw [if_pos c14] at H
          have c14b0 : decide (16777216 < (wrap64 ((wrap64 (x8_2 * 256)) + (wrap64 (rd l0 x11_2))))) = true := decide_eq_true c14
          clear c14
          have H' := Aside0.mk H
          clear H
          have p841 : 0 ≤ (x11_2 : Int) := of_decide_eq_true (by first | (with_reducible assumption) | assumption)
          have q841 : x11_2 < (l0.length : Int) := of_decide_eq_true (by first | (with_reducible assumption) | assumption)
          obtain ⟨ad841, e841, hx841_0⟩ := Kd.at_int HR0.out x11_2 p841 q841
          obtain rfl : ad840 = ad841 := (by injection e841)
          replace p841 := eq_true p841
          replace q841 := eq_true q841
          go_wp2
          go_roundg k2
          case measure => have := HJ5.out; have := HK2.out; omega
          case rel => exact ⟨(16777217), (wrap64 (x11_2 + 1)), (by first | rfl | (simp; done) | (simp [*]; done)), (by first | rfl | (simp; done) | (simp [*]; done)), H', ⟨by have := HJ5.out; have := HK2.out; omega⟩, by repeat (first | exact Drawn0.refl _ | apply Drawn0.step)⟩
        rw [if_neg c11] at H
        have c11b0 : decide (x11_2 ≤ (wrap64 (a1 + (wrap64 ((wrap64 (rd l0 a1)) - 128))))) = false := decide_eq_false c11
        clear c11
        have HC15 := Aside0.mk H
        clear H
        go_upto_region 18 with (fail)
        go_cut [73] (fun v73 wc => ∃ (kq : Nat) (x73_14 : Bool), v73 = .bool x73_14 ∧ Aside0 (chirographref04_length.j2 kq l0 a1 x8_2 (wrap64 ((wrap64 (rd l0 a1)) - 128)) x73_14 = some (r1, r2, r3, r4)) ∧ Aside0 (kq ≤ k2) ∧ Drawn0 w wc)
        case first =>
          have H := HC15.out
          clear HC15
          by_cases c16 : x8_2 < 128
          · rw [if_pos c16] at H
            have c16b0 : decide (x8_2 < 128) = true := decide_eq_true c16
            clear c16
            (first | rw [c16b0] | (simp only [i64_w, i32_w]; rw [c16b0]) | skip)
            have H' := Aside0.mk H
            clear H
            go_wp2
            go_meet
            case rel => exact ⟨_, (true), (by first | rfl | (simp; done) | (simp [*]; done)), H', ⟨by have := HJ5.out; have := HK2.out; first | omega | exact Nat.le_refl _⟩, by repeat (first | exact Drawn0.refl _ | apply Drawn0.step)⟩
          rw [if_neg c16] at H
          have c16b0 : decide (x8_2 < 128) = false := decide_eq_false c16
          clear c16
          (first | rw [c16b0] | (simp only [i64_w, i32_w]; rw [c16b0]) | skip)
          by_cases c17 : 0 ≤ (wrap64 (a1 + 1))
          rotate_left
          · rw [if_neg c17] at H
            exact absurd H (by simp)
          rw [if_pos c17] at H
          have c17b0 : decide (0 ≤ (wrap64 (a1 + 1))) = true := decide_eq_true c17
          clear c17
          by_cases c18 : (wrap64 (a1 + 1)) < (l0.length : Int)
          rotate_left
          · rw [if_neg c18] at H
            exact absurd H (by simp)
          rw [if_pos c18] at H
          have c18b0 : decide ((wrap64 (a1 + 1)) < (l0.length : Int)) = true := decide_eq_true c18
          clear c18
          have H' := Aside0.mk H
          clear H
          have p842 : 0 ≤ ((wrap64 (a1 + 1)) : Int) := of_decide_eq_true (by first | (with_reducible assumption) | assumption)
          have q842 : (wrap64 (a1 + 1)) < (l0.length : Int) := of_decide_eq_true (by first | (with_reducible assumption) | assumption)
          obtain ⟨ad842, e842, hx842_0⟩ := Kd.at_int HR0.out (wrap64 (a1 + 1)) p842 q842
          obtain rfl : ad840 = ad842 := (by injection e842)
          replace p842 := eq_true p842
          replace q842 := eq_true q842
          go_wp2
          go_meet
          case rel => exact ⟨_, (((rd l0 (wrap64 (a1 + 1))) == 0)), (by first | rfl | (simp; done) | (simp [*]; done)), H', ⟨by have := HJ5.out; have := HK2.out; first | omega | exact Nat.le_refl _⟩, by repeat (first | exact Drawn0.refl _ | apply Drawn0.step)⟩
        clear HC15
        try clear c1
        try clear p2
        try clear c3
        try clear c3b0
        try clear c4
        try clear c4b0
        try clear c5
        try clear c5b0
        try clear p6
        try clear c7
        try clear c7b0
        try clear c7b1
        try clear c8
        try clear p8
        try clear q8
        try clear hx8
        try clear c9
        try clear c9b0
        try clear c10
        try clear c10b0
        try clear c11
        try clear c11b0
        try clear c12
        try clear c12b0
        try clear c13
        try clear c13b0
        try clear c14
        try clear c14b0
        try clear c16
        try clear c16b0
        try clear c17
        try clear c17b0
        try clear c18
        try clear c18b0
        try clear hx840_0
        try clear hx841_0
        try clear hx842_0
        try clear p2
        try clear p6
        try clear p8
        try clear p840
        try clear p841
        try clear p842
        try clear q8
        try clear q840
        try clear q841
        try clear q842
        obtain ⟨kq, x73_14, rfl, HA, HJ14, ⟨mc14, rfl⟩⟩ := hcut
        cases kq with
        | zero => exact absurd HA.out (by simp [chirographref04_length.j2])
        | succ kj14 =>
          have H := HA.out
          clear HA
          simp only [chirographref04_length.j2] at H
          by_cases c19 : x73_14 = true
          · subst c19
            have H1 : (some (0, 0, 31, a1)) = some (r1, r2, r3, r4) := by rw [if_pos rfl] at H; exact H
            clear H
            have H := H1
            clear H1
            simp only [Option.some.injEq, Prod.mk.injEq] at H
            obtain ⟨rfl, rfl, rfl, rfl⟩ := H
            go_wp2
            refine bodyPost_ret (results_list (rs := [.tmp 4, .tmp 5, .tmp 6, .tmp 7]) rfl (by simp) (.tmp (.tmp (.tmp (.tmp .nil))))) rfl ?_
            exact ⟨by first | rfl | (simp; done) | (simp [*]; done), by repeat (first | exact Drawn0.refl _ | apply Drawn0.step)⟩
          replace c19 := Bool.eq_false_iff.mpr c19
          subst c19
          have H1 : (if x8_2 > (wrap64 ((l0.length : Int) - (wrap64 ((wrap64 (a1 + 1)) + (wrap64 ((wrap64 (rd l0 a1)) - 128)))))) then (some (0, 0, 31, a1)) else (some (x8_2, wrap64 ((wrap64 (a1 + 1)) + (wrap64 ((wrap64 (rd l0 a1)) - 128))), 0, 0))) = some (r1, r2, r3, r4) := by rw [if_neg (show ¬ (false = true) by decide)] at H; exact H
          clear H
          have H := H1
          clear H1
          by_cases c20 : x8_2 > (wrap64 ((l0.length : Int) - (wrap64 ((wrap64 (a1 + 1)) + (wrap64 ((wrap64 (rd l0 a1)) - 128))))))
          rotate_left
          · rw [if_neg c20] at H
            have c20b0 : decide ((wrap64 ((l0.length : Int) - (wrap64 ((wrap64 (a1 + 1)) + (wrap64 ((wrap64 (rd l0 a1)) - 128)))))) < x8_2) = false := decide_eq_false c20
            clear c20
            simp only [Option.some.injEq, Prod.mk.injEq] at H
            obtain ⟨rfl, rfl, rfl, rfl⟩ := H
            go_wp2
            refine bodyPost_ret (results_list (rs := [.tmp 4, .tmp 5, .tmp 6, .tmp 7]) rfl (by simp) (.tmp (.tmp (.tmp (.tmp .nil))))) rfl ?_
            exact ⟨by first | rfl | (simp; done) | (simp [*]; done), by repeat (first | exact Drawn0.refl _ | apply Drawn0.step)⟩
          rw [if_pos c20] at H
          have c20b0 : decide ((wrap64 ((l0.length : Int) - (wrap64 ((wrap64 (a1 + 1)) + (wrap64 ((wrap64 (rd l0 a1)) - 128)))))) < x8_2) = true := decide_eq_true c20
          clear c20
          simp only [Option.some.injEq, Prod.mk.injEq] at H
          obtain ⟨rfl, rfl, rfl, rfl⟩ := H
          go_wp2
          refine bodyPost_ret (results_list (rs := [.tmp 4, .tmp 5, .tmp 6, .tmp 7]) rfl (by simp) (.tmp (.tmp (.tmp (.tmp .nil))))) rfl ?_
          exact ⟨by first | rfl | (simp; done) | (simp [*]; done), by repeat (first | exact Drawn0.refl _ | apply Drawn0.step)⟩
end Go.Proofs.YtkioddjjfifadaaGreatDoor.P
