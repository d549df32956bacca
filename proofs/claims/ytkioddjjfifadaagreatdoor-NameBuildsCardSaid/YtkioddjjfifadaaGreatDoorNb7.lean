/- What the proof of NameBuilds needs of: He0, He1, Pxf152, Pxf149, Pxf84, Pxf41, Pxf31, Lb2, Hc7, Hc8. -/
import Derived.Test.YtkioddjjfifadaaGreatDoorNb2
import Derived.Test.YtkioddjjfifadaaGreatDoorNb3
import Derived.Test.YtkioddjjfifadaaGreatDoorNb4
import Derived.Test.YtkioddjjfifadaaGreatDoorNb6
set_option linter.unusedVariables false
set_option linter.unusedSimpArgs false
set_option linter.unusedVariables false
set_option linter.unusedSimpArgs false
namespace Go.Proofs.YtkioddjjfifadaaGreatDoor.P
open Go.RowKit Go.Extern.Stop Go.Stop Go.Extern Go.Proofs.YtkioddjjfifadaaGreatDoorW.PrintWords Go.Proofs.YtkioddjjfifadaaGreatDoorW.PrintLast Go.Proofs.YtkioddjjfifadaaGreatDoorW.PrintMore
/-- An error of package name: what a lower layer told; a fault; a fault in a part. -/
inductive NE where
  | low (e : Int)
  | flt (f : Int)
  | part (i : Int) (x : NE)
def NE.val : NE → Value
  | .low e => .iface 222 (.agg #[.int .i64 e])
  | .flt f => .iface 225 (.int .i64 f)
  | .part i x => .iface 229 (.agg #[.int .i64 i, x.val])
def NE.leaf : NE → NE
  | .part _ x => x.leaf
  | x => x
def NE.num : NE → Int
  | .low e => e
  | .flt f => if f = 1 then 4 else if f = 2 then 5 else if f = 4 then 1 else 30
  | .part _ x => x.num
def NE.depth : NE → Nat
  | .part _ x => x.depth + 1
  | _ => 0
def NE.isLow : NE → Option Int
  | .low e => some e
  | .flt _ => none
  | .part _ x => x.isLow
def NE.isFlt (g : Int) : NE → Bool
  | .low _ => false
  | .flt f => f == g
  | .part _ x => x.isFlt g
theorem NE.val_iface (x : NE) : ∃ t v, x.val = .iface t v ∧ (t = 222 ∨ t = 225 ∨ t = 229) := by
  cases x <;> exact ⟨_, _, rfl, by simp⟩
theorem Nm.valueOf231 (t : Addr) (w : World) : (ReflectliteValue.unpack (.iface 231 (.pointer (some t)))).run Tryz.prog w
    = .ok (.agg #[.pointer (some ⟨7, 231, none⟩), .pointer (some ⟨w.heap.size, 0, none⟩), .int .u64 150]) (w.alloc (.cells #[.pointer (some t)] 231)) := by kernel_rfl
theorem Nm.type231 (a : Addr) (w : World) : (ReflectliteValue.methodAny (ReflectliteValue.valueError "reflectlite.Value.Type" 0) (fun t _ _ _ => ReflectliteType.toType t) #[.agg #[.pointer (some ⟨7, 231, none⟩), .pointer (some a), .int .u64 150]]).run Tryz.prog w
    = .ok (.iface 336 (.agg #[.pointer (some ⟨7, 231, none⟩)])) w := by kernel_rfl
theorem Nm.kind231 (w : World) : ((ReflectliteType.abiMethod fun t => (fun a : Nat => Value.int IntKind.u8 (a : Int)) <$> Rtype.kind t) #[.pointer (some ⟨7, 231, none⟩)]).run Tryz.prog w = .ok (.int .u8 22) w := by kernel_rfl
theorem Nm.kind222 (w : World) : ((ReflectliteType.abiMethod fun t => (fun a : Nat => Value.int IntKind.u8 (a : Int)) <$> Rtype.kind t) #[.pointer (some ⟨7, 222, none⟩)]).run Tryz.prog w = .ok (.int .u8 25) w := by kernel_rfl
theorem Nm.parts231 (a : Addr) (w : World) : (ReflectliteValue.parts (.agg #[.pointer (some ⟨7, 231, none⟩), .pointer (some a), .int .u64 150])).run Tryz.prog w = .ok (some (231, a, 150)) w := by kernel_rfl
theorem Nm.isNil231 (a p : Addr) (W : World) (ha : W.cell? a = some (.pointer (some p))) :
    (ReflectliteValue.method (ReflectliteValue.valueError "reflectlite.Value.IsNil" 0) ReflectliteValue.isNil #[.agg #[.pointer (some ⟨7, 231, none⟩), .pointer (some a), .int .u64 150]]).run Tryz.prog W = .ok (.bool false) W := by
  rw [rlm]
  simp only [Sem.run_bind, Nm.parts231, Result.andThen]
  simp [ReflectliteValue.isNil, loadVar, isAgg, underlying, Tryz.underlying231, ha, Result.andThen]
theorem Nm.elem231 (w : World) : (ReflectliteType.method ReflectliteType.elem #[.agg #[.pointer (some ⟨7, 231, none⟩)]]).run Tryz.prog w = .ok (.iface 336 (.agg #[.pointer (some ⟨7, 222, none⟩)])) w := by kernel_rfl
theorem Nm.implements222 (w : World) : (ReflectliteType.relation "Implements" ReflectliteType.implements_ #[.agg #[.pointer (some ⟨7, 222, none⟩)], .iface 336 (.agg #[.pointer (some ⟨7, 132, none⟩)])]).run Tryz.prog w = .ok (.bool true) w := by kernel_rfl
theorem Nm.typeOf222 (v : Value) (w : World) : (ReflectliteType.typeOf #[.iface 222 v]).run Tryz.prog w = .ok (.iface 336 (.agg #[.pointer (some ⟨7, 222, none⟩)])) w := by kernel_rfl
theorem Nm.typeOf225 (v : Value) (w : World) : (ReflectliteType.typeOf #[.iface 225 v]).run Tryz.prog w = .ok (.iface 336 (.agg #[.pointer (some ⟨7, 225, none⟩)])) w := by kernel_rfl
theorem Nm.typeOf229 (v : Value) (w : World) : (ReflectliteType.typeOf #[.iface 229 v]).run Tryz.prog w = .ok (.iface 336 (.agg #[.pointer (some ⟨7, 229, none⟩)])) w := by kernel_rfl
theorem Nm.assignable222 (w : World) : (ReflectliteType.relation "AssignableTo" ReflectliteType.assignableTo #[.agg #[.pointer (some ⟨7, 222, none⟩)], .iface 336 (.agg #[.pointer (some ⟨7, 222, none⟩)])]).run Tryz.prog w = .ok (.bool true) w := by kernel_rfl
theorem Nm.assignable225 (w : World) : (ReflectliteType.relation "AssignableTo" ReflectliteType.assignableTo #[.agg #[.pointer (some ⟨7, 225, none⟩)], .iface 336 (.agg #[.pointer (some ⟨7, 222, none⟩)])]).run Tryz.prog w = .ok (.bool false) w := by kernel_rfl
theorem Nm.assignable229 (w : World) : (ReflectliteType.relation "AssignableTo" ReflectliteType.assignableTo #[.agg #[.pointer (some ⟨7, 229, none⟩)], .iface 336 (.agg #[.pointer (some ⟨7, 222, none⟩)])]).run Tryz.prog w = .ok (.bool false) w := by kernel_rfl
theorem Nm.valueOf222 (e : Int) (w : World) : (ReflectliteValue.unpack (.iface 222 (.agg #[.int .i64 e]))).run Tryz.prog w
    = .ok (.agg #[.pointer (some ⟨7, 222, none⟩), .pointer (some ⟨w.heap.size, 0, none⟩), .int .u64 153]) (w.alloc (.cells #[.int .i64 e] 222)) := by kernel_rfl
theorem Nm.elemOf231 (w : World) : (Rtype.elem? 231).run Tryz.prog w = .ok (some 222) w := by kernel_rfl
theorem Nm.mk222 (p : Addr) (w : World) : (ReflectliteValue.mk 222 p ReflectliteValue.flagAddr).run Tryz.prog w = .ok (.agg #[.pointer (some ⟨7, 222, none⟩), .pointer (some p), .int .u64 409]) w := by kernel_rfl
theorem Nm.elemV231 (a p : Addr) (W : World) (ha : W.cell? a = some (.pointer (some p))) :
    (ReflectliteValue.method (ReflectliteValue.valueError "reflectlite.Value.Elem" 0) ReflectliteValue.elem #[.agg #[.pointer (some ⟨7, 231, none⟩), .pointer (some a), .int .u64 150]]).run Tryz.prog W
      = .ok (.agg #[.pointer (some ⟨7, 222, none⟩), .pointer (some p), .int .u64 409]) W := by
  rw [rlm]
  simp only [Sem.run_bind, Nm.parts231, Result.andThen]
  simp [ReflectliteValue.elem, loadVar, isAgg, underlying, Tryz.underlying231, ha, Result.andThen, Nm.elemOf231, Nm.mk222]
theorem Nm.parts222a (a : Addr) (w : World) : (ReflectliteValue.parts (.agg #[.pointer (some ⟨7, 222, none⟩), .pointer (some a), .int .u64 409])).run Tryz.prog w = .ok (some (222, a, 409)) w := by kernel_rfl
theorem Nm.parts222 (a : Addr) (w : World) : (ReflectliteValue.parts (.agg #[.pointer (some ⟨7, 222, none⟩), .pointer (some a), .int .u64 153])).run Tryz.prog w = .ok (some (222, a, 153)) w := by kernel_rfl
theorem Nm.direct222 (w : World) : (Rtype.directlyAssignable 222 222).run Tryz.prog w = .ok true w := by kernel_rfl
theorem Nm.size222 (w : World) : (sizeOf 222).run Tryz.prog w = .ok 1 w := by kernel_rfl
theorem Nm.set222 (ta b : Addr) (e : Int) (old : Value) (W : World) (hb : W.cell? b = some (.int .i64 e)) (ht : W.cell? ta = some old) (hf : W.frozen? ta = false) :
    (ReflectliteValue.set #[.agg #[.pointer (some ⟨7, 222, none⟩), .pointer (some ta), .int .u64 409], .agg #[.pointer (some ⟨7, 222, none⟩), .pointer (some b), .int .u64 153]]).run Tryz.prog W
      = .ok (.tuple #[]) (W.setCell ta (.int .i64 e)) := by
  have hl : (loadVar 222 b).run Tryz.prog W = .ok (.agg #[.int .i64 e]) W := by
    have hc : (loadCells b 1).run Tryz.prog W = .ok #[.int .i64 e] W := run_loadCells_list (P := Tryz.prog) W b [.int .i64 e] (fun j u hj => by
      cases j with
      | zero => cases hj; rw [show b.add 0 = b from rfl]; exact hb
      | succ n => cases hj)
    simp [loadVar, isAgg, underlying, Tryz.underlying222, Result.andThen, Nm.size222, hc]
  rw [rls]
  simp only [Sem.run_bind, Nm.parts222a, Nm.parts222, Result.andThen]
  simp [ReflectliteValue.flagAddr, hl, Result.andThen, Nm.direct222, storeVar, Value.cells, storeCells, Addr.add]
  rw [run_store Tryz.prog W ta _ _ (by rfl)]
  simp [ht, hf]
theorem Nm.methodUnwrap (v : Value) (w : World) : (Go.method 558 229 v "Unwrap").run Tryz.prog w = .ok (340, v) w := by kernel_rfl
theorem Nm.methodComparable (h : Value) (w : World) : (Go.method 558 336 h "Comparable").run Tryz.prog w = .ok (348, h) w := by kernel_rfl
theorem Nm.comparable225 (w : World) : ((ReflectliteType.method fun t => do Rtype.noPackHeld "Comparable" t; (fun a => Value.bool a.comparable) <$> typeInfo t) #[.agg #[.pointer (some ⟨7, 225, none⟩)]]).run Tryz.prog w = .ok (.bool true) w := by kernel_rfl
theorem Nm.noAs (t : TypeId) (ht : t = 222 ∨ t = 225 ∨ t = 229) (v : Value) (xT : TypeId) (w : World) : (Instr.typeAssert (.iface t v) xT 340 true).run Tryz.prog w = .ok (.tuple #[.nilIface, .bool false]) w := by
  rcases ht with rfl | rfl | rfl <;> exact run_typeAssert_lacksB Tryz.underlying340 (by kernel_rfl) (by kernel_rfl) v xT w
theorem Nm.noIs (t : TypeId) (ht : t = 222 ∨ t = 225 ∨ t = 229) (v : Value) (xT : TypeId) (w : World) : (Instr.typeAssert (.iface t v) xT 348 true).run Tryz.prog w = .ok (.tuple #[.nilIface, .bool false]) w := by
  rcases ht with rfl | rfl | rfl <;> exact run_typeAssert_lacksB Tryz.underlying348 (by kernel_rfl) (by kernel_rfl) v xT w
theorem Nm.noUnwraps (t : TypeId) (ht : t = 222 ∨ t = 225 ∨ t = 229) (v : Value) (xT : TypeId) (w : World) : (Instr.typeAssert (.iface t v) xT 345 true).run Tryz.prog w = .ok (.tuple #[.nilIface, .bool false]) w := by
  rcases ht with rfl | rfl | rfl <;> exact run_typeAssert_lacksB Tryz.underlying345 (by kernel_rfl) (by kernel_rfl) v xT w
theorem Nm.noUnwrap (t : TypeId) (ht : t = 222 ∨ t = 225) (v : Value) (xT : TypeId) (w : World) : (Instr.typeAssert (.iface t v) xT 343 true).run Tryz.prog w = .ok (.tuple #[.nilIface, .bool false]) w := by
  rcases ht with rfl | rfl <;> exact run_typeAssert_lacksB Tryz.underlying343 (by kernel_rfl) (by kernel_rfl) v xT w
theorem Nm.hasUnwrap (v : Value) (xT : TypeId) (w : World) : (Instr.typeAssert (.iface 229 v) xT 343 true).run Tryz.prog w = .ok (.tuple #[.iface 229 v, .bool true]) w := run_typeAssert_hasB Tryz.underlying343 (by kernel_rfl) v xT w
theorem Nm.eql_flt (f g : Int) (w : World) : (binOp .eql 132 (.iface 225 (.int .i64 f)) (.iface 225 (.int .i64 g))).run Tryz.prog w = .ok (.bool (f == g)) w := by kernel_rfl
theorem Nm.eql_low (v : Value) (g : Int) (w : World) : (binOp .eql 132 (.iface 222 v) (.iface 225 (.int .i64 g))).run Tryz.prog w = .ok (.bool false) w := run_eql_iface_types 222 225 v _ Tryz.underlying132 (by decide) w
theorem Nm.eql_part (v : Value) (g : Int) (w : World) : (binOp .eql 132 (.iface 229 v) (.iface 225 (.int .i64 g))).run Tryz.prog w = .ok (.bool false) w := run_eql_iface_types 229 225 v _ Tryz.underlying132 (by decide) w
theorem unwrap_calls (i : Int) (v : Value) (hv : v.oneCell' = true) (w : World) : Calls Tryz.prog 340 #[.agg #[.int .i64 i, v]] w fun e w' => e = .returned v ∧ Below w.heap.size w w' := by
  have HV := Aside0.mk hv
  clear hv
  go_enter Tryz.func340, Tryz.ntmps340
  go_wp2_with (first | ((with_reducible refine gate_dst (N := 1) rfl ?_); refine box_event ?hg (N := 1) ?hd (cs := #[.int .i64 i, v]) (t := 229) ?hr ?_; (case hd => rfl); (case hg => rfl); (case hr => first | (go_simp; done) | (go_simp; rfl)); intro gb hg w4 hbox hb; have HB := Aside0.mk hb; have hcz : w4.cell? ⟨gb, 1, none⟩ = some v := (blk_cell hbox 1).trans rfl; clear hg hbox hb))
  go_ret
  exact ⟨rfl, HB.out⟩
set_option maxRecDepth 100000 in
set_option maxHeartbeats 4000000 in
theorem is_ne (x : NE) (g : Int) (w : World) :
    Calls Tryz.prog 195 #[x.val, .iface 225 (.int .i64 g), .bool true] w fun e w' => e = .returned (.bool (x.isFlt g)) ∧ Below w.heap.size w w' := by
  have HB := Aside0.mk (Below.refl w.heap.size w)
  go_enter Tryz.func195, Tryz.ntmps195
  go_wp2_with fail
  go_loopg [0] (x.depth + 1) (fun kq v0 w' => ∃ (y : NE), v0 = y.val ∧ Aside0 (y.isFlt g = x.isFlt g) ∧ Aside0 (y.depth < kq) ∧ Aside0 (Below w.heap.size w w'))
  case atStart => exact ⟨x, rfl, ⟨rfl⟩, ⟨by omega⟩, HB⟩
  case round =>
    clear HB
    obtain ⟨y, rfl, HF, HD, HB⟩ := hrel
    cases gk with
    | zero => exact absurd HD.out (by omega)
    | succ g1 =>
      cases y with
      | low e =>
        have q1 := Nm.noIs 222 (by simp) (.agg #[.int .i64 e]) 132 wr
        have q2 := Nm.noUnwrap 222 (by simp) (.agg #[.int .i64 e]) 132 wr
        have q3 := Nm.noUnwraps 222 (by simp) (.agg #[.int .i64 e]) 132 wr
        have q4 := Nm.eql_low (.agg #[.int .i64 e]) g wr
        simp only [NE.val] at *
        go_wp2_with fail
        go_ret
        exact ⟨by rw [← HF.out]; rfl, HB.out⟩
      | flt f =>
        have q1 := Nm.noIs 225 (by simp) (.int .i64 f) 132 wr
        have q2 := Nm.noUnwrap 225 (by simp) (.int .i64 f) 132 wr
        have q3 := Nm.noUnwraps 225 (by simp) (.int .i64 f) 132 wr
        have q4 := Nm.eql_flt f g wr
        have hf : (f == g) = x.isFlt g := HF.out
        clear HF
        rw [hf] at q4
        clear hf
        obtain ⟨bb, hbb⟩ : ∃ bb, x.isFlt g = bb := ⟨_, rfl⟩
        rw [hbb] at q4
        have HH := Aside0.mk hbb
        clear hbb
        simp only [NE.val] at *
        cases bb
        all_goals
          go_wp2_with fail
          go_ret
          exact ⟨by rw [HH.out]; rfl, HB.out⟩
      | part i z =>
        obtain ⟨zt, zv, hz, hzt⟩ := z.val_iface
        have q1 := Nm.noIs 229 (by simp) (.agg #[.int .i64 i, .iface zt zv]) 132 wr
        have q2 := Nm.hasUnwrap (.agg #[.int .i64 i, .iface zt zv]) 132 wr
        have q4 := Nm.eql_part (.agg #[.int .i64 i, .iface zt zv]) g wr
        have q5 := Nm.methodUnwrap
        have HZ := Aside0.mk hz
        have hz' : NE.val (.part i z) = .iface 229 (.agg #[.int .i64 i, .iface zt zv]) := by rw [NE.val, hz]
        rw [hz'] at *
        clear hz hz'
        go_wp2_with ((with_reducible refine (unwrap_calls i (.iface zt zv) rfl _).mono ?_); rintro e w4 ⟨rfl, hb⟩; have n0 := Aside0.mk (below_step HB.out hb); clear hb HB; have HB := n0; clear n0)
        go_roundg g1
        case measure => exact Nat.lt_succ_self _
        case rel => exact ⟨z, HZ.out.symm, ⟨HF.out⟩, ⟨by have := HD.out; simp only [NE.depth] at this; omega⟩, HB⟩
set_option maxRecDepth 100000 in
set_option maxHeartbeats 4000000 in
theorem errors_Is_ne (x : NE) (g : Int) (w : World) :
    Calls Tryz.prog 144 #[x.val, .iface 225 (.int .i64 g)] w fun e w' => e = .returned (.bool (x.isFlt g)) ∧ Below w.heap.size w w' := by
  have h8 := @run_callFunc_extern Tryz.prog 194 _ ReflectliteType.typeOf Tryz.func194 (by kernel_rfl) (by kernel_rfl) (by kernel_rfl) (by kernel_rfl)
  have h32 := @run_callFunc_extern Tryz.prog 348 _ (ReflectliteType.method fun t => do Rtype.noPackHeld "Comparable" t; pure (.bool (← typeInfo t).comparable)) Tryz.func348 (by kernel_rfl) (by kernel_rfl) (by kernel_rfl) (by kernel_rfl)
  have tT := Nm.typeOf225
  have cT := Nm.comparable225
  have mR := Nm.methodComparable
  obtain ⟨zt, zv, hz, hzt⟩ := x.val_iface
  have HZ := Aside0.mk hz
  rw [hz]
  clear hz hzt
  go_enter Tryz.func144, Tryz.ntmps144
  go_wp2_with (go_at_call 195; rw [← HZ.out]; (with_reducible refine (is_ne x g _).mono ?_); rintro e w4 ⟨rfl, hb⟩; have HB := Aside0.mk hb; clear hb)
  go_ret
  exact ⟨rfl, HB.out⟩
set_option maxRecDepth 100000 in
set_option maxHeartbeats 4000000 in
theorem as_ne (x : NE) (g b t : Nat) (w0 w : World) (hB : Below w0.heap.size w0 w) (hg : w0.heap.size ≤ g) (ht : w.heap[g]? = some (.cells #[.int .i64 0] 222 (0, 0))) (hb : w.heap[b]? = some (.cells #[.pointer (some ⟨g, 0, none⟩)] 231 (0, 0))) (hgb : b ≠ g) :
    Calls Tryz.prog 193 #[x.val, .iface 231 (.pointer (some ⟨g, 0, none⟩)), .agg #[.pointer (some ⟨7, 231, none⟩), .pointer (some ⟨b, 0, none⟩), .int .u64 150], .iface 336 (.agg #[.pointer (some ⟨7, 222, none⟩)])] w fun e w' =>
      e = .returned (.bool x.isLow.isSome) ∧ w'.heap[g]? = some (.cells #[.int .i64 (x.isLow.getD 0)] 222 (0, 0)) ∧ Below w0.heap.size w0 w' := by
  have h6 := @run_callFunc_extern Tryz.prog 190 _ (fun args => ReflectliteValue.unpack (args.getD 0 (.tuple #[]))) Tryz.func190 (by kernel_rfl) (by kernel_rfl) (by kernel_rfl) (by kernel_rfl)
  have h10 := @run_callFunc_extern Tryz.prog 194 _ ReflectliteType.typeOf Tryz.func194 (by kernel_rfl) (by kernel_rfl) (by kernel_rfl) (by kernel_rfl)
  have h35 := @run_callFunc_extern Tryz.prog 347 _ (ReflectliteType.relation "AssignableTo" ReflectliteType.assignableTo) Tryz.func347 (by kernel_rfl) (by kernel_rfl) (by kernel_rfl) (by kernel_rfl)
  have h11 := @run_callFunc_extern Tryz.prog 236 _ (ReflectliteValue.method (ReflectliteValue.valueError "reflectlite.Value.Elem" 0) ReflectliteValue.elem) Tryz.func236 (by kernel_rfl) (by kernel_rfl) (by kernel_rfl) (by kernel_rfl)
  have h12 := @run_callFunc_extern Tryz.prog 237 _ ReflectliteValue.set Tryz.func237 (by kernel_rfl) (by kernel_rfl) (by kernel_rfl) (by kernel_rfl)
  have mA := Ref.methodAssignableTo
  have HB := Aside0.mk hB
  have HG := Aside0.mk hg
  have HT := Aside0.mk ht
  have HBK := Aside0.mk hb
  have HN := Aside0.mk hgb
  clear hB hg ht hb hgb
  go_enter Tryz.func193, Tryz.ntmps193
  go_wp2_with (first | ((with_reducible refine gate_dst (N := 6) rfl ?_); refine box_event ?hg (N := 6) ?hd (cs := #[.pointer (some ⟨7, 231, none⟩), .pointer (some ⟨b, 0, none⟩), .int .u64 150]) (t := 289) ?hr ?_; (case hd => rfl); (case hg => rfl); (case hr => first | (go_simp; done) | (go_simp; rfl)); intro gb hgq w4 hbox hb; have HB6 := Aside0.mk hbox; have n1 := Aside0.mk (below_step HB.out hb); have n2 := Aside0.mk (blk_below HT.out hb); have n3 := Aside0.mk (blk_below HBK.out hb); have HGB := Aside0.mk (show w0.heap.size ≤ gb by rw [hgq]; exact HB.out.size); clear hbox hb hgq HB HT HBK; have HB := n1; have HT := n2; have HBK := n3; clear n1 n2 n3))
  go_loopg [0] (x.depth + 1) (fun kq v0 w' => ∃ (y : NE), v0 = y.val ∧ Aside0 (y.isLow = x.isLow) ∧ Aside0 (y.depth < kq) ∧ Aside0 (Below w0.heap.size w0 w') ∧ Aside0 (w'.heap[g]? = some (.cells #[.int .i64 0] 222 (0, 0))) ∧ Aside0 (w'.heap[b]? = some (.cells #[.pointer (some ⟨g, 0, none⟩)] 231 (0, 0))) ∧ Aside0 (w'.heap[gb]? = some (.cells #[.pointer (some ⟨7, 231, none⟩), .pointer (some ⟨b, 0, none⟩), .int .u64 150] 289 (0, 0))))
  case atStart => exact ⟨x, rfl, ⟨rfl⟩, ⟨by omega⟩, HB, HT, HBK, HB6⟩
  case round =>
    clear HB HT HBK HB6
    obtain ⟨y, rfl, HF, HD, HB, HT, HBK, HB6⟩ := hrel
    cases gk with
    | zero => exact absurd HD.out (by omega)
    | succ g1 =>
      cases y with
      | low e =>
        have tO := Nm.typeOf222 (.agg #[.int .i64 e]) wr
        have a25 := Nm.assignable222 wr
        have v25 := Nm.valueOf222 e wr
        have z0 : wr.cell? ⟨gb, 0, none⟩ = some (.pointer (some ⟨7, 231, none⟩)) := (blk_cell HB6.out 0).trans rfl
        have z1 : wr.cell? ⟨gb, 1, none⟩ = some (.pointer (some ⟨b, 0, none⟩)) := (blk_cell HB6.out 1).trans rfl
        have z2 : wr.cell? ⟨gb, 2, none⟩ = some (.int .u64 150) := (blk_cell HB6.out 2).trans rfl
        have el := Nm.elemV231 ⟨b, 0, none⟩ ⟨g, 0, none⟩ wr ((blk_cell HBK.out 0).trans rfl)
        have HT2 := Aside0.mk (blk_alloc HT.out (.cells #[.int .i64 e] 222))
        have st := Nm.set222 ⟨g, 0, none⟩ ⟨wr.heap.size, 0, none⟩ e (.int .i64 0) (wr.alloc (.cells #[.int .i64 e] 222)) ((blk_cell (heap_alloc_new wr _) 0).trans rfl) ((blk_cell HT2.out 0).trans rfl) (blk_frozen HT2.out 0)
        simp only [NE.val] at *
        go_wp2_with fail
        go_ret
        refine ⟨by rw [← HF.out]; rfl, ?_, ?_⟩
        rotate_left
        · exact below_set (below_alloc HB.out _) HG.out
        rw [← HF.out]
        exact blk_put HT2.out 0 (.int .i64 e) rfl
      | flt f =>
        have tO := Nm.typeOf225 (.int .i64 f) wr
        have a25 := Nm.assignable225 wr
        have q1 := Nm.noAs 225 (by simp) (.int .i64 f) 132 wr
        have q2 := Nm.noUnwrap 225 (by simp) (.int .i64 f) 132 wr
        have q3 := Nm.noUnwraps 225 (by simp) (.int .i64 f) 132 wr
        simp only [NE.val] at *
        go_wp2_with fail
        go_ret
        exact ⟨by rw [← HF.out]; rfl, by rw [← HF.out]; exact HT.out, HB.out⟩
      | part i z =>
        obtain ⟨zt, zv, hz, hzt⟩ := z.val_iface
        have tO := Nm.typeOf229 (.agg #[.int .i64 i, .iface zt zv]) wr
        have a25 := Nm.assignable229 wr
        have q1 := Nm.noAs 229 (by simp) (.agg #[.int .i64 i, .iface zt zv]) 132 wr
        have q2 := Nm.hasUnwrap (.agg #[.int .i64 i, .iface zt zv]) 132 wr
        have q5 := Nm.methodUnwrap
        have HZ := Aside0.mk hz
        have hz' : NE.val (.part i z) = .iface 229 (.agg #[.int .i64 i, .iface zt zv]) := by rw [NE.val, hz]
        rw [hz'] at *
        clear hz hz'
        go_wp2_with ((with_reducible refine (unwrap_calls i (.iface zt zv) rfl _).mono ?_); rintro e w4 ⟨rfl, hb⟩; have n0 := Aside0.mk (below_step HB.out hb); have n1 := Aside0.mk (blk_below HT.out hb); have n2 := Aside0.mk (blk_below HBK.out hb); have n3 := Aside0.mk (blk_below HB6.out hb); clear hb HB HT HBK HB6; have HB := n0; have HT := n1; have HBK := n2; have HB6 := n3; clear n0 n1 n2 n3)
        go_roundg g1
        case measure => exact Nat.lt_succ_self _
        case rel => exact ⟨z, HZ.out.symm, ⟨HF.out⟩, ⟨by have := HD.out; simp only [NE.depth] at this; omega⟩, HB, HT, HBK, HB6⟩
set_option maxRecDepth 100000 in
set_option maxHeartbeats 4000000 in
theorem errors_As_ne (x : NE) (g : Nat) (w0 w : World) (hB : Below w0.heap.size w0 w) (hH : Hd w) (hg : w0.heap.size ≤ g) (ht : w.heap[g]? = some (.cells #[.int .i64 0] 222 (0, 0))) :
    Calls Tryz.prog 143 #[x.val, .iface 231 (.pointer (some ⟨g, 0, none⟩))] w fun e w' =>
      e = .returned (.bool x.isLow.isSome) ∧ w'.heap[g]? = some (.cells #[.int .i64 (x.isLow.getD 0)] 222 (0, 0)) ∧ Below w0.heap.size w0 w' := by
  have h6 := @run_callFunc_extern Tryz.prog 190 _ (fun args => ReflectliteValue.unpack (args.getD 0 (.tuple #[]))) Tryz.func190 (by kernel_rfl) (by kernel_rfl) (by kernel_rfl) (by kernel_rfl)
  have h7 := @run_callFunc_extern Tryz.prog 191 _ (ReflectliteValue.methodAny (ReflectliteValue.valueError "reflectlite.Value.Type" 0) (fun t _ _ _ => ReflectliteType.toType t)) Tryz.func191 (by kernel_rfl) (by kernel_rfl) (by kernel_rfl) (by kernel_rfl)
  have h8 := @run_callFunc_extern Tryz.prog 192 _ (ReflectliteValue.method (ReflectliteValue.valueError "reflectlite.Value.IsNil" 0) ReflectliteValue.isNil) Tryz.func192 (by kernel_rfl) (by kernel_rfl) (by kernel_rfl) (by kernel_rfl)
  have h27 := @run_callFunc_extern Tryz.prog 333 _ (ReflectliteType.abiMethod fun t => do pure (.int .u8 (← Rtype.kind t))) Tryz.func333 (by kernel_rfl) (by kernel_rfl) (by kernel_rfl) (by kernel_rfl)
  have h37 := @run_callFunc_extern Tryz.prog 349 _ (ReflectliteType.method ReflectliteType.elem) Tryz.func349 (by kernel_rfl) (by kernel_rfl) (by kernel_rfl) (by kernel_rfl)
  have h38 := @run_callFunc_extern Tryz.prog 350 _ (ReflectliteType.relation "Implements" ReflectliteType.implements_) Tryz.func350 (by kernel_rfl) (by kernel_rfl) (by kernel_rfl) (by kernel_rfl)
  have f6 := Nm.valueOf231
  have f7 := Nm.type231
  have mK := Ref.methodKind
  have mE := Ref.methodElem
  have mI := Ref.methodImplements
  have k27 := Nm.kind231
  have k25 := Nm.kind222
  have e27 := Nm.elem231
  have i25 := Nm.implements222
  obtain ⟨zt, zv, hz, hzt⟩ := x.val_iface
  have HZ := Aside0.mk hz
  rw [hz]
  have n8 := Nm.isNil231 ⟨w.heap.size, 0, none⟩ ⟨g, 0, none⟩ ((w.alloc (.cells #[.pointer (some ⟨g, 0, none⟩)] 231)).alloc (.cells #[.pointer (some ⟨7, 231, none⟩), .pointer (some ⟨w.heap.size, 0, none⟩), .int .u64 150] 289)) (by simp)
  have hg2 : ((w.alloc (.cells #[.pointer (some ⟨g, 0, none⟩)] 231)).alloc (.cells #[.pointer (some ⟨7, 231, none⟩), .pointer (some ⟨w.heap.size, 0, none⟩), .int .u64 150] 289)).cell? ⟨0, 0, none⟩ = some (.iface 336 (.agg #[.pointer (some ⟨7, 132, none⟩)])) := by
    rw [World.cell?_alloc_lt _ _ ⟨0, 0, none⟩ (by simp), World.cell?_alloc_lt _ _ ⟨0, 0, none⟩ hH.lt]
    exact hH
  have HBK := Aside0.mk (blk_alloc (heap_alloc_new w (.cells #[.pointer (some ⟨g, 0, none⟩)] 231)) (.cells #[.pointer (some ⟨7, 231, none⟩), .pointer (some ⟨w.heap.size, 0, none⟩), .int .u64 150] 289))
  have HT := Aside0.mk (blk_alloc (blk_alloc ht (.cells #[.pointer (some ⟨g, 0, none⟩)] 231)) (.cells #[.pointer (some ⟨7, 231, none⟩), .pointer (some ⟨w.heap.size, 0, none⟩), .int .u64 150] 289))
  have HB := Aside0.mk (below_alloc (below_alloc hB (.cells #[.pointer (some ⟨g, 0, none⟩)] 231)) (.cells #[.pointer (some ⟨7, 231, none⟩), .pointer (some ⟨w.heap.size, 0, none⟩), .int .u64 150] 289))
  have HG := Aside0.mk hg
  have HN := Aside0.mk (show w.heap.size ≠ g from fun h => by have := blk_lt ht; omega)
  clear hz hzt hB hH hg ht
  go_enter Tryz.func143, Tryz.ntmps143
  go_wp2_with (go_at_call 193; rw [← HZ.out]; (with_reducible refine (as_ne x g w.heap.size 0 w0 _ HB.out HG.out HT.out HBK.out HN.out).mono ?_); rintro e w4 ⟨rfl, ht, hb⟩; have HT2 := Aside0.mk ht; have HB2 := Aside0.mk hb; clear ht hb)
  go_ret
  exact ⟨rfl, HT2.out, HB2.out⟩
theorem NE.num_of (x : NE) : x.num = match x.isLow with
    | some e => e
    | none => if x.isFlt 1 = true then 4 else if x.isFlt 2 = true then 5 else if x.isFlt 4 = true then 1 else 30 := by
  induction x with
  | low e => rfl
  | flt f => simp [NE.num, NE.isLow, NE.isFlt]
  | part i x ih => exact ih
set_option maxRecDepth 100000 in
set_option maxHeartbeats 4000000 in
theorem name_number_ne (x : NE) (w : World) (hH : Hd w) : Calls Tryz.prog 80 #[x.val] w fun e w' => e = .returned (.int .i64 x.num) ∧ Below w.heap.size w w' := by
  obtain ⟨zt, zv, hz, hzt⟩ := x.val_iface
  have HZ := Aside0.mk hz
  rw [hz]
  have HX := Aside0.mk x.num_of
  have HB := Aside0.mk (below_alloc (Below.refl w.heap.size w) (.cells #[.int .i64 0] 222))
  have HT := Aside0.mk (heap_alloc_new w (.cells #[.int .i64 0] 222))
  have HH := Aside0.mk (hH.below (below_alloc (Below.refl w.heap.size w) (.cells #[.int .i64 0] 222)))
  clear hz hzt hH
  obtain ⟨lo, hlo⟩ : ∃ lo, x.isLow = lo := ⟨_, rfl⟩
  obtain ⟨f1, hf1⟩ : ∃ lo, x.isFlt 1 = lo := ⟨_, rfl⟩
  obtain ⟨f2, hf2⟩ : ∃ lo, x.isFlt 2 = lo := ⟨_, rfl⟩
  obtain ⟨f4, hf4⟩ : ∃ lo, x.isFlt 4 = lo := ⟨_, rfl⟩
  have HL := Aside0.mk hlo
  have HF1 := Aside0.mk hf1
  have HF2 := Aside0.mk hf2
  have HF4 := Aside0.mk hf4
  clear hlo hf1 hf2 hf4
  cases lo with
  | some e =>
    go_enter Tryz.func80, Tryz.ntmps80
    go_wp2_with (first | (go_at_call 143; rw [← HZ.out]; (with_reducible refine (errors_As_ne x w.heap.size w _ HB.out HH.out (Nat.le_refl _) HT.out).mono ?_); rintro e_ w4 ⟨rfl, ht, hb⟩; rw [HL.out] at ht ⊢; have HB2 := Aside0.mk hb; have z0 : w4.cell? ⟨w.heap.size, 0, none⟩ = some (.int .i64 e) := (blk_cell ht 0).trans rfl; clear ht hb))
    go_ret
    exact ⟨by rw [HX.out, HL.out]; rfl, HB2.out⟩
  | none =>
    have ARM : ∀ (g : Int) (bb : Bool), x.isFlt g = bb → ∀ W : World, Calls Tryz.prog 144 #[x.val, .iface 225 (.int .i64 g)] W fun e w' => e = .returned (.bool bb) ∧ Below W.heap.size W w' := fun g bb h W => h ▸ errors_Is_ne x g W
    cases f1 <;> cases f2 <;> cases f4
    all_goals
      go_enter Tryz.func80, Tryz.ntmps80
      go_wp2_with (first | (go_at_call 143; rw [← HZ.out]; (with_reducible refine (errors_As_ne x w.heap.size w _ HB.out HH.out (Nat.le_refl _) HT.out).mono ?_); rintro e_ w4 ⟨rfl, ht, hb⟩; rw [HL.out] at ht ⊢; have HB2 := Aside0.mk hb; clear ht hb) | ((with_reducible refine (ARM 1 _ HF1.out _).mono ?_); rintro e_ w5 ⟨rfl, hb⟩; have n0 := Aside0.mk (below_step HB2.out hb); clear hb HB2; have HB2 := n0; clear n0) | ((with_reducible refine (ARM 2 _ HF2.out _).mono ?_); rintro e_ w5 ⟨rfl, hb⟩; have n0 := Aside0.mk (below_step HB2.out hb); clear hb HB2; have HB2 := n0; clear n0) | ((with_reducible refine (ARM 4 _ HF4.out _).mono ?_); rintro e_ w5 ⟨rfl, hb⟩; have n0 := Aside0.mk (below_step HB2.out hb); clear hb HB2; have HB2 := n0; clear n0))
      go_ret
      exact ⟨by rw [HX.out, HL.out]; simp only [HF1.out, HF2.out, HF4.out]; rfl, HB2.out⟩
end Go.Proofs.YtkioddjjfifadaaGreatDoor.P
set_option linter.unusedVariables false
set_option linter.unusedSimpArgs false
namespace Go.Proofs.YtkioddjjfifadaaGreatDoor.P
open Go.RowKit Go.Proofs.YtkioddjjfifadaaGreatDoorW.PrintWords Go.Proofs.YtkioddjjfifadaaGreatDoorW.PrintLast Go.Proofs.YtkioddjjfifadaaGreatDoorW.PrintMore
/-- v is the error of the number n: none at 0. -/
def EV (v : Value) (n : Int) : Prop := (n = 0 ∧ v = .nilIface) ∨ (n ≠ 0 ∧ ∃ x : NE, v = x.val ∧ x.num = n)
theorem EV.nil : EV .nilIface 0 := Or.inl ⟨rfl, rfl⟩
theorem EV.f30 : EV (.iface 225 (.int .i64 3)) 30 := Or.inr ⟨by decide, .flt 3, rfl, rfl⟩
theorem EV.f5 : EV (.iface 225 (.int .i64 2)) 5 := Or.inr ⟨by decide, .flt 2, rfl, rfl⟩
theorem EV.f4 : EV (.iface 225 (.int .i64 1)) 4 := Or.inr ⟨by decide, .flt 1, rfl, rfl⟩
theorem EV.f1 : EV (.iface 225 (.int .i64 4)) 1 := Or.inr ⟨by decide, .flt 4, rfl, rfl⟩
theorem EV.low {e : Int} (h : ¬ e = 0) : EV (.iface 222 (.agg #[.int .i64 e])) e := Or.inr ⟨h, .low e, rfl, rfl⟩
theorem EV.part {i n : Int} {t : TypeId} {u : Value} (h : EV (.iface t u) n) : EV (.iface 229 (.agg #[.int .i64 i, .iface t u])) n := by
  rcases h with ⟨_, h⟩ | ⟨hn, x, hx, hm⟩
  rotate_left
  · exact Or.inr ⟨hn, .part i x, by rw [NE.val, hx], hm⟩
  cases h
theorem EV.nil_of {v : Value} {n : Int} (h : EV v n) (hn : (n == 0) = true) : v = .nilIface := by
  rcases h with ⟨_, h⟩ | ⟨h, _⟩
  rotate_left
  · exact absurd (beq_iff_eq.mp hn) h
  exact h
theorem EV.some_of {v : Value} {n : Int} (h : EV v n) (hn : (n == 0) = false) : ∃ t u, v = .iface t u := by
  rcases h with ⟨h, _⟩ | ⟨_, x, h, _⟩
  · exact absurd h (beq_eq_false_iff_ne.mp hn)
  obtain ⟨t, u, hx, _⟩ := x.val_iface
  exact ⟨t, u, h.trans hx⟩
theorem name_number_nil (w : World) : Calls Tryz.prog 80 #[.nilIface] w fun e w' => e = .returned (.int .i64 0) ∧ Below w.heap.size w w' := by
  have HB := Aside0.mk (below_alloc (Below.refl w.heap.size w) (.cells #[.int .i64 0] 222))
  go_enter Tryz.func80, Tryz.ntmps80
  go_wp2_with fail
  go_ret
  exact ⟨rfl, HB.out⟩
theorem name_number_ev {v : Value} {n : Int} (h : EV v n) (w : World) (hH : Hd w) : Calls Tryz.prog 80 #[v] w fun e w' => e = .returned (.int .i64 n) ∧ Below w.heap.size w w' := by
  rcases h with ⟨rfl, rfl⟩ | ⟨_, x, rfl, rfl⟩
  rotate_left
  · exact name_number_ne x w hH
  exact name_number_nil w
end Go.Proofs.YtkioddjjfifadaaGreatDoor.P
namespace Go.Proofs.YtkioddjjfifadaaGreatDoor.P
open Go.RowKit Go.Proofs.YtkioddjjfifadaaGreatDoorW.PrintWords Go.Proofs.YtkioddjjfifadaaGreatDoorW.PrintLast Go.Proofs.YtkioddjjfifadaaGreatDoorW.PrintMore
attribute [local go_sem] max2_int min2_int max_two min_two max_three min_three max_four min_four   -- for this text's walks alone
set_option linter.unusedVariables false
set_option linter.unusedSimpArgs false
def name_about.f (k : Nat) (a0 : Int) (l1 : List (List Int)) : Option (List Int × Int) := (der_Put.f k 0 a0 true l1).bind fun bt307 => (if bt307.2 = 0 then (some (bt307.1, 0)) else (some (([] : List Int), bt307.2)))
set_option maxHeartbeats 8000000 in
set_option maxRecDepth 100000 in
theorem name_about.calls (k : Nat) (a0 : Int) (A1 : Option Addr) (c1 : Nat) (l1 : List (List Int)) (r1 : List Int) (r2 : Int) (w : World) (hr1 : Kd.C (Kd.slice 5 (Kd.int .u8)) w A1 l1.length l1) (hc1 : l1.length ≤ c1) (h : name_about.f k a0 l1 = some (r1, r2)) :
    Calls Tryz.prog 152 #[.int .i64 a0, .slice A1 l1.length c1] w fun e w' => ∃ v0_ ev_ : Value, e = .returned (.tuple #[v0_, ev_]) ∧ EV ev_ r2 ∧ Kd.R (Kd.int .u8) 5 w' w.heap.size (fun _ => True) v0_ r1 ∧ Below w.heap.size w w' := by
  have HR1 := Aside0.mk hr1
  have HC1 := Aside0.mk hc1
  clear hr1 hc1
  have HB := Aside0.mk (Below.refl w.heap.size w)
  have H : ((der_Put.f k 0 a0 true l1).bind fun bt307 => (if bt307.2 = 0 then (some (bt307.1, 0)) else (some (([] : List Int), bt307.2)))) = some (r1, r2) := h
  clear h
  replace H := Option.bind_eq_some_iff.mp H
  obtain ⟨⟨t307, t308⟩, A30, H⟩ := H
  replace H : (if t308 = 0 then (some (t307, 0)) else (some (([] : List Int), t308))) = some (r1, r2) := H
  have A3 := Aside0.mk A30
  clear A30
  by_cases c4 : t308 = 0
  rotate_left
  · rw [if_neg c4] at H
    have c4b0 : (t308 == 0) = false := beq_eq_false_iff_ne.mpr c4
    have c4b1 : (t308 != 0) = true := bne_iff_ne.mpr c4
    simp only [Option.some.injEq, Prod.mk.injEq] at H
    obtain ⟨rfl, rfl⟩ := H
    go_enter Tryz.func152, Tryz.ntmps152
    go_wp2_with (first | ((with_reducible refine gate_callee (f := 168) rfl ?_); refine goesL_ (some 11) rfl rfl Tryz.func168 (by kernel_rfl) rfl #[.int .i64 0, .int .i64 a0, .bool true, .slice A1 l1.length c1] rfl (by (try simp only [List.map_toArray, List.map_cons, List.map_nil]); first | done | rfl | (simp only [List.length_drop, List.length_take]; rfl)) ?_; (with_reducible refine (der_Put.calls k 0 a0 true _ _ l1 t307 t308 _ ?side1 ?side2 A3.out).mono ?_); (case side1 => repeat (first | exact HR1.out | (with_reducible refine Kd.C_alloc ?_ _) | (with_reducible refine Kd.C_drewN ?_ _) | (with_reducible refine Kd.C_drew ?_))); (case side2 => exact HC1.out); rintro e w6 ⟨v309, rfl, ho0, hb⟩; refine ⟨_, rfl, ?_⟩; have n0_ := Aside0.mk (Kd.R_lower ho0 (below_size (by repeat (first | (with_reducible first | exact HB.out | apply below_alloc | apply pw_below_drewN | apply below_drew1) | exact HB.out)))); have n1_ := Aside0.mk (below_step (by repeat (first | (with_reducible first | exact HB.out | apply below_alloc | apply pw_below_drewN | apply below_drew1) | exact HB.out)) hb); clear HB; have HO310 := n0_; have HB := n1_; clear n0_ n1_; (try clear hb); (try clear hb2); (try clear hk); (try clear hi); (try clear ho0)))
    go_ret2
    exact ⟨_, _, by first | rfl | (simp [errW_none, errW_some] <;> rfl) | (simp [*, errW_none, errW_some] <;> rfl), (by first | exact EV.nil | exact EV.f30 | exact EV.f5 | exact EV.f4 | exact EV.f1 | exact EV.low (by assumption) | exact HEV_.out | exact EV.part HEV_.out), by first | exact Kd.R_nil _ _ _ _ _ | exact Kd.N_nil _ _ _ _ _ | exact Kd.V_nil _ _ _ _ _ | exact Kd.Q_nil _ _ _ _ _ | exact Kd.S_nil _ _ _ _ _, by repeat (first | (with_reducible first | exact HB.out | apply below_alloc | apply pw_below_drewN | apply below_drew1) | exact HB.out)⟩
  rw [if_pos c4] at H
  have c4b0 : (t308 == 0) = true := beq_iff_eq.mpr c4
  have c4b1 : (t308 != 0) = false := bne_eq_false_iff_eq.mpr c4
  clear c4
  simp only [Option.some.injEq, Prod.mk.injEq] at H
  obtain ⟨rfl, rfl⟩ := H
  go_enter Tryz.func152, Tryz.ntmps152
  go_wp2_with (first | ((with_reducible refine gate_callee (f := 168) rfl ?_); refine goesL_ (some 11) rfl rfl Tryz.func168 (by kernel_rfl) rfl #[.int .i64 0, .int .i64 a0, .bool true, .slice A1 l1.length c1] rfl (by (try simp only [List.map_toArray, List.map_cons, List.map_nil]); first | done | rfl | (simp only [List.length_drop, List.length_take]; rfl)) ?_; (with_reducible refine (der_Put.calls k 0 a0 true _ _ l1 t307 t308 _ ?side1 ?side2 A3.out).mono ?_); (case side1 => repeat (first | exact HR1.out | (with_reducible refine Kd.C_alloc ?_ _) | (with_reducible refine Kd.C_drewN ?_ _) | (with_reducible refine Kd.C_drew ?_))); (case side2 => exact HC1.out); rintro e w5 ⟨v309, rfl, ho0, hb⟩; refine ⟨_, rfl, ?_⟩; have n0_ := Aside0.mk (Kd.R_lower ho0 (below_size (by repeat (first | (with_reducible first | exact HB.out | apply below_alloc | apply pw_below_drewN | apply below_drew1) | exact HB.out)))); have n1_ := Aside0.mk (below_step (by repeat (first | (with_reducible first | exact HB.out | apply below_alloc | apply pw_below_drewN | apply below_drew1) | exact HB.out)) hb); clear HB; have HO310 := n0_; have HB := n1_; clear n0_ n1_; (try clear hb); (try clear hb2); (try clear hk); (try clear hi); (try clear ho0)))
  go_ret2
  exact ⟨_, _, by first | rfl | (simp [errW_none, errW_some] <;> rfl) | (simp [*, errW_none, errW_some] <;> rfl), (by first | exact EV.nil | exact EV.f30 | exact EV.f5 | exact EV.f4 | exact EV.f1 | exact EV.low (by assumption) | exact HEV_.out | exact EV.part HEV_.out), by (with_reducible repeat (first | apply Kd.R_alloc | apply Kd.R_drewN | apply Kd.R_drew)); exact HO310.out, by repeat (first | (with_reducible first | exact HB.out | apply below_alloc | apply pw_below_drewN | apply below_drew1) | exact HB.out)⟩
end Go.Proofs.YtkioddjjfifadaaGreatDoor.P
namespace Go.Proofs.YtkioddjjfifadaaGreatDoor.P
open Go.RowKit Go.Proofs.YtkioddjjfifadaaGreatDoorW.PrintWords Go.Proofs.YtkioddjjfifadaaGreatDoorW.PrintLast Go.Proofs.YtkioddjjfifadaaGreatDoorW.PrintMore
attribute [local go_sem] max2_int min2_int max_two min_two max_three min_three max_four min_four   -- for this text's walks alone
set_option linter.unusedVariables false
set_option linter.unusedSimpArgs false
def name_lay.j0 : Nat → List Int → Bool → ByteArray → Int → List Int → Option (List Int × Int)
  | 0, _, _, _, _, _ => none
  | k + 1, x4, x26, x333000, x333001, x333002 => if x26 = true then (some (([] : List Int), 1)) else ((der_Put.f k 0 6 false (([x4] : List (List Int)))).bind fun bt340 => (if bt340.2 = 0 then ((der_Put.f k 0 x333001 false (([x333002] : List (List Int)))).bind fun bt347 => (if bt347.2 = 0 then ((name_about.f k 16 (([bt340.1, bt347.1] : List (List Int)))).bind fun bt354 => (some (bt354.1, bt354.2))) else (some (([] : List Int), bt347.2)))) else (some (([] : List Int), bt340.2))))
def name_lay.f (k : Nat) (a0_0 : ByteArray) (a0_1 : Int) (l0_2 : List Int) : Option (List Int × Int) := (der_PutOid.f k a0_0).bind fun bt333 => (if bt333.2 = 0 then (if a0_1 < 1 then (name_lay.j0 k bt333.1 true a0_0 a0_1 l0_2) else (name_lay.j0 k bt333.1 (decide (a0_1 > 268435455)) a0_0 a0_1 l0_2)) else (some (([] : List Int), bt333.2)))
set_option maxHeartbeats 8000000 in
set_option maxRecDepth 100000 in
theorem name_lay.calls (k : Nat) (a0_0 : ByteArray) (a0_1 : Int) (P0_2_ : Nat → Prop) (A0_2 : Option Addr) (c0_2 : Nat) (l0_2 : List Int) (r1 : List Int) (r2 : Int) (w : World) (hs0_2 : Kd.V (Kd.int .u8) 5 w w.heap.size (fun k_ => P0_2_ k_) (.slice A0_2 l0_2.length c0_2) l0_2) (h : name_lay.f k a0_0 a0_1 l0_2 = some (r1, r2)) :
    Calls Tryz.prog 149 #[.agg #[.string a0_0, .int .i64 a0_1, .slice A0_2 l0_2.length c0_2]] w fun e w' => ∃ v0_ ev_ : Value, e = .returned (.tuple #[v0_, ev_]) ∧ EV ev_ r2 ∧ Kd.R (Kd.int .u8) 5 w' w.heap.size (fun k_ => (w.heap.size ≤ k_)) v0_ r1 ∧ Below w.heap.size w w' := by
  have hu64 := Tryz.underlying64
  have HO0_2 := Aside0.mk (show Kd.V (Kd.int .u8) 5 w w.heap.size (fun k_ => (P0_2_ k_ ∨ w.heap.size ≤ k_)) (.slice A0_2 l0_2.length c0_2) l0_2 from Kd.V_mono hs0_2 (fun k_ hk => .inl hk))
  have HB := Aside0.mk (Below.refl w.heap.size w)
  have H : ((der_PutOid.f k a0_0).bind fun bt333 => (if bt333.2 = 0 then (if a0_1 < 1 then (name_lay.j0 k bt333.1 true a0_0 a0_1 l0_2) else (name_lay.j0 k bt333.1 (decide (a0_1 > 268435455)) a0_0 a0_1 l0_2)) else (some (([] : List Int), bt333.2)))) = some (r1, r2) := h
  clear h
  replace H := Option.bind_eq_some_iff.mp H
  obtain ⟨⟨t333, t334⟩, A20, H⟩ := H
  replace H : (if t334 = 0 then (if a0_1 < 1 then (name_lay.j0 k t333 true a0_0 a0_1 l0_2) else (name_lay.j0 k t333 (decide (a0_1 > 268435455)) a0_0 a0_1 l0_2)) else (some (([] : List Int), t334))) = some (r1, r2) := H
  have A2 := Aside0.mk A20
  clear A20
  by_cases c3 : t334 = 0
  rotate_left
  · rw [if_neg c3] at H
    have c3b0 : (t334 == 0) = false := beq_eq_false_iff_ne.mpr c3
    have c3b1 : (t334 != 0) = true := bne_iff_ne.mpr c3
    simp only [Option.some.injEq, Prod.mk.injEq] at H
    obtain ⟨rfl, rfl⟩ := H
    go_enter Tryz.func149, Tryz.ntmps149
    go_wp2_with (first | ((with_reducible refine gate_dst (N := 1) rfl ?_); refine box_event ?hg (N := 1) ?hd (cs := #[.string a0_0, .int .i64 a0_1, .slice A0_2 l0_2.length c0_2]) (t := 64) ?hr ?_; (case hd => rfl); (case hg => rfl); (case hr => first | (go_simp; done) | (go_simp; rfl)); intro gb332 hg w48 hbox hb; have n0_ := Aside0.mk (Kd.V_below (Kd.V_elderB (by (with_reducible repeat (first | apply Kd.V_alloc | apply Kd.V_drewN | apply Kd.V_drew)); exact HO0_2.out) gb332 (Nat.le_of_eq hg.symm)) hb); have n1_ := Aside0.mk (below_step (by repeat (first | (with_reducible first | exact HB.out | apply below_alloc | apply pw_below_drewN | apply below_drew1) | exact HB.out)) hb); have n2_ := Aside0.mk (hbox); have n3_ := Aside0.mk ((by rw [hg]; exact (below_size (by repeat (first | (with_reducible first | exact HB.out | apply below_alloc | apply pw_below_drewN | apply below_drew1) | exact HB.out))) : w.heap.size ≤ gb332)); have n4_ := Aside0.mk ((by rw [hg]; exact (below_size (by repeat (first | (with_reducible first | exact HB.out | apply below_alloc | apply pw_below_drewN | apply below_drew1) | exact HB.out))) : w.heap.size ≤ gb332)); clear HO0_2; clear HB; have HO0_2 := n0_; have HB := n1_; have BK332 := n2_; have GW332 := n3_; have GE332 := n4_; clear n0_ n1_ n2_ n3_ n4_; clear hb hbox hg; have hcz49_0 : w48.cell? ⟨gb332, 0, none⟩ = some (.string a0_0) := (blk_cell BK332.out 0).trans rfl; have hcz49_1 : w48.cell? ⟨gb332, 1, none⟩ = some (.int .i64 a0_1) := (blk_cell BK332.out 1).trans rfl; have hcz49_2 : w48.cell? ⟨gb332, 2, none⟩ = some (.slice A0_2 l0_2.length c0_2) := (blk_cell BK332.out 2).trans rfl; have hfz49_0 := blk_frozen BK332.out 0; have hfz49_1 := blk_frozen BK332.out 1; have hfz49_2 := blk_frozen BK332.out 2) | ((with_reducible refine gate_callee (f := 199) rfl ?_); refine goesL_ (some 11) rfl rfl Tryz.func199 (by kernel_rfl) rfl #[.string a0_0] rfl (by (try simp only [List.map_toArray, List.map_cons, List.map_nil]); first | done | rfl | (simp only [List.length_drop, List.length_take]; rfl)) ?_; (with_reducible refine (der_PutOid.calls k a0_0 t333 t334 _ A2.out).mono ?_); rintro e w50 ⟨v335, rfl, ho0, hb⟩; refine ⟨_, rfl, ?_⟩; have n0_ := Aside0.mk (Kd.V_elder' (by (with_reducible repeat (first | apply Kd.V_alloc | apply Kd.V_drewN | apply Kd.V_drew)); exact HO0_2.out) (Kd.R_base ho0) hb); have n1_ := Aside0.mk (Kd.R_lower (Kd.R_newM (M := fun k_ => (w.heap.size ≤ k_)) ho0 (below_size (by repeat (first | (with_reducible first | exact HB.out | apply below_alloc | apply pw_below_drewN | apply below_drew1 | refine below_set ?_ GE332.out) | exact HB.out))) (fun k_ h_ => h_)) (below_size (by repeat (first | (with_reducible first | exact HB.out | apply below_alloc | apply pw_below_drewN | apply below_drew1 | refine below_set ?_ GE332.out) | exact HB.out)))); have n2_ := Aside0.mk (blk_below (g := gb332) (o := .cells #[.string a0_0, .int .i64 a0_1, .slice A0_2 l0_2.length c0_2] 64 (0, 0)) (by (with_reducible repeat (first | refine blk_drewN ?_ _ | refine blk_drew ?_ | refine blk_alloc ?_ _)); exact BK332.out) hb); have n3_ := Aside0.mk (below_step (by repeat (first | (with_reducible first | exact HB.out | apply below_alloc | apply pw_below_drewN | apply below_drew1 | refine below_set ?_ GE332.out) | exact HB.out)) hb); clear HO0_2; clear BK332; clear HB; have HO0_2 := n0_; have HO336 := n1_; have BK332 := n2_; have HB := n3_; clear n0_ n1_ n2_ n3_; (try clear hb); (try clear hb2); (try clear hk); (try clear hi); (try clear ho0)))
    go_ret2
    exact ⟨_, _, by first | rfl | (simp [errW_none, errW_some] <;> rfl) | (simp [*, errW_none, errW_some] <;> rfl), (by first | exact EV.nil | exact EV.f30 | exact EV.f5 | exact EV.f4 | exact EV.f1 | exact EV.low (by assumption) | exact HEV_.out | exact EV.part HEV_.out), by first | exact Kd.R_nil _ _ _ _ _ | exact Kd.N_nil _ _ _ _ _ | exact Kd.V_nil _ _ _ _ _ | exact Kd.Q_nil _ _ _ _ _ | exact Kd.S_nil _ _ _ _ _, by repeat (first | (with_reducible first | exact HB.out | apply below_alloc | apply pw_below_drewN | apply below_drew1 | refine below_set ?_ GE332.out) | exact HB.out)⟩
  rw [if_pos c3] at H
  have c3b0 : (t334 == 0) = true := beq_iff_eq.mpr c3
  have c3b1 : (t334 != 0) = false := bne_eq_false_iff_eq.mpr c3
  clear c3
  have HC4 := Aside0.mk H
  clear H
  go_enter Tryz.func149, Tryz.ntmps149
  go_upto_region 4 with (first | ((with_reducible refine gate_dst (N := 1) rfl ?_); refine box_event ?hg (N := 1) ?hd (cs := #[.string a0_0, .int .i64 a0_1, .slice A0_2 l0_2.length c0_2]) (t := 64) ?hr ?_; (case hd => rfl); (case hg => rfl); (case hr => first | (go_simp; done) | (go_simp; rfl)); intro gb332 hg w5 hbox hb; have n0_ := Aside0.mk (Kd.V_below (Kd.V_elderB (by (with_reducible repeat (first | apply Kd.V_alloc | apply Kd.V_drewN | apply Kd.V_drew)); exact HO0_2.out) gb332 (Nat.le_of_eq hg.symm)) hb); have n1_ := Aside0.mk (below_step (by repeat (first | (with_reducible first | exact HB.out | apply below_alloc | apply pw_below_drewN | apply below_drew1) | exact HB.out)) hb); have n2_ := Aside0.mk (hbox); have n3_ := Aside0.mk ((by rw [hg]; exact (below_size (by repeat (first | (with_reducible first | exact HB.out | apply below_alloc | apply pw_below_drewN | apply below_drew1) | exact HB.out))) : w.heap.size ≤ gb332)); have n4_ := Aside0.mk ((by rw [hg]; exact (below_size (by repeat (first | (with_reducible first | exact HB.out | apply below_alloc | apply pw_below_drewN | apply below_drew1) | exact HB.out))) : w.heap.size ≤ gb332)); clear HO0_2; clear HB; have HO0_2 := n0_; have HB := n1_; have BK332 := n2_; have GW332 := n3_; have GE332 := n4_; clear n0_ n1_ n2_ n3_ n4_; clear hb hbox hg; have hcz6_0 : w5.cell? ⟨gb332, 0, none⟩ = some (.string a0_0) := (blk_cell BK332.out 0).trans rfl; have hcz6_1 : w5.cell? ⟨gb332, 1, none⟩ = some (.int .i64 a0_1) := (blk_cell BK332.out 1).trans rfl; have hcz6_2 : w5.cell? ⟨gb332, 2, none⟩ = some (.slice A0_2 l0_2.length c0_2) := (blk_cell BK332.out 2).trans rfl; have hfz6_0 := blk_frozen BK332.out 0; have hfz6_1 := blk_frozen BK332.out 1; have hfz6_2 := blk_frozen BK332.out 2) | ((with_reducible refine gate_callee (f := 199) rfl ?_); refine goesL_ (some 11) rfl rfl Tryz.func199 (by kernel_rfl) rfl #[.string a0_0] rfl (by (try simp only [List.map_toArray, List.map_cons, List.map_nil]); first | done | rfl | (simp only [List.length_drop, List.length_take]; rfl)) ?_; (with_reducible refine (der_PutOid.calls k a0_0 t333 t334 _ A2.out).mono ?_); rintro e w7 ⟨v335, rfl, ho0, hb⟩; refine ⟨_, rfl, ?_⟩; have n0_ := Aside0.mk (Kd.V_elder' (by (with_reducible repeat (first | apply Kd.V_alloc | apply Kd.V_drewN | apply Kd.V_drew)); exact HO0_2.out) (Kd.R_base ho0) hb); have n1_ := Aside0.mk (Kd.R_lower (Kd.R_newM (M := fun k_ => (w.heap.size ≤ k_)) ho0 (below_size (by repeat (first | (with_reducible first | exact HB.out | apply below_alloc | apply pw_below_drewN | apply below_drew1 | refine below_set ?_ GE332.out) | exact HB.out))) (fun k_ h_ => h_)) (below_size (by repeat (first | (with_reducible first | exact HB.out | apply below_alloc | apply pw_below_drewN | apply below_drew1 | refine below_set ?_ GE332.out) | exact HB.out)))); have n2_ := Aside0.mk (blk_below (g := gb332) (o := .cells #[.string a0_0, .int .i64 a0_1, .slice A0_2 l0_2.length c0_2] 64 (0, 0)) (by (with_reducible repeat (first | refine blk_drewN ?_ _ | refine blk_drew ?_ | refine blk_alloc ?_ _)); exact BK332.out) hb); have n3_ := Aside0.mk (below_step (by repeat (first | (with_reducible first | exact HB.out | apply below_alloc | apply pw_below_drewN | apply below_drew1 | refine below_set ?_ GE332.out) | exact HB.out)) hb); clear HO0_2; clear BK332; clear HB; have HO0_2 := n0_; have HO336 := n1_; have BK332 := n2_; have HB := n3_; clear n0_ n1_ n2_ n3_; (try clear hb); (try clear hb2); (try clear hk); (try clear hi); (try clear ho0)))
  (try simp only [Act.put, List.setIfInBounds_toArray, List.set_cons_zero, List.set_cons_succ])
  go_cut [26] (fun v26 wc => ∃ (kq : Nat) (x26_3 : Bool), v26 = .bool x26_3 ∧ Aside0 (name_lay.j0 kq t333 x26_3 a0_0 a0_1 l0_2 = some (r1, r2)) ∧ Aside0 (kq ≤ k) ∧ Aside0 (Kd.R (Kd.int .u8) 5 wc w.heap.size (fun k_ => (w.heap.size ≤ k_)) v335 t333) ∧ Aside0 (Kd.V (Kd.int .u8) 5 wc w.heap.size (fun k_ => (P0_2_ k_ ∨ w.heap.size ≤ k_) ∧ some k_ ≠ (v335 : Value).ownBlock ∧ k_ ≠ gb332) (.slice A0_2 l0_2.length c0_2) l0_2) ∧ Aside0 (wc.heap[gb332]? = some (.cells #[.string a0_0, .int .i64 a0_1, (.slice A0_2 l0_2.length c0_2)] 64 (0, 0))) ∧ Aside0 (Below w.heap.size w wc))
  case first =>
    have H := HC4.out
    clear HC4
    by_cases c8 : a0_1 < 1
    rotate_left
    · rw [if_neg c8] at H
      have c8b0 : decide (a0_1 < 1) = false := decide_eq_false c8
      clear c8
      (first | rw [c8b0] | (simp only [i64_w, i32_w]; rw [c8b0]) | skip)
      have H' := Aside0.mk H
      clear H
      have hcz10_0 : w7.cell? ⟨gb332, 0, none⟩ = some (.string a0_0) := (blk_cell BK332.out 0).trans rfl
      have hcz10_1 : w7.cell? ⟨gb332, 1, none⟩ = some (.int .i64 a0_1) := (blk_cell BK332.out 1).trans rfl
      have hcz10_2 : w7.cell? ⟨gb332, 2, none⟩ = some (.slice A0_2 l0_2.length c0_2) := (blk_cell BK332.out 2).trans rfl
      have hfz10_0 := blk_frozen BK332.out 0
      have hfz10_1 := blk_frozen BK332.out 1
      have hfz10_2 := blk_frozen BK332.out 2
      go_wp2
      go_meet
      case rel => exact ⟨_, (decide (a0_1 > 268435455)), (by first | rfl | (simp; done) | (simp [*]; done)), H', ⟨by first | omega | exact Nat.le_refl _⟩, ⟨by (with_reducible repeat (first | apply Kd.R_alloc | apply Kd.R_drewN | apply Kd.R_drew)); exact Kd.R_mono HO336.out (fun _ hk => hk.1)⟩, ⟨by (with_reducible repeat (first | apply Kd.V_alloc | apply Kd.V_drewN | apply Kd.V_drew)); exact Kd.V_mono HO0_2.out (fun _ hk => ⟨hk.1.1, ⟨hk.2, hk.1.2⟩⟩)⟩, ⟨by (with_reducible repeat (first | refine blk_drewN ?_ _ | refine blk_drew ?_ | refine blk_alloc ?_ _)); exact BK332.out⟩, ⟨by repeat (first | (with_reducible first | exact HB.out | apply below_alloc | apply pw_below_drewN | apply below_drew1 | refine below_set ?_ GE332.out) | exact HB.out)⟩⟩
    rw [if_pos c8] at H
    have c8b0 : decide (a0_1 < 1) = true := decide_eq_true c8
    clear c8
    (first | rw [c8b0] | (simp only [i64_w, i32_w]; rw [c8b0]) | skip)
    have H' := Aside0.mk H
    clear H
    have hcz9_0 : w7.cell? ⟨gb332, 0, none⟩ = some (.string a0_0) := (blk_cell BK332.out 0).trans rfl
    have hcz9_1 : w7.cell? ⟨gb332, 1, none⟩ = some (.int .i64 a0_1) := (blk_cell BK332.out 1).trans rfl
    have hcz9_2 : w7.cell? ⟨gb332, 2, none⟩ = some (.slice A0_2 l0_2.length c0_2) := (blk_cell BK332.out 2).trans rfl
    have hfz9_0 := blk_frozen BK332.out 0
    have hfz9_1 := blk_frozen BK332.out 1
    have hfz9_2 := blk_frozen BK332.out 2
    go_wp2
    go_meet
    case rel => exact ⟨_, (true), (by first | rfl | (simp; done) | (simp [*]; done)), H', ⟨by first | omega | exact Nat.le_refl _⟩, ⟨by (with_reducible repeat (first | apply Kd.R_alloc | apply Kd.R_drewN | apply Kd.R_drew)); exact Kd.R_mono HO336.out (fun _ hk => hk.1)⟩, ⟨by (with_reducible repeat (first | apply Kd.V_alloc | apply Kd.V_drewN | apply Kd.V_drew)); exact Kd.V_mono HO0_2.out (fun _ hk => ⟨hk.1.1, ⟨hk.2, hk.1.2⟩⟩)⟩, ⟨by (with_reducible repeat (first | refine blk_drewN ?_ _ | refine blk_drew ?_ | refine blk_alloc ?_ _)); exact BK332.out⟩, ⟨by repeat (first | (with_reducible first | exact HB.out | apply below_alloc | apply pw_below_drewN | apply below_drew1 | refine below_set ?_ GE332.out) | exact HB.out)⟩⟩
  clear HC4
  try clear c1
  try clear p2
  try clear c3
  try clear c3b0
  try clear c3b1
  try clear c8
  try clear c8b0
  try clear hcz10_0
  try clear hcz10_1
  try clear hcz10_2
  try clear hcz6_0
  try clear hcz6_1
  try clear hcz6_2
  try clear hcz9_0
  try clear hcz9_1
  try clear hcz9_2
  try clear hfz10_0
  try clear hfz10_1
  try clear hfz10_2
  try clear hfz6_0
  try clear hfz6_1
  try clear hfz6_2
  try clear hfz9_0
  try clear hfz9_1
  try clear hfz9_2
  obtain ⟨kq, x26_3, rfl, HA, HJ3, HO_4, HO_333002, BK332, HB⟩ := hcut
  cases kq with
  | zero => exact absurd HA.out (by simp [name_lay.j0])
  | succ kj3 =>
    have H := HA.out
    clear HA
    simp only [name_lay.j0] at H
    by_cases c11 : x26_3 = true
    · subst c11
      have H1 : (some (([] : List Int), 1)) = some (r1, r2) := by rw [if_pos rfl] at H; exact H
      clear H
      have H := H1
      clear H1
      simp only [Option.some.injEq, Prod.mk.injEq] at H
      obtain ⟨rfl, rfl⟩ := H
      go_wp2
      go_ret2
      exact ⟨_, _, by first | rfl | (simp [errW_none, errW_some] <;> rfl) | (simp [*, errW_none, errW_some] <;> rfl), (by first | exact EV.nil | exact EV.f30 | exact EV.f5 | exact EV.f4 | exact EV.f1 | exact EV.low (by assumption) | exact HEV_.out | exact EV.part HEV_.out), by first | exact Kd.R_nil _ _ _ _ _ | exact Kd.N_nil _ _ _ _ _ | exact Kd.V_nil _ _ _ _ _ | exact Kd.Q_nil _ _ _ _ _ | exact Kd.S_nil _ _ _ _ _, by repeat (first | (with_reducible first | exact HB.out | apply below_alloc | apply pw_below_drewN | apply below_drew1 | refine below_set ?_ GE332.out) | exact HB.out)⟩
    replace c11 := Bool.eq_false_iff.mpr c11
    subst c11
    have H1 : ((der_Put.f kj3 0 6 false (([t333] : List (List Int)))).bind fun bt340 => (if bt340.2 = 0 then ((der_Put.f kj3 0 a0_1 false (([l0_2] : List (List Int)))).bind fun bt347 => (if bt347.2 = 0 then ((name_about.f kj3 16 (([bt340.1, bt347.1] : List (List Int)))).bind fun bt354 => (some (bt354.1, bt354.2))) else (some (([] : List Int), bt347.2)))) else (some (([] : List Int), bt340.2)))) = some (r1, r2) := by rw [if_neg (show ¬ (false = true) by decide)] at H; exact H
    clear H
    have H := H1
    clear H1
    obtain ⟨y337, hy337⟩ : ∃ y_ : List (List Int), y_ = (([t333] : List (List Int))) := ⟨_, rfl⟩
    replace H : ((der_Put.f kj3 0 6 false y337).bind fun bt340 => (if bt340.2 = 0 then ((der_Put.f kj3 0 a0_1 false (([l0_2] : List (List Int)))).bind fun bt347 => (if bt347.2 = 0 then ((name_about.f kj3 16 (([bt340.1, bt347.1] : List (List Int)))).bind fun bt354 => (some (bt354.1, bt354.2))) else (some (([] : List Int), bt347.2)))) else (some (([] : List Int), bt340.2)))) = some (r1, r2) := by first | (rw [hy337]; with_reducible exact H) | (have H2_ := (Option.bind_some _ _).symm.trans H; rw [hy337]; with_reducible exact H2_) | (have H2_ := (Option.bind_some _ _).symm.trans H; with_reducible exact H2_) | with_reducible exact H | (rw [hy337]; exact H) | exact H
    have Ny337 := Aside0.mk hy337
    clear hy337
    replace H := Option.bind_eq_some_iff.mp H
    obtain ⟨⟨t340, t341⟩, A120, H⟩ := H
    replace H : (if t341 = 0 then ((der_Put.f kj3 0 a0_1 false (([l0_2] : List (List Int)))).bind fun bt347 => (if bt347.2 = 0 then ((name_about.f kj3 16 (([t340, bt347.1] : List (List Int)))).bind fun bt354 => (some (bt354.1, bt354.2))) else (some (([] : List Int), bt347.2)))) else (some (([] : List Int), t341))) = some (r1, r2) := H
    have A12 := Aside0.mk A120
    clear A120
    by_cases c13 : t341 = 0
    rotate_left
    · rw [if_neg c13] at H
      have c13b0 : (t341 == 0) = false := beq_eq_false_iff_ne.mpr c13
      have c13b1 : (t341 != 0) = true := bne_iff_ne.mpr c13
      simp only [Option.some.injEq, Prod.mk.injEq] at H
      obtain ⟨rfl, rfl⟩ := H
      obtain ⟨Ao43, co43, eo43⟩ := Kd.R_slice HO_4.out
      subst eo43
      go_wp2_with (first | ((with_reducible refine gate_dst (N := 30) rfl ?_); refine Kd.N_lit (Kd.slice 5 (Kd.int .u8)) _ 22 ?hg (N' := 30) ?hd (xs := ([t333] : List (List Int))) (inner := [.slice Ao43 t333.length co43]) (ok := (fun k_ => (P0_2_ k_ ∨ w.heap.size ≤ k_) ∧ k_ ≠ gb332)) (okp := (fun k_ => (P0_2_ k_ ∨ w.heap.size ≤ k_) ∧ k_ ≠ gb332)) ?hr ?hp (fun _ hk => hk) ((show ∀ k_, wc.heap.size ≤ k_ → (fun k_ => (P0_2_ k_ ∨ w.heap.size ≤ k_) ∧ k_ ≠ gb332) k_ from fun k_ hk => ⟨(.inr (Nat.le_trans (below_size (by repeat (first | (with_reducible first | exact HB.out | apply below_alloc | apply pw_below_drewN | apply below_drew1 | refine below_set ?_ GE332.out) | exact HB.out))) hk)), Kd.freshB (g := gb332) (o := .cells #[.string a0_0, .int .i64 a0_1, .slice A0_2 l0_2.length c0_2] 64 (0, 0)) (by (with_reducible repeat (first | refine blk_drewN ?_ _ | refine blk_drew ?_ | refine blk_alloc ?_ _)); exact BK332.out) k_ hk⟩) _ (Nat.le_refl _)) (Below.refl _ _) (Nat.le_refl _) (by simp) ?_; (case hd => rfl); (case hg => rfl); (case hr => first | (go_simp; done) | (go_simp; rfl)); (case hp => exact (Reps.one (show Kd.FK (Kd.slice 5 (Kd.int .u8)) _ _ t333 [.slice Ao43 t333.length co43] from (Kd.FK_slice_mk (Kd.R_reads' (Kd.R_mono (ok' := (fun k_ => (P0_2_ k_ ∨ w.heap.size ≤ k_) ∧ k_ ≠ gb332)) (Kd.R_types (HO_4.out) BK332.out (by decide)) (fun k_ hk => ⟨(.inr (hk.1)), hk.2⟩))).2.1 (Kd.R_F (Kd.R_mono (ok' := (fun k_ => (P0_2_ k_ ∨ w.heap.size ≤ k_) ∧ k_ ≠ gb332)) (Kd.R_types (HO_4.out) BK332.out (by decide)) (fun k_ hk => ⟨(.inr (hk.1)), hk.2⟩))))) (Reps.none _ _))); intro v338 w44 ho45 hb hg_ hnew_; clear hg_ hnew_; (first | rw [← Ny337.out] at ho45 | (simp only [Int.reduceToNat] at ho45; rw [← Ny337.out] at ho45)); have n0_ := Aside0.mk (Kd.V_elder' (by (with_reducible repeat (first | apply Kd.V_alloc | apply Kd.V_drewN | apply Kd.V_drew)); exact HO_333002.out) (Kd.N_base ho45) hb); have n1_ := Aside0.mk (Kd.N_lower ho45 (below_size (by repeat (first | (with_reducible first | exact HB.out | apply below_alloc | apply pw_below_drewN | apply below_drew1 | refine below_set ?_ GE332.out) | exact HB.out)))); have n2_ := Aside0.mk (blk_below (g := gb332) (o := .cells #[.string a0_0, .int .i64 a0_1, .slice A0_2 l0_2.length c0_2] 64 (0, 0)) (by (with_reducible repeat (first | refine blk_drewN ?_ _ | refine blk_drew ?_ | refine blk_alloc ?_ _)); exact BK332.out) hb); have n3_ := Aside0.mk (below_step (by repeat (first | (with_reducible first | exact HB.out | apply below_alloc | apply pw_below_drewN | apply below_drew1 | refine below_set ?_ GE332.out) | exact HB.out)) hb); clear HO_333002; clear BK332; clear HB; clear HO_4; have HO_333002 := n0_; have HO339 := n1_; have BK332 := n2_; have HB := n3_; clear n0_ n1_ n2_ n3_; clear hb ho45; obtain ⟨Ao46, co46, eo46⟩ := Kd.N_slice HO339.out; subst eo46) | ((with_reducible refine gate_callee (f := 168) rfl ?_); refine goesL_ (some 31) rfl rfl Tryz.func168 (by kernel_rfl) rfl #[.int .i64 0, .int .i64 6, .bool false, .slice Ao46 y337.length co46] rfl (by (try simp only [List.map_toArray, List.map_cons, List.map_nil]); first | done | rfl | (simp only [List.length_drop, List.length_take]; rfl)) ?_; (with_reducible refine (der_Put.calls kj3 0 6 false _ _ y337 t340 t341 _ ?side1 ?side2 A12.out).mono ?_); (case side1 => repeat (first | exact (Kd.N_reads' HO339.out).2.2 | (with_reducible refine Kd.C_alloc ?_ _) | (with_reducible refine Kd.C_drewN ?_ _) | (with_reducible refine Kd.C_drew ?_))); (case side2 => exact (Kd.N_reads' HO339.out).2.1); rintro e w47 ⟨v342, rfl, ho0, hb⟩; refine ⟨_, rfl, ?_⟩; have n0_ := Aside0.mk (Kd.V_elder' (by (with_reducible repeat (first | apply Kd.V_alloc | apply Kd.V_drewN | apply Kd.V_drew)); exact HO_333002.out) (Kd.R_base ho0) hb); have n1_ := Aside0.mk (Kd.N_elder' (by (with_reducible repeat (first | apply Kd.N_alloc | apply Kd.N_drewN | apply Kd.N_drew)); exact HO339.out) (Kd.R_base ho0) hb); have n2_ := Aside0.mk (Kd.R_lower (Kd.R_newM (M := fun k_ => (w.heap.size ≤ k_)) ho0 (below_size (by repeat (first | (with_reducible first | exact HB.out | apply below_alloc | apply pw_below_drewN | apply below_drew1 | refine below_set ?_ GE332.out) | exact HB.out))) (fun k_ h_ => h_)) (below_size (by repeat (first | (with_reducible first | exact HB.out | apply below_alloc | apply pw_below_drewN | apply below_drew1 | refine below_set ?_ GE332.out) | exact HB.out)))); have n3_ := Aside0.mk (blk_below (g := gb332) (o := .cells #[.string a0_0, .int .i64 a0_1, .slice A0_2 l0_2.length c0_2] 64 (0, 0)) (by (with_reducible repeat (first | refine blk_drewN ?_ _ | refine blk_drew ?_ | refine blk_alloc ?_ _)); exact BK332.out) hb); have n4_ := Aside0.mk (below_step (by repeat (first | (with_reducible first | exact HB.out | apply below_alloc | apply pw_below_drewN | apply below_drew1 | refine below_set ?_ GE332.out) | exact HB.out)) hb); clear HO_333002; clear HO339; clear BK332; clear HB; have HO_333002 := n0_; have HO339 := n1_; have HO343 := n2_; have BK332 := n3_; have HB := n4_; clear n0_ n1_ n2_ n3_ n4_; (try clear hb); (try clear hb2); (try clear hk); (try clear hi); (try clear ho0)))
      go_ret2
      exact ⟨_, _, by first | rfl | (simp [errW_none, errW_some] <;> rfl) | (simp [*, errW_none, errW_some] <;> rfl), (by first | exact EV.nil | exact EV.f30 | exact EV.f5 | exact EV.f4 | exact EV.f1 | exact EV.low (by assumption) | exact HEV_.out | exact EV.part HEV_.out), by first | exact Kd.R_nil _ _ _ _ _ | exact Kd.N_nil _ _ _ _ _ | exact Kd.V_nil _ _ _ _ _ | exact Kd.Q_nil _ _ _ _ _ | exact Kd.S_nil _ _ _ _ _, by repeat (first | (with_reducible first | exact HB.out | apply below_alloc | apply pw_below_drewN | apply below_drew1 | refine below_set ?_ GE332.out) | exact HB.out)⟩
    rw [if_pos c13] at H
    have c13b0 : (t341 == 0) = true := beq_iff_eq.mpr c13
    have c13b1 : (t341 != 0) = false := bne_eq_false_iff_eq.mpr c13
    clear c13
    obtain ⟨y344, hy344⟩ : ∃ y_ : List (List Int), y_ = (([l0_2] : List (List Int))) := ⟨_, rfl⟩
    replace H : ((der_Put.f kj3 0 a0_1 false y344).bind fun bt347 => (if bt347.2 = 0 then ((name_about.f kj3 16 (([t340, bt347.1] : List (List Int)))).bind fun bt354 => (some (bt354.1, bt354.2))) else (some (([] : List Int), bt347.2)))) = some (r1, r2) := by first | (rw [hy344]; with_reducible exact H) | (have H2_ := (Option.bind_some _ _).symm.trans H; rw [hy344]; with_reducible exact H2_) | (have H2_ := (Option.bind_some _ _).symm.trans H; with_reducible exact H2_) | with_reducible exact H | (rw [hy344]; exact H) | exact H
    have Ny344 := Aside0.mk hy344
    clear hy344
    replace H := Option.bind_eq_some_iff.mp H
    obtain ⟨⟨t347, t348⟩, A140, H⟩ := H
    replace H : (if t348 = 0 then ((name_about.f kj3 16 (([t340, t347] : List (List Int)))).bind fun bt354 => (some (bt354.1, bt354.2))) else (some (([] : List Int), t348))) = some (r1, r2) := H
    have A14 := Aside0.mk A140
    clear A140
    by_cases c15 : t348 = 0
    rotate_left
    · rw [if_neg c15] at H
      have c15b0 : (t348 == 0) = false := beq_eq_false_iff_ne.mpr c15
      have c15b1 : (t348 != 0) = true := bne_iff_ne.mpr c15
      simp only [Option.some.injEq, Prod.mk.injEq] at H
      obtain ⟨rfl, rfl⟩ := H
      obtain ⟨Ao33, co33, eo33⟩ := Kd.R_slice HO_4.out
      subst eo33
      go_wp2_with (first | ((with_reducible refine gate_dst (N := 30) rfl ?_); refine Kd.N_lit (Kd.slice 5 (Kd.int .u8)) _ 22 ?hg (N' := 30) ?hd (xs := ([t333] : List (List Int))) (inner := [.slice Ao33 t333.length co33]) (ok := (fun k_ => (P0_2_ k_ ∨ w.heap.size ≤ k_) ∧ k_ ≠ gb332)) (okp := (fun k_ => (P0_2_ k_ ∨ w.heap.size ≤ k_) ∧ k_ ≠ gb332)) ?hr ?hp (fun _ hk => hk) ((show ∀ k_, wc.heap.size ≤ k_ → (fun k_ => (P0_2_ k_ ∨ w.heap.size ≤ k_) ∧ k_ ≠ gb332) k_ from fun k_ hk => ⟨(.inr (Nat.le_trans (below_size (by repeat (first | (with_reducible first | exact HB.out | apply below_alloc | apply pw_below_drewN | apply below_drew1 | refine below_set ?_ GE332.out) | exact HB.out))) hk)), Kd.freshB (g := gb332) (o := .cells #[.string a0_0, .int .i64 a0_1, .slice A0_2 l0_2.length c0_2] 64 (0, 0)) (by (with_reducible repeat (first | refine blk_drewN ?_ _ | refine blk_drew ?_ | refine blk_alloc ?_ _)); exact BK332.out) k_ hk⟩) _ (Nat.le_refl _)) (Below.refl _ _) (Nat.le_refl _) (by simp) ?_; (case hd => rfl); (case hg => rfl); (case hr => first | (go_simp; done) | (go_simp; rfl)); (case hp => exact (Reps.one (show Kd.FK (Kd.slice 5 (Kd.int .u8)) _ _ t333 [.slice Ao33 t333.length co33] from (Kd.FK_slice_mk (Kd.R_reads' (Kd.R_mono (ok' := (fun k_ => (P0_2_ k_ ∨ w.heap.size ≤ k_) ∧ k_ ≠ gb332)) (Kd.R_types (HO_4.out) BK332.out (by decide)) (fun k_ hk => ⟨(.inr (hk.1)), hk.2⟩))).2.1 (Kd.R_F (Kd.R_mono (ok' := (fun k_ => (P0_2_ k_ ∨ w.heap.size ≤ k_) ∧ k_ ≠ gb332)) (Kd.R_types (HO_4.out) BK332.out (by decide)) (fun k_ hk => ⟨(.inr (hk.1)), hk.2⟩))))) (Reps.none _ _))); intro v338 w34 ho35 hb hg_ hnew_; clear hg_ hnew_; (first | rw [← Ny337.out] at ho35 | (simp only [Int.reduceToNat] at ho35; rw [← Ny337.out] at ho35)); have n0_ := Aside0.mk (Kd.V_elder' (by (with_reducible repeat (first | apply Kd.V_alloc | apply Kd.V_drewN | apply Kd.V_drew)); exact HO_333002.out) (Kd.N_base ho35) hb); have n1_ := Aside0.mk (Kd.N_lower ho35 (below_size (by repeat (first | (with_reducible first | exact HB.out | apply below_alloc | apply pw_below_drewN | apply below_drew1 | refine below_set ?_ GE332.out) | exact HB.out)))); have n2_ := Aside0.mk (blk_below (g := gb332) (o := .cells #[.string a0_0, .int .i64 a0_1, .slice A0_2 l0_2.length c0_2] 64 (0, 0)) (by (with_reducible repeat (first | refine blk_drewN ?_ _ | refine blk_drew ?_ | refine blk_alloc ?_ _)); exact BK332.out) hb); have n3_ := Aside0.mk (below_step (by repeat (first | (with_reducible first | exact HB.out | apply below_alloc | apply pw_below_drewN | apply below_drew1 | refine below_set ?_ GE332.out) | exact HB.out)) hb); clear HO_333002; clear BK332; clear HB; clear HO_4; have HO_333002 := n0_; have HO339 := n1_; have BK332 := n2_; have HB := n3_; clear n0_ n1_ n2_ n3_; clear hb ho35; obtain ⟨Ao36, co36, eo36⟩ := Kd.N_slice HO339.out; subst eo36) | ((with_reducible refine gate_callee (f := 168) rfl ?_); refine goesL_ (some 31) rfl rfl Tryz.func168 (by kernel_rfl) rfl #[.int .i64 0, .int .i64 6, .bool false, .slice Ao36 y337.length co36] rfl (by (try simp only [List.map_toArray, List.map_cons, List.map_nil]); first | done | rfl | (simp only [List.length_drop, List.length_take]; rfl)) ?_; (with_reducible refine (der_Put.calls kj3 0 6 false _ _ y337 t340 t341 _ ?side1 ?side2 A12.out).mono ?_); (case side1 => repeat (first | exact (Kd.N_reads' HO339.out).2.2 | (with_reducible refine Kd.C_alloc ?_ _) | (with_reducible refine Kd.C_drewN ?_ _) | (with_reducible refine Kd.C_drew ?_))); (case side2 => exact (Kd.N_reads' HO339.out).2.1); rintro e w37 ⟨v342, rfl, ho0, hb⟩; refine ⟨_, rfl, ?_⟩; have n0_ := Aside0.mk (Kd.V_elder' (by (with_reducible repeat (first | apply Kd.V_alloc | apply Kd.V_drewN | apply Kd.V_drew)); exact HO_333002.out) (Kd.R_base ho0) hb); have n1_ := Aside0.mk (Kd.N_elder' (by (with_reducible repeat (first | apply Kd.N_alloc | apply Kd.N_drewN | apply Kd.N_drew)); exact HO339.out) (Kd.R_base ho0) hb); have n2_ := Aside0.mk (Kd.R_lower (Kd.R_newM (M := fun k_ => (w.heap.size ≤ k_)) ho0 (below_size (by repeat (first | (with_reducible first | exact HB.out | apply below_alloc | apply pw_below_drewN | apply below_drew1 | refine below_set ?_ GE332.out) | exact HB.out))) (fun k_ h_ => h_)) (below_size (by repeat (first | (with_reducible first | exact HB.out | apply below_alloc | apply pw_below_drewN | apply below_drew1 | refine below_set ?_ GE332.out) | exact HB.out)))); have n3_ := Aside0.mk (blk_below (g := gb332) (o := .cells #[.string a0_0, .int .i64 a0_1, .slice A0_2 l0_2.length c0_2] 64 (0, 0)) (by (with_reducible repeat (first | refine blk_drewN ?_ _ | refine blk_drew ?_ | refine blk_alloc ?_ _)); exact BK332.out) hb); have n4_ := Aside0.mk (below_step (by repeat (first | (with_reducible first | exact HB.out | apply below_alloc | apply pw_below_drewN | apply below_drew1 | refine below_set ?_ GE332.out) | exact HB.out)) hb); clear HO_333002; clear HO339; clear BK332; clear HB; have HO_333002 := n0_; have HO339 := n1_; have HO343 := n2_; have BK332 := n3_; have HB := n4_; clear n0_ n1_ n2_ n3_ n4_; (try clear hb); (try clear hb2); (try clear hk); (try clear hi); (try clear ho0); have hcz38_0 : w37.cell? ⟨gb332, 0, none⟩ = some (.string a0_0) := (blk_cell BK332.out 0).trans rfl; have hcz38_1 : w37.cell? ⟨gb332, 1, none⟩ = some (.int .i64 a0_1) := (blk_cell BK332.out 1).trans rfl; have hcz38_2 : w37.cell? ⟨gb332, 2, none⟩ = some (.slice A0_2 l0_2.length c0_2) := (blk_cell BK332.out 2).trans rfl; have hfz38_0 := blk_frozen BK332.out 0; have hfz38_1 := blk_frozen BK332.out 1; have hfz38_2 := blk_frozen BK332.out 2) | ((with_reducible refine gate_dst (N := 44) rfl ?_); refine Kd.N_lit (Kd.slice 5 (Kd.int .u8)) _ 22 ?hg (N' := 44) ?hd (xs := ([l0_2] : List (List Int))) (inner := [.slice A0_2 l0_2.length c0_2]) (ok := (fun k_ => (P0_2_ k_ ∨ w.heap.size ≤ k_) ∧ some k_ ≠ (.slice Ao36 y337.length co36 : Value).ownBlock ∧ some k_ ≠ (v342 : Value).ownBlock ∧ k_ ≠ gb332)) (okp := (fun k_ => (P0_2_ k_ ∨ w.heap.size ≤ k_) ∧ some k_ ≠ (.slice Ao36 y337.length co36 : Value).ownBlock ∧ some k_ ≠ (v342 : Value).ownBlock ∧ k_ ≠ gb332)) ?hr ?hp (fun _ hk => hk) ((show ∀ k_, w37.heap.size ≤ k_ → (fun k_ => (P0_2_ k_ ∨ w.heap.size ≤ k_) ∧ some k_ ≠ (.slice Ao36 y337.length co36 : Value).ownBlock ∧ some k_ ≠ (v342 : Value).ownBlock ∧ k_ ≠ gb332) k_ from fun k_ hk => ⟨(.inr (Nat.le_trans (below_size (by repeat (first | (with_reducible first | exact HB.out | apply below_alloc | apply pw_below_drewN | apply below_drew1 | refine below_set ?_ GE332.out) | exact HB.out))) hk)), Kd.fresh' (Kd.N_lt (by (with_reducible repeat (first | apply Kd.N_alloc | apply Kd.N_drewN | apply Kd.N_drew)); exact HO339.out)) k_ hk, Kd.fresh' (Kd.R_lt (by (with_reducible repeat (first | apply Kd.R_alloc | apply Kd.R_drewN | apply Kd.R_drew)); exact HO343.out)) k_ hk, Kd.freshB (g := gb332) (o := .cells #[.string a0_0, .int .i64 a0_1, .slice A0_2 l0_2.length c0_2] 64 (0, 0)) (by (with_reducible repeat (first | refine blk_drewN ?_ _ | refine blk_drew ?_ | refine blk_alloc ?_ _)); exact BK332.out) k_ hk⟩) _ (Nat.le_refl _)) (Below.refl _ _) (Nat.le_refl _) (by simp) ?_; (case hd => rfl); (case hg => rfl); (case hr => first | (go_simp; done) | (go_simp; rfl)); (case hp => exact (Reps.one (show Kd.FK (Kd.slice 5 (Kd.int .u8)) _ _ l0_2 [.slice A0_2 l0_2.length c0_2] from (Kd.FK_slice_mk (Kd.V_reads' (Kd.V_mono (ok' := (fun k_ => (P0_2_ k_ ∨ w.heap.size ≤ k_) ∧ some k_ ≠ (.slice Ao36 y337.length co36 : Value).ownBlock ∧ some k_ ≠ (v342 : Value).ownBlock ∧ k_ ≠ gb332)) (HO_333002.out) (fun k_ hk => ⟨hk.1.1.1, ⟨hk.1.2, ⟨hk.2, hk.1.1.2.2⟩⟩⟩))).2.1 (Kd.V_F (Kd.V_mono (ok' := (fun k_ => (P0_2_ k_ ∨ w.heap.size ≤ k_) ∧ some k_ ≠ (.slice Ao36 y337.length co36 : Value).ownBlock ∧ some k_ ≠ (v342 : Value).ownBlock ∧ k_ ≠ gb332)) (HO_333002.out) (fun k_ hk => ⟨hk.1.1.1, ⟨hk.1.2, ⟨hk.2, hk.1.1.2.2⟩⟩⟩))))) (Reps.none _ _))); intro v345 w39 ho40 hb hg_ hnew_; clear hg_ hnew_; (first | rw [← Ny344.out] at ho40 | (simp only [Int.reduceToNat] at ho40; rw [← Ny344.out] at ho40)); have n0_ := Aside0.mk (Kd.V_elder' (by (with_reducible repeat (first | apply Kd.V_alloc | apply Kd.V_drewN | apply Kd.V_drew)); exact HO_333002.out) (Kd.N_base ho40) hb); have n1_ := Aside0.mk (Kd.N_elder' (by (with_reducible repeat (first | apply Kd.N_alloc | apply Kd.N_drewN | apply Kd.N_drew)); exact HO339.out) (Kd.N_base ho40) hb); have n2_ := Aside0.mk (Kd.R_below (by (with_reducible repeat (first | apply Kd.R_alloc | apply Kd.R_drewN | apply Kd.R_drew)); exact HO343.out) hb); have n3_ := Aside0.mk (Kd.N_lower ho40 (below_size (by repeat (first | (with_reducible first | exact HB.out | apply below_alloc | apply pw_below_drewN | apply below_drew1 | refine below_set ?_ GE332.out) | exact HB.out)))); have n4_ := Aside0.mk (blk_below (g := gb332) (o := .cells #[.string a0_0, .int .i64 a0_1, .slice A0_2 l0_2.length c0_2] 64 (0, 0)) (by (with_reducible repeat (first | refine blk_drewN ?_ _ | refine blk_drew ?_ | refine blk_alloc ?_ _)); exact BK332.out) hb); have n5_ := Aside0.mk (below_step (by repeat (first | (with_reducible first | exact HB.out | apply below_alloc | apply pw_below_drewN | apply below_drew1 | refine below_set ?_ GE332.out) | exact HB.out)) hb); clear HO_333002; clear HO339; clear HO343; clear BK332; clear HB; have HO_333002 := n0_; have HO339 := n1_; have HO343 := n2_; have HO346 := n3_; have BK332 := n4_; have HB := n5_; clear n0_ n1_ n2_ n3_ n4_ n5_; clear hb ho40; obtain ⟨Ao41, co41, eo41⟩ := Kd.N_slice HO346.out; subst eo41) | ((with_reducible refine gate_callee (f := 168) rfl ?_); refine goesL_ (some 45) rfl rfl Tryz.func168 (by kernel_rfl) rfl #[.int .i64 0, .int .i64 a0_1, .bool false, .slice Ao41 y344.length co41] rfl (by (try simp only [List.map_toArray, List.map_cons, List.map_nil]); first | done | rfl | (simp only [List.length_drop, List.length_take]; rfl)) ?_; (with_reducible refine (der_Put.calls kj3 0 a0_1 false _ _ y344 t347 t348 _ ?side1 ?side2 A14.out).mono ?_); (case side1 => repeat (first | exact (Kd.N_reads' HO346.out).2.2 | (with_reducible refine Kd.C_alloc ?_ _) | (with_reducible refine Kd.C_drewN ?_ _) | (with_reducible refine Kd.C_drew ?_))); (case side2 => exact (Kd.N_reads' HO346.out).2.1); rintro e w42 ⟨v349, rfl, ho0, hb⟩; refine ⟨_, rfl, ?_⟩; have n0_ := Aside0.mk (Kd.V_elder' (by (with_reducible repeat (first | apply Kd.V_alloc | apply Kd.V_drewN | apply Kd.V_drew)); exact HO_333002.out) (Kd.R_base ho0) hb); have n1_ := Aside0.mk (Kd.N_elder' (by (with_reducible repeat (first | apply Kd.N_alloc | apply Kd.N_drewN | apply Kd.N_drew)); exact HO339.out) (Kd.R_base ho0) hb); have n2_ := Aside0.mk (Kd.R_elder' (by (with_reducible repeat (first | apply Kd.R_alloc | apply Kd.R_drewN | apply Kd.R_drew)); exact HO343.out) (Kd.R_base ho0) hb); have n3_ := Aside0.mk (Kd.N_elder' (by (with_reducible repeat (first | apply Kd.N_alloc | apply Kd.N_drewN | apply Kd.N_drew)); exact HO346.out) (Kd.R_base ho0) hb); have n4_ := Aside0.mk (Kd.R_lower (Kd.R_new' (Kd.R_newM (M := fun k_ => (w.heap.size ≤ k_)) ho0 (below_size (by repeat (first | (with_reducible first | exact HB.out | apply below_alloc | apply pw_below_drewN | apply below_drew1 | refine below_set ?_ GE332.out) | exact HB.out))) (fun k_ h_ => h_)) (Kd.R_lt (by (with_reducible repeat (first | apply Kd.R_alloc | apply Kd.R_drewN | apply Kd.R_drew)); exact HO343.out))) (below_size (by repeat (first | (with_reducible first | exact HB.out | apply below_alloc | apply pw_below_drewN | apply below_drew1 | refine below_set ?_ GE332.out) | exact HB.out)))); have n5_ := Aside0.mk (blk_below (g := gb332) (o := .cells #[.string a0_0, .int .i64 a0_1, .slice A0_2 l0_2.length c0_2] 64 (0, 0)) (by (with_reducible repeat (first | refine blk_drewN ?_ _ | refine blk_drew ?_ | refine blk_alloc ?_ _)); exact BK332.out) hb); have n6_ := Aside0.mk (below_step (by repeat (first | (with_reducible first | exact HB.out | apply below_alloc | apply pw_below_drewN | apply below_drew1 | refine below_set ?_ GE332.out) | exact HB.out)) hb); clear HO_333002; clear HO339; clear HO343; clear HO346; clear BK332; clear HB; have HO_333002 := n0_; have HO339 := n1_; have HO343 := n2_; have HO346 := n3_; have HO350 := n4_; have BK332 := n5_; have HB := n6_; clear n0_ n1_ n2_ n3_ n4_ n5_ n6_; (try clear hb); (try clear hb2); (try clear hk); (try clear hi); (try clear ho0)))
      go_ret2
      exact ⟨_, _, by first | rfl | (simp [errW_none, errW_some] <;> rfl) | (simp [*, errW_none, errW_some] <;> rfl), (by first | exact EV.nil | exact EV.f30 | exact EV.f5 | exact EV.f4 | exact EV.f1 | exact EV.low (by assumption) | exact HEV_.out | exact EV.part HEV_.out), by first | exact Kd.R_nil _ _ _ _ _ | exact Kd.N_nil _ _ _ _ _ | exact Kd.V_nil _ _ _ _ _ | exact Kd.Q_nil _ _ _ _ _ | exact Kd.S_nil _ _ _ _ _, by repeat (first | (with_reducible first | exact HB.out | apply below_alloc | apply pw_below_drewN | apply below_drew1 | refine below_set ?_ GE332.out) | exact HB.out)⟩
    rw [if_pos c15] at H
    have c15b0 : (t348 == 0) = true := beq_iff_eq.mpr c15
    have c15b1 : (t348 != 0) = false := bne_eq_false_iff_eq.mpr c15
    clear c15
    obtain ⟨y351, hy351⟩ : ∃ y_ : List (List Int), y_ = (([t340, t347] : List (List Int))) := ⟨_, rfl⟩
    replace H : ((name_about.f kj3 16 y351).bind fun bt354 => (some (bt354.1, bt354.2))) = some (r1, r2) := by first | (rw [hy351]; with_reducible exact H) | (have H2_ := (Option.bind_some _ _).symm.trans H; rw [hy351]; with_reducible exact H2_) | (have H2_ := (Option.bind_some _ _).symm.trans H; with_reducible exact H2_) | with_reducible exact H | (rw [hy351]; exact H) | exact H
    have Ny351 := Aside0.mk hy351
    clear hy351
    replace H := Option.bind_eq_some_iff.mp H
    obtain ⟨⟨t354, t355⟩, A160, H⟩ := H
    replace H : (some (t354, t355)) = some (r1, r2) := H
    have A16 := Aside0.mk A160
    clear A160
    simp only [Option.some.injEq, Prod.mk.injEq] at H
    obtain ⟨rfl, rfl⟩ := H
    obtain ⟨Ao17, co17, eo17⟩ := Kd.R_slice HO_4.out
    subst eo17
    go_wp2_with (first | ((with_reducible refine gate_dst (N := 30) rfl ?_); refine Kd.N_lit (Kd.slice 5 (Kd.int .u8)) _ 22 ?hg (N' := 30) ?hd (xs := ([t333] : List (List Int))) (inner := [.slice Ao17 t333.length co17]) (ok := (fun k_ => (P0_2_ k_ ∨ w.heap.size ≤ k_) ∧ k_ ≠ gb332)) (okp := (fun k_ => (P0_2_ k_ ∨ w.heap.size ≤ k_) ∧ k_ ≠ gb332)) ?hr ?hp (fun _ hk => hk) ((show ∀ k_, wc.heap.size ≤ k_ → (fun k_ => (P0_2_ k_ ∨ w.heap.size ≤ k_) ∧ k_ ≠ gb332) k_ from fun k_ hk => ⟨(.inr (Nat.le_trans (below_size (by repeat (first | (with_reducible first | exact HB.out | apply below_alloc | apply pw_below_drewN | apply below_drew1 | refine below_set ?_ GE332.out) | exact HB.out))) hk)), Kd.freshB (g := gb332) (o := .cells #[.string a0_0, .int .i64 a0_1, .slice A0_2 l0_2.length c0_2] 64 (0, 0)) (by (with_reducible repeat (first | refine blk_drewN ?_ _ | refine blk_drew ?_ | refine blk_alloc ?_ _)); exact BK332.out) k_ hk⟩) _ (Nat.le_refl _)) (Below.refl _ _) (Nat.le_refl _) (by simp) ?_; (case hd => rfl); (case hg => rfl); (case hr => first | (go_simp; done) | (go_simp; rfl)); (case hp => exact (Reps.one (show Kd.FK (Kd.slice 5 (Kd.int .u8)) _ _ t333 [.slice Ao17 t333.length co17] from (Kd.FK_slice_mk (Kd.R_reads' (Kd.R_mono (ok' := (fun k_ => (P0_2_ k_ ∨ w.heap.size ≤ k_) ∧ k_ ≠ gb332)) (Kd.R_types (HO_4.out) BK332.out (by decide)) (fun k_ hk => ⟨(.inr (hk.1)), hk.2⟩))).2.1 (Kd.R_F (Kd.R_mono (ok' := (fun k_ => (P0_2_ k_ ∨ w.heap.size ≤ k_) ∧ k_ ≠ gb332)) (Kd.R_types (HO_4.out) BK332.out (by decide)) (fun k_ hk => ⟨(.inr (hk.1)), hk.2⟩))))) (Reps.none _ _))); intro v338 w18 ho19 hb hg_ hnew_; clear hg_ hnew_; (first | rw [← Ny337.out] at ho19 | (simp only [Int.reduceToNat] at ho19; rw [← Ny337.out] at ho19)); have n0_ := Aside0.mk (Kd.V_elder' (by (with_reducible repeat (first | apply Kd.V_alloc | apply Kd.V_drewN | apply Kd.V_drew)); exact HO_333002.out) (Kd.N_base ho19) hb); have n1_ := Aside0.mk (Kd.N_lower ho19 (below_size (by repeat (first | (with_reducible first | exact HB.out | apply below_alloc | apply pw_below_drewN | apply below_drew1 | refine below_set ?_ GE332.out) | exact HB.out)))); have n2_ := Aside0.mk (blk_below (g := gb332) (o := .cells #[.string a0_0, .int .i64 a0_1, .slice A0_2 l0_2.length c0_2] 64 (0, 0)) (by (with_reducible repeat (first | refine blk_drewN ?_ _ | refine blk_drew ?_ | refine blk_alloc ?_ _)); exact BK332.out) hb); have n3_ := Aside0.mk (below_step (by repeat (first | (with_reducible first | exact HB.out | apply below_alloc | apply pw_below_drewN | apply below_drew1 | refine below_set ?_ GE332.out) | exact HB.out)) hb); clear HO_333002; clear BK332; clear HB; clear HO_4; have HO_333002 := n0_; have HO339 := n1_; have BK332 := n2_; have HB := n3_; clear n0_ n1_ n2_ n3_; clear hb ho19; obtain ⟨Ao20, co20, eo20⟩ := Kd.N_slice HO339.out; subst eo20) | ((with_reducible refine gate_callee (f := 168) rfl ?_); refine goesL_ (some 31) rfl rfl Tryz.func168 (by kernel_rfl) rfl #[.int .i64 0, .int .i64 6, .bool false, .slice Ao20 y337.length co20] rfl (by (try simp only [List.map_toArray, List.map_cons, List.map_nil]); first | done | rfl | (simp only [List.length_drop, List.length_take]; rfl)) ?_; (with_reducible refine (der_Put.calls kj3 0 6 false _ _ y337 t340 t341 _ ?side1 ?side2 A12.out).mono ?_); (case side1 => repeat (first | exact (Kd.N_reads' HO339.out).2.2 | (with_reducible refine Kd.C_alloc ?_ _) | (with_reducible refine Kd.C_drewN ?_ _) | (with_reducible refine Kd.C_drew ?_))); (case side2 => exact (Kd.N_reads' HO339.out).2.1); rintro e w21 ⟨v342, rfl, ho0, hb⟩; refine ⟨_, rfl, ?_⟩; have n0_ := Aside0.mk (Kd.V_elder' (by (with_reducible repeat (first | apply Kd.V_alloc | apply Kd.V_drewN | apply Kd.V_drew)); exact HO_333002.out) (Kd.R_base ho0) hb); have n1_ := Aside0.mk (Kd.N_elder' (by (with_reducible repeat (first | apply Kd.N_alloc | apply Kd.N_drewN | apply Kd.N_drew)); exact HO339.out) (Kd.R_base ho0) hb); have n2_ := Aside0.mk (Kd.R_lower (Kd.R_newM (M := fun k_ => (w.heap.size ≤ k_)) ho0 (below_size (by repeat (first | (with_reducible first | exact HB.out | apply below_alloc | apply pw_below_drewN | apply below_drew1 | refine below_set ?_ GE332.out) | exact HB.out))) (fun k_ h_ => h_)) (below_size (by repeat (first | (with_reducible first | exact HB.out | apply below_alloc | apply pw_below_drewN | apply below_drew1 | refine below_set ?_ GE332.out) | exact HB.out)))); have n3_ := Aside0.mk (blk_below (g := gb332) (o := .cells #[.string a0_0, .int .i64 a0_1, .slice A0_2 l0_2.length c0_2] 64 (0, 0)) (by (with_reducible repeat (first | refine blk_drewN ?_ _ | refine blk_drew ?_ | refine blk_alloc ?_ _)); exact BK332.out) hb); have n4_ := Aside0.mk (below_step (by repeat (first | (with_reducible first | exact HB.out | apply below_alloc | apply pw_below_drewN | apply below_drew1 | refine below_set ?_ GE332.out) | exact HB.out)) hb); clear HO_333002; clear HO339; clear BK332; clear HB; have HO_333002 := n0_; have HO339 := n1_; have HO343 := n2_; have BK332 := n3_; have HB := n4_; clear n0_ n1_ n2_ n3_ n4_; (try clear hb); (try clear hb2); (try clear hk); (try clear hi); (try clear ho0); have hcz22_0 : w21.cell? ⟨gb332, 0, none⟩ = some (.string a0_0) := (blk_cell BK332.out 0).trans rfl; have hcz22_1 : w21.cell? ⟨gb332, 1, none⟩ = some (.int .i64 a0_1) := (blk_cell BK332.out 1).trans rfl; have hcz22_2 : w21.cell? ⟨gb332, 2, none⟩ = some (.slice A0_2 l0_2.length c0_2) := (blk_cell BK332.out 2).trans rfl; have hfz22_0 := blk_frozen BK332.out 0; have hfz22_1 := blk_frozen BK332.out 1; have hfz22_2 := blk_frozen BK332.out 2) | ((with_reducible refine gate_dst (N := 44) rfl ?_); refine Kd.N_lit (Kd.slice 5 (Kd.int .u8)) _ 22 ?hg (N' := 44) ?hd (xs := ([l0_2] : List (List Int))) (inner := [.slice A0_2 l0_2.length c0_2]) (ok := (fun k_ => (P0_2_ k_ ∨ w.heap.size ≤ k_) ∧ some k_ ≠ (.slice Ao20 y337.length co20 : Value).ownBlock ∧ some k_ ≠ (v342 : Value).ownBlock ∧ k_ ≠ gb332)) (okp := (fun k_ => (P0_2_ k_ ∨ w.heap.size ≤ k_) ∧ some k_ ≠ (.slice Ao20 y337.length co20 : Value).ownBlock ∧ some k_ ≠ (v342 : Value).ownBlock ∧ k_ ≠ gb332)) ?hr ?hp (fun _ hk => hk) ((show ∀ k_, w21.heap.size ≤ k_ → (fun k_ => (P0_2_ k_ ∨ w.heap.size ≤ k_) ∧ some k_ ≠ (.slice Ao20 y337.length co20 : Value).ownBlock ∧ some k_ ≠ (v342 : Value).ownBlock ∧ k_ ≠ gb332) k_ from fun k_ hk => ⟨(.inr (Nat.le_trans (below_size (by repeat (first | (with_reducible first | exact HB.out | apply below_alloc | apply pw_below_drewN | apply below_drew1 | refine below_set ?_ GE332.out) | exact HB.out))) hk)), Kd.fresh' (Kd.N_lt (by (with_reducible repeat (first | apply Kd.N_alloc | apply Kd.N_drewN | apply Kd.N_drew)); exact HO339.out)) k_ hk, Kd.fresh' (Kd.R_lt (by (with_reducible repeat (first | apply Kd.R_alloc | apply Kd.R_drewN | apply Kd.R_drew)); exact HO343.out)) k_ hk, Kd.freshB (g := gb332) (o := .cells #[.string a0_0, .int .i64 a0_1, .slice A0_2 l0_2.length c0_2] 64 (0, 0)) (by (with_reducible repeat (first | refine blk_drewN ?_ _ | refine blk_drew ?_ | refine blk_alloc ?_ _)); exact BK332.out) k_ hk⟩) _ (Nat.le_refl _)) (Below.refl _ _) (Nat.le_refl _) (by simp) ?_; (case hd => rfl); (case hg => rfl); (case hr => first | (go_simp; done) | (go_simp; rfl)); (case hp => exact (Reps.one (show Kd.FK (Kd.slice 5 (Kd.int .u8)) _ _ l0_2 [.slice A0_2 l0_2.length c0_2] from (Kd.FK_slice_mk (Kd.V_reads' (Kd.V_mono (ok' := (fun k_ => (P0_2_ k_ ∨ w.heap.size ≤ k_) ∧ some k_ ≠ (.slice Ao20 y337.length co20 : Value).ownBlock ∧ some k_ ≠ (v342 : Value).ownBlock ∧ k_ ≠ gb332)) (HO_333002.out) (fun k_ hk => ⟨hk.1.1.1, ⟨hk.1.2, ⟨hk.2, hk.1.1.2.2⟩⟩⟩))).2.1 (Kd.V_F (Kd.V_mono (ok' := (fun k_ => (P0_2_ k_ ∨ w.heap.size ≤ k_) ∧ some k_ ≠ (.slice Ao20 y337.length co20 : Value).ownBlock ∧ some k_ ≠ (v342 : Value).ownBlock ∧ k_ ≠ gb332)) (HO_333002.out) (fun k_ hk => ⟨hk.1.1.1, ⟨hk.1.2, ⟨hk.2, hk.1.1.2.2⟩⟩⟩))))) (Reps.none _ _))); intro v345 w23 ho24 hb hg_ hnew_; clear hg_ hnew_; (first | rw [← Ny344.out] at ho24 | (simp only [Int.reduceToNat] at ho24; rw [← Ny344.out] at ho24)); have n0_ := Aside0.mk (Kd.V_elder' (by (with_reducible repeat (first | apply Kd.V_alloc | apply Kd.V_drewN | apply Kd.V_drew)); exact HO_333002.out) (Kd.N_base ho24) hb); have n1_ := Aside0.mk (Kd.N_elder' (by (with_reducible repeat (first | apply Kd.N_alloc | apply Kd.N_drewN | apply Kd.N_drew)); exact HO339.out) (Kd.N_base ho24) hb); have n2_ := Aside0.mk (Kd.R_below (by (with_reducible repeat (first | apply Kd.R_alloc | apply Kd.R_drewN | apply Kd.R_drew)); exact HO343.out) hb); have n3_ := Aside0.mk (Kd.N_lower ho24 (below_size (by repeat (first | (with_reducible first | exact HB.out | apply below_alloc | apply pw_below_drewN | apply below_drew1 | refine below_set ?_ GE332.out) | exact HB.out)))); have n4_ := Aside0.mk (blk_below (g := gb332) (o := .cells #[.string a0_0, .int .i64 a0_1, .slice A0_2 l0_2.length c0_2] 64 (0, 0)) (by (with_reducible repeat (first | refine blk_drewN ?_ _ | refine blk_drew ?_ | refine blk_alloc ?_ _)); exact BK332.out) hb); have n5_ := Aside0.mk (below_step (by repeat (first | (with_reducible first | exact HB.out | apply below_alloc | apply pw_below_drewN | apply below_drew1 | refine below_set ?_ GE332.out) | exact HB.out)) hb); clear HO_333002; clear HO339; clear HO343; clear BK332; clear HB; have HO_333002 := n0_; have HO339 := n1_; have HO343 := n2_; have HO346 := n3_; have BK332 := n4_; have HB := n5_; clear n0_ n1_ n2_ n3_ n4_ n5_; clear hb ho24; obtain ⟨Ao25, co25, eo25⟩ := Kd.N_slice HO346.out; subst eo25) | ((with_reducible refine gate_callee (f := 168) rfl ?_); refine goesL_ (some 45) rfl rfl Tryz.func168 (by kernel_rfl) rfl #[.int .i64 0, .int .i64 a0_1, .bool false, .slice Ao25 y344.length co25] rfl (by (try simp only [List.map_toArray, List.map_cons, List.map_nil]); first | done | rfl | (simp only [List.length_drop, List.length_take]; rfl)) ?_; (with_reducible refine (der_Put.calls kj3 0 a0_1 false _ _ y344 t347 t348 _ ?side1 ?side2 A14.out).mono ?_); (case side1 => repeat (first | exact (Kd.N_reads' HO346.out).2.2 | (with_reducible refine Kd.C_alloc ?_ _) | (with_reducible refine Kd.C_drewN ?_ _) | (with_reducible refine Kd.C_drew ?_))); (case side2 => exact (Kd.N_reads' HO346.out).2.1); rintro e w26 ⟨v349, rfl, ho0, hb⟩; refine ⟨_, rfl, ?_⟩; have n0_ := Aside0.mk (Kd.V_elder' (by (with_reducible repeat (first | apply Kd.V_alloc | apply Kd.V_drewN | apply Kd.V_drew)); exact HO_333002.out) (Kd.R_base ho0) hb); have n1_ := Aside0.mk (Kd.N_elder' (by (with_reducible repeat (first | apply Kd.N_alloc | apply Kd.N_drewN | apply Kd.N_drew)); exact HO339.out) (Kd.R_base ho0) hb); have n2_ := Aside0.mk (Kd.R_elder' (by (with_reducible repeat (first | apply Kd.R_alloc | apply Kd.R_drewN | apply Kd.R_drew)); exact HO343.out) (Kd.R_base ho0) hb); have n3_ := Aside0.mk (Kd.N_elder' (by (with_reducible repeat (first | apply Kd.N_alloc | apply Kd.N_drewN | apply Kd.N_drew)); exact HO346.out) (Kd.R_base ho0) hb); have n4_ := Aside0.mk (Kd.R_lower (Kd.R_new' (Kd.R_newM (M := fun k_ => (w.heap.size ≤ k_)) ho0 (below_size (by repeat (first | (with_reducible first | exact HB.out | apply below_alloc | apply pw_below_drewN | apply below_drew1 | refine below_set ?_ GE332.out) | exact HB.out))) (fun k_ h_ => h_)) (Kd.R_lt (by (with_reducible repeat (first | apply Kd.R_alloc | apply Kd.R_drewN | apply Kd.R_drew)); exact HO343.out))) (below_size (by repeat (first | (with_reducible first | exact HB.out | apply below_alloc | apply pw_below_drewN | apply below_drew1 | refine below_set ?_ GE332.out) | exact HB.out)))); have n5_ := Aside0.mk (blk_below (g := gb332) (o := .cells #[.string a0_0, .int .i64 a0_1, .slice A0_2 l0_2.length c0_2] 64 (0, 0)) (by (with_reducible repeat (first | refine blk_drewN ?_ _ | refine blk_drew ?_ | refine blk_alloc ?_ _)); exact BK332.out) hb); have n6_ := Aside0.mk (below_step (by repeat (first | (with_reducible first | exact HB.out | apply below_alloc | apply pw_below_drewN | apply below_drew1 | refine below_set ?_ GE332.out) | exact HB.out)) hb); clear HO_333002; clear HO339; clear HO343; clear HO346; clear BK332; clear HB; have HO_333002 := n0_; have HO339 := n1_; have HO343 := n2_; have HO346 := n3_; have HO350 := n4_; have BK332 := n5_; have HB := n6_; clear n0_ n1_ n2_ n3_ n4_ n5_ n6_; (try clear hb); (try clear hb2); (try clear hk); (try clear hi); (try clear ho0); obtain ⟨Ao27, co27, eo27⟩ := Kd.R_slice HO343.out; subst eo27; obtain ⟨Ao28, co28, eo28⟩ := Kd.R_slice HO350.out; subst eo28) | ((with_reducible refine gate_dst (N := 55) rfl ?_); refine Kd.N_lit (Kd.slice 5 (Kd.int .u8)) _ 22 ?hg (N' := 55) ?hd (xs := ([t340, t347] : List (List Int))) (inner := [.slice Ao27 t340.length co27, .slice Ao28 t347.length co28]) (ok := (fun k_ => (P0_2_ k_ ∨ w.heap.size ≤ k_) ∧ some k_ ≠ (.slice Ao20 y337.length co20 : Value).ownBlock ∧ some k_ ≠ (.slice Ao25 y344.length co25 : Value).ownBlock ∧ k_ ≠ gb332)) (okp := (fun k_ => (P0_2_ k_ ∨ w.heap.size ≤ k_) ∧ some k_ ≠ (.slice Ao20 y337.length co20 : Value).ownBlock ∧ some k_ ≠ (.slice Ao25 y344.length co25 : Value).ownBlock ∧ k_ ≠ gb332)) ?hr ?hp (fun _ hk => hk) ((show ∀ k_, w26.heap.size ≤ k_ → (fun k_ => (P0_2_ k_ ∨ w.heap.size ≤ k_) ∧ some k_ ≠ (.slice Ao20 y337.length co20 : Value).ownBlock ∧ some k_ ≠ (.slice Ao25 y344.length co25 : Value).ownBlock ∧ k_ ≠ gb332) k_ from fun k_ hk => ⟨(.inr (Nat.le_trans (below_size (by repeat (first | (with_reducible first | exact HB.out | apply below_alloc | apply pw_below_drewN | apply below_drew1 | refine below_set ?_ GE332.out) | exact HB.out))) hk)), Kd.fresh' (Kd.N_lt (by (with_reducible repeat (first | apply Kd.N_alloc | apply Kd.N_drewN | apply Kd.N_drew)); exact HO339.out)) k_ hk, Kd.fresh' (Kd.N_lt (by (with_reducible repeat (first | apply Kd.N_alloc | apply Kd.N_drewN | apply Kd.N_drew)); exact HO346.out)) k_ hk, Kd.freshB (g := gb332) (o := .cells #[.string a0_0, .int .i64 a0_1, .slice A0_2 l0_2.length c0_2] 64 (0, 0)) (by (with_reducible repeat (first | refine blk_drewN ?_ _ | refine blk_drew ?_ | refine blk_alloc ?_ _)); exact BK332.out) k_ hk⟩) _ (Nat.le_refl _)) (Below.refl _ _) (Nat.le_refl _) (by simp) ?_; (case hd => rfl); (case hg => rfl); (case hr => first | (go_simp; done) | (go_simp; rfl)); (case hp => exact (Reps.one (show Kd.FK (Kd.slice 5 (Kd.int .u8)) _ _ t340 [.slice Ao27 t340.length co27] from (Kd.FK_slice_mk (Kd.R_reads' (Kd.R_mono (ok' := (fun k_ => (P0_2_ k_ ∨ w.heap.size ≤ k_) ∧ some k_ ≠ (.slice Ao20 y337.length co20 : Value).ownBlock ∧ some k_ ≠ (.slice Ao25 y344.length co25 : Value).ownBlock ∧ k_ ≠ gb332)) (Kd.R_types (Kd.R_apart' (Kd.R_apart' (HO343.out) (Kd.N_typed HO339.out) (by decide)) (Kd.N_typed HO346.out) (by decide)) BK332.out (by decide)) (fun k_ hk => ⟨(.inr (hk.1.1.1.1.1)), ⟨hk.1.1.2, ⟨hk.1.2, hk.2⟩⟩⟩))).2.1 (Kd.R_F (Kd.R_mono (ok' := (fun k_ => (P0_2_ k_ ∨ w.heap.size ≤ k_) ∧ some k_ ≠ (.slice Ao20 y337.length co20 : Value).ownBlock ∧ some k_ ≠ (.slice Ao25 y344.length co25 : Value).ownBlock ∧ k_ ≠ gb332)) (Kd.R_types (Kd.R_apart' (Kd.R_apart' (HO343.out) (Kd.N_typed HO339.out) (by decide)) (Kd.N_typed HO346.out) (by decide)) BK332.out (by decide)) (fun k_ hk => ⟨(.inr (hk.1.1.1.1.1)), ⟨hk.1.1.2, ⟨hk.1.2, hk.2⟩⟩⟩))))) (Reps.one (show Kd.FK (Kd.slice 5 (Kd.int .u8)) _ _ t347 [.slice Ao28 t347.length co28] from (Kd.FK_slice_mk (Kd.R_reads' (Kd.R_mono (ok' := (fun k_ => (P0_2_ k_ ∨ w.heap.size ≤ k_) ∧ some k_ ≠ (.slice Ao20 y337.length co20 : Value).ownBlock ∧ some k_ ≠ (.slice Ao25 y344.length co25 : Value).ownBlock ∧ k_ ≠ gb332)) (Kd.R_types (Kd.R_apart' (Kd.R_apart' (HO350.out) (Kd.N_typed HO339.out) (by decide)) (Kd.N_typed HO346.out) (by decide)) BK332.out (by decide)) (fun k_ hk => ⟨(.inr (hk.1.1.1.1.1)), ⟨hk.1.1.2, ⟨hk.1.2, hk.2⟩⟩⟩))).2.1 (Kd.R_F (Kd.R_mono (ok' := (fun k_ => (P0_2_ k_ ∨ w.heap.size ≤ k_) ∧ some k_ ≠ (.slice Ao20 y337.length co20 : Value).ownBlock ∧ some k_ ≠ (.slice Ao25 y344.length co25 : Value).ownBlock ∧ k_ ≠ gb332)) (Kd.R_types (Kd.R_apart' (Kd.R_apart' (HO350.out) (Kd.N_typed HO339.out) (by decide)) (Kd.N_typed HO346.out) (by decide)) BK332.out (by decide)) (fun k_ hk => ⟨(.inr (hk.1.1.1.1.1)), ⟨hk.1.1.2, ⟨hk.1.2, hk.2⟩⟩⟩))))) (Reps.none _ _)))); intro v352 w29 ho30 hb hg_ hnew_; clear hg_ hnew_; (first | rw [← Ny351.out] at ho30 | (simp only [Int.reduceToNat] at ho30; rw [← Ny351.out] at ho30)); have n0_ := Aside0.mk (Kd.V_elder' (by (with_reducible repeat (first | apply Kd.V_alloc | apply Kd.V_drewN | apply Kd.V_drew)); exact HO_333002.out) (Kd.N_base ho30) hb); have n1_ := Aside0.mk (Kd.N_elder' (by (with_reducible repeat (first | apply Kd.N_alloc | apply Kd.N_drewN | apply Kd.N_drew)); exact HO339.out) (Kd.N_base ho30) hb); have n2_ := Aside0.mk (Kd.N_elder' (by (with_reducible repeat (first | apply Kd.N_alloc | apply Kd.N_drewN | apply Kd.N_drew)); exact HO346.out) (Kd.N_base ho30) hb); have n3_ := Aside0.mk (Kd.N_lower ho30 (below_size (by repeat (first | (with_reducible first | exact HB.out | apply below_alloc | apply pw_below_drewN | apply below_drew1 | refine below_set ?_ GE332.out) | exact HB.out)))); have n4_ := Aside0.mk (blk_below (g := gb332) (o := .cells #[.string a0_0, .int .i64 a0_1, .slice A0_2 l0_2.length c0_2] 64 (0, 0)) (by (with_reducible repeat (first | refine blk_drewN ?_ _ | refine blk_drew ?_ | refine blk_alloc ?_ _)); exact BK332.out) hb); have n5_ := Aside0.mk (below_step (by repeat (first | (with_reducible first | exact HB.out | apply below_alloc | apply pw_below_drewN | apply below_drew1 | refine below_set ?_ GE332.out) | exact HB.out)) hb); clear HO_333002; clear HO339; clear HO346; clear BK332; clear HB; clear HO343; clear HO350; have HO_333002 := n0_; have HO339 := n1_; have HO346 := n2_; have HO353 := n3_; have BK332 := n4_; have HB := n5_; clear n0_ n1_ n2_ n3_ n4_ n5_; clear hb ho30; obtain ⟨Ao31, co31, eo31⟩ := Kd.N_slice HO353.out; subst eo31) | ((with_reducible refine gate_callee (f := 152) rfl ?_); refine goesL_ (some 56) rfl rfl Tryz.func152 (by kernel_rfl) rfl #[.int .i64 16, .slice Ao31 y351.length co31] rfl (by (try simp only [List.map_toArray, List.map_cons, List.map_nil]); first | done | rfl | (simp only [List.length_drop, List.length_take]; rfl)) ?_; (with_reducible refine (name_about.calls kj3 16 _ _ y351 t354 t355 _ ?side1 ?side2 A16.out).mono ?_); (case side1 => repeat (first | exact (Kd.N_reads' HO353.out).2.2 | (with_reducible refine Kd.C_alloc ?_ _) | (with_reducible refine Kd.C_drewN ?_ _) | (with_reducible refine Kd.C_drew ?_))); (case side2 => exact (Kd.N_reads' HO353.out).2.1); rintro e w32 ⟨v356, ev_, rfl, hev_, ho0, hb⟩; skip; have HEV_ := Aside0.mk hev_; clear hev_; refine ⟨_, rfl, ?_⟩; have n0_ := Aside0.mk (Kd.V_elder' (by (with_reducible repeat (first | apply Kd.V_alloc | apply Kd.V_drewN | apply Kd.V_drew)); exact HO_333002.out) (Kd.R_base ho0) hb); have n1_ := Aside0.mk (Kd.N_elder' (by (with_reducible repeat (first | apply Kd.N_alloc | apply Kd.N_drewN | apply Kd.N_drew)); exact HO339.out) (Kd.R_base ho0) hb); have n2_ := Aside0.mk (Kd.N_elder' (by (with_reducible repeat (first | apply Kd.N_alloc | apply Kd.N_drewN | apply Kd.N_drew)); exact HO346.out) (Kd.R_base ho0) hb); have n3_ := Aside0.mk (Kd.N_elder' (by (with_reducible repeat (first | apply Kd.N_alloc | apply Kd.N_drewN | apply Kd.N_drew)); exact HO353.out) (Kd.R_base ho0) hb); have n4_ := Aside0.mk (Kd.R_lower (Kd.R_newM (M := fun k_ => (w.heap.size ≤ k_)) ho0 (below_size (by repeat (first | (with_reducible first | exact HB.out | apply below_alloc | apply pw_below_drewN | apply below_drew1 | refine below_set ?_ GE332.out) | exact HB.out))) (fun k_ h_ => h_)) (below_size (by repeat (first | (with_reducible first | exact HB.out | apply below_alloc | apply pw_below_drewN | apply below_drew1 | refine below_set ?_ GE332.out) | exact HB.out)))); have n5_ := Aside0.mk (blk_below (g := gb332) (o := .cells #[.string a0_0, .int .i64 a0_1, .slice A0_2 l0_2.length c0_2] 64 (0, 0)) (by (with_reducible repeat (first | refine blk_drewN ?_ _ | refine blk_drew ?_ | refine blk_alloc ?_ _)); exact BK332.out) hb); have n6_ := Aside0.mk (below_step (by repeat (first | (with_reducible first | exact HB.out | apply below_alloc | apply pw_below_drewN | apply below_drew1 | refine below_set ?_ GE332.out) | exact HB.out)) hb); clear HO_333002; clear HO339; clear HO346; clear HO353; clear BK332; clear HB; have HO_333002 := n0_; have HO339 := n1_; have HO346 := n2_; have HO353 := n3_; have HO357 := n4_; have BK332 := n5_; have HB := n6_; clear n0_ n1_ n2_ n3_ n4_ n5_ n6_; (try clear hb); (try clear hb2); (try clear hk); (try clear hi); (try clear ho0)))
    go_ret2
    exact ⟨_, _, by first | rfl | (simp [errW_none, errW_some] <;> rfl) | (simp [*, errW_none, errW_some] <;> rfl), (by first | exact EV.nil | exact EV.f30 | exact EV.f5 | exact EV.f4 | exact EV.f1 | exact EV.low (by assumption) | exact HEV_.out | exact EV.part HEV_.out), by (with_reducible repeat (first | apply Kd.R_alloc | apply Kd.R_drewN | apply Kd.R_drew)); exact Kd.R_mono HO357.out (fun _ hk => hk.1), by repeat (first | (with_reducible first | exact HB.out | apply below_alloc | apply pw_below_drewN | apply below_drew1 | refine below_set ?_ GE332.out) | exact HB.out)⟩
end Go.Proofs.YtkioddjjfifadaaGreatDoor.P
namespace Go.Proofs.YtkioddjjfifadaaGreatDoor.P
open Go.RowKit Go.Proofs.YtkioddjjfifadaaGreatDoorW.PrintWords Go.Proofs.YtkioddjjfifadaaGreatDoorW.PrintLast Go.Proofs.YtkioddjjfifadaaGreatDoorW.PrintMore
attribute [local go_sem] max2_int min2_int max_two min_two max_three min_three max_four min_four   -- for this text's walks alone
set_option linter.unusedVariables false
set_option linter.unusedSimpArgs false
mutual
def name_build.j0 : Nat → List (List (S64)) → Bool → Option (List Int × Int)
  | 0, _, _ => none
  | k + 1, x0, x20 => if x20 = true then (some (([] : List Int), 4)) else (name_build.l0 k ([] : List (List Int)) x0 (x0.length : Int) 0)
def name_build.l0 : Nat → List (List Int) → List (List (S64)) → Int → Int → Option (List Int × Int)
  | 0, _, _, _, _ => none
  | k + 1, x4, x22, x23, x24 => if x24 < x23 then (if 0 ≤ x24 then (if x24 < (x22.length : Int) then (if ((rd_L5 x22 x24).length : Int) = 0 then (some (([] : List Int), 5)) else (name_build.l1 k x4 ([] : List (List Int)) x22 x23 x24 (rd_L5 x22 x24) ((rd_L5 x22 x24).length : Int) 0)) else (none)) else (none)) else ((name_about.f k 16 x4).bind fun bt361 => (some (bt361.1, bt361.2)))
def name_build.l1 : Nat → List (List Int) → List (List Int) → List (List (S64)) → Int → Int → List (S64) → Int → Int → Option (List Int × Int)
  | 0, _, _, _, _, _, _, _, _ => none
  | k + 1, x4, x7, x22, x23, x24, x36, x37, x38 => if x38 < x37 then (if 0 ≤ x38 then (if x38 < (x36.length : Int) then ((name_lay.f k ((rd_T64 x36 x38).f0) ((rd_T64 x36 x38).f1) ((rd_T64 x36 x38).f2)).bind fun bt368 => (if bt368.2 = 0 then (if x7.length < 5864062014805 then (name_build.l1 k x4 (x7 ++ [bt368.1]) x22 x23 x24 x36 x37 (wrap64 (x38 + 1))) else (none)) else (some (([] : List Int), bt368.2)))) else (none)) else (none)) else ((slices_SortFunc.f x7).bind fun y7 => ((name_about.f k 17 y7).bind fun bt375 => (if bt375.2 = 0 then (if x4.length < 5864062014805 then (name_build.l0 k (x4 ++ [bt375.1]) x22 x23 (wrap64 (x24 + 1))) else (none)) else (some (([] : List Int), bt375.2)))))
end
def name_build.f (k : Nat) (l0 : List (List (S64))) : Option (List Int × Int) := if (l0.length : Int) > 64 then (name_build.j0 k l0 true) else ((slices_ContainsFunc.f l0).bind fun t360 => (name_build.j0 k l0 t360))
set_option maxHeartbeats 8000000 in
set_option maxRecDepth 100000 in
theorem name_build.calls (k : Nat) (A0 : Option Addr) (c0 : Nat) (l0 : List (List (S64))) (r1 : List Int) (r2 : Int) (w : World) (hr0 : Kd.C (Kd.slice 64 k64) w A0 l0.length l0) (hc0 : l0.length ≤ c0) (h : name_build.f k l0 = some (r1, r2)) :
    Calls Tryz.prog 84 #[.slice A0 l0.length c0] w fun e w' => ∃ v0_ ev_ : Value, e = .returned (.tuple #[v0_, ev_]) ∧ EV ev_ r2 ∧ Kd.R (Kd.int .u8) 5 w' w.heap.size (fun _ => True) v0_ r1 ∧ Below w.heap.size w w' := by
  have hu64 := Tryz.underlying64
  have HR0 := Aside0.mk hr0
  have HC0 := Aside0.mk hc0
  clear hr0 hc0
  have HB := Aside0.mk (Below.refl w.heap.size w)
  have H : (if (l0.length : Int) > 64 then (name_build.j0 k l0 true) else ((slices_ContainsFunc.f l0).bind fun t360 => (name_build.j0 k l0 t360))) = some (r1, r2) := h
  clear h
  have HC2 := Aside0.mk H
  clear H
  go_enter Tryz.func84, Tryz.ntmps84
  go_upto_region 1 with (fail)
  go_cut [20] (fun v20 wc => ∃ (kq : Nat) (x20_1 : Bool), v20 = .bool x20_1 ∧ Aside0 (name_build.j0 kq l0 x20_1 = some (r1, r2)) ∧ Aside0 (kq ≤ k) ∧ Aside0 (Below w.heap.size w wc))
  case first =>
    have H := HC2.out
    clear HC2
    by_cases c3 : (l0.length : Int) > 64
    · rw [if_pos c3] at H
      have c3b0 : decide (64 < (l0.length : Int)) = true := decide_eq_true c3
      have c3b1 : decide (64 < l0.length) = true := decide_eq_true (by omega)
      clear c3
      (first | rw [c3b0] | (simp only [i64_w, i32_w]; rw [c3b0]) | skip)
      have H' := Aside0.mk H
      clear H
      go_wp2
      go_meet
      case rel => exact ⟨_, (true), (by first | rfl | (simp; done) | (simp [*]; done)), H', ⟨by first | omega | exact Nat.le_refl _⟩, ⟨by repeat (first | (with_reducible first | exact HB.out | apply below_alloc | apply pw_below_drewN | apply below_drew1) | exact HB.out)⟩⟩
    rw [if_neg c3] at H
    have c3b0 : decide (64 < (l0.length : Int)) = false := decide_eq_false c3
    have c3b1 : decide (64 < l0.length) = false := decide_eq_false (by omega)
    clear c3
    (first | rw [c3b0] | (simp only [i64_w, i32_w]; rw [c3b0]) | skip)
    replace H := Option.bind_eq_some_iff.mp H
    obtain ⟨t360, A40, H⟩ := H
    replace H : (name_build.j0 k l0 t360) = some (r1, r2) := H
    have A4 := Aside0.mk A40
    clear A40
    have H' := Aside0.mk H
    clear H
    go_wp2_with (first | (go_at_call 147; (with_reducible refine (slices_ContainsFunc.calls _ _ l0 t360 _ ?side1 ?side2 A4.out).mono ?_); (case side1 => repeat (first | exact (Kd.C_below HR0.out HB.out) | (with_reducible refine Kd.C_alloc ?_ _) | (with_reducible refine Kd.C_drewN ?_ _) | (with_reducible refine Kd.C_drew ?_))); (case side2 => exact HC0.out); rintro e w5 ⟨rfl, hb⟩; have n0_ := Aside0.mk (below_step (by repeat (first | (with_reducible first | exact HB.out | apply below_alloc | apply pw_below_drewN | apply below_drew1) | exact HB.out)) hb); clear HB; have HB := n0_; clear n0_; (try clear hb); (try clear hb2); (try clear hk); (try clear hi)))
    go_meet
    case rel => exact ⟨_, (t360), (by first | rfl | (simp; done) | (simp [*]; done)), H', ⟨by first | omega | exact Nat.le_refl _⟩, ⟨by repeat (first | (with_reducible first | exact HB.out | apply below_alloc | apply pw_below_drewN | apply below_drew1) | exact HB.out)⟩⟩
  clear HC2
  try clear p2
  try clear c3
  try clear c3b0
  try clear c3b1
  obtain ⟨kq, x20_1, rfl, HA, HJ1, HB⟩ := hcut
  cases kq with
  | zero => exact absurd HA.out (by simp [name_build.j0])
  | succ kj1 =>
    have H := HA.out
    clear HA
    simp only [name_build.j0] at H
    by_cases c6 : x20_1 = true
    · subst c6
      have H1 : (some (([] : List Int), 4)) = some (r1, r2) := by rw [if_pos rfl] at H; exact H
      clear H
      have H := H1
      clear H1
      simp only [Option.some.injEq, Prod.mk.injEq] at H
      obtain ⟨rfl, rfl⟩ := H
      go_wp2
      go_ret2
      exact ⟨_, _, by first | rfl | (simp [errW_none, errW_some] <;> rfl) | (simp [*, errW_none, errW_some] <;> rfl), (by first | exact EV.nil | exact EV.f30 | exact EV.f5 | exact EV.f4 | exact EV.f1 | exact EV.low (by assumption) | exact EV.part EV.f5 | exact EV.part EV.f4 | exact EV.part EV.f30 | exact EV.part EV.f1 | exact HEV_.out | exact EV.part HEV_.out), by first | exact Kd.R_nil _ _ _ _ _ | exact Kd.N_nil _ _ _ _ _ | exact Kd.V_nil _ _ _ _ _ | exact Kd.Q_nil _ _ _ _ _ | exact Kd.S_nil _ _ _ _ _, by repeat (first | (with_reducible first | exact HB.out | apply below_alloc | apply pw_below_drewN | apply below_drew1) | exact HB.out)⟩
    replace c6 := Bool.eq_false_iff.mpr c6
    subst c6
    have H1 : (name_build.l0 kj1 ([] : List (List Int)) l0 (l0.length : Int) 0) = some (r1, r2) := by rw [if_neg (show ¬ (false = true) by decide)] at H; exact H
    clear H
    have H := H1
    clear H1
    have H' := Aside0.mk H
    clear H
    go_wp2
    go_loopg [4, 24] kj1 (fun kq v4 v24 w' => ∃ (x4_2 : List (List Int)) (x24_2 : Int), v24 = .int .i64 x24_2 ∧ Aside0 (name_build.l0 kq x4_2 l0 (l0.length : Int) x24_2 = some (r1, r2)) ∧ Aside0 (kq ≤ kj1) ∧ Aside0 (Kd.S (Kd.slice 5 (Kd.int .u8)) 22 w' w.heap.size (fun _ => True) v4 x4_2) ∧ Aside0 (Below w.heap.size w w'))
    case atStart => exact ⟨(([] : List (List Int))), (0), (by first | rfl | (simp; done) | (simp [*]; done)), H', ⟨Nat.le_refl _⟩, ⟨by first | exact Kd.S_nil _ _ _ _ _ | exact Kd.N_nil _ _ _ _ _ | exact Kd.V_nil _ _ _ _ _ | exact Kd.Q_nil _ _ _ _ _ | exact Kd.R_nil _ _ _ _ _⟩, ⟨by repeat (first | (with_reducible first | exact HB.out | apply below_alloc | apply pw_below_drewN | apply below_drew1) | exact HB.out)⟩⟩
    case round =>
      clear H'
      try clear p2
      try clear c3
      try clear c3b0
      try clear c3b1
      try clear c6
      try clear p2
      obtain ⟨x4_2, x24_2, rfl, HA, HK2, HO_4, HB⟩ := hrel
      cases gk with
      | zero => exact absurd HA.out (by simp [name_build.l0])
      | succ k2 =>
        have H := HA.out
        clear HA
        simp only [name_build.l0] at H
        by_cases c7 : x24_2 < (l0.length : Int)
        rotate_left
        · rw [if_neg c7] at H
          have c7b0 : decide (x24_2 < (l0.length : Int)) = false := decide_eq_false c7
          clear c7
          replace H := Option.bind_eq_some_iff.mp H
          obtain ⟨⟨t361, t362⟩, A410, H⟩ := H
          replace H : (some (t361, t362)) = some (r1, r2) := H
          have A41 := Aside0.mk A410
          clear A410
          simp only [Option.some.injEq, Prod.mk.injEq] at H
          obtain ⟨rfl, rfl⟩ := H
          obtain ⟨Ao42, co42, eo42⟩ := Kd.S_slice HO_4.out
          subst eo42
          go_wp2_with (first | ((with_reducible refine gate_callee (f := 152) rfl ?_); refine goesL_ (some 78) rfl rfl Tryz.func152 (by kernel_rfl) rfl #[.int .i64 16, .slice Ao42 x4_2.length co42] rfl (by (try simp only [List.map_toArray, List.map_cons, List.map_nil]); first | done | rfl | (simp only [List.length_drop, List.length_take]; rfl)) ?_; (with_reducible refine (name_about.calls k2 16 _ _ x4_2 t361 t362 _ ?side1 ?side2 A41.out).mono ?_); (case side1 => repeat (first | exact (Kd.S_reads' HO_4.out).2.2 | (with_reducible refine Kd.C_alloc ?_ _) | (with_reducible refine Kd.C_drewN ?_ _) | (with_reducible refine Kd.C_drew ?_))); (case side2 => exact (Kd.S_reads' HO_4.out).2.1); rintro e w43 ⟨v363, ev_, rfl, hev_, ho0, hb⟩; skip; have HEV_ := Aside0.mk hev_; clear hev_; refine ⟨_, rfl, ?_⟩; have n0_ := Aside0.mk (Kd.S_elder' (by (with_reducible repeat (first | apply Kd.S_alloc | apply Kd.S_drewN | apply Kd.S_drew)); exact HO_4.out) (Kd.R_base ho0) hb); have n1_ := Aside0.mk (Kd.R_lower ho0 (below_size (by repeat (first | (with_reducible first | exact HB.out | apply below_alloc | apply pw_below_drewN | apply below_drew1) | exact HB.out)))); have n2_ := Aside0.mk (below_step (by repeat (first | (with_reducible first | exact HB.out | apply below_alloc | apply pw_below_drewN | apply below_drew1) | exact HB.out)) hb); clear HO_4; clear HB; have HO_4 := n0_; have HO364 := n1_; have HB := n2_; clear n0_ n1_ n2_; (try clear hb); (try clear hb2); (try clear hk); (try clear hi); (try clear ho0)))
          go_ret2
          exact ⟨_, _, by first | rfl | (simp [errW_none, errW_some] <;> rfl) | (simp [*, errW_none, errW_some] <;> rfl), (by first | exact EV.nil | exact EV.f30 | exact EV.f5 | exact EV.f4 | exact EV.f1 | exact EV.low (by assumption) | exact EV.part EV.f5 | exact EV.part EV.f4 | exact EV.part EV.f30 | exact EV.part EV.f1 | exact HEV_.out | exact EV.part HEV_.out), by (with_reducible repeat (first | apply Kd.R_alloc | apply Kd.R_drewN | apply Kd.R_drew)); exact HO364.out, by repeat (first | (with_reducible first | exact HB.out | apply below_alloc | apply pw_below_drewN | apply below_drew1) | exact HB.out)⟩
        rw [if_pos c7] at H
        have c7b0 : decide (x24_2 < (l0.length : Int)) = true := decide_eq_true c7
        clear c7
        by_cases c8 : 0 ≤ x24_2
        rotate_left
        · rw [if_neg c8] at H
          exact absurd H (by simp)
        rw [if_pos c8] at H
        have c8b0 : decide (0 ≤ x24_2) = true := decide_eq_true c8
        clear c8
        by_cases c9 : x24_2 < (l0.length : Int)
        rotate_left
        · rw [if_neg c9] at H
          exact absurd H (by simp)
        rw [if_pos c9] at H
        have c9b0 : decide (x24_2 < (l0.length : Int)) = true := decide_eq_true c9
        clear c9
        by_cases c10 : ((rd_L5 l0 x24_2).length : Int) = 0
        · rw [if_pos c10] at H
          have c10b0 : (((rd_L5 l0 x24_2).length : Int) == 0) = true := beq_iff_eq.mpr c10
          have c10b1 : (((rd_L5 l0 x24_2).length : Int) != 0) = false := bne_eq_false_iff_eq.mpr c10
          clear c10
          simp only [Option.some.injEq, Prod.mk.injEq] at H
          obtain ⟨rfl, rfl⟩ := H
          have p365 : 0 ≤ (x24_2 : Int) := of_decide_eq_true (by first | (with_reducible assumption) | assumption)
          have q365 : x24_2 < (l0.length : Int) := of_decide_eq_true (by first | (with_reducible assumption) | assumption)
          obtain ⟨ad365, A365_0, c365_0, e365, hx365_0, hl365_0, hi365_0⟩ := at_L5 HR0.out x24_2 p365 q365
          cases e365
          replace hx365_0 := (HB.out.cell (World.block_lt_of_cell? w _ hx365_0)).trans hx365_0
          have HR365_0 := Aside0.mk hi365_0
          have HC365_0 := Aside0.mk hl365_0
          clear hi365_0 hl365_0
          replace p365 := eq_true p365
          replace q365 := eq_true q365
          go_wp2
          go_ret2
          exact ⟨_, _, by first | rfl | (simp [errW_none, errW_some] <;> rfl) | (simp [*, errW_none, errW_some] <;> rfl), (by first | exact EV.nil | exact EV.f30 | exact EV.f5 | exact EV.f4 | exact EV.f1 | exact EV.low (by assumption) | exact EV.part EV.f5 | exact EV.part EV.f4 | exact EV.part EV.f30 | exact EV.part EV.f1 | exact HEV_.out | exact EV.part HEV_.out), by first | exact Kd.R_nil _ _ _ _ _ | exact Kd.N_nil _ _ _ _ _ | exact Kd.V_nil _ _ _ _ _ | exact Kd.Q_nil _ _ _ _ _ | exact Kd.S_nil _ _ _ _ _, by repeat (first | (with_reducible first | exact HB.out | apply below_alloc | apply pw_below_drewN | apply below_drew1) | exact HB.out)⟩
        rw [if_neg c10] at H
        have c10b0 : (((rd_L5 l0 x24_2).length : Int) == 0) = false := beq_eq_false_iff_ne.mpr c10
        have c10b1 : (((rd_L5 l0 x24_2).length : Int) != 0) = true := bne_iff_ne.mpr c10
        have c10b2 : ¬ ((rd_L5 l0 x24_2) = []) := fun h_ => c10 (by rw [h_]; rfl)
        have H' := Aside0.mk H
        clear H
        have p365 : 0 ≤ (x24_2 : Int) := of_decide_eq_true (by first | (with_reducible assumption) | assumption)
        have q365 : x24_2 < (l0.length : Int) := of_decide_eq_true (by first | (with_reducible assumption) | assumption)
        obtain ⟨ad365, A365_0, c365_0, e365, hx365_0, hl365_0, hi365_0⟩ := at_L5 HR0.out x24_2 p365 q365
        cases e365
        replace hx365_0 := (HB.out.cell (World.block_lt_of_cell? w _ hx365_0)).trans hx365_0
        have HR365_0 := Aside0.mk hi365_0
        have HC365_0 := Aside0.mk hl365_0
        clear hi365_0 hl365_0
        replace p365 := eq_true p365
        replace q365 := eq_true q365
        go_wp2
        go_loopg [7, 38] k2 (fun kq v7 v38 w' => ∃ (x7_3 : List (List Int)) (x38_3 : Int), v38 = .int .i64 x38_3 ∧ Aside0 (name_build.l1 kq x4_2 x7_3 l0 (l0.length : Int) x24_2 (rd_L5 l0 x24_2) ((rd_L5 l0 x24_2).length : Int) x38_3 = some (r1, r2)) ∧ Aside0 (kq ≤ k2) ∧ Aside0 (Kd.S (Kd.slice 5 (Kd.int .u8)) 22 w' w.heap.size (fun k_ => some k_ ≠ (v7 : Value).ownBlock) u4 x4_2) ∧ Aside0 (Kd.S (Kd.slice 5 (Kd.int .u8)) 22 w' w.heap.size (fun k_ => some k_ ≠ (u4 : Value).ownBlock) v7 x7_3) ∧ Aside0 (Below w.heap.size w w'))
        case atStart => exact ⟨(([] : List (List Int))), (0), (by first | rfl | (simp; done) | (simp [*]; done)), H', ⟨Nat.le_refl _⟩, ⟨by (with_reducible repeat (first | apply Kd.S_alloc | apply Kd.S_drewN | apply Kd.S_drew)); exact Kd.S_mono HO_4.out (fun _ hk => (by simp [Value.ownBlock]))⟩, ⟨by first | exact Kd.S_nil _ _ _ _ _ | exact Kd.N_nil _ _ _ _ _ | exact Kd.V_nil _ _ _ _ _ | exact Kd.Q_nil _ _ _ _ _ | exact Kd.R_nil _ _ _ _ _⟩, ⟨by repeat (first | (with_reducible first | exact HB.out | apply below_alloc | apply pw_below_drewN | apply below_drew1) | exact HB.out)⟩⟩
        case round =>
          clear H'
          try clear c1
          try clear p2
          try clear c3
          try clear c3b0
          try clear c3b1
          try clear p3
          try clear q3
          try clear hx3
          try clear c6
          try clear c7
          try clear c7b0
          try clear c8
          try clear c8b0
          try clear c9
          try clear c9b0
          try clear c10
          try clear c10b0
          try clear c10b1
          try clear c10b2
          try clear hx365_0
          try clear p2
          try clear p365
          try clear q365
          obtain ⟨x7_3, x38_3, rfl, HA, HK3, HO_4, HO_7, HB⟩ := hrel
          cases gk with
          | zero => exact absurd HA.out (by simp [name_build.l1])
          | succ k3 =>
            have H := HA.out
            clear HA
            simp only [name_build.l1] at H
            by_cases c11 : x38_3 < ((rd_L5 l0 x24_2).length : Int)
            rotate_left
            · rw [if_neg c11] at H
              have c11b0 : decide (x38_3 < ((rd_L5 l0 x24_2).length : Int)) = false := decide_eq_false c11
              clear c11
              replace H := Option.bind_eq_some_iff.mp H
              obtain ⟨y7, A290, H⟩ := H
              replace H : ((name_about.f k3 17 y7).bind fun bt375 => (if bt375.2 = 0 then (if x4_2.length < 5864062014805 then (name_build.l0 k3 (x4_2 ++ [bt375.1]) l0 (l0.length : Int) (wrap64 (x24_2 + 1))) else (none)) else (some (([] : List Int), bt375.2)))) = some (r1, r2) := H
              have A29 := Aside0.mk A290
              have YL := Aside0.mk (sortfunc_len A290)
              clear A290
              replace H := Option.bind_eq_some_iff.mp H
              obtain ⟨⟨t375, t376⟩, A300, H⟩ := H
              replace H : (if t376 = 0 then (if x4_2.length < 5864062014805 then (name_build.l0 k3 (x4_2 ++ [t375]) l0 (l0.length : Int) (wrap64 (x24_2 + 1))) else (none)) else (some (([] : List Int), t376))) = some (r1, r2) := H
              have A30 := Aside0.mk A300
              clear A300
              by_cases c31 : t376 = 0
              rotate_left
              · rw [if_neg c31] at H
                have c31b0 : (t376 == 0) = false := beq_eq_false_iff_ne.mpr c31
                have c31b1 : (t376 != 0) = true := bne_iff_ne.mpr c31
                simp only [Option.some.injEq, Prod.mk.injEq] at H
                obtain ⟨rfl, rfl⟩ := H
                obtain ⟨Ao38, co38, eo38⟩ := Kd.S_slice HO_7.out
                subst eo38
                go_wp2_with (first | ((with_reducible refine gate_callee (f := 150) rfl ?_); refine goesL_ (some 60) rfl rfl Tryz.func150 (by kernel_rfl) rfl #[.slice Ao38 x7_3.length co38, .func (.func 151) #[] #[]] rfl (by (try simp only [List.map_toArray, List.map_cons, List.map_nil]); first | done | rfl | (simp only [List.length_drop, List.length_take]; rfl)) ?_; (with_reducible refine (sortfunc_own w _ x7_3 y7 ?ok_ _ ?side1 ?side2 A29.out).mono ?_); (case side1 => exact (Kd.S_R (by (with_reducible repeat (first | apply Kd.S_alloc | apply Kd.S_drewN | apply Kd.S_drew)); exact HO_7.out))); (case side2 => exact (by repeat (first | (with_reducible first | exact HB.out | apply below_alloc | apply pw_below_drewN | apply below_drew1) | exact HB.out))); rintro e w39 ⟨rfl, hsr, hgr_, hb⟩; refine ⟨_, rfl, ?_⟩; have n0_ := Aside0.mk (Kd.S_grown (by (with_reducible repeat (first | apply Kd.S_alloc | apply Kd.S_drewN | apply Kd.S_drew)); exact HO_4.out) hgr_ (fun _ hk => hk)); have n1_ := Aside0.mk hsr; have n2_ := Aside0.mk hb; clear hsr hgr_; clear HO_4; clear HO_7; clear HB; have HO_4 := n0_; have HO_7 := n1_; have HB := n2_; clear n0_ n1_ n2_; (try clear hb); (try clear hb2); (try clear hk); (try clear hi)) | ((with_reducible refine gate_callee (f := 152) rfl ?_); refine goesL_ (some 63) rfl rfl Tryz.func152 (by kernel_rfl) rfl #[.int .i64 17, .slice Ao38 x7_3.length co38] rfl (by (try simp only [List.map_toArray, List.map_cons, List.map_nil]); first | done | rfl | (simp only [List.length_drop, List.length_take]; rfl)) ?_; (rw [YL.out]); (with_reducible refine (name_about.calls k3 17 _ _ y7 t375 t376 _ ?side1 ?side2 A30.out).mono ?_); (case side1 => repeat (first | exact (Kd.R_reads' HO_7.out).2.2 | (with_reducible refine Kd.C_alloc ?_ _) | (with_reducible refine Kd.C_drewN ?_ _) | (with_reducible refine Kd.C_drew ?_))); (case side2 => rw [← YL.out]; exact (Kd.R_reads' HO_7.out).2.1); rintro e w40 ⟨v377, ev_, rfl, hev_, ho0, hb⟩; obtain ⟨et_, eu_, rfl⟩ := EV.some_of hev_ c31b0; have HEV_ := Aside0.mk hev_; clear hev_; refine ⟨_, rfl, ?_⟩; have n0_ := Aside0.mk (Kd.S_elder' (by (with_reducible repeat (first | apply Kd.S_alloc | apply Kd.S_drewN | apply Kd.S_drew)); exact HO_4.out) (Kd.R_base ho0) hb); have n1_ := Aside0.mk (Kd.R_elder' (by (with_reducible repeat (first | apply Kd.R_alloc | apply Kd.R_drewN | apply Kd.R_drew)); exact HO_7.out) (Kd.R_base ho0) hb); have n2_ := Aside0.mk (Kd.R_lower ho0 (below_size (by repeat (first | (with_reducible first | exact HB.out | apply below_alloc | apply pw_below_drewN | apply below_drew1) | exact HB.out)))); have n3_ := Aside0.mk (below_step (by repeat (first | (with_reducible first | exact HB.out | apply below_alloc | apply pw_below_drewN | apply below_drew1) | exact HB.out)) hb); clear HO_4; clear HO_7; clear HB; have HO_4 := n0_; have HO_7 := n1_; have HO378 := n2_; have HB := n3_; clear n0_ n1_ n2_ n3_; (try clear hb); (try clear hb2); (try clear hk); (try clear hi); (try clear ho0)))
                go_ret2
                exact ⟨_, _, by first | rfl | (simp [errW_none, errW_some] <;> rfl) | (simp [*, errW_none, errW_some] <;> rfl), (by first | exact EV.nil | exact EV.f30 | exact EV.f5 | exact EV.f4 | exact EV.f1 | exact EV.low (by assumption) | exact EV.part EV.f5 | exact EV.part EV.f4 | exact EV.part EV.f30 | exact EV.part EV.f1 | exact HEV_.out | exact EV.part HEV_.out), by first | exact Kd.R_nil _ _ _ _ _ | exact Kd.N_nil _ _ _ _ _ | exact Kd.V_nil _ _ _ _ _ | exact Kd.Q_nil _ _ _ _ _ | exact Kd.S_nil _ _ _ _ _, by repeat (first | (with_reducible first | exact HB.out | apply below_alloc | apply pw_below_drewN | apply below_drew1) | exact HB.out)⟩
              rw [if_pos c31] at H
              have c31b0 : (t376 == 0) = true := beq_iff_eq.mpr c31
              have c31b1 : (t376 != 0) = false := bne_eq_false_iff_eq.mpr c31
              clear c31
              by_cases c32 : x4_2.length < 5864062014805
              rotate_left
              · rw [if_neg c32] at H
                exact absurd H (by simp)
              rw [if_pos c32] at H
              have LMc32 := Aside0.mk c32
              clear c32
              obtain ⟨y379, hy379⟩ : ∃ y_ : List (List Int), y_ = (x4_2 ++ [t375]) := ⟨_, rfl⟩
              replace H : (name_build.l0 k3 y379 l0 (l0.length : Int) (wrap64 (x24_2 + 1))) = some (r1, r2) := by first | (rw [hy379]; with_reducible exact H) | (have H2_ := (Option.bind_some _ _).symm.trans H; rw [hy379]; with_reducible exact H2_) | (have H2_ := (Option.bind_some _ _).symm.trans H; with_reducible exact H2_) | with_reducible exact H | (rw [hy379]; exact H) | exact H
              have Ny379 := Aside0.mk hy379
              clear hy379
              have H' := Aside0.mk H
              clear H
              obtain ⟨Ao33, co33, eo33⟩ := Kd.S_slice HO_7.out
              subst eo33
              go_wp2_with (first | ((with_reducible refine gate_callee (f := 150) rfl ?_); refine goesL_ (some 60) rfl rfl Tryz.func150 (by kernel_rfl) rfl #[.slice Ao33 x7_3.length co33, .func (.func 151) #[] #[]] rfl (by (try simp only [List.map_toArray, List.map_cons, List.map_nil]); first | done | rfl | (simp only [List.length_drop, List.length_take]; rfl)) ?_; (with_reducible refine (sortfunc_own w _ x7_3 y7 ?ok_ _ ?side1 ?side2 A29.out).mono ?_); (case side1 => exact (Kd.S_R (by (with_reducible repeat (first | apply Kd.S_alloc | apply Kd.S_drewN | apply Kd.S_drew)); exact HO_7.out))); (case side2 => exact (by repeat (first | (with_reducible first | exact HB.out | apply below_alloc | apply pw_below_drewN | apply below_drew1) | exact HB.out))); rintro e w34 ⟨rfl, hsr, hgr_, hb⟩; refine ⟨_, rfl, ?_⟩; have n0_ := Aside0.mk (Kd.S_grown (by (with_reducible repeat (first | apply Kd.S_alloc | apply Kd.S_drewN | apply Kd.S_drew)); exact HO_4.out) hgr_ (fun _ hk => hk)); have n1_ := Aside0.mk hsr; have n2_ := Aside0.mk hb; clear hsr hgr_; clear HO_4; clear HO_7; clear HB; have HO_4 := n0_; have HO_7 := n1_; have HB := n2_; clear n0_ n1_ n2_; (try clear hb); (try clear hb2); (try clear hk); (try clear hi)) | ((with_reducible refine gate_callee (f := 152) rfl ?_); refine goesL_ (some 63) rfl rfl Tryz.func152 (by kernel_rfl) rfl #[.int .i64 17, .slice Ao33 x7_3.length co33] rfl (by (try simp only [List.map_toArray, List.map_cons, List.map_nil]); first | done | rfl | (simp only [List.length_drop, List.length_take]; rfl)) ?_; (rw [YL.out]); (with_reducible refine (name_about.calls k3 17 _ _ y7 t375 t376 _ ?side1 ?side2 A30.out).mono ?_); (case side1 => repeat (first | exact (Kd.R_reads' HO_7.out).2.2 | (with_reducible refine Kd.C_alloc ?_ _) | (with_reducible refine Kd.C_drewN ?_ _) | (with_reducible refine Kd.C_drew ?_))); (case side2 => rw [← YL.out]; exact (Kd.R_reads' HO_7.out).2.1); rintro e w35 ⟨v377, ev_, rfl, hev_, ho0, hb⟩; obtain rfl := EV.nil_of hev_ c31b0; have HEV_ := Aside0.mk hev_; clear hev_; refine ⟨_, rfl, ?_⟩; have n0_ := Aside0.mk (Kd.S_elder' (by (with_reducible repeat (first | apply Kd.S_alloc | apply Kd.S_drewN | apply Kd.S_drew)); exact HO_4.out) (Kd.R_base ho0) hb); have n1_ := Aside0.mk (Kd.R_elder' (by (with_reducible repeat (first | apply Kd.R_alloc | apply Kd.R_drewN | apply Kd.R_drew)); exact HO_7.out) (Kd.R_base ho0) hb); have n2_ := Aside0.mk (Kd.R_lower ho0 (below_size (by repeat (first | (with_reducible first | exact HB.out | apply below_alloc | apply pw_below_drewN | apply below_drew1) | exact HB.out)))); have n3_ := Aside0.mk (below_step (by repeat (first | (with_reducible first | exact HB.out | apply below_alloc | apply pw_below_drewN | apply below_drew1) | exact HB.out)) hb); clear HO_4; clear HO_7; clear HB; have HO_4 := n0_; have HO_7 := n1_; have HO378 := n2_; have HB := n3_; clear n0_ n1_ n2_ n3_; (try clear hb); (try clear hb2); (try clear hk); (try clear hi); (try clear ho0); obtain ⟨Ao37, co37, eo37⟩ := Kd.R_slice HO378.out; subst eo37) | ((with_reducible refine gate_builtin (b := .append) (xs := #[.tmp 72, .tmp 74]) rfl ?_); at_builtin; refine Kd.S_append (Kd.slice 5 (Kd.int .u8)) (w0 := w) w.heap.size rfl (.tmp 72) (.tmp 74) 67 22 (.slice none 0 0) 24 rfl Tryz.underlying67 info22 rfl (by decide) (by omega) u4 x4_2 t375 [.slice Ao37 t375.length co37] (fun k_ => some k_ ≠ (.slice Ao33 x7_3.length co33 : Value).ownBlock) (fun k_ => some k_ = (.slice Ao37 t375.length co37 : Value).ownBlock) rfl rfl ?aP (fun k_ hk_ => ((Kd.R_mono (ok' := fun k_ => ((fun k_ => some k_ ≠ (.slice Ao33 x7_3.length co33 : Value).ownBlock)) k_ ∧ some k_ ≠ (u4 : Value).ownBlock) (Kd.R_apart' (Kd.R_apart' (HO378.out) (Kd.R_typed HO_7.out) (by decide)) (Kd.S_typed HO_4.out) (by decide)) (fun k_ hk => ⟨hk.1.2, hk.2⟩))).1 k_ hk_.symm) ?aF ?aO ?aB ?aS ?aL ?_; (case aP => exact Kd.M_row (Kd.R_mono (Kd.R_tight rfl (Kd.R_mono (ok' := fun k_ => ((fun k_ => some k_ ≠ (.slice Ao33 x7_3.length co33 : Value).ownBlock)) k_ ∧ some k_ ≠ (u4 : Value).ownBlock) (Kd.R_apart' (Kd.R_apart' (HO378.out) (Kd.R_typed HO_7.out) (by decide)) (Kd.S_typed HO_4.out) (by decide)) (fun k_ hk => ⟨hk.1.2, hk.2⟩))) (fun _ h_ => h_))); (case aB => exact (by repeat (first | (with_reducible first | exact HB.out | apply below_alloc | apply pw_below_drewN | apply below_drew1) | exact HB.out))); (case aF => exact (fun k_ hk => Kd.fresh' (Kd.R_lt (by (with_reducible repeat (first | apply Kd.R_alloc | apply Kd.R_drewN | apply Kd.R_drew)); exact HO_7.out)) k_ hk)); (case aO => exact (by (with_reducible repeat (first | apply Kd.S_alloc | apply Kd.S_drewN | apply Kd.S_drew)); exact Kd.S_mono HO_4.out (fun k_ hk => ⟨hk.1, fun e_ => hk.2 e_⟩))); (case aS => exact (below_size (by repeat (first | (with_reducible first | exact HB.out | apply below_alloc | apply pw_below_drewN | apply below_drew1) | exact HB.out)))); (case aL => have := LMc32.out; omega); intro v380 w36 ho hb hg hat; rw [← Ny379.out] at ho; have n0_ := Aside0.mk (Kd.R_after (ok := (fun k_ => some k_ ≠ (.slice Ao37 t375.length co37 : Value).ownBlock)) (by (with_reducible repeat (first | apply Kd.R_alloc | apply Kd.R_drewN | apply Kd.R_drew)); exact Kd.R_mono HO_7.out (fun _ hk => ⟨hk.2, hk.1⟩)) hg hat); have n1_ := Aside0.mk (hb); have n2_ := Aside0.mk (ho); clear HO_7; clear HB; clear HO_4; clear HO378; have HO_7 := n0_; have HB := n1_; have HO381 := n2_; clear n0_ n1_ n2_; clear ho hb hg hat))
              go_roundg k3
              case measure => have := HJ1.out; have := HK2.out; have := HK3.out; omega
              case rel => exact ⟨(y379), (wrap64 (x24_2 + 1)), (by first | rfl | (simp; done) | (simp [*]; done)), H', ⟨by have := HJ1.out; have := HK2.out; have := HK3.out; omega⟩, ⟨by (with_reducible repeat (first | apply Kd.S_alloc | apply Kd.S_drewN | apply Kd.S_drew)); exact Kd.S_mono HO381.out (fun _ hk => trivial)⟩, ⟨by repeat (first | (with_reducible first | exact HB.out | apply below_alloc | apply pw_below_drewN | apply below_drew1) | exact HB.out)⟩⟩
            rw [if_pos c11] at H
            have c11b0 : decide (x38_3 < ((rd_L5 l0 x24_2).length : Int)) = true := decide_eq_true c11
            clear c11
            by_cases c12 : 0 ≤ x38_3
            rotate_left
            · rw [if_neg c12] at H
              exact absurd H (by simp)
            rw [if_pos c12] at H
            have c12b0 : decide (0 ≤ x38_3) = true := decide_eq_true c12
            clear c12
            by_cases c13 : x38_3 < ((rd_L5 l0 x24_2).length : Int)
            rotate_left
            · rw [if_neg c13] at H
              exact absurd H (by simp)
            rw [if_pos c13] at H
            have c13b0 : decide (x38_3 < ((rd_L5 l0 x24_2).length : Int)) = true := decide_eq_true c13
            clear c13
            replace H := Option.bind_eq_some_iff.mp H
            obtain ⟨⟨t368, t371⟩, A140, H⟩ := H
            replace H : (if t371 = 0 then (if x7_3.length < 5864062014805 then (name_build.l1 k3 x4_2 (x7_3 ++ [t368]) l0 (l0.length : Int) x24_2 (rd_L5 l0 x24_2) ((rd_L5 l0 x24_2).length : Int) (wrap64 (x38_3 + 1))) else (none)) else (some (([] : List Int), t371))) = some (r1, r2) := H
            have A14 := Aside0.mk A140
            clear A140
            by_cases c15 : t371 = 0
            rotate_left
            · rw [if_neg c15] at H
              have c15b0 : (t371 == 0) = false := beq_eq_false_iff_ne.mpr c15
              have c15b1 : (t371 != 0) = true := bne_iff_ne.mpr c15
              simp only [Option.some.injEq, Prod.mk.injEq] at H
              obtain ⟨rfl, rfl⟩ := H
              have p366 : 0 ≤ (x38_3 : Int) := of_decide_eq_true (by first | (with_reducible assumption) | assumption)
              have q366 : x38_3 < ((rd_L5 l0 x24_2).length : Int) := of_decide_eq_true (by first | (with_reducible assumption) | assumption)
              obtain ⟨ad366, A366_2, c366_2, e366, hx366_0, hx366_1, hx366_2, hl366_2, hi366_2⟩ := at_T64 HR365_0.out x38_3 p366 q366
              cases e366
              replace hx366_0 := (HB.out.cell (World.block_lt_of_cell? w _ hx366_0)).trans hx366_0
              replace hx366_1 := (HB.out.cell (World.block_lt_of_cell? w _ hx366_1)).trans hx366_1
              replace hx366_2 := (HB.out.cell (World.block_lt_of_cell? w _ hx366_2)).trans hx366_2
              have HR366_2 := Aside0.mk hi366_2
              have HC366_2 := Aside0.mk hl366_2
              clear hi366_2 hl366_2
              replace p366 := eq_true p366
              replace q366 := eq_true q366
              go_wp2_with (first | ((with_reducible refine gate_dst (N := 9) rfl ?_); refine box_event ?hg (N := 9) ?hd (cs := #[.string (⟨#[]⟩ : ByteArray), .int .i64 0, .slice none 0 0]) (t := 64) ?hr ?_; (case hd => rfl); (case hg => rfl); (case hr => first | (go_simp; done) | (go_simp; rfl)); intro gb367 hg w24 hbox hb; have n0_ := Aside0.mk (Kd.S_below (by (with_reducible repeat (first | apply Kd.S_alloc | apply Kd.S_drewN | apply Kd.S_drew)); exact HO_4.out) hb); have n1_ := Aside0.mk (Kd.S_below (by (with_reducible repeat (first | apply Kd.S_alloc | apply Kd.S_drewN | apply Kd.S_drew)); exact HO_7.out) hb); have n2_ := Aside0.mk (below_step (by repeat (first | (with_reducible first | exact HB.out | apply below_alloc | apply pw_below_drewN | apply below_drew1) | exact HB.out)) hb); have n3_ := Aside0.mk (hbox); have n4_ := Aside0.mk ((by rw [hg]; exact (below_size (by repeat (first | (with_reducible first | exact HB.out | apply below_alloc | apply pw_below_drewN | apply below_drew1) | exact HB.out))) : w.heap.size ≤ gb367)); have n5_ := Aside0.mk ((by rw [hg]; exact (below_size (by repeat (first | (with_reducible first | exact HB.out | apply below_alloc | apply pw_below_drewN | apply below_drew1) | exact HB.out))) : w.heap.size ≤ gb367)); clear HO_4; clear HO_7; clear HB; have HO_4 := n0_; have HO_7 := n1_; have HB := n2_; have BK367 := n3_; have GW367 := n4_; have GE367 := n5_; clear n0_ n1_ n2_ n3_ n4_ n5_; clear hb hbox hg; have hcz25_0 : w24.cell? ⟨gb367, 0, none⟩ = some (.string (⟨#[]⟩ : ByteArray)) := (blk_cell BK367.out 0).trans rfl; have hcz25_1 : w24.cell? ⟨gb367, 1, none⟩ = some (.int .i64 0) := (blk_cell BK367.out 1).trans rfl; have hcz25_2 : w24.cell? ⟨gb367, 2, none⟩ = some (.slice none 0 0) := (blk_cell BK367.out 2).trans rfl; have hfz25_0 := blk_frozen BK367.out 0; have hfz25_1 := blk_frozen BK367.out 1; have hfz25_2 := blk_frozen BK367.out 2) | ((with_reducible refine gate_store (t := 64) (p := 9) rfl ?_); refine store_event (t := 64) (p := 9) (v := ?vo_w26) (w1 := (((w24.setCell ⟨gb367, 0, none⟩ (.string ((rd_T64 (rd_L5 l0 x24_2) x38_3).f0))).setCell ⟨gb367, 1, none⟩ (.int .i64 ((rd_T64 (rd_L5 l0 x24_2) x38_3).f1))).setCell ⟨gb367, 2, none⟩ (.slice A366_2 ((rd_T64 (rd_L5 l0 x24_2) x38_3).f2).length c366_2))) ?hg ?ho ?hn ?hr ?_; (case ho => rfl); (case hg => rfl); (case hn => rfl); (case hr => first | (go_simp; done) | (go_simp; rfl)); intro w26 hw; have n0_ : Aside0 (Kd.S (Kd.slice 5 (Kd.int .u8)) 22 w26 w.heap.size (fun k_ => some k_ ≠ (u7 : Value).ownBlock) u4 x4_2) := ⟨(by rw [hw]; exact (by (with_reducible repeat (first | apply Kd.S_alloc | apply Kd.S_drewN | apply Kd.S_drew)); exact Kd.S_mono (Kd.S_far (p := ⟨gb367, 2, none⟩) (Kd.S_far (p := ⟨gb367, 1, none⟩) (Kd.S_far (p := ⟨gb367, 0, none⟩) (Kd.S_types HO_4.out BK367.out (by decide)) (fun _ hk => hk.2) (.string ((rd_T64 (rd_L5 l0 x24_2) x38_3).f0))) (fun _ hk => hk.2) (.int .i64 ((rd_T64 (rd_L5 l0 x24_2) x38_3).f1))) (fun _ hk => hk.2) (.slice A366_2 ((rd_T64 (rd_L5 l0 x24_2) x38_3).f2).length c366_2)) (fun _ hk => hk.1)))⟩; have n1_ : Aside0 (Kd.S (Kd.slice 5 (Kd.int .u8)) 22 w26 w.heap.size (fun k_ => some k_ ≠ (u4 : Value).ownBlock) u7 x7_3) := ⟨(by rw [hw]; exact (by (with_reducible repeat (first | apply Kd.S_alloc | apply Kd.S_drewN | apply Kd.S_drew)); exact Kd.S_mono (Kd.S_far (p := ⟨gb367, 2, none⟩) (Kd.S_far (p := ⟨gb367, 1, none⟩) (Kd.S_far (p := ⟨gb367, 0, none⟩) (Kd.S_types HO_7.out BK367.out (by decide)) (fun _ hk => hk.2) (.string ((rd_T64 (rd_L5 l0 x24_2) x38_3).f0))) (fun _ hk => hk.2) (.int .i64 ((rd_T64 (rd_L5 l0 x24_2) x38_3).f1))) (fun _ hk => hk.2) (.slice A366_2 ((rd_T64 (rd_L5 l0 x24_2) x38_3).f2).length c366_2)) (fun _ hk => hk.1)))⟩; have n2_ : Aside0 (w26.heap[gb367]? = some (.cells #[.string ((rd_T64 (rd_L5 l0 x24_2) x38_3).f0), .int .i64 ((rd_T64 (rd_L5 l0 x24_2) x38_3).f1), .slice A366_2 ((rd_T64 (rd_L5 l0 x24_2) x38_3).f2).length c366_2] 64 (0, 0))) := ⟨(by rw [hw]; exact (by (with_reducible repeat (first | refine blk_drewN ?_ _ | refine blk_drew ?_ | refine blk_alloc ?_ _)); refine blk_put (cs := #[.string ((rd_T64 (rd_L5 l0 x24_2) x38_3).f0), .int .i64 ((rd_T64 (rd_L5 l0 x24_2) x38_3).f1), .slice none 0 0]) ?_ 2 _ rfl; (with_reducible repeat (first | refine blk_drewN ?_ _ | refine blk_drew ?_ | refine blk_alloc ?_ _)); refine blk_put (cs := #[.string ((rd_T64 (rd_L5 l0 x24_2) x38_3).f0), .int .i64 0, .slice none 0 0]) ?_ 1 _ rfl; (with_reducible repeat (first | refine blk_drewN ?_ _ | refine blk_drew ?_ | refine blk_alloc ?_ _)); refine blk_put (cs := #[.string (⟨#[]⟩ : ByteArray), .int .i64 0, .slice none 0 0]) ?_ 0 _ rfl; (with_reducible repeat (first | refine blk_drewN ?_ _ | refine blk_drew ?_ | refine blk_alloc ?_ _)); exact BK367.out))⟩; have n3_ : Aside0 (Below w.heap.size w w26) := ⟨(by rw [hw]; exact (by repeat (first | (with_reducible first | exact HB.out | apply below_alloc | apply pw_below_drewN | apply below_drew1 | refine below_set ?_ GE367.out) | exact HB.out)))⟩; clear hw; clear HO_4; clear HO_7; clear BK367; clear HB; have HO_4 := n0_; have HO_7 := n1_; have BK367 := n2_; have HB := n3_; clear n0_ n1_ n2_ n3_; have hcz27_0 : w26.cell? ⟨gb367, 0, none⟩ = some (.string ((rd_T64 (rd_L5 l0 x24_2) x38_3).f0)) := (blk_cell BK367.out 0).trans rfl; have hcz27_1 : w26.cell? ⟨gb367, 1, none⟩ = some (.int .i64 ((rd_T64 (rd_L5 l0 x24_2) x38_3).f1)) := (blk_cell BK367.out 1).trans rfl; have hcz27_2 : w26.cell? ⟨gb367, 2, none⟩ = some (.slice A366_2 ((rd_T64 (rd_L5 l0 x24_2) x38_3).f2).length c366_2) := (blk_cell BK367.out 2).trans rfl; have hfz27_0 := blk_frozen BK367.out 0; have hfz27_1 := blk_frozen BK367.out 1; have hfz27_2 := blk_frozen BK367.out 2) | ((with_reducible refine gate_callee (f := 149) rfl ?_); refine goesL_ (some 45) rfl rfl Tryz.func149 (by kernel_rfl) rfl #[.agg #[.string ((rd_T64 (rd_L5 l0 x24_2) x38_3).f0), .int .i64 ((rd_T64 (rd_L5 l0 x24_2) x38_3).f1), .slice A366_2 ((rd_T64 (rd_L5 l0 x24_2) x38_3).f2).length c366_2]] rfl (by (try simp only [List.map_toArray, List.map_cons, List.map_nil]); first | done | rfl | (simp only [List.length_drop, List.length_take]; rfl)) ?_; (with_reducible refine (name_lay.calls k3 ((rd_T64 (rd_L5 l0 x24_2) x38_3).f0) ((rd_T64 (rd_L5 l0 x24_2) x38_3).f1) (fun k_ => k_ < w.heap.size) _ _ ((rd_T64 (rd_L5 l0 x24_2) x38_3).f2) t368 t371 _ ?side1 A14.out).mono ?_); (case side1 => exact Kd.V_mk HC366_2.out (Kd.F_below (Kd.C_F (Kd.heap_int .u8) HR366_2.out) (by repeat (first | (with_reducible first | exact HB.out | apply below_alloc | apply pw_below_drewN | apply below_drew1 | refine below_set ?_ GE367.out) | exact HB.out)))); rintro e w28 ⟨v369, ev_, rfl, hev_, ho0, hb⟩; obtain ⟨et_, eu_, rfl⟩ := EV.some_of hev_ c15b0; have HEV_ := Aside0.mk hev_; clear hev_; refine ⟨_, rfl, ?_⟩; have n0_ := Aside0.mk (Kd.S_elder' (by (with_reducible repeat (first | apply Kd.S_alloc | apply Kd.S_drewN | apply Kd.S_drew)); exact HO_4.out) (Kd.R_base ho0) hb); have n1_ := Aside0.mk (Kd.S_elder' (by (with_reducible repeat (first | apply Kd.S_alloc | apply Kd.S_drewN | apply Kd.S_drew)); exact HO_7.out) (Kd.R_base ho0) hb); have n2_ := Aside0.mk (Kd.R_lower (Kd.R_mono (ok' := fun k_ => True) ho0 (fun _ hk_ => trivial)) (below_size (by repeat (first | (with_reducible first | exact HB.out | apply below_alloc | apply pw_below_drewN | apply below_drew1 | refine below_set ?_ GE367.out) | exact HB.out)))); have n3_ := Aside0.mk (blk_below (g := gb367) (o := .cells #[.string ((rd_T64 (rd_L5 l0 x24_2) x38_3).f0), .int .i64 ((rd_T64 (rd_L5 l0 x24_2) x38_3).f1), .slice A366_2 ((rd_T64 (rd_L5 l0 x24_2) x38_3).f2).length c366_2] 64 (0, 0)) (by (with_reducible repeat (first | refine blk_drewN ?_ _ | refine blk_drew ?_ | refine blk_alloc ?_ _)); exact BK367.out) hb); have n4_ := Aside0.mk (below_step (by repeat (first | (with_reducible first | exact HB.out | apply below_alloc | apply pw_below_drewN | apply below_drew1 | refine below_set ?_ GE367.out) | exact HB.out)) hb); clear HO_4; clear HO_7; clear BK367; clear HB; have HO_4 := n0_; have HO_7 := n1_; have HO370 := n2_; have BK367 := n3_; have HB := n4_; clear n0_ n1_ n2_ n3_ n4_; (try clear hb); (try clear hb2); (try clear hk); (try clear hi); (try clear ho0)))
              go_ret2
              exact ⟨_, _, by first | rfl | (simp [errW_none, errW_some] <;> rfl) | (simp [*, errW_none, errW_some] <;> rfl), (by first | exact EV.nil | exact EV.f30 | exact EV.f5 | exact EV.f4 | exact EV.f1 | exact EV.low (by assumption) | exact EV.part EV.f5 | exact EV.part EV.f4 | exact EV.part EV.f30 | exact EV.part EV.f1 | exact HEV_.out | exact EV.part HEV_.out), by first | exact Kd.R_nil _ _ _ _ _ | exact Kd.N_nil _ _ _ _ _ | exact Kd.V_nil _ _ _ _ _ | exact Kd.Q_nil _ _ _ _ _ | exact Kd.S_nil _ _ _ _ _, by repeat (first | (with_reducible first | exact HB.out | apply below_alloc | apply pw_below_drewN | apply below_drew1 | refine below_set ?_ GE367.out) | exact HB.out)⟩
            rw [if_pos c15] at H
            have c15b0 : (t371 == 0) = true := beq_iff_eq.mpr c15
            have c15b1 : (t371 != 0) = false := bne_eq_false_iff_eq.mpr c15
            clear c15
            by_cases c16 : x7_3.length < 5864062014805
            rotate_left
            · rw [if_neg c16] at H
              exact absurd H (by simp)
            rw [if_pos c16] at H
            have LMc16 := Aside0.mk c16
            clear c16
            obtain ⟨y372, hy372⟩ : ∃ y_ : List (List Int), y_ = (x7_3 ++ [t368]) := ⟨_, rfl⟩
            replace H : (name_build.l1 k3 x4_2 y372 l0 (l0.length : Int) x24_2 (rd_L5 l0 x24_2) ((rd_L5 l0 x24_2).length : Int) (wrap64 (x38_3 + 1))) = some (r1, r2) := by first | (rw [hy372]; with_reducible exact H) | (have H2_ := (Option.bind_some _ _).symm.trans H; rw [hy372]; with_reducible exact H2_) | (have H2_ := (Option.bind_some _ _).symm.trans H; with_reducible exact H2_) | with_reducible exact H | (rw [hy372]; exact H) | exact H
            have Ny372 := Aside0.mk hy372
            clear hy372
            have H' := Aside0.mk H
            clear H
            have p366 : 0 ≤ (x38_3 : Int) := of_decide_eq_true (by first | (with_reducible assumption) | assumption)
            have q366 : x38_3 < ((rd_L5 l0 x24_2).length : Int) := of_decide_eq_true (by first | (with_reducible assumption) | assumption)
            obtain ⟨ad366, A366_2, c366_2, e366, hx366_0, hx366_1, hx366_2, hl366_2, hi366_2⟩ := at_T64 HR365_0.out x38_3 p366 q366
            cases e366
            replace hx366_0 := (HB.out.cell (World.block_lt_of_cell? w _ hx366_0)).trans hx366_0
            replace hx366_1 := (HB.out.cell (World.block_lt_of_cell? w _ hx366_1)).trans hx366_1
            replace hx366_2 := (HB.out.cell (World.block_lt_of_cell? w _ hx366_2)).trans hx366_2
            have HR366_2 := Aside0.mk hi366_2
            have HC366_2 := Aside0.mk hl366_2
            clear hi366_2 hl366_2
            replace p366 := eq_true p366
            replace q366 := eq_true q366
            go_wp2_with (first | ((with_reducible refine gate_dst (N := 9) rfl ?_); refine box_event ?hg (N := 9) ?hd (cs := #[.string (⟨#[]⟩ : ByteArray), .int .i64 0, .slice none 0 0]) (t := 64) ?hr ?_; (case hd => rfl); (case hg => rfl); (case hr => first | (go_simp; done) | (go_simp; rfl)); intro gb367 hg w17 hbox hb; have n0_ := Aside0.mk (Kd.S_below (by (with_reducible repeat (first | apply Kd.S_alloc | apply Kd.S_drewN | apply Kd.S_drew)); exact HO_4.out) hb); have n1_ := Aside0.mk (Kd.S_below (by (with_reducible repeat (first | apply Kd.S_alloc | apply Kd.S_drewN | apply Kd.S_drew)); exact HO_7.out) hb); have n2_ := Aside0.mk (below_step (by repeat (first | (with_reducible first | exact HB.out | apply below_alloc | apply pw_below_drewN | apply below_drew1) | exact HB.out)) hb); have n3_ := Aside0.mk (hbox); have n4_ := Aside0.mk ((by rw [hg]; exact (below_size (by repeat (first | (with_reducible first | exact HB.out | apply below_alloc | apply pw_below_drewN | apply below_drew1) | exact HB.out))) : w.heap.size ≤ gb367)); have n5_ := Aside0.mk ((by rw [hg]; exact (below_size (by repeat (first | (with_reducible first | exact HB.out | apply below_alloc | apply pw_below_drewN | apply below_drew1) | exact HB.out))) : w.heap.size ≤ gb367)); clear HO_4; clear HO_7; clear HB; have HO_4 := n0_; have HO_7 := n1_; have HB := n2_; have BK367 := n3_; have GW367 := n4_; have GE367 := n5_; clear n0_ n1_ n2_ n3_ n4_ n5_; clear hb hbox hg; have hcz18_0 : w17.cell? ⟨gb367, 0, none⟩ = some (.string (⟨#[]⟩ : ByteArray)) := (blk_cell BK367.out 0).trans rfl; have hcz18_1 : w17.cell? ⟨gb367, 1, none⟩ = some (.int .i64 0) := (blk_cell BK367.out 1).trans rfl; have hcz18_2 : w17.cell? ⟨gb367, 2, none⟩ = some (.slice none 0 0) := (blk_cell BK367.out 2).trans rfl; have hfz18_0 := blk_frozen BK367.out 0; have hfz18_1 := blk_frozen BK367.out 1; have hfz18_2 := blk_frozen BK367.out 2) | ((with_reducible refine gate_store (t := 64) (p := 9) rfl ?_); refine store_event (t := 64) (p := 9) (v := ?vo_w19) (w1 := (((w17.setCell ⟨gb367, 0, none⟩ (.string ((rd_T64 (rd_L5 l0 x24_2) x38_3).f0))).setCell ⟨gb367, 1, none⟩ (.int .i64 ((rd_T64 (rd_L5 l0 x24_2) x38_3).f1))).setCell ⟨gb367, 2, none⟩ (.slice A366_2 ((rd_T64 (rd_L5 l0 x24_2) x38_3).f2).length c366_2))) ?hg ?ho ?hn ?hr ?_; (case ho => rfl); (case hg => rfl); (case hn => rfl); (case hr => first | (go_simp; done) | (go_simp; rfl)); intro w19 hw; have n0_ : Aside0 (Kd.S (Kd.slice 5 (Kd.int .u8)) 22 w19 w.heap.size (fun k_ => some k_ ≠ (u7 : Value).ownBlock) u4 x4_2) := ⟨(by rw [hw]; exact (by (with_reducible repeat (first | apply Kd.S_alloc | apply Kd.S_drewN | apply Kd.S_drew)); exact Kd.S_mono (Kd.S_far (p := ⟨gb367, 2, none⟩) (Kd.S_far (p := ⟨gb367, 1, none⟩) (Kd.S_far (p := ⟨gb367, 0, none⟩) (Kd.S_types HO_4.out BK367.out (by decide)) (fun _ hk => hk.2) (.string ((rd_T64 (rd_L5 l0 x24_2) x38_3).f0))) (fun _ hk => hk.2) (.int .i64 ((rd_T64 (rd_L5 l0 x24_2) x38_3).f1))) (fun _ hk => hk.2) (.slice A366_2 ((rd_T64 (rd_L5 l0 x24_2) x38_3).f2).length c366_2)) (fun _ hk => hk.1)))⟩; have n1_ : Aside0 (Kd.S (Kd.slice 5 (Kd.int .u8)) 22 w19 w.heap.size (fun k_ => some k_ ≠ (u4 : Value).ownBlock) u7 x7_3) := ⟨(by rw [hw]; exact (by (with_reducible repeat (first | apply Kd.S_alloc | apply Kd.S_drewN | apply Kd.S_drew)); exact Kd.S_mono (Kd.S_far (p := ⟨gb367, 2, none⟩) (Kd.S_far (p := ⟨gb367, 1, none⟩) (Kd.S_far (p := ⟨gb367, 0, none⟩) (Kd.S_types HO_7.out BK367.out (by decide)) (fun _ hk => hk.2) (.string ((rd_T64 (rd_L5 l0 x24_2) x38_3).f0))) (fun _ hk => hk.2) (.int .i64 ((rd_T64 (rd_L5 l0 x24_2) x38_3).f1))) (fun _ hk => hk.2) (.slice A366_2 ((rd_T64 (rd_L5 l0 x24_2) x38_3).f2).length c366_2)) (fun _ hk => hk.1)))⟩; have n2_ : Aside0 (w19.heap[gb367]? = some (.cells #[.string ((rd_T64 (rd_L5 l0 x24_2) x38_3).f0), .int .i64 ((rd_T64 (rd_L5 l0 x24_2) x38_3).f1), .slice A366_2 ((rd_T64 (rd_L5 l0 x24_2) x38_3).f2).length c366_2] 64 (0, 0))) := ⟨(by rw [hw]; exact (by (with_reducible repeat (first | refine blk_drewN ?_ _ | refine blk_drew ?_ | refine blk_alloc ?_ _)); refine blk_put (cs := #[.string ((rd_T64 (rd_L5 l0 x24_2) x38_3).f0), .int .i64 ((rd_T64 (rd_L5 l0 x24_2) x38_3).f1), .slice none 0 0]) ?_ 2 _ rfl; (with_reducible repeat (first | refine blk_drewN ?_ _ | refine blk_drew ?_ | refine blk_alloc ?_ _)); refine blk_put (cs := #[.string ((rd_T64 (rd_L5 l0 x24_2) x38_3).f0), .int .i64 0, .slice none 0 0]) ?_ 1 _ rfl; (with_reducible repeat (first | refine blk_drewN ?_ _ | refine blk_drew ?_ | refine blk_alloc ?_ _)); refine blk_put (cs := #[.string (⟨#[]⟩ : ByteArray), .int .i64 0, .slice none 0 0]) ?_ 0 _ rfl; (with_reducible repeat (first | refine blk_drewN ?_ _ | refine blk_drew ?_ | refine blk_alloc ?_ _)); exact BK367.out))⟩; have n3_ : Aside0 (Below w.heap.size w w19) := ⟨(by rw [hw]; exact (by repeat (first | (with_reducible first | exact HB.out | apply below_alloc | apply pw_below_drewN | apply below_drew1 | refine below_set ?_ GE367.out) | exact HB.out)))⟩; clear hw; clear HO_4; clear HO_7; clear BK367; clear HB; have HO_4 := n0_; have HO_7 := n1_; have BK367 := n2_; have HB := n3_; clear n0_ n1_ n2_ n3_; have hcz20_0 : w19.cell? ⟨gb367, 0, none⟩ = some (.string ((rd_T64 (rd_L5 l0 x24_2) x38_3).f0)) := (blk_cell BK367.out 0).trans rfl; have hcz20_1 : w19.cell? ⟨gb367, 1, none⟩ = some (.int .i64 ((rd_T64 (rd_L5 l0 x24_2) x38_3).f1)) := (blk_cell BK367.out 1).trans rfl; have hcz20_2 : w19.cell? ⟨gb367, 2, none⟩ = some (.slice A366_2 ((rd_T64 (rd_L5 l0 x24_2) x38_3).f2).length c366_2) := (blk_cell BK367.out 2).trans rfl; have hfz20_0 := blk_frozen BK367.out 0; have hfz20_1 := blk_frozen BK367.out 1; have hfz20_2 := blk_frozen BK367.out 2) | ((with_reducible refine gate_callee (f := 149) rfl ?_); refine goesL_ (some 45) rfl rfl Tryz.func149 (by kernel_rfl) rfl #[.agg #[.string ((rd_T64 (rd_L5 l0 x24_2) x38_3).f0), .int .i64 ((rd_T64 (rd_L5 l0 x24_2) x38_3).f1), .slice A366_2 ((rd_T64 (rd_L5 l0 x24_2) x38_3).f2).length c366_2]] rfl (by (try simp only [List.map_toArray, List.map_cons, List.map_nil]); first | done | rfl | (simp only [List.length_drop, List.length_take]; rfl)) ?_; (with_reducible refine (name_lay.calls k3 ((rd_T64 (rd_L5 l0 x24_2) x38_3).f0) ((rd_T64 (rd_L5 l0 x24_2) x38_3).f1) (fun k_ => k_ < w.heap.size) _ _ ((rd_T64 (rd_L5 l0 x24_2) x38_3).f2) t368 t371 _ ?side1 A14.out).mono ?_); (case side1 => exact Kd.V_mk HC366_2.out (Kd.F_below (Kd.C_F (Kd.heap_int .u8) HR366_2.out) (by repeat (first | (with_reducible first | exact HB.out | apply below_alloc | apply pw_below_drewN | apply below_drew1 | refine below_set ?_ GE367.out) | exact HB.out)))); rintro e w21 ⟨v369, ev_, rfl, hev_, ho0, hb⟩; obtain rfl := EV.nil_of hev_ c15b0; have HEV_ := Aside0.mk hev_; clear hev_; refine ⟨_, rfl, ?_⟩; have n0_ := Aside0.mk (Kd.S_elder' (by (with_reducible repeat (first | apply Kd.S_alloc | apply Kd.S_drewN | apply Kd.S_drew)); exact HO_4.out) (Kd.R_base ho0) hb); have n1_ := Aside0.mk (Kd.S_elder' (by (with_reducible repeat (first | apply Kd.S_alloc | apply Kd.S_drewN | apply Kd.S_drew)); exact HO_7.out) (Kd.R_base ho0) hb); have n2_ := Aside0.mk (Kd.R_lower (Kd.R_mono (ok' := fun k_ => True) ho0 (fun _ hk_ => trivial)) (below_size (by repeat (first | (with_reducible first | exact HB.out | apply below_alloc | apply pw_below_drewN | apply below_drew1 | refine below_set ?_ GE367.out) | exact HB.out)))); have n3_ := Aside0.mk (blk_below (g := gb367) (o := .cells #[.string ((rd_T64 (rd_L5 l0 x24_2) x38_3).f0), .int .i64 ((rd_T64 (rd_L5 l0 x24_2) x38_3).f1), .slice A366_2 ((rd_T64 (rd_L5 l0 x24_2) x38_3).f2).length c366_2] 64 (0, 0)) (by (with_reducible repeat (first | refine blk_drewN ?_ _ | refine blk_drew ?_ | refine blk_alloc ?_ _)); exact BK367.out) hb); have n4_ := Aside0.mk (below_step (by repeat (first | (with_reducible first | exact HB.out | apply below_alloc | apply pw_below_drewN | apply below_drew1 | refine below_set ?_ GE367.out) | exact HB.out)) hb); clear HO_4; clear HO_7; clear BK367; clear HB; have HO_4 := n0_; have HO_7 := n1_; have HO370 := n2_; have BK367 := n3_; have HB := n4_; clear n0_ n1_ n2_ n3_ n4_; (try clear hb); (try clear hb2); (try clear hk); (try clear hi); (try clear ho0); obtain ⟨Ao23, co23, eo23⟩ := Kd.R_slice HO370.out; subst eo23) | ((with_reducible refine gate_builtin (b := .append) (xs := #[.tmp 54, .tmp 56]) rfl ?_); at_builtin; refine Kd.S_append (Kd.slice 5 (Kd.int .u8)) (w0 := w) w.heap.size rfl (.tmp 54) (.tmp 56) 67 22 (.slice none 0 0) 24 rfl Tryz.underlying67 info22 rfl (by decide) (by omega) u7 x7_3 t368 [.slice Ao23 t368.length co23] (fun k_ => some k_ ≠ (u4 : Value).ownBlock) (fun k_ => some k_ = (.slice Ao23 t368.length co23 : Value).ownBlock) rfl rfl ?aP (fun k_ hk_ => ((Kd.R_mono (ok' := fun k_ => ((fun k_ => some k_ ≠ (u4 : Value).ownBlock)) k_ ∧ some k_ ≠ (u7 : Value).ownBlock) (Kd.R_apart' (Kd.R_apart' (HO370.out) (Kd.S_typed HO_4.out) (by decide)) (Kd.S_typed HO_7.out) (by decide)) (fun k_ hk => ⟨hk.1.2, hk.2⟩))).1 k_ hk_.symm) ?aF ?aO ?aB ?aS ?aL ?_; (case aP => exact Kd.M_row (Kd.R_mono (Kd.R_tight rfl (Kd.R_mono (ok' := fun k_ => ((fun k_ => some k_ ≠ (u4 : Value).ownBlock)) k_ ∧ some k_ ≠ (u7 : Value).ownBlock) (Kd.R_apart' (Kd.R_apart' (HO370.out) (Kd.S_typed HO_4.out) (by decide)) (Kd.S_typed HO_7.out) (by decide)) (fun k_ hk => ⟨hk.1.2, hk.2⟩))) (fun _ h_ => h_))); (case aB => exact (by repeat (first | (with_reducible first | exact HB.out | apply below_alloc | apply pw_below_drewN | apply below_drew1 | refine below_set ?_ GE367.out) | exact HB.out))); (case aF => exact (fun k_ hk => Kd.fresh' (Kd.S_lt (by (with_reducible repeat (first | apply Kd.S_alloc | apply Kd.S_drewN | apply Kd.S_drew)); exact HO_4.out)) k_ hk)); (case aO => exact (by (with_reducible repeat (first | apply Kd.S_alloc | apply Kd.S_drewN | apply Kd.S_drew)); exact Kd.S_mono HO_7.out (fun k_ hk => ⟨hk.1, fun e_ => hk.2 e_⟩))); (case aS => exact (below_size (by repeat (first | (with_reducible first | exact HB.out | apply below_alloc | apply pw_below_drewN | apply below_drew1 | refine below_set ?_ GE367.out) | exact HB.out)))); (case aL => have := LMc16.out; omega); intro v373 w22 ho hb hg hat; rw [← Ny372.out] at ho; have n0_ := Aside0.mk (Kd.S_after (ok := (fun k_ => some k_ ≠ (.slice Ao23 t368.length co23 : Value).ownBlock)) (by (with_reducible repeat (first | apply Kd.S_alloc | apply Kd.S_drewN | apply Kd.S_drew)); exact Kd.S_mono HO_4.out (fun _ hk => ⟨hk.2, hk.1⟩)) hg hat); have n1_ := Aside0.mk (blk_grown (g := gb367) (o := .cells #[.string ((rd_T64 (rd_L5 l0 x24_2) x38_3).f0), .int .i64 ((rd_T64 (rd_L5 l0 x24_2) x38_3).f1), .slice A366_2 ((rd_T64 (rd_L5 l0 x24_2) x38_3).f2).length c366_2] 64 (0, 0)) (by (with_reducible repeat (first | refine blk_drewN ?_ _ | refine blk_drew ?_ | refine blk_alloc ?_ _)); exact BK367.out) hg (Kd.S_ne HO_7.out BK367.out (by decide))); have n2_ := Aside0.mk (hb); have n3_ := Aside0.mk (ho); clear HO_4; clear BK367; clear HB; clear HO_7; clear HO370; have HO_4 := n0_; have BK367 := n1_; have HB := n2_; have HO374 := n3_; clear n0_ n1_ n2_ n3_; clear ho hb hg hat))
            go_roundg k3
            case measure => have := HJ1.out; have := HK2.out; have := HK3.out; omega
            case rel => exact ⟨(y372), (wrap64 (x38_3 + 1)), (by first | rfl | (simp; done) | (simp [*]; done)), H', ⟨by have := HJ1.out; have := HK2.out; have := HK3.out; omega⟩, ⟨by (with_reducible repeat (first | apply Kd.S_alloc | apply Kd.S_drewN | apply Kd.S_drew)); exact Kd.S_mono HO_4.out (fun _ hk => hk.2)⟩, ⟨by (with_reducible repeat (first | apply Kd.S_alloc | apply Kd.S_drewN | apply Kd.S_drew)); exact HO374.out⟩, ⟨by repeat (first | (with_reducible first | exact HB.out | apply below_alloc | apply pw_below_drewN | apply below_drew1 | refine below_set ?_ GE367.out) | exact HB.out)⟩⟩
end Go.Proofs.YtkioddjjfifadaaGreatDoor.P
set_option linter.unusedVariables false
namespace Go.Proofs.YtkioddjjfifadaaGreatDoor.P
open Go.RowKit Go.Proofs.YtkioddjjfifadaaGreatDoorW.PrintWords Go.Proofs.YtkioddjjfifadaaGreatDoorW.PrintLast Go.Proofs.YtkioddjjfifadaaGreatDoorW.PrintMore
def name_Build.f (k : Nat) (l0 : List (List (S64))) : Option (List Int × Int) := name_build.f k l0
set_option maxRecDepth 100000 in
set_option maxHeartbeats 4000000 in
theorem name_Build.calls (k : Nat) (A0 : Option Addr) (c0 : Nat) (l0 : List (List (S64))) (r1 : List Int) (r2 : Int) (w : World) (hr0 : Kd.C (Kd.slice 64 k64) w A0 l0.length l0) (hc0 : l0.length ≤ c0) (h : name_Build.f k l0 = some (r1, r2)) (hD : Hd w) :
    Calls Tryz.prog 41 #[.slice A0 l0.length c0] w fun e w' => ∃ v0_ : Value, e = .returned (.tuple #[v0_, .int .i64 r2]) ∧ Kd.R (Kd.int .u8) 5 w' w.heap.size (fun _ => True) v0_ r1 ∧ Below w.heap.size w w' := by
  have HR0 := Aside0.mk hr0
  have HC0 := Aside0.mk hc0
  have HD := Aside0.mk hD
  have A2 := Aside0.mk (show name_build.f k l0 = some (r1, r2) from h)
  clear hr0 hc0 hD h
  go_enter Tryz.func41, Tryz.ntmps41
  go_wp2_with fail
  refine (name_build.calls k A0 c0 l0 r1 r2 _ HR0.out HC0.out A2.out).mono ?_
  rintro e w1 ⟨v, ev, rfl, hev, ho, hb⟩
  have HE := Aside0.mk hev
  have HO := Aside0.mk ho
  have HB := Aside0.mk hb
  have HD1 := Aside0.mk (HD.out.below hb)
  clear hev ho hb HD HR0
  go_wp2_with fail
  refine (name_number_ev HE.out _ HD1.out).mono ?_
  rintro e w2 ⟨rfl, hb⟩
  have HO2 := Aside0.mk (Kd.R_below HO.out hb)
  have HB2 := Aside0.mk (below_step HB.out hb)
  clear hb HO HB
  go_wp2_with fail
  go_ret2
  exact ⟨_, rfl, HO2.out, HB2.out⟩
end Go.Proofs.YtkioddjjfifadaaGreatDoor.P
namespace Go.Proofs.YtkioddjjfifadaaGreatDoor.P
open Go.RowKit Go.Proofs.YtkioddjjfifadaaGreatDoorW.PrintWords Go.Proofs.YtkioddjjfifadaaGreatDoorW.PrintLast Go.Proofs.YtkioddjjfifadaaGreatDoorW.PrintMore
attribute [local go_sem] max2_int min2_int max_two min_two max_three min_three max_four min_four   -- for this text's walks alone
set_option linter.unusedVariables false
set_option linter.unusedSimpArgs false
def chirographref01_SameBytes.l0 : Nat → List Int → List Int → Int → Option (Bool)
  | 0, _, _, _ => none
  | k + 1, x0, x1, x5 => if x5 < (x0.length : Int) then (if 0 ≤ x5 then (if x5 < (x1.length : Int) then (if (rd x0 x5) = (rd x1 x5) then (chirographref01_SameBytes.l0 k x0 x1 (wrap64 (x5 + 1))) else (some false)) else (none)) else (none)) else (some true)
def chirographref01_SameBytes.f (k : Nat) (l0 : List Int) (l1 : List Int) : Option (Bool) := if (l0.length : Int) = (l1.length : Int) then (chirographref01_SameBytes.l0 k l0 l1 0) else (some false)
set_option maxHeartbeats 8000000 in
set_option maxRecDepth 100000 in
theorem chirographref01_SameBytes.calls (k : Nat) (A0 : Option Addr) (c0 : Nat) (l0 : List Int) (A1 : Option Addr) (c1 : Nat) (l1 : List Int) (r : Bool) (w : World) (hr0 : Kd.C (Kd.int .u8) w A0 l0.length l0) (hc0 : l0.length ≤ c0) (hr1 : Kd.C (Kd.int .u8) w A1 l1.length l1) (hc1 : l1.length ≤ c1) (h : chirographref01_SameBytes.f k l0 l1 = some r) :
    Calls Tryz.prog 31 #[.slice A0 l0.length c0, .slice A1 l1.length c1] w fun e w' => e = .returned (.bool r) ∧ Drawn0 w w' := by
  have HR0 := Aside0.mk hr0
  have HC0 := Aside0.mk hc0
  clear hr0 hc0
  have HR1 := Aside0.mk hr1
  have HC1 := Aside0.mk hc1
  clear hr1 hc1
  have H : (if (l0.length : Int) = (l1.length : Int) then (chirographref01_SameBytes.l0 k l0 l1 0) else (some false)) = some r := h
  clear h
  by_cases c3 : (l0.length : Int) = (l1.length : Int)
  rotate_left
  · rw [if_neg c3] at H
    have c3b0 : ((l0.length : Int) == (l1.length : Int)) = false := beq_eq_false_iff_ne.mpr c3
    have c3b1 : ((l0.length : Int) != (l1.length : Int)) = true := bne_iff_ne.mpr c3
    have c3b2 : (l0.length == l1.length) = false := by first | simpa using c3 | (simp at c3 ⊢; omega)
    obtain rfl := Option.some.inj H
    go_enter Tryz.func31, Tryz.ntmps31
    go_wp2
    repeat (go_quiet (fail); try go_wp2)
    go_ret
    exact ⟨by first | rfl | (simp; done) | (simp [*]; done), by repeat (first | exact Drawn0.refl _ | apply Drawn0.step)⟩
  rw [if_pos c3] at H
  have c3b0 : ((l0.length : Int) == (l1.length : Int)) = true := beq_iff_eq.mpr c3
  have c3b1 : ((l0.length : Int) != (l1.length : Int)) = false := bne_eq_false_iff_eq.mpr c3
  have c3b2 : (l0.length == l1.length) = true := by first | simpa using c3 | (simp at c3 ⊢; omega)
  clear c3
  have H' := Aside0.mk H
  clear H
  go_enter Tryz.func31, Tryz.ntmps31
  go_wp2
  repeat (go_quiet (fail); try go_wp2)
  go_loopg [5] k (fun kq v5 w' => ∃ (x5_1 : Int), v5 = .int .i64 x5_1 ∧ Aside0 (chirographref01_SameBytes.l0 kq l0 l1 x5_1 = some r) ∧ Aside0 (kq ≤ k) ∧ Drawn0 w w')
  case atStart => exact ⟨(0), (by first | rfl | (simp; done) | (simp [*]; done)), H', ⟨Nat.le_refl _⟩, by repeat (first | exact Drawn0.refl _ | apply Drawn0.step)⟩
  case round =>
    clear H'
    try clear c1
    try clear p2
    try clear c3
    try clear c3b0
    try clear c3b1
    try clear c3b2
    obtain ⟨x5_1, rfl, HA, HK1, ⟨m1, rfl⟩⟩ := hrel
    cases gk with
    | zero => exact absurd HA.out (by simp [chirographref01_SameBytes.l0])
    | succ k1 =>
      have H := HA.out
      clear HA
      simp only [chirographref01_SameBytes.l0] at H
      by_cases c4 : x5_1 < (l0.length : Int)
      rotate_left
      · rw [if_neg c4] at H
        have c4b0 : decide (x5_1 < (l0.length : Int)) = false := decide_eq_false c4
        clear c4
        obtain rfl := Option.some.inj H
        go_wp2
        repeat (go_quiet (fail); try go_wp2)
        go_ret
        exact ⟨by first | rfl | (simp; done) | (simp [*]; done), by repeat (first | exact Drawn0.refl _ | apply Drawn0.step)⟩
      rw [if_pos c4] at H
      have c4b0 : decide (x5_1 < (l0.length : Int)) = true := decide_eq_true c4
      clear c4
      by_cases c5 : 0 ≤ x5_1
      rotate_left
      · rw [if_neg c5] at H
        exact absurd H (by simp)
      rw [if_pos c5] at H
      have c5b0 : decide (0 ≤ x5_1) = true := decide_eq_true c5
      clear c5
      by_cases c6 : x5_1 < (l1.length : Int)
      rotate_left
      · rw [if_neg c6] at H
        exact absurd H (by simp)
      rw [if_pos c6] at H
      have c6b0 : decide (x5_1 < (l1.length : Int)) = true := decide_eq_true c6
      clear c6
      by_cases c7 : (rd l0 x5_1) = (rd l1 x5_1)
      rotate_left
      · rw [if_neg c7] at H
        have c7b0 : ((rd l0 x5_1) == (rd l1 x5_1)) = false := beq_eq_false_iff_ne.mpr c7
        have c7b1 : ((rd l0 x5_1) != (rd l1 x5_1)) = true := bne_iff_ne.mpr c7
        obtain rfl := Option.some.inj H
        have p413 : 0 ≤ (x5_1 : Int) := of_decide_eq_true (by first | (with_reducible assumption) | assumption)
        have q413 : x5_1 < (l0.length : Int) := of_decide_eq_true (by first | (with_reducible assumption) | assumption)
        obtain ⟨ad413, e413, hx413_0⟩ := Kd.at_int HR0.out x5_1 p413 q413
        cases e413
        replace p413 := eq_true p413
        replace q413 := eq_true q413
        have p414 : 0 ≤ (x5_1 : Int) := of_decide_eq_true (by first | (with_reducible assumption) | assumption)
        have q414 : x5_1 < (l1.length : Int) := of_decide_eq_true (by first | (with_reducible assumption) | assumption)
        obtain ⟨ad414, e414, hx414_0⟩ := Kd.at_int HR1.out x5_1 p414 q414
        cases e414
        replace p414 := eq_true p414
        replace q414 := eq_true q414
        go_wp2
        repeat (go_quiet (fail); try go_wp2)
        go_ret
        exact ⟨by first | rfl | (simp; done) | (simp [*]; done), by repeat (first | exact Drawn0.refl _ | apply Drawn0.step)⟩
      rw [if_pos c7] at H
      have c7b0 : ((rd l0 x5_1) == (rd l1 x5_1)) = true := beq_iff_eq.mpr c7
      have c7b1 : ((rd l0 x5_1) != (rd l1 x5_1)) = false := bne_eq_false_iff_eq.mpr c7
      clear c7
      have H' := Aside0.mk H
      clear H
      have p413 : 0 ≤ (x5_1 : Int) := of_decide_eq_true (by first | (with_reducible assumption) | assumption)
      have q413 : x5_1 < (l0.length : Int) := of_decide_eq_true (by first | (with_reducible assumption) | assumption)
      obtain ⟨ad413, e413, hx413_0⟩ := Kd.at_int HR0.out x5_1 p413 q413
      cases e413
      replace p413 := eq_true p413
      replace q413 := eq_true q413
      have p414 : 0 ≤ (x5_1 : Int) := of_decide_eq_true (by first | (with_reducible assumption) | assumption)
      have q414 : x5_1 < (l1.length : Int) := of_decide_eq_true (by first | (with_reducible assumption) | assumption)
      obtain ⟨ad414, e414, hx414_0⟩ := Kd.at_int HR1.out x5_1 p414 q414
      cases e414
      replace p414 := eq_true p414
      replace q414 := eq_true q414
      go_wp2
      repeat (go_quiet (fail); try go_wp2)
      go_roundg k1
      case measure => have := HK1.out; omega
      case rel => exact ⟨(wrap64 (x5_1 + 1)), (by first | rfl | (simp; done) | (simp [*]; done)), H', ⟨by have := HK1.out; omega⟩, by repeat (first | exact Drawn0.refl _ | apply Drawn0.step)⟩
end Go.Proofs.YtkioddjjfifadaaGreatDoor.P
namespace Go.Proofs.YtkioddjjfifadaaGreatDoor.P
open Go.RowKit Go.Proofs.YtkioddjjfifadaaGreatDoorW.PrintWords
theorem putS_err (cons : Bool) (tag : Int) (l : List (List Int)) : (putS cons tag l).2 = 0 ∨ (putS cons tag l) = ([], 3) := by
  unfold putS
  cases sumS 0 l with
  | none => exact Or.inr rfl
  | some n => exact Or.inl rfl
theorem putS_res (cons : Bool) (tag : Int) (l : List (List Int)) : (if (putS cons tag l).2 = 0 then some ((putS cons tag l).1, (0 : Int)) else some (([] : List Int), (putS cons tag l).2)) = some (putS cons tag l) := by
  rcases putS_err cons tag l with h | h
  rotate_left
  · rw [h]
    exact if_neg (by decide)
  rw [if_pos h]
  congr 1
  exact Prod.ext rfl h.symm
/-- A part's bytes. -/
def layS (p : S64) : List Int × Int :=
  if (oidS p.f0).2 = 0 then (if p.f1 < 1 then ([], 1) else if p.f1 > 268435455 then ([], 1) else
    if (putS false 6 [(oidS p.f0).1]).2 = 0 then (if (putS false p.f1 [p.f2]).2 = 0 then putS true 16 [(putS false 6 [(oidS p.f0).1]).1, (putS false p.f1 [p.f2]).1] else ([], (putS false p.f1 [p.f2]).2)) else ([], (putS false 6 [(oidS p.f0).1]).2))
  else ([], (oidS p.f0).2)
theorem about_eq (k : Nat) (tag : Int) (l : List (List Int)) (hl : l.length ≤ 1000) (t0 : 1 ≤ tag) (t1 : tag ≤ 268435455) (hk : 3000 ≤ k) : name_about.f k tag l = some (putS true tag l) := by
  unfold name_about.f
  rw [der_put k tag true l (by omega) t0 t1 (by omega), Option.bind_some]
  exact putS_res true tag l
theorem lay_eq (k : Nat) (p : S64) (hp : p.f0.size ≤ 8192) (hk : 130000 ≤ k) : name_lay.f k p.f0 p.f1 p.f2 = some (layS p) := by
  obtain ⟨k1, rfl⟩ : ∃ k1, k = k1 + 1 := ⟨k - 1, by omega⟩
  unfold name_lay.f layS
  rw [der_oid _ p.f0 (by omega) (by omega), Option.bind_some]
  by_cases c0 : (oidS p.f0).2 = 0
  rotate_left
  · rw [if_neg c0, if_neg c0]
  rw [if_pos c0, if_pos c0]
  by_cases c1 : p.f1 < 1
  · rw [if_pos c1, if_pos c1, name_lay.j0, if_pos rfl]
  rw [if_neg c1, if_neg c1, name_lay.j0]
  by_cases c2 : p.f1 > 268435455
  · rw [decide_eq_true c2, if_pos rfl, if_pos c2]
  rw [decide_eq_false c2, if_neg (by decide), if_neg c2, der_put k1 6 false _ (by simp) (by decide) (by decide) (by simp only [List.length_cons, List.length_nil]; omega), Option.bind_some]
  by_cases c3 : (putS false 6 [(oidS p.f0).1]).2 = 0
  rotate_left
  · rw [if_neg c3, if_neg c3]
  rw [if_pos c3, if_pos c3, der_put k1 p.f1 false _ (by simp) (by omega) (by omega) (by simp only [List.length_cons, List.length_nil]; omega), Option.bind_some]
  by_cases c4 : (putS false p.f1 [p.f2]).2 = 0
  rotate_left
  · rw [if_neg c4, if_neg c4]
  rw [if_pos c4, if_pos c4, about_eq k1 16 _ (by simp) (by decide) (by decide) (by omega), Option.bind_some]
def BytesOk (x : List Int) : Prop := ∀ y ∈ x, 0 ≤ y ∧ y ≤ 255
theorem layS_bytes (p : S64) (h : BytesOk p.f2) : BytesOk (layS p).1 := by
  unfold layS
  repeat' split
  all_goals first
    | (intro y hy; cases hy; done)
    | skip
  refine putS_bytes true 16 _ (by decide) (fun x hx => ?_)
  simp only [List.mem_cons, List.not_mem_nil, or_false] at hx
  rcases hx with rfl | rfl
  rotate_left
  · exact putS_bytes false _ _ (by omega) (fun x hx => by obtain rfl := List.mem_singleton.1 hx; exact h)
  exact putS_bytes false 6 _ (by decide) (fun x hx => by obtain rfl := List.mem_singleton.1 hx; exact oidS_bytes _)
theorem byteOk_of {x : List Int} (h : BytesOk x) : byteOk x = true := List.all_eq_true.2 fun y hy => by
  have := h y hy
  simp only [isByte, Bool.and_eq_true, decide_eq_true_eq]
  exact this
/-- The parts of a set, laid. -/
def partsS : List S64 → List (List Int) → List (List Int) × Int
  | [], acc => (acc, 0)
  | p :: r, acc => if (layS p).2 = 0 then partsS r (acc ++ [(layS p).1]) else ([], (layS p).2)
def setS (s : List S64) : List Int × Int :=
  if (s.length : Int) = 0 then ([], 5) else if (partsS s []).2 = 0 then putS true 17 (sortedL (partsS s []).1) else ([], (partsS s []).2)
def setsS : List (List S64) → List (List Int) → List (List Int) × Int
  | [], acc => (acc, 0)
  | s :: r, acc => if (setS s).2 = 0 then setsS r (acc ++ [(setS s).1]) else ([], (setS s).2)
/-- A name's bytes. -/
def buildS (n : List (List S64)) : List Int × Int :=
  if (n.length : Int) > 64 then ([], 4) else if longL n = true then ([], 4) else if (setsS n []).2 = 0 then putS true 16 (setsS n []).1 else ([], (setsS n []).2)
theorem drop_64 (l : List S64) (i : Int) (h0 : 0 ≤ i) (h1 : i < (l.length : Int)) : l.drop i.toNat = rd_T64 l i :: l.drop (i + 1).toNat := by
  have e : (i + 1).toNat = i.toNat + 1 := by omega
  rw [e, List.drop_eq_getElem_cons (by omega)]
  congr 1
  unfold rd_T64
  rw [List.getD_eq_getElem?_getD, List.getElem?_eq_getElem (by omega), Option.getD_some]
theorem drop_L5 (l : List (List S64)) (i : Int) (h0 : 0 ≤ i) (h1 : i < (l.length : Int)) : l.drop i.toNat = rd_L5 l i :: l.drop (i + 1).toNat := by
  have e : (i + 1).toNat = i.toNat + 1 := by omega
  rw [e, List.drop_eq_getElem_cons (by omega)]
  congr 1
  unfold rd_L5
  rw [List.getD_eq_getElem?_getD, List.getElem?_eq_getElem (by omega), Option.getD_some]
theorem mem_64 (l : List S64) (i : Int) (h0 : 0 ≤ i) (h1 : i < (l.length : Int)) : rd_T64 l i ∈ l := List.mem_of_mem_drop (drop_64 l i h0 h1 ▸ List.mem_cons_self)
theorem mem_L5 (l : List (List S64)) (i : Int) (h0 : 0 ≤ i) (h1 : i < (l.length : Int)) : rd_L5 l i ∈ l := List.mem_of_mem_drop (drop_L5 l i h0 h1 ▸ List.mem_cons_self)
def NmP (p : S64) : Prop := p.f0.size ≤ 8192 ∧ BytesOk p.f2
theorem sorted_len (l : List (List Int)) : (sortedL l).length = l.length := (sortedL_perm l).2.length_eq
/-- name.build: the parts of a set. -/
theorem nb_l1 (n : List (List S64)) (x4 : List (List Int)) (hx4 : x4.length ≤ 64) (N i : Int) (hi0 : 0 ≤ i) (hi1 : i ≤ 64) (s : List S64) (hs : s.length ≤ 64) (hg : ∀ p ∈ s, NmP p) (r : List Int × Int) (K : Nat) (hK : 130000 ≤ K) : ∀ (m k : Nat) (j : Int) (acc : List (List Int)), 0 ≤ j → (s.length : Int) - j = m → m + 1 + K ≤ k → (acc.length : Int) ≤ j → (∀ x ∈ acc, BytesOk x) →
    ((partsS (s.drop j.toNat) acc).2 = 0 → (putS true 17 (sortedL (partsS (s.drop j.toNat) acc).1)).2 = 0 → ∀ k', K ≤ k' → name_build.l0 k' (x4 ++ [(putS true 17 (sortedL (partsS (s.drop j.toNat) acc).1)).1]) n N (i + 1) = some r) →
    name_build.l1 k x4 acc n N i s (s.length : Int) j = (if (partsS (s.drop j.toNat) acc).2 = 0 then (if (putS true 17 (sortedL (partsS (s.drop j.toNat) acc).1)).2 = 0 then some r else some ([], (putS true 17 (sortedL (partsS (s.drop j.toNat) acc).1)).2)) else some ([], (partsS (s.drop j.toNat) acc).2))
  | 0, k, j, acc, h0, hm, hk, ha, hb, hr => by
    obtain ⟨k1, rfl⟩ : ∃ k1, k = k1 + 1 := ⟨k - 1, by omega⟩
    rw [List.drop_eq_nil_of_le (by omega)] at hr ⊢
    rw [partsS] at hr ⊢
    have hr := hr rfl
    have hl := sorted_len acc
    rw [name_build.l1, if_neg (by omega), if_pos rfl]
    unfold slices_SortFunc.f
    rw [if_pos ⟨List.all_eq_true.2 fun x hx => byteOk_of (hb x hx), by omega⟩, Option.bind_some, about_eq k1 17 _ (by omega) (by decide) (by decide) (by omega), Option.bind_some]
    by_cases c : (putS true 17 (sortedL acc)).2 = 0
    · rw [if_pos c, if_pos c, if_pos (by omega), wb (by omega) (by omega)]
      exact hr c k1 (by omega)
    · rw [if_neg c, if_neg c]
  | m + 1, k, j, acc, h0, hm, hk, ha, hb, hr => by
    obtain ⟨k1, rfl⟩ : ∃ k1, k = k1 + 1 := ⟨k - 1, by omega⟩
    have hd := drop_64 s j h0 (by omega)
    rw [hd] at hr ⊢
    rw [partsS] at hr ⊢
    obtain ⟨p0, p1⟩ := hg _ (mem_64 s j h0 (by omega))
    rw [name_build.l1, if_pos (by omega), if_pos h0, if_pos (by omega), lay_eq k1 _ p0 (by omega), Option.bind_some]
    by_cases c : (layS (rd_T64 s j)).2 = 0
    · rw [if_pos c] at hr ⊢
      rw [if_pos c, if_pos (by omega), wb (by omega) (by omega)]
      exact nb_l1 n x4 hx4 N i hi0 hi1 s hs hg r K hK m k1 (j + 1) _ (by omega) (by omega) (by omega) (by rw [List.length_append]; simp only [List.length_cons, List.length_nil]; omega) (fun x hx => by
        rcases List.mem_append.1 hx with hx | hx
        · exact hb x hx
        · obtain rfl := List.mem_singleton.1 hx
          exact layS_bytes _ p1) hr
    · rw [if_neg c, if_neg c]
      rw [if_neg (show ¬ (layS (rd_T64 s j)).2 = 0 from c)]
set_option maxRecDepth 100000 in
theorem nb_l0 (n : List (List S64)) (hn : n.length ≤ 64) (hg : ∀ s ∈ n, s.length ≤ 64 ∧ ∀ p ∈ s, NmP p) : ∀ (m k : Nat) (i : Int) (acc : List (List Int)), 0 ≤ i → (n.length : Int) - i = m → 70 * m + 130010 ≤ k → (acc.length : Int) ≤ i →
    name_build.l0 k acc n (n.length : Int) i = some (if (setsS (n.drop i.toNat) acc).2 = 0 then putS true 16 (setsS (n.drop i.toNat) acc).1 else ([], (setsS (n.drop i.toNat) acc).2))
  | 0, k, i, acc, h0, hm, hk, ha => by
    obtain ⟨k1, rfl⟩ : ∃ k1, k = k1 + 1 := ⟨k - 1, by omega⟩
    rw [List.drop_eq_nil_of_le (by omega), setsS, name_build.l0, if_neg (by omega), about_eq k1 16 _ (by omega) (by decide) (by decide) (by omega), Option.bind_some, if_pos rfl]
  | m + 1, k, i, acc, h0, hm, hk, ha => by
    obtain ⟨k1, rfl⟩ : ∃ k1, k = k1 + 1 := ⟨k - 1, by omega⟩
    obtain ⟨s0, s1⟩ := hg _ (mem_L5 n i h0 (by omega))
    rw [drop_L5 n i h0 (by omega), setsS, name_build.l0, if_pos (by omega), if_pos h0, if_pos (by omega)]
    unfold setS
    by_cases c0 : ((rd_L5 n i).length : Int) = 0
    · rw [if_pos c0, if_pos c0]
      rfl
    · rw [if_neg c0, if_neg c0]
      obtain ⟨K, hKd⟩ : ∃ K, K = 70 * m + 130010 := ⟨_, rfl⟩
      have ih := fun (a : List Int) (k' : Nat) (hk' : K ≤ k') => nb_l0 n hn hg m k' (i + 1) (acc ++ [a]) (by omega) (by omega) (by omega) (by rw [List.length_append]; simp only [List.length_cons, List.length_nil]; omega)
      have h := nb_l1 n acc (by omega) (n.length : Int) i h0 (by omega) (rd_L5 n i) s0 s1 (if (setsS (n.drop (i + 1).toNat) (acc ++ [(putS true 17 (sortedL (partsS (rd_L5 n i) []).1)).1])).2 = 0 then putS true 16 (setsS (n.drop (i + 1).toNat) (acc ++ [(putS true 17 (sortedL (partsS (rd_L5 n i) []).1)).1])).1 else ([], (setsS (n.drop (i + 1).toNat) (acc ++ [(putS true 17 (sortedL (partsS (rd_L5 n i) []).1)).1])).2)) K (by omega) (rd_L5 n i).length k1 0 [] (Int.le_refl _) (by omega) (by omega) (Int.le_refl 0) (fun x hx => by cases hx)
      rw [show (0 : Int).toNat = 0 from rfl, List.drop_zero] at h
      rw [h (fun _ _ k' hk' => ih _ k' hk')]
      by_cases c1 : (partsS (rd_L5 n i) []).2 = 0
      · rw [if_pos c1, if_pos c1]
        by_cases c2 : (putS true 17 (sortedL (partsS (rd_L5 n i) []).1)).2 = 0
        · rw [if_pos c2, if_pos c2]
        · rw [if_neg c2, if_neg c2, if_neg c2]
      · rw [if_neg c1, if_neg c1, if_neg c1, if_neg c1]
theorem longL_false {n : List (List S64)} (h : longL n = false) : ∀ s ∈ n, s.length ≤ 64 := fun s hs => by
  have := List.any_eq_false.1 h s hs
  rw [decide_eq_true_eq] at this
  omega
/-- name.Build: what it lays. -/
theorem build_eq (k : Nat) (hk : 140000 ≤ k) (n : List (List S64)) (hl : n.length ≤ 200) (hg : ∀ s ∈ n, ∀ p ∈ s, NmP p) : name_Build.f k n = some (buildS n) := by
  obtain ⟨k1, rfl⟩ : ∃ k1, k = k1 + 1 := ⟨k - 1, by omega⟩
  unfold name_Build.f name_build.f buildS
  by_cases c0 : (n.length : Int) > 64
  · rw [if_pos c0, if_pos c0, name_build.j0, if_pos rfl]
  rw [if_neg c0, if_neg c0]
  unfold slices_ContainsFunc.f
  rw [if_pos (by omega), Option.bind_some, name_build.j0]
  by_cases c1 : longL n = true
  · rw [if_pos c1, if_pos c1]
  rw [if_neg c1, if_neg c1]
  have hlf := longL_false (by simpa using c1)
  have := nb_l0 n (by omega) (fun s hs => ⟨hlf s hs, hg s hs⟩) n.length k1 0 [] (Int.le_refl _) (by omega) (by omega) (by simp)
  rw [show (0 : Int).toNat = 0 from rfl, List.drop_zero] at this
  exact this
theorem sb_self (l : List Int) (hl : l.length ≤ 1000000000) : ∀ (m k : Nat) (i : Int), 0 ≤ i → (l.length : Int) - i = m → m + 1 ≤ k → chirographref01_SameBytes.l0 k l l i = some true
  | 0, k, i, h0, hm, hk => by
    obtain ⟨k1, rfl⟩ : ∃ k1, k = k1 + 1 := ⟨k - 1, by omega⟩
    rw [chirographref01_SameBytes.l0, if_neg (by omega)]
  | m + 1, k, i, h0, hm, hk => by
    obtain ⟨k1, rfl⟩ : ∃ k1, k = k1 + 1 := ⟨k - 1, by omega⟩
    rw [chirographref01_SameBytes.l0, if_pos (by omega), if_pos h0, if_pos (by omega), if_pos rfl, wb (by omega) (by omega)]
    exact sb_self l hl m k1 (i + 1) (by omega) (by omega) (by omega)
theorem sameb_self (k : Nat) (l : List Int) (hl : l.length ≤ 1000000000) (hk : l.length + 1 ≤ k) : chirographref01_SameBytes.f k l l = some true := by
  unfold chirographref01_SameBytes.f
  rw [if_pos rfl]
  exact sb_self l hl l.length k 0 (Int.le_refl _) (by omega) hk
theorem lenL_len (n : Int) : (lenL n).length ≤ 5 := by
  unfold lenL
  repeat' split
  all_goals simp
theorem putS_len (cons : Bool) (tag : Int) (l : List (List Int)) : (putS cons tag l).1.length ≤ 16777300 := by
  unfold putS
  cases e : sumS 0 l with
  | none => simp
  | some n =>
    obtain ⟨n0, n1⟩ := sumS_rng l 0 n (Int.le_refl _) (by decide) e
    have h1 := sumS_flat l 0 n e
    have h2 := hdL_len (if cons then 32 else 0) tag
    have h3 := lenL_len n
    show (hdL (if cons then 32 else 0) tag ++ lenL n ++ l.flatten).length ≤ _
    rw [List.length_append, List.length_append]
    omega
theorem buildS_len (n : List (List S64)) : (buildS n).1.length ≤ 16777300 := by
  unfold buildS
  repeat' split
  all_goals first
    | exact putS_len _ _ _
    | exact Nat.zero_le _
end Go.Proofs.YtkioddjjfifadaaGreatDoor.P
set_option linter.unusedVariables false
namespace Go.Proofs.YtkioddjjfifadaaGreatDoor.P
open Go.RowKit Go.Proofs.YtkioddjjfifadaaGreatDoorW.PrintWords Go.Proofs.YtkioddjjfifadaaGreatDoorW.PrintLast Go.Proofs.YtkioddjjfifadaaGreatDoorW.PrintMore
def ref_lay.f (k : Nat) (a0 : ByteArray) (a1 : Int) (l2 : List Int) : Option (List Int × Int) :=
  (chirographref04_PutOid.f k a0).bind fun o => if o.2 = 0 then (if a1 < 1 then some ([], 1) else if a1 > 268435455 then some ([], 1) else
    (chirographref04_Put.f k 0 6 false [o.1]).bind fun p => if p.2 = 0 then ((chirographref04_Put.f k 0 a1 false [l2]).bind fun q => if q.2 = 0 then ((chirographref04_Put.f k 0 16 true [p.1, q.1]).bind fun r => if r.2 = 0 then some r else some ([], r.2)) else some ([], q.2)) else some ([], p.2)) else some ([], o.2)
/-- Where it lays: what each step laid. -/
theorem ref_lay_ok {k : Nat} {a0 : ByteArray} {a1 : Int} {l2 t : List Int} (h : ref_lay.f k a0 a1 l2 = some (t, 0)) :
    ∃ o p q, chirographref04_PutOid.f k a0 = some (o, 0) ∧ ¬ a1 < 1 ∧ ¬ a1 > 268435455 ∧ chirographref04_Put.f k 0 6 false [o] = some (p, 0) ∧ chirographref04_Put.f k 0 a1 false [l2] = some (q, 0) ∧ chirographref04_Put.f k 0 16 true [p, q] = some (t, 0) := by
  unfold ref_lay.f at h
  obtain ⟨⟨o, oe⟩, ho, h⟩ := Option.bind_eq_some_iff.1 h
  by_cases c0 : oe = 0
  rotate_left
  · rw [if_neg c0] at h
    simp only [Option.some.injEq, Prod.mk.injEq] at h
    exact absurd h.2 c0
  subst c0
  rw [if_pos rfl] at h
  by_cases c1 : a1 < 1
  · rw [if_pos c1] at h
    cases h
  rw [if_neg c1] at h
  by_cases c2 : a1 > 268435455
  · rw [if_pos c2] at h
    cases h
  rw [if_neg c2] at h
  obtain ⟨⟨p, pe⟩, hp, h⟩ := Option.bind_eq_some_iff.1 h
  by_cases c3 : pe = 0
  rotate_left
  · rw [if_neg c3] at h
    simp only [Option.some.injEq, Prod.mk.injEq] at h
    exact absurd h.2 c3
  subst c3
  rw [if_pos rfl] at h
  obtain ⟨⟨q, qe⟩, hq, h⟩ := Option.bind_eq_some_iff.1 h
  by_cases c4 : qe = 0
  rotate_left
  · rw [if_neg c4] at h
    simp only [Option.some.injEq, Prod.mk.injEq] at h
    exact absurd h.2 c4
  subst c4
  rw [if_pos rfl] at h
  obtain ⟨⟨r, re⟩, hr, h⟩ := Option.bind_eq_some_iff.1 h
  by_cases c5 : re = 0
  rotate_left
  · rw [if_neg c5] at h
    simp only [Option.some.injEq, Prod.mk.injEq] at h
    exact absurd h.2 c5
  subst c5
  rw [if_pos rfl] at h
  rw [Option.some.inj h] at hr
  exact ⟨o, p, q, ho, c1, c2, hp, hq, hr⟩
end Go.Proofs.YtkioddjjfifadaaGreatDoor.P
namespace Go.Proofs.YtkioddjjfifadaaGreatDoor.P
open Go.RowKit Go.Proofs.YtkioddjjfifadaaGreatDoorW.PrintWords Go.Proofs.YtkioddjjfifadaaGreatDoorW.PrintLast Go.Proofs.YtkioddjjfifadaaGreatDoorW.PrintMore
theorem C_row1 {α : Type} (d : Kd α) {w : World} {g : Nat} {x : α} {cs more : List Value} {t : TypeId} {fr : Nat × Nat} (hK : d.K w x cs) (hg : w.heap[g]? = some (.cells (cs ++ more).toArray t fr)) : d.C w (some ⟨g, 0, none⟩) 1 [x] := by
  refine ⟨rfl, by decide, fun _ => ⟨_, rfl, fun j y hj => ?_⟩⟩
  cases j with
  | zero =>
    obtain rfl : x = y := by simpa using hj
    refine ⟨cs, d.K_len hK, hK, fun i u hu => ?_⟩
    rw [Nat.zero_mul, Nat.zero_add, add_plain, cell_of_row w g i _ t fr hg]
    have hi := (List.getElem?_eq_some_iff.1 hu).1
    rw [List.getElem?_toArray, List.getElem?_append_left hi, hu]
  | succ j => simp at hj
theorem arr_app (a b : Array Value) : a ++ b = (a.toList ++ b.toList).toArray := by simp
theorem at_alloc (A : World) (o : Obj) (n : Nat) (hs : A.heap.size = n) : (A.alloc o).drew.heap[n]? = some o := by
  subst hs
  show (A.heap.push o)[A.heap.size]? = _
  simp
theorem new_alloc (A : World) (o : Obj) : (A.alloc o).heap[A.heap.size]? = some o := by
  show (A.heap.push o)[A.heap.size]? = _
  simp
abbrev kB : Kd (List Int) := Kd.slice 5 (Kd.int .u8)
theorem kB_mk {w : World} {A : Option Addr} {c : Nat} {l : List Int} (hl : l.length ≤ c) (h : Kd.C (Kd.int .u8) w A l.length l) : kB.K w l [.slice A l.length c] := ⟨A, c, rfl, hl, h⟩
theorem C_row2 {α : Type} (d : Kd α) (h1 : d.sz = 1) {w : World} {g : Nat} {x y : α} {u v : Value} {t : TypeId} {fr : Nat × Nat} (hK : d.K w x [u]) (hL : d.K w y [v]) (hg : w.heap[g]? = some (.cells #[u, v] t fr)) : d.C w (some ⟨g, 0, none⟩) 2 [x, y] := by
  refine ⟨rfl, by decide, fun _ => ⟨_, rfl, fun j z hj => ?_⟩⟩
  match j, hj with
  | 0, hj =>
    obtain rfl : x = z := by simpa using hj
    refine ⟨[u], d.K_len hK, hK, fun i a ha => ?_⟩
    rw [h1, add_plain, cell_of_row w g _ _ t fr hg]
    match i, ha with
    | 0, ha => exact ha
    | i + 1, ha => simp at ha
  | 1, hj =>
    obtain rfl : y = z := by simpa using hj
    refine ⟨[v], d.K_len hL, hL, fun i a ha => ?_⟩
    rw [h1, add_plain, cell_of_row w g _ _ t fr hg]
    match i, ha with
    | 0, ha => exact ha
    | i + 1, ha => simp at ha
  | j + 2, hj => simp at hj
end Go.Proofs.YtkioddjjfifadaaGreatDoor.P
