/- crl.Parse at the two bytes 30 00: it answers the zero list and the number 6 (ErrForm), and changes nothing that was there. -/
import Derived.Test.YtkioddjjfifadaaGreatDoorHc0
namespace Go.Proofs.YtkioddjjfifadaaGreatDoor.P
open Go.RowKit Go.Proofs.YtkioddjjfifadaaGreatDoorW.PrintWords Go.Proofs.YtkioddjjfifadaaGreatDoorW.PrintLast Go.Proofs.YtkioddjjfifadaaGreatDoorW.PrintMore

theorem crl_read0 (r : Value) (A0 : Option Addr) (c0 : Nat) (w : World) (hr0 : Kd.C (Kd.int .u8) w A0 ([48, 0] : List Int).length [48, 0]) (hc0 : ([48, 0] : List Int).length ≤ c0) :
    Calls Tryz.prog 78 #[r, .slice A0 ([48, 0] : List Int).length c0] w fun e w' => e = .panicked crl_stop ∧ Below w.heap.size w w' := by
  have HR0 := Aside0.mk hr0
  have HC0 := Aside0.mk hc0
  clear hr0 hc0
  go_enter Tryz.func78, Tryz.ntmps78
  go_wp2_with fail
  refine (crl_one0 A0 c0 _ HR0.out HC0.out).mono ?_
  rintro e w1 ⟨A3, c3, A4, c4, rfl, hb⟩
  have HB := Aside0.mk hb
  clear hb
  go_wp2_with fail
  refine (crl_parts0 A3 c3 A4 c4 _).mono ?_
  rintro e w2 ⟨A, c, rfl, hb⟩
  have HB2 := Aside0.mk (below_step HB.out hb)
  clear hb HB
  go_wp2_with (go_at_call 137; refine (crl_need_false _).mono ?_; rintro e w3 ⟨rfl, rfl⟩)
  exact ⟨rfl, rfl, HB2.out⟩

theorem box1 {W : World} {b : Nat} {c0 : Value} {t : TypeId} (h : W.heap[b]? = some (.cells #[c0] t (0, 0))) :
    W.cell? ⟨b, 0, none⟩ = some c0 ∧ W.frozen? ⟨b, 0, none⟩ = false := ⟨(blk_cell h 0).trans rfl, blk_frozen h 0⟩
theorem box14 {W : World} {b : Nat} {c0 c1 c2 c3 c4 c5 c6 c7 c8 c9 c10 c11 c12 c13 : Value} {t : TypeId} (h : W.heap[b]? = some (.cells #[c0, c1, c2, c3, c4, c5, c6, c7, c8, c9, c10, c11, c12, c13] t (0, 0))) :
    W.cell? ⟨b, 0, none⟩ = some c0 ∧ W.cell? ⟨b, 1, none⟩ = some c1 ∧ W.cell? ⟨b, 2, none⟩ = some c2 ∧ W.cell? ⟨b, 3, none⟩ = some c3 ∧ W.cell? ⟨b, 4, none⟩ = some c4 ∧ W.cell? ⟨b, 5, none⟩ = some c5 ∧ W.cell? ⟨b, 6, none⟩ = some c6 ∧ W.cell? ⟨b, 7, none⟩ = some c7 ∧ W.cell? ⟨b, 8, none⟩ = some c8 ∧ W.cell? ⟨b, 9, none⟩ = some c9 ∧ W.cell? ⟨b, 10, none⟩ = some c10 ∧ W.cell? ⟨b, 11, none⟩ = some c11 ∧ W.cell? ⟨b, 12, none⟩ = some c12 ∧ W.cell? ⟨b, 13, none⟩ = some c13 ∧
      W.frozen? ⟨b, 0, none⟩ = false ∧ W.frozen? ⟨b, 1, none⟩ = false ∧ W.frozen? ⟨b, 2, none⟩ = false ∧ W.frozen? ⟨b, 3, none⟩ = false ∧ W.frozen? ⟨b, 4, none⟩ = false ∧ W.frozen? ⟨b, 5, none⟩ = false ∧ W.frozen? ⟨b, 6, none⟩ = false ∧ W.frozen? ⟨b, 7, none⟩ = false ∧ W.frozen? ⟨b, 8, none⟩ = false ∧ W.frozen? ⟨b, 9, none⟩ = false ∧ W.frozen? ⟨b, 10, none⟩ = false ∧ W.frozen? ⟨b, 11, none⟩ = false ∧ W.frozen? ⟨b, 12, none⟩ = false ∧ W.frozen? ⟨b, 13, none⟩ = false :=
  ⟨(blk_cell h 0).trans rfl, (blk_cell h 1).trans rfl, (blk_cell h 2).trans rfl, (blk_cell h 3).trans rfl, (blk_cell h 4).trans rfl, (blk_cell h 5).trans rfl, (blk_cell h 6).trans rfl, (blk_cell h 7).trans rfl, (blk_cell h 8).trans rfl, (blk_cell h 9).trans rfl, (blk_cell h 10).trans rfl, (blk_cell h 11).trans rfl, (blk_cell h 12).trans rfl, (blk_cell h 13).trans rfl, blk_frozen h 0, blk_frozen h 1, blk_frozen h 2, blk_frozen h 3, blk_frozen h 4, blk_frozen h 5, blk_frozen h 6, blk_frozen h 7, blk_frozen h 8, blk_frozen h 9, blk_frozen h 10, blk_frozen h 11, blk_frozen h 12, blk_frozen h 13⟩
theorem put14 {W : World} {b : Nat} {c0 c1 c2 c3 c4 c5 c6 c7 c8 c9 c10 c11 c12 c13 : Value} {t : TypeId} (h : W.heap[b]? = some (.cells #[c0, c1, c2, c3, c4, c5, c6, c7, c8, c9, c10, c11, c12, c13] t (0, 0))) (d0 d1 d2 d3 d4 d5 d6 d7 d8 d9 d10 d11 d12 d13 : Value) :
    ((((((((((((((W.setCell ⟨b, 0, none⟩ d0).setCell ⟨b, 1, none⟩ d1).setCell ⟨b, 2, none⟩ d2).setCell ⟨b, 3, none⟩ d3).setCell ⟨b, 4, none⟩ d4).setCell ⟨b, 5, none⟩ d5).setCell ⟨b, 6, none⟩ d6).setCell ⟨b, 7, none⟩ d7).setCell ⟨b, 8, none⟩ d8).setCell ⟨b, 9, none⟩ d9).setCell ⟨b, 10, none⟩ d10).setCell ⟨b, 11, none⟩ d11).setCell ⟨b, 12, none⟩ d12).setCell ⟨b, 13, none⟩ d13).heap[b]? = some (.cells #[d0, d1, d2, d3, d4, d5, d6, d7, d8, d9, d10, d11, d12, d13] t (0, 0)) := by
  have h := blk_put (cs' := #[d0, c1, c2, c3, c4, c5, c6, c7, c8, c9, c10, c11, c12, c13]) h 0 d0 rfl
  have h := blk_put (cs' := #[d0, d1, c2, c3, c4, c5, c6, c7, c8, c9, c10, c11, c12, c13]) h 1 d1 rfl
  have h := blk_put (cs' := #[d0, d1, d2, c3, c4, c5, c6, c7, c8, c9, c10, c11, c12, c13]) h 2 d2 rfl
  have h := blk_put (cs' := #[d0, d1, d2, d3, c4, c5, c6, c7, c8, c9, c10, c11, c12, c13]) h 3 d3 rfl
  have h := blk_put (cs' := #[d0, d1, d2, d3, d4, c5, c6, c7, c8, c9, c10, c11, c12, c13]) h 4 d4 rfl
  have h := blk_put (cs' := #[d0, d1, d2, d3, d4, d5, c6, c7, c8, c9, c10, c11, c12, c13]) h 5 d5 rfl
  have h := blk_put (cs' := #[d0, d1, d2, d3, d4, d5, d6, c7, c8, c9, c10, c11, c12, c13]) h 6 d6 rfl
  have h := blk_put (cs' := #[d0, d1, d2, d3, d4, d5, d6, d7, c8, c9, c10, c11, c12, c13]) h 7 d7 rfl
  have h := blk_put (cs' := #[d0, d1, d2, d3, d4, d5, d6, d7, d8, c9, c10, c11, c12, c13]) h 8 d8 rfl
  have h := blk_put (cs' := #[d0, d1, d2, d3, d4, d5, d6, d7, d8, d9, c10, c11, c12, c13]) h 9 d9 rfl
  have h := blk_put (cs' := #[d0, d1, d2, d3, d4, d5, d6, d7, d8, d9, d10, c11, c12, c13]) h 10 d10 rfl
  have h := blk_put (cs' := #[d0, d1, d2, d3, d4, d5, d6, d7, d8, d9, d10, d11, c12, c13]) h 11 d11 rfl
  have h := blk_put (cs' := #[d0, d1, d2, d3, d4, d5, d6, d7, d8, d9, d10, d11, d12, c13]) h 12 d12 rfl
  have h := blk_put (cs' := #[d0, d1, d2, d3, d4, d5, d6, d7, d8, d9, d10, d11, d12, d13]) h 13 d13 rfl
  exact h
theorem set_other (W : World) (b i k : Nat) (v : Value) (h : ¬ k = b) : (W.setCell ⟨b, i, none⟩ v).heap[k]? = W.heap[k]? := Below.heap_setCell W ⟨b, i, none⟩ v k h
theorem put14_other (W : World) {b k : Nat} (h : ¬ k = b) (d0 d1 d2 d3 d4 d5 d6 d7 d8 d9 d10 d11 d12 d13 : Value) : ((((((((((((((W.setCell ⟨b, 0, none⟩ d0).setCell ⟨b, 1, none⟩ d1).setCell ⟨b, 2, none⟩ d2).setCell ⟨b, 3, none⟩ d3).setCell ⟨b, 4, none⟩ d4).setCell ⟨b, 5, none⟩ d5).setCell ⟨b, 6, none⟩ d6).setCell ⟨b, 7, none⟩ d7).setCell ⟨b, 8, none⟩ d8).setCell ⟨b, 9, none⟩ d9).setCell ⟨b, 10, none⟩ d10).setCell ⟨b, 11, none⟩ d11).setCell ⟨b, 12, none⟩ d12).setCell ⟨b, 13, none⟩ d13).heap[k]? = W.heap[k]? :=
  (set_other _ b 13 k _ h).trans <| (set_other _ b 12 k _ h).trans <| (set_other _ b 11 k _ h).trans <| (set_other _ b 10 k _ h).trans <| (set_other _ b 9 k _ h).trans <| (set_other _ b 8 k _ h).trans <| (set_other _ b 7 k _ h).trans <| (set_other _ b 6 k _ h).trans <| (set_other _ b 5 k _ h).trans <| (set_other _ b 4 k _ h).trans <| (set_other _ b 3 k _ h).trans <| (set_other _ b 2 k _ h).trans <| (set_other _ b 1 k _ h).trans <| set_other _ b 0 k _ h
theorem put14_below {w W : World} {B b : Nat} (h : Below B w W) (hb : B ≤ b) (d0 d1 d2 d3 d4 d5 d6 d7 d8 d9 d10 d11 d12 d13 : Value) : Below B w ((((((((((((((W.setCell ⟨b, 0, none⟩ d0).setCell ⟨b, 1, none⟩ d1).setCell ⟨b, 2, none⟩ d2).setCell ⟨b, 3, none⟩ d3).setCell ⟨b, 4, none⟩ d4).setCell ⟨b, 5, none⟩ d5).setCell ⟨b, 6, none⟩ d6).setCell ⟨b, 7, none⟩ d7).setCell ⟨b, 8, none⟩ d8).setCell ⟨b, 9, none⟩ d9).setCell ⟨b, 10, none⟩ d10).setCell ⟨b, 11, none⟩ d11).setCell ⟨b, 12, none⟩ d12).setCell ⟨b, 13, none⟩ d13) :=
  (((((((((((((h.setCell hb _).setCell hb _).setCell hb _).setCell hb _).setCell hb _).setCell hb _).setCell hb _).setCell hb _).setCell hb _).setCell hb _).setCell hb _).setCell hb _).setCell hb _).setCell hb _
abbrev crl_zero : Array Value := #[.slice none 0 0, .slice none 0 0, .slice none 0 0, .int .i64 0, .int .i64 0, .bool false, .int .i64 0, .int .i64 0, .int .i64 0, .int .i64 0, .slice none 0 0, .slice none 0 0, .slice none 0 0, .bool false]
set_option maxHeartbeats 1000000 in
theorem crl_catch0 (b0 b1 : Nat) (w : World) (hz : w.heap[b0]? = some (.cells #[.slice none 0 0, .slice none 0 0, .slice none 0 0, .int .i64 0, .int .i64 0, .bool false, .int .i64 0, .int .i64 0, .int .i64 0, .int .i64 0, .slice none 0 0, .slice none 0 0, .slice none 0 0, .bool false] 28 (0, 0)))
    (h1 : w.heap[b1]? = some (.cells #[.int .i64 0] 40 (0, 0))) (hle : b0 ≤ b1) :
    CallsD Tryz.prog 77 #[.pointer (some ⟨b0, 0, none⟩), .pointer (some ⟨b1, 0, none⟩)] (.panicking crl_stop) w fun e u' w' =>
      e = .returned (.tuple #[]) ∧ u' = .panicking [{ v := .iface 125 (.agg #[.int .i64 6]), recovered := true }] ∧ w'.heap[b0]? = some (.cells crl_zero 28 (0, 0)) ∧ w'.heap[b1]? = some (.cells #[.int .i64 6] 40 (0, 0)) ∧ Below b0 w w' := by
  have hta : ∀ (W : World), (Instr.typeAssert (.iface 125 (.agg #[.int .i64 6])) 20 125 true).run Tryz.prog W = .ok (.tuple #[.agg #[.int .i64 6], .bool true]) W := fun W => by kernel_rfl
  refine callsD_of_wpS Tryz.func77 rfl fun c₀ cs hu => ?_
  apply wpS_seq
  apply wpS_region
  simp [wpOpsS, go_sem, recoverD, hu, Tryz.ntmps77, Exit.thenS, hta]
  refine wpS_of_wp ?_
  have kz := box14 (blk_alloc hz (.cells #[.int .i64 6] 125))
  have k1 := box1 (blk_alloc h1 (.cells #[.int .i64 6] 125))
  have kn := box1 (heap_alloc_new w (.cells #[.int .i64 6] 125))
  have hn0 : ¬ b0 = w.heap.size := fun e => by subst e; simp at hz
  have hn1 : ¬ b1 = w.heap.size := fun e => by subst e; simp at h1
  have hn0' : ¬ w.heap.size = b0 := fun e => hn0 e.symm
  have hn1' : ¬ w.heap.size = b1 := fun e => hn1 e.symm
  have h01 : ¬ b0 = b1 := fun e => by subst e; rw [hz] at h1; injection h1 with h1; injection h1 with _ h1; cases h1
  have h10 : ¬ b1 = b0 := fun e => h01 e.symm
  obtain ⟨k0, k1', k2, k3, k4, k5, k6, k7, k8, k9, k10, k11, k12, k13, z0, z1, z2, z3, z4, z5, z6, z7, z8, z9, z10, z11, z12, z13⟩ := kz
  obtain ⟨kk, kz'⟩ := k1
  obtain ⟨kn, knz⟩ := kn
  simp only [show (#[Value.pointer (some ⟨b0, 0, none⟩), Value.pointer (some ⟨b1, 0, none⟩)] ++
          (((((((Array.replicate 11 undef).setIfInBounds 3 (Value.iface 125 (Value.agg #[Value.int IntKind.i64 6]))).setIfInBounds 4 (Value.tuple #[Value.agg #[Value.int IntKind.i64 6], Value.bool true])).setIfInBounds
                            2 (Value.tuple #[Value.agg #[Value.int IntKind.i64 6], Value.bool true])).setIfInBounds 5 (Value.agg #[Value.int IntKind.i64 6])).setIfInBounds 6 (Value.bool true)).setIfInBounds
                0 (Value.pointer (some ⟨w.heap.size, 0, none⟩))).setIfInBounds 1 (Value.bool true)) =
      #[Value.pointer (some ⟨b0, 0, none⟩), Value.pointer (some ⟨b1, 0, none⟩), Value.pointer (some ⟨w.heap.size, 0, none⟩), .bool true, Value.tuple #[Value.agg #[Value.int IntKind.i64 6], Value.bool true], Value.iface 125 (Value.agg #[Value.int IntKind.i64 6]), Value.tuple #[Value.agg #[Value.int IntKind.i64 6], Value.bool true], Value.agg #[Value.int IntKind.i64 6], .bool true, undef, undef, undef, undef] from rfl]
  go_wp2
  have B0 := Aside0.mk <| blk_alloc hz (.cells #[.int .i64 6] 125)
  have B1 := Aside0.mk <| blk_alloc h1 (.cells #[.int .i64 6] 125)
  have BB := Aside0.mk ((Below.refl b0 w).alloc (Nat.le_of_lt (blk_lt hz)) (.cells #[.int .i64 6] 125))
  clear hz h1
  go_region
  show bodyPostS Tryz.prog Tryz.f77 c₀ cs _ .normal _ _ _
  refine ⟨rfl, _, rfl, _, (results_none Tryz.results77 _ _ _), rfl, rfl, ?_, ?_, ?_⟩
  · exact blk_drew ((set_other _ b1 0 b0 _ h01).trans (put14 B0.out _ _ _ _ _ _ _ _ _ _ _ _ _ _))
  · exact blk_drew (blk_put ((put14_other _ h10 _ _ _ _ _ _ _ _ _ _ _ _ _ _).trans B1.out) 0 _ rfl)
  · exact below_drew ((put14_below BB.out (Nat.le_refl _) _ _ _ _ _ _ _ _ _ _ _ _ _ _).setCell hle _)
end Go.Proofs.YtkioddjjfifadaaGreatDoor.P
