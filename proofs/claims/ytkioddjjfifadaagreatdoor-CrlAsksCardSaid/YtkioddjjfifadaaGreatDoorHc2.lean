/- crl.Parse at the two bytes 30 00 (the whole function), and law13's 'live'. -/
import Derived.Test.YtkioddjjfifadaaGreatDoorHc1
namespace Go.Proofs.YtkioddjjfifadaaGreatDoor.P
open Go.RowKit Go.Proofs.YtkioddjjfifadaaGreatDoorW.PrintWords Go.Proofs.YtkioddjjfifadaaGreatDoorW.PrintLast Go.Proofs.YtkioddjjfifadaaGreatDoorW.PrintMore

theorem crl_res (tmps : Array Value) (w : World) (g g' : Nat) (cs : Array Value) (hn : cs.size = 14) (n : Int) (hp : tmps.getD 2 undef = .pointer (some ⟨g, 0, none⟩)) (hp' : tmps.getD 3 undef = .pointer (some ⟨g', 0, none⟩))
    (hg : w.heap[g]? = some (.cells cs 28 (0, 0))) (hg' : w.heap[g']? = some (.cells #[.int .i64 n] 40 (0, 0))) :
    (results Tryz.f27 tmps).run Tryz.prog w = .ok (.tuple #[.agg cs, .int .i64 n]) w := by
  have h2 : tmps[2]?.getD undef = .pointer (some ⟨g, 0, none⟩) := by simpa using hp
  have h3 : tmps[3]?.getD undef = .pointer (some ⟨g', 0, none⟩) := by simpa using hp'
  have hi : (Tryz.prog.info? 28).map (·.size) = some cs.size := by rw [hn]; kernel_rfl
  have h4 : (loadVar 40 ⟨g', 0, none⟩).run Tryz.prog w = .ok (.int .i64 n) w := by simp [go_sem, (box1 hg').1]
  simp [results, Tryz.results27, h2, h3, asAddr, run_loadVar_row w g 28 28 cs (0, 0) _ hg Tryz.underlying28 rfl hi, h4]

set_option maxHeartbeats 1000000 in
theorem crl_Parse0 (A0 : Option Addr) (c0 : Nat) (w : World) (hr0 : Kd.C (Kd.int .u8) w A0 ([48, 0] : List Int).length [48, 0]) (hc0 : ([48, 0] : List Int).length ≤ c0) :
    Calls Tryz.prog 27 #[.slice A0 ([48, 0] : List Int).length c0] w fun e w' => e = .returned (.tuple #[.agg crl_zero, .int .i64 6]) ∧ Below w.heap.size w w' := by
  have hmf : ∀ (fn : Fn) (first cap : Array Value) (w : World), (Instr.makeFunc fn first cap).run Tryz.prog w = .ok (.func fn first cap) w := fun _ _ _ _ => rfl
  have HR0 := Aside0.mk hr0
  have HC0 := Aside0.mk hc0
  clear hr0 hc0
  go_enter_defers Tryz.func27, Tryz.ntmps27
  go_wp2_with fail
  refine (crl_read0 _ A0 c0 _ ?sa ?sb).mono ?_
  case sa => exact Kd.C_alloc (Kd.C_alloc (Kd.C_alloc HR0.out _) _) _
  case sb => exact HC0.out
  rintro e w1 ⟨rfl, hb⟩
  have hz : w1.heap[w.heap.size]? = some (.cells crl_zero 28 (0, 0)) := (hb.block w.heap.size (by simp; omega)).trans (blk_alloc (blk_alloc (heap_alloc_new w _) _) _)
  have h1 : w1.heap[w.heap.size + 1]? = some (.cells #[.int .i64 0] 40 (0, 0)) := (hb.block (w.heap.size + 1) (by simp)).trans (blk_alloc (by rw [show w.heap.size + 1 = (w.alloc (.cells crl_zero 28 (0, 0))).heap.size by simp]; exact heap_alloc_new _ _) _)
  have HB := Aside0.mk (below_step (below_alloc (below_alloc (below_alloc (Below.refl w.heap.size w) _) _) _) hb)
  have HZ := Aside0.mk hz
  have H1 := Aside0.mk h1
  clear hb hz h1
  go_wp2_with fail
  refine leaves_cons (f := 77) (args := #[.pointer (some ⟨w.heap.size, 0, none⟩), .pointer (some ⟨w.heap.size + 1, 0, none⟩)]) (by simp) (by simp [go_sem]) ?_
  refine (crl_catch0 w.heap.size (w.heap.size + 1) w1 HZ.out H1.out (by omega)).mono ?_
  rintro e u' w2 ⟨rfl, rfl, hz, h1, hb⟩
  have HB2 := Aside0.mk (HB.out.trans hb)
  have HR := Aside0.mk (fun tmps hp hp' => crl_res tmps w2 w.heap.size (w.heap.size + 1) crl_zero rfl 6 hp hp' hz h1)
  clear hz h1 hb
  exact ⟨_, HR.out _ rfl rfl, rfl, HB2.out⟩
end Go.Proofs.YtkioddjjfifadaaGreatDoor.P
