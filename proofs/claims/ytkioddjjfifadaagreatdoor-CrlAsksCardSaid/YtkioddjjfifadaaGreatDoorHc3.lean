/- law13's 'live'. -/
import Derived.Test.YtkioddjjfifadaaGreatDoorHc2
import Derived.Test.YtkioddjjfifadaaGreatDoorPxf28
import Derived.Test.YtkioddjjfifadaaGreatDoorPxf20
import Derived.Test.YtkioddjjfifadaaGreatDoorPxf21
namespace Go.Proofs.YtkioddjjfifadaaGreatDoor.P
open Go.RowKit Go.Proofs.YtkioddjjfifadaaGreatDoorW.PrintWords Go.Proofs.YtkioddjjfifadaaGreatDoorW.PrintLast Go.Proofs.YtkioddjjfifadaaGreatDoorW.PrintMore

theorem lit1 {W : World} {b : Nat} {k : IntKind} {x : Int} {t : TypeId} (h : W.heap[b]? = some (.cells #[.int k x] t (0, 0))) : Kd.C (Kd.int k) W (some ⟨b, 0, none⟩) 1 [x] :=
  Kd.C_of_reads (d := 0) ⟨rfl, by omega, fun _ => ⟨_, rfl, fun j hj => by
    obtain rfl : j = 0 := by omega
    exact (blk_cell h 0).trans rfl⟩⟩
theorem lit2 {W : World} {b : Nat} {k : IntKind} {x y : Int} {t : TypeId} (h : W.heap[b]? = some (.cells #[.int k x, .int k y] t (0, 0))) : Kd.C (Kd.int k) W (some ⟨b, 0, none⟩) 2 [x, y] :=
  Kd.C_of_reads (d := 0) ⟨rfl, by omega, fun _ => ⟨_, rfl, fun j hj => by
    obtain rfl | rfl : j = 0 ∨ j = 1 := by omega
    · exact (blk_cell h 0).trans rfl
    · exact (blk_cell h 1).trans rfl⟩⟩
theorem nil_C {α : Type} {d : Kd α} {W : World} {A : Option Addr} : Kd.C d W A 0 [] := ⟨rfl, by simp, fun h => absurd h (Nat.lt_irrefl 0)⟩

theorem blk_at {W : World} {k : Nat} (h : k = W.heap.size) (o : Obj) : (W.alloc o).heap[k]? = some o := h ▸ heap_alloc_new W o
theorem blk_keep {w w1 : World} {g : Nat} {o : Obj} (hb : Below w.heap.size w w1) (h : w.heap[g]? = some o) : w1.heap[g]? = some o := (hb.block g (blk_lt h)).trans h
theorem box3 {W : World} {b : Nat} {c0 c1 c2 : Value} {t : TypeId} (h : W.heap[b]? = some (.cells #[c0, c1, c2] t (0, 0))) :
    W.cell? ⟨b, 0, none⟩ = some c0 ∧ W.cell? ⟨b, 1, none⟩ = some c1 ∧ W.cell? ⟨b, 2, none⟩ = some c2 :=
  ⟨(blk_cell h 0).trans rfl, (blk_cell h 1).trans rfl, (blk_cell h 2).trans rfl⟩
abbrev live_crl : Array Value := #[.slice none 0 0, .slice none 0 0, .slice none 0 0, .int .i64 5, .int .i64 7, .bool false, .int .i64 0, .int .i64 0, .int .i64 0, .int .i64 0, .slice none 0 0, .slice none 0 0, .slice none 0 0, .bool false]

set_option maxHeartbeats 1000000 in
theorem law13_live (w : World) : Calls Tryz.prog 19 #[] w fun e w' => e = .returned (.bool true) ∧ Below w.heap.size w w' := by
  have HB := Aside0.mk (Below.refl w.heap.size w)
  go_enter Tryz.func19, Tryz.ntmps19
  go_wp2_with fail
  refine (crl_Parse0 (some ⟨w.heap.size, 0, none⟩) 2 _ ?sa ?sb).mono ?_
  case sa => exact lit2 (heap_alloc_new w _)
  case sb => exact Nat.le_refl _
  rintro e w1 ⟨rfl, hb⟩
  have HB1 := Aside0.mk (below_step (below_alloc (Below.refl w.heap.size w) _) hb)
  clear hb HB
  go_wp2_with fail
  have GO := Aside0.mk (blk_alloc (blk_at (k := w1.heap.size + 1) (W := w1.alloc (.cells crl_zero 28)) (by simp) (.cells #[.slice none 0 0, .int .i64 5, .int .i64 4] 30)) (.cells live_crl 28))
  have CR := Aside0.mk (blk_at (k := w1.heap.size + 1 + 1) (W := (w1.alloc (.cells crl_zero 28)).alloc (.cells #[.slice none 0 0, .int .i64 5, .int .i64 4] 30)) (by simp) (.cells live_crl 28))
  refine (chirographlaw13_num.calls 6 6 _ rfl).mono ?_
  rintro e w2 ⟨rfl, hd⟩
  have hb := hd.below
  clear hd
  have HB2 := Aside0.mk (below_step (below_alloc (below_alloc (below_alloc HB1.out _) _) _) hb)
  have GO2 := Aside0.mk (blk_keep hb GO.out)
  have CR2 := Aside0.mk (blk_keep hb CR.out)
  clear hb HB1 GO CR
  obtain ⟨g0, g1, g2⟩ := box3 GO2.out
  go_wp2_with fail
  refine (crl_Counts.calls 5 none 0 [] 5 4 4 (some ⟨w2.heap.size, 0, none⟩) 1 [4] false _ nil_C (Nat.zero_le _) ?sc (Nat.le_refl _) (by kernel_rfl)).mono ?_
  case sc => exact lit1 (heap_alloc_new w2 _)
  rintro e w3 ⟨rfl, hb⟩
  have HB3 := Aside0.mk (below_step (below_alloc HB2.out _) hb)
  have GO3 := Aside0.mk (blk_keep hb (blk_alloc GO2.out _))
  have CR3 := Aside0.mk (blk_keep hb (blk_alloc CR2.out _))
  clear hb HB2 GO2 CR2 g0 g1 g2
  obtain ⟨g0, g1, g2⟩ := box3 GO3.out
  go_wp2_with fail
  refine (crl_Counts.calls 5 none 0 [] 5 4 4 (some ⟨w3.heap.size, 0, none⟩) 1 [1] true _ nil_C (Nat.zero_le _) ?sd (Nat.le_refl _) (by kernel_rfl)).mono ?_
  case sd => exact lit1 (heap_alloc_new w3 _)
  rintro e w4 ⟨rfl, hb⟩
  have HB4 := Aside0.mk (below_step (below_alloc HB3.out _) hb)
  have CR4 := Aside0.mk (blk_keep hb (blk_alloc CR3.out _))
  clear hb HB3 GO3 CR3 g0 g1 g2
  obtain ⟨m0, m1, m2, m3, m4, m5, m6, m7, m8, m9, m10, m11, m12, m13, -, -, -, -, -, -, -, -, -, -, -, -, -, -⟩ := box14 CR4.out
  go_wp2_with fail
  refine (crl_Fresh.calls none 0 [] none 0 [] none 0 [] 5 7 false 0 0 0 0 none 0 [] none 0 [] none 0 [] false 7 true _ nil_C (Nat.zero_le _) nil_C (Nat.zero_le _) nil_C (Nat.zero_le _) nil_C (Nat.zero_le _) nil_C (Nat.zero_le _) nil_C (Nat.zero_le _) (by kernel_rfl)).mono ?_
  rintro e w5 ⟨rfl, hb⟩
  have HB5 := Aside0.mk (below_step HB4.out hb)
  have CR5 := Aside0.mk (blk_keep hb CR4.out)
  clear hb HB4 CR4 m0 m1 m2 m3 m4 m5 m6 m7 m8 m9 m10 m11 m12 m13
  obtain ⟨m0, m1, m2, m3, m4, m5, m6, m7, m8, m9, m10, m11, m12, m13, -, -, -, -, -, -, -, -, -, -, -, -, -, -⟩ := box14 CR5.out
  go_wp2_with fail
  refine (crl_Fresh.calls none 0 [] none 0 [] none 0 [] 5 7 false 0 0 0 0 none 0 [] none 0 [] none 0 [] false 8 false _ nil_C (Nat.zero_le _) nil_C (Nat.zero_le _) nil_C (Nat.zero_le _) nil_C (Nat.zero_le _) nil_C (Nat.zero_le _) nil_C (Nat.zero_le _) (by kernel_rfl)).mono ?_
  rintro e w6 ⟨rfl, hb⟩
  have HB6 := Aside0.mk (below_step HB5.out hb)
  clear hb HB5 CR5 m0 m1 m2 m3 m4 m5 m6 m7 m8 m9 m10 m11 m12 m13
  go_wp2_with fail
  go_ret
  exact ⟨rfl, HB6.out⟩
end Go.Proofs.YtkioddjjfifadaaGreatDoor.P
