/- SignedSelf: the walk, over what name.Same answers. -/
import Derived.Test.YtkioddjjfifadaaGreatDoorHm1
import Derived.Test.YtkioddjjfifadaaGreatDoorHaS
import Derived.Test.YtkioddjjfifadaaGreatDoorPxf39
namespace Go.Proofs.YtkioddjjfifadaaGreatDoor.P
open Go.RowKit Go.Proofs.YtkioddjjfifadaaGreatDoorW.PrintWords Go.Proofs.YtkioddjjfifadaaGreatDoorW.PrintLast Go.Proofs.YtkioddjjfifadaaGreatDoorW.PrintMore
set_option linter.unusedVariables false
set_option linter.unusedSimpArgs false
structure Wh where
  iss : List (List S64)
  ser : List Int
  ski : List Int
def zWh : Wh := ⟨[], [], []⟩
def kWh : Kd Wh := Kd.iso (Kd.pair (Kd.slice 62 (Kd.slice 64 k64)) (Kd.pair (Kd.slice 5 (Kd.int .u8)) (Kd.slice 5 (Kd.int .u8)))) (fun x : Wh => (x.iss, x.ser, x.ski))
theorem kWh_open {w : World} {x : Wh} {cs : List Value} (h : kWh.K w x cs) : ∃ Ai ci As cs_ Ak ck, cs = [.slice Ai x.iss.length ci, .slice As x.ser.length cs_, .slice Ak x.ski.length ck] ∧
    (x.iss.length ≤ ci ∧ (Kd.slice 64 k64).C w Ai x.iss.length x.iss) ∧ (x.ser.length ≤ cs_ ∧ (Kd.int .u8).C w As x.ser.length x.ser) ∧ (x.ski.length ≤ ck ∧ (Kd.int .u8).C w Ak x.ski.length x.ski) := by
  obtain ⟨_, _, rfl, ⟨Ai, ci, rfl, li, gi⟩, ⟨_, _, rfl, ⟨As, cs_, rfl, ls, gs⟩, ⟨Ak, ck, rfl, lk, gk⟩⟩⟩ := h
  exact ⟨Ai, ci, As, cs_, Ak, ck, rfl, ⟨li, gi⟩, ⟨ls, gs⟩, ⟨lk, gk⟩⟩
def Wh.ct (x : Wh) : Ct := ⟨x.ser, x.iss, x.ski⟩
/-- Certificates whose cells lead to what lies in a world that came before. -/
def kFix (W0 : World) : Kd Ct where
  sz := 31
  E := []
  K := fun _ x cs => kCt.K W0 x cs
  M := fun _ _ _ x cs => kCt.K W0 x cs
  K_len := fun h => kCt.K_len h
  K_one := fun h => kCt.K_one h
  K_below := fun _ h => h
  K_of_M := fun h => h
  M_mono := fun _ h => h
  M_bound := fun h => h
  M_move := fun _ h => h
  M_lower := fun _ h => h
theorem kFix_C {W0 w : World} {A : Option Addr} {n : Nat} {xs : List Ct} (h : (kFix W0).C w A n xs) (hb : Below W0.heap.size W0 w) : kCt.C w A n xs := by
  unfold Kd.C at h ⊢
  exact h.imp_ (Below.refl _ _) (fun _ _ hp => kCt.K_below hb hp)
theorem zero105 : (Tryz.prog.info? 105).map (fun i => (i.zero, i.size, i.bytes)) = some (some (.agg (certCells (.slice none 0 0) (.slice none 0 0) (.slice none 0 0)).toArray), 31, 520) := by kernel_rfl
theorem at_Wh {w : World} {A : Option Addr} {l : List Wh} (h : kWh.C w A l.length l) (j : Nat) (hj : j < l.length) : ∃ ad Ai ci As cs_ Ak ck, A = some ad ∧
    w.cell? (ad.add (j * 3)) = some (.slice Ai (l.getD j zWh).iss.length ci) ∧ w.cell? ⟨(ad.add (j * 3)).block, (ad.add (j * 3)).off + 1, none⟩ = some (.slice As (l.getD j zWh).ser.length cs_) ∧
    w.cell? ⟨(ad.add (j * 3)).block, (ad.add (j * 3)).off + 2, none⟩ = some (.slice Ak (l.getD j zWh).ski.length ck) ∧
    ((l.getD j zWh).iss.length ≤ ci ∧ (Kd.slice 64 k64).C w Ai (l.getD j zWh).iss.length (l.getD j zWh).iss) ∧ ((l.getD j zWh).ser.length ≤ cs_ ∧ (Kd.int .u8).C w As (l.getD j zWh).ser.length (l.getD j zWh).ser) ∧ ((l.getD j zWh).ski.length ≤ ck ∧ (Kd.int .u8).C w Ak (l.getD j zWh).ski.length (l.getD j zWh).ski) := by
  obtain ⟨ad, c, e, _, hK, hc0⟩ := Kd.C_get h zWh (j : Int) (by omega) (by omega)
  rw [Int.toNat_natCast] at hK
  have hc : ∀ (i : Nat) u, c[i]? = some u → w.cell? (ad.add (j * 3 + i)) = some u := fun i u hu => by
    have := hc0 i u hu
    rwa [Int.toNat_natCast] at this
  obtain ⟨Ai, ci, As, cs_, Ak, ck, rfl, gi, gs, gk⟩ := kWh_open hK
  exact ⟨ad, Ai, ci, As, cs_, Ak, ck, e, hc 0 _ rfl, by rw [← add_field _ _ 1 (by omega)]; exact hc 1 _ rfl, by rw [← add_field _ _ 2 (by omega)]; exact hc 2 _ rfl, gi, gs, gk⟩
def self_walk.T9 : Bool × List (List Nat × List Nat) := (true, [([], []), ([], []), ([], []), ([1, 2], [1, 2]), ([3], [3]), ([4], [4]), ([], []), ([], []), ([6, 7], [6, 7]), ([8], [8]), ([9], [9]), ([], []), ([], []), ([11, 12], [11, 12]), ([13], [13]), ([14], [14]), ([5, 10, 15], [5, 10, 15]), ([16], [16]), ([0, 17], [0, 17]), ([18, 18, 0, 1, 2, 3, 4, 5, 6, 7, 8, 9, 10, 11, 12, 13, 14, 15, 16, 17, 18], [0, 18])])
def self_walk.B9 : List Nat := [0, 0, 0, 6, 14, 30, 0, 0, 192, 448, 960, 0, 0, 6144, 14336, 30720, 65534, 131070, 262143, 524287]
theorem self_walk.tab9 : rtab .any (opsOf Tryz.f17 9) = self_walk.T9 := by kernel_rfl
theorem self_walk.bits9 : waitsOk self_walk.T9.2 self_walk.B9 = true := by kernel_rfl
def self_walk.T15 : Bool × List (List Nat × List Nat) := (true, [([], []), ([0], [0]), ([1], [1]), ([2], [2]), ([3], [3]), ([3], [3]), ([5, 3], [3, 5]), ([6, 3], [3, 6]), ([4, 7, 3], [3, 4, 7]), ([8, 3], [3, 8]), ([3], [3]), ([10, 3], [3, 10]), ([9, 11, 3], [3, 9, 11]), ([3, 12], [3, 12]), ([], []), ([14], [14]), ([15], [15]), ([16], [16]), ([13, 17], [13, 17]), ([18, 3], [18]), ([19, 19], [19]), ([19, 20], [19, 20]), ([21, 20, 0, 1, 2, 3, 4, 5, 6, 7, 8, 9, 10, 11, 12, 13, 14, 15, 16, 17, 18, 19, 20, 21], [21])])
def self_walk.B15 : List Nat := [0, 1, 3, 7, 15, 15, 47, 111, 255, 511, 15, 1039, 4095, 8191, 0, 16384, 49152, 114688, 262143, 524287, 1048575, 2097151, 4194303]
theorem self_walk.tab15 : rtab .any (opsOf Tryz.f17 15) = self_walk.T15 := by kernel_rfl
theorem self_walk.bits15 : waitsOk self_walk.T15.2 self_walk.B15 = true := by kernel_rfl
set_option maxRecDepth 100000 in
set_option maxHeartbeats 16000000 in
theorem self_walk (k : Nat) (Ai As Ak : Option Addr) (ci cs_ ck : Nat) (x : Wh) (A1 : Option Addr) (c1 : Nat) (l : List Wh) (w : World) (hH : Hd w) (hT : Tb w)
    (hi : (Kd.slice 64 k64).C w Ai x.iss.length x.iss) (hil : x.iss.length ≤ ci) (hs : (Kd.int .u8).C w As x.ser.length x.ser) (hsl : x.ser.length ≤ cs_) (hk : (Kd.int .u8).C w Ak x.ski.length x.ski) (hkl : x.ski.length ≤ ck)
    (hl : kWh.C w A1 l.length l) (hll : l.length ≤ c1)
    (hhuge : ∀ y ∈ x :: l, ∃ b, chirographref07_Huge.f k y.iss 2000 = some b ∧ (b = false → ∃ r, name_Key.f k y.iss = some r)) :
    Calls Tryz.prog 17 #[.agg #[.slice Ai x.iss.length ci, .slice As x.ser.length cs_, .slice Ak x.ski.length ck], .slice A1 l.length c1] w fun e w' => e = .returned (.bool true) ∧ Below w.heap.size w w' := by
  have HH := Aside0.mk hH
  have HT := Aside0.mk hT
  have HI := Aside0.mk hi
  have HS := Aside0.mk hs
  have HK := Aside0.mk hk
  have LI := Aside0.mk hil
  have LS := Aside0.mk hsl
  have LK := Aside0.mk hkl
  have HL := Aside0.mk hl
  have LL := Aside0.mk hll
  have HG := Aside0.mk hhuge
  have BK := Aside0.mk (heap_alloc_new w (.cells #[.slice Ai x.iss.length ci, .slice As x.ser.length cs_, .slice Ak x.ski.length ck] 92))
  have HB := Aside0.mk (below_alloc (Below.refl w.heap.size w) (.cells #[.slice Ai x.iss.length ci, .slice As x.ser.length cs_, .slice Ak x.ski.length ck] 92))
  clear hH hT hi hs hk hil hsl hkl hl hll hhuge
  obtain ⟨m0, m1, m2⟩ := box3 BK.out
  obtain ⟨b0, hb0, hk0⟩ := HG.out x List.mem_cons_self
  have HB0 := Aside0.mk hb0
  have HK0 := Aside0.mk hk0
  clear hb0 hk0
  by_cases hn : 100 < l.length
  · have c1 : decide ((100 : Int) < (l.length : Int)) = true := decide_eq_true (by omega)
    go_enter Tryz.func17, Tryz.ntmps17
    go_wp2_with fail
    refine (law17_live _ (HH.out.below HB.out)).mono ?_
    rintro e w2 ⟨rfl, hb⟩
    have HB2 := Aside0.mk (below_step HB.out hb)
    clear hb
    go_wp2_with fail
    go_ret
    exact ⟨rfl, HB2.out⟩
  have c1 : decide ((100 : Int) < (l.length : Int)) = false := decide_eq_false (by omega)
  go_enter Tryz.func17, Tryz.ntmps17
  go_wp2_with fail
  refine (chirographref07_Huge.calls k Ai ci x.iss 2000 b0 _ (Kd.C_below HI.out HB.out) LI.out HB0.out).mono ?_
  rintro e w1 ⟨rfl, hd⟩
  have hb1 := hd.below
  have HB1 := Aside0.mk (below_step HB.out hb1)
  have BK1 := Aside0.mk (blk_keep hb1 BK.out)
  clear hd hb1 HB BK m0 m1 m2
  cases b0 with
  | true =>
    go_wp2_with fail
    refine (law17_live _ (HH.out.below HB1.out)).mono ?_
    rintro e wl ⟨rfl, hb⟩
    have HBl := Aside0.mk (below_step HB1.out hb)
    clear hb
    go_wp2_with fail
    go_ret
    exact ⟨rfl, HBl.out⟩
  | false =>
    have HKX := Aside0.mk (HK0.out rfl)
    clear HK0
    go_wp2_with fail
    go_loopg [5, 6] (l.length + 1) (fun kq v5 v6 w' => ∃ (j : Nat), v6 = .int .i64 (j : Int) ∧ Aside0 (j ≤ l.length ∧ l.length < kq + j) ∧ Aside0 ((kFix w).R 105 w' w.heap.size (fun _ => True) v5 ((l.take j).map Wh.ct)) ∧ Aside0 (∀ y ∈ l.take j, ∃ r, name_Key.f k y.iss = some r) ∧
      Aside0 (w'.heap[w.heap.size]? = some (.cells #[.slice Ai x.iss.length ci, .slice As x.ser.length cs_, .slice Ak x.ski.length ck] 92 (0, 0))) ∧ Aside0 (Below w.heap.size w w'))
    case atStart => exact ⟨0, rfl, ⟨⟨Nat.zero_le _, by omega⟩⟩, ⟨by rw [List.take_zero]; exact Kd.R_nil _ _ _ _ _⟩, ⟨by simp⟩, BK1, HB1⟩
    case round =>
      clear BK1 HB1
      obtain ⟨j, rfl, HJ, HO1, HKS, BK1, HB1⟩ := hrel
      cases gk with
      | zero => exact absurd HJ.out (by omega)
      | succ g1 =>
        by_cases hj : j < l.length
        · have d1 : decide ((j : Int) < (l.length : Int)) = true := decide_eq_true (by omega)
          have p1 : ((0 : Int) ≤ (j : Int)) = True := eq_true (by omega)
          have q1 : ((j : Int) < (l.length : Int)) = True := eq_true (by omega)
          have hw3 : wrap64 ((j : Int) + 1) = ((j + 1 : Nat) : Int) := by unfold wrap64; omega
          obtain ⟨ad, Bi, bi, Bs, bs, Bk, bk, rfl, x0, x1, x2, gi, gs, gk⟩ := at_Wh HL.out j hj
          have hmem : l.getD j zWh ∈ x :: l := by
            rw [List.getD_eq_getElem?_getD, List.getElem?_eq_getElem hj]
            exact List.mem_cons_of_mem _ (List.getElem_mem hj)
          obtain ⟨bj, hbj, hkj⟩ := HG.out _ hmem
          have HTK : Aside0 (l.take (j + 1) = l.take j ++ [l.getD j zWh]) := ⟨by
            rw [List.getD_eq_getElem?_getD, List.getElem?_eq_getElem hj]
            exact List.take_succ_eq_append_getElem hj⟩
          clear hmem
          generalize l.getD j zWh = y at *
          have HBJ := Aside0.mk hbj
          have HKJ := Aside0.mk hkj
          clear hbj hkj
          have y0 := (HB1.out.cell (World.block_lt_of_cell? w _ x0)).trans x0
          go_wp2_with fail
          refine (chirographref07_Huge.calls k Bi bi y.iss 2000 bj _ (Kd.C_below gi.2 HB1.out) gi.1 HBJ.out).mono ?_
          rintro e w2 ⟨rfl, hd⟩
          have hb2 := hd.below
          have HB2 := Aside0.mk (below_step HB1.out hb2)
          have BK2 := Aside0.mk (blk_keep hb2 BK1.out)
          have HO2 := Aside0.mk (Kd.R_below HO1.out hb2)
          clear hd hb2 HB1 BK1 HO1 y0
          cases bj with
          | true =>
            go_wp2_with fail
            refine (law17_live _ (HH.out.below HB2.out)).mono ?_
            rintro e wl ⟨rfl, hb⟩
            have HBl := Aside0.mk (below_step HB2.out hb)
            clear hb
            go_wp2_with fail
            go_ret
            exact ⟨rfl, HBl.out⟩
          | false =>
            go_wp2_with fail
            refine start_ (n := 20) (S := fun w' => w'.cell? (ad.add (j * 3)) = some (.slice Bi y.iss.length bi) ∧ w'.cell? ⟨(ad.add (j * 3)).block, (ad.add (j * 3)).off + 1, none⟩ = some (.slice Bs y.ser.length bs) ∧ w'.cell? ⟨(ad.add (j * 3)).block, (ad.add (j * 3)).off + 2, none⟩ = some (.slice Bk y.ski.length bk)) (ds := []) #[false, false, false, false, false, false, false, false, false, false, false, false, false, false, false, false, false, false, false, false] (by kernel_rfl) rfl rfl ⟨((below_drew HB2.out).cell (World.block_lt_of_cell? w _ x0)).trans x0, ((below_drew HB2.out).cell (World.block_lt_of_cell? w _ x1)).trans x1, ((below_drew HB2.out).cell (World.block_lt_of_cell? w _ x2)).trans x2⟩ (fun hHeld => ?_); refine with_tabW self_walk.tab9 self_walk.bits9 (fun HT_ HW_ => ?_)
            have HB3 := Aside0.mk (below_drew HB2.out)
            have HO3 := Aside0.mk (Kd.R_drew HO2.out)
            have BK3 := Aside0.mk (blk_drew BK2.out)
            generalize w2.drew = w3 at *
            refine pure_ (i := 0) (N := some 31) (v := ?_) (a' := ?_) #[true, false, false, false, false, false, false, false, false, false, false, false, false, false, false, false, false, false, false, false] rfl rfl (any_of HT_.out (by kernel_rfl)) (fun _ _ _ h => h) (Or.inl ⟨by rfl, ?_⟩) ?_ ?_
            rotate_left
            · intro w'
              go_simp
              with_reducible rfl
            rotate_left
            · simp only [Act.put, List.setIfInBounds_toArray, List.set_cons_zero, List.set_cons_succ, i64_w, i32_w]
              rfl
            refine pure_ (i := 1) (N := some 32) (v := ?_) (a' := ?_) #[true, true, false, false, false, false, false, false, false, false, false, false, false, false, false, false, false, false, false, false] rfl rfl (any_of HT_.out (by kernel_rfl)) (fun _ _ _ h => h) (Or.inl ⟨by rfl, ?_⟩) ?_ ?_
            rotate_left
            · intro w'
              go_simp
              with_reducible rfl
            rotate_left
            · simp only [Act.put, List.setIfInBounds_toArray, List.set_cons_zero, List.set_cons_succ, i64_w, i32_w]
              rfl
            refine pure_ (i := 2) (N := some 33) (v := ?_) (a' := ?_) #[true, true, true, false, false, false, false, false, false, false, false, false, false, false, false, false, false, false, false, false] rfl rfl (any_of HT_.out (by kernel_rfl)) (fun _ _ _ h => h) (Or.inl ⟨by rfl, ?_⟩) ?_ ?_
            rotate_left
            · intro w'
              go_simp
              with_reducible rfl
            rotate_left
            · simp only [Act.put, List.setIfInBounds_toArray, List.set_cons_zero, List.set_cons_succ, i64_w, i32_w]
              rfl
            refine pure_ (i := 3) (N := some 34) (v := ?_) (a' := ?_) #[true, true, true, true, false, false, false, false, false, false, false, false, false, false, false, false, false, false, false, false] rfl rfl (any_of HT_.out (by kernel_rfl)) (fun _ _ _ h => h) (Or.inl ⟨by rfl, ?_⟩) ?_ ?_
            rotate_left
            · intro w'
              go_simp
              with_reducible rfl
            rotate_left
            · simp only [Act.put, List.setIfInBounds_toArray, List.set_cons_zero, List.set_cons_succ, i64_w, i32_w]
              rfl
            refine pure_ (i := 4) (N := some 35) (v := ?_) (a' := ?_) #[true, true, true, true, true, false, false, false, false, false, false, false, false, false, false, false, false, false, false, false] rfl rfl (any_of HT_.out (by kernel_rfl)) (fun _ _ _ h => h) (Or.inl ⟨by rfl, ?_⟩) ?_ ?_
            rotate_left
            · intro w'
              go_simp
              with_reducible rfl
            rotate_left
            · simp only [Act.put, List.setIfInBounds_toArray, List.set_cons_zero, List.set_cons_succ, i64_w, i32_w]
              rfl
            refine take_ (i := 5) (N := some 36) (v := ?_) (a' := ?_) #[true, true, true, true, true, true, false, false, false, false, false, false, false, false, false, false, false, false, false, false] rfl rfl (take_ofW HT_.out HW_.out (by kernel_rfl)) (fun _ _ _ h => h) (Or.inl ⟨by rfl, ?_⟩) hHeld ?_ ?_
            rotate_left
            · rintro w' ⟨s0, s1, s2⟩
              go_simp
              with_reducible rfl
            rotate_left
            · simp only [Act.put, List.setIfInBounds_toArray, List.set_cons_zero, List.set_cons_succ, i64_w, i32_w]
              rfl
            refine pure_ (i := 6) (N := some 37) (v := ?_) (a' := ?_) #[true, true, true, true, true, true, true, false, false, false, false, false, false, false, false, false, false, false, false, false] rfl rfl (any_of HT_.out (by kernel_rfl)) (fun _ _ _ h => h) (Or.inl ⟨by rfl, ?_⟩) ?_ ?_
            rotate_left
            · intro w'
              go_simp
              with_reducible rfl
            rotate_left
            · simp only [Act.put, List.setIfInBounds_toArray, List.set_cons_zero, List.set_cons_succ, i64_w, i32_w]
              rfl
            refine pure_ (i := 7) (N := some 38) (v := ?_) (a' := ?_) #[true, true, true, true, true, true, true, true, false, false, false, false, false, false, false, false, false, false, false, false] rfl rfl (any_of HT_.out (by kernel_rfl)) (fun _ _ _ h => h) (Or.inl ⟨by rfl, ?_⟩) ?_ ?_
            rotate_left
            · intro w'
              go_simp
              with_reducible rfl
            rotate_left
            · simp only [Act.put, List.setIfInBounds_toArray, List.set_cons_zero, List.set_cons_succ, i64_w, i32_w]
              rfl
            refine pure_ (i := 8) (N := some 39) (v := ?_) (a' := ?_) #[true, true, true, true, true, true, true, true, true, false, false, false, false, false, false, false, false, false, false, false] rfl rfl (any_of HT_.out (by kernel_rfl)) (fun _ _ _ h => h) (Or.inl ⟨by rfl, ?_⟩) ?_ ?_
            rotate_left
            · intro w'
              go_simp
              with_reducible rfl
            rotate_left
            · simp only [Act.put, List.setIfInBounds_toArray, List.set_cons_zero, List.set_cons_succ, i64_w, i32_w]
              rfl
            refine pure_ (i := 9) (N := some 40) (v := ?_) (a' := ?_) #[true, true, true, true, true, true, true, true, true, true, false, false, false, false, false, false, false, false, false, false] rfl rfl (any_of HT_.out (by kernel_rfl)) (fun _ _ _ h => h) (Or.inl ⟨by rfl, ?_⟩) ?_ ?_
            rotate_left
            · intro w'
              go_simp
              with_reducible rfl
            rotate_left
            · simp only [Act.put, List.setIfInBounds_toArray, List.set_cons_zero, List.set_cons_succ, i64_w, i32_w]
              rfl
            refine take_ (i := 10) (N := some 41) (v := ?_) (a' := ?_) #[true, true, true, true, true, true, true, true, true, true, true, false, false, false, false, false, false, false, false, false] rfl rfl (take_ofW HT_.out HW_.out (by kernel_rfl)) (fun _ _ _ h => h) (Or.inl ⟨by rfl, ?_⟩) hHeld ?_ ?_
            rotate_left
            · rintro w' ⟨s0, s1, s2⟩
              go_simp
              with_reducible rfl
            rotate_left
            · simp only [Act.put, List.setIfInBounds_toArray, List.set_cons_zero, List.set_cons_succ, i64_w, i32_w]
              rfl
            refine pure_ (i := 11) (N := some 42) (v := ?_) (a' := ?_) #[true, true, true, true, true, true, true, true, true, true, true, true, false, false, false, false, false, false, false, false] rfl rfl (any_of HT_.out (by kernel_rfl)) (fun _ _ _ h => h) (Or.inl ⟨by rfl, ?_⟩) ?_ ?_
            rotate_left
            · intro w'
              go_simp
              with_reducible rfl
            rotate_left
            · simp only [Act.put, List.setIfInBounds_toArray, List.set_cons_zero, List.set_cons_succ, i64_w, i32_w]
              rfl
            refine pure_ (i := 12) (N := some 43) (v := ?_) (a' := ?_) #[true, true, true, true, true, true, true, true, true, true, true, true, true, false, false, false, false, false, false, false] rfl rfl (any_of HT_.out (by kernel_rfl)) (fun _ _ _ h => h) (Or.inl ⟨by rfl, ?_⟩) ?_ ?_
            rotate_left
            · intro w'
              go_simp
              with_reducible rfl
            rotate_left
            · simp only [Act.put, List.setIfInBounds_toArray, List.set_cons_zero, List.set_cons_succ, i64_w, i32_w]
              rfl
            refine pure_ (i := 13) (N := some 44) (v := ?_) (a' := ?_) #[true, true, true, true, true, true, true, true, true, true, true, true, true, true, false, false, false, false, false, false] rfl rfl (any_of HT_.out (by kernel_rfl)) (fun _ _ _ h => h) (Or.inl ⟨by rfl, ?_⟩) ?_ ?_
            rotate_left
            · intro w'
              go_simp
              with_reducible rfl
            rotate_left
            · simp only [Act.put, List.setIfInBounds_toArray, List.set_cons_zero, List.set_cons_succ, i64_w, i32_w]
              rfl
            refine pure_ (i := 14) (N := some 45) (v := ?_) (a' := ?_) #[true, true, true, true, true, true, true, true, true, true, true, true, true, true, true, false, false, false, false, false] rfl rfl (any_of HT_.out (by kernel_rfl)) (fun _ _ _ h => h) (Or.inl ⟨by rfl, ?_⟩) ?_ ?_
            rotate_left
            · intro w'
              go_simp
              with_reducible rfl
            rotate_left
            · simp only [Act.put, List.setIfInBounds_toArray, List.set_cons_zero, List.set_cons_succ, i64_w, i32_w]
              rfl
            refine take_ (i := 15) (N := some 46) (v := ?_) (a' := ?_) #[true, true, true, true, true, true, true, true, true, true, true, true, true, true, true, true, false, false, false, false] rfl rfl (take_ofW HT_.out HW_.out (by kernel_rfl)) (fun _ _ _ h => h) (Or.inl ⟨by rfl, ?_⟩) hHeld ?_ ?_
            rotate_left
            · rintro w' ⟨s0, s1, s2⟩
              go_simp
              with_reducible rfl
            rotate_left
            · simp only [Act.put, List.setIfInBounds_toArray, List.set_cons_zero, List.set_cons_succ, i64_w, i32_w]
              rfl
            refine pure_ (i := 16) (N := some 47) (v := ?_) (a' := ?_) #[true, true, true, true, true, true, true, true, true, true, true, true, true, true, true, true, true, false, false, false] rfl rfl (any_of HT_.out (by kernel_rfl)) (fun _ _ _ h => h) (Or.inl ⟨by rfl, ?_⟩) ?_ ?_
            rotate_left
            · intro w'
              go_simp
              with_reducible rfl
            rotate_left
            · simp only [Act.put, List.setIfInBounds_toArray, List.set_cons_zero, List.set_cons_succ, i64_w, i32_w]
              rfl
            refine one_ (i := 17) (N := some 48) #[true, true, true, true, true, true, true, true, true, true, true, true, true, true, true, true, true, true, false, false] rfl rfl (one_of HT_.out (by kernel_rfl)) (by decide) (fun K hK => ?_)
            refine value_ (w1 := ?_) (v := ?_) (by rfl) rfl ?_ ?_
            rotate_left 2
            · go_simp
              constructor
              · rfl
              · rfl
            refine hK.out _ _ ⟨((below_alloc HB3.out _).cell (World.block_lt_of_cell? w _ x0)).trans x0, ((below_alloc HB3.out _).cell (World.block_lt_of_cell? w _ x1)).trans x1, ((below_alloc HB3.out _).cell (World.block_lt_of_cell? w _ x2)).trans x2⟩ (fun hHeld => ?_)
            clear hK K
            refine norm_ (a' := ?_) ?_ ?_
            rotate_left
            · show Act.put _ (some 48) _ = _
              simp only [Act.put, List.setIfInBounds_toArray, List.set_cons_zero, List.set_cons_succ, i64_w, i32_w]
              rfl
            refine one_ (i := 18) (N := some 49) #[true, true, true, true, true, true, true, true, true, true, true, true, true, true, true, true, true, true, true, false] rfl rfl (one_of HT_.out (by kernel_rfl)) (by decide) (fun K hK => ?_)
            refine Kd.R_append_step (kFix w) (w0 := w) w.heap.size (by rfl) (.tmp 31) (.tmp 48) 94 105 (.agg (certCells (.slice none 0 0) (.slice none 0 0) (.slice none 0 0)).toArray) 520 rfl Tryz.underlying94 zero105 rfl (Nat.zero_lt_succ 30 : (0 : Nat) < 31) (by omega) u5 ((l.take j).map Wh.ct) y.ct (certCells (.slice Bs y.ser.length bs) (.slice Bi y.iss.length bi) (.slice Bk y.ski.length bk)) (fun _ => True) (fun _ => False) rfl rfl ?aP (fun _ hk => hk.elim) ?aF ?aO ?aB ?aS ?aL ?_
            (case aP => exact kCt_mk (x := y.ct) gs.1 gs.2 gi.1 gi.2 gk.1 gk.2)
            (case aF => exact (fun _ _ => trivial))
            (case aO => exact HO3.out)
            (case aB => exact HB3.out)
            (case aS => exact (below_size HB3.out))
            (case aL => have := HJ.out; rw [List.length_map, List.length_take]; omega)
            intro v5 w4 ho hb hgr hat
            have HO4 := Aside0.mk ho
            have HB4 := Aside0.mk hb
            have BK4 := Aside0.mk (blk_grown BK3.out hgr (Kd.R_ne HO3.out BK3.out (by decide)))
            clear ho hb hgr hat
            refine hK.out _ _ ⟨(HB4.out.cell (World.block_lt_of_cell? w _ x0)).trans x0, (HB4.out.cell (World.block_lt_of_cell? w _ x1)).trans x1, (HB4.out.cell (World.block_lt_of_cell? w _ x2)).trans x2⟩ (fun hHeld => ?_)
            clear hK K
            refine norm_ (a' := ?_) ?_ ?_
            rotate_left
            · show Act.put _ (some 49) _ = _
              simp only [Act.put, List.setIfInBounds_toArray, List.set_cons_zero, List.set_cons_succ, i64_w, i32_w]
              rfl
            refine pure_ (i := 19) (N := some 5) (v := ?_) (a' := ?_) #[true, true, true, true, true, true, true, true, true, true, true, true, true, true, true, true, true, true, true, true] rfl rfl (any_of HT_.out (by kernel_rfl)) (fun _ _ _ h => h) (Or.inl ⟨by rfl, ?_⟩) ?_ ?_
            rotate_left
            · intro w'
              go_simp
              with_reducible rfl
            rotate_left
            · simp only [Act.put, List.setIfInBounds_toArray, List.set_cons_zero, List.set_cons_succ, i64_w, i32_w]
              rfl
            refine done_ (done_of HT_.out (by kernel_rfl)) ?_
            go_wp2_with fail
            go_roundg g1
            case measure => exact Nat.lt_succ_self _
            case rel => exact ⟨j + 1, congrArg (Value.int .i64) (by first | exact hw3 | omega), ⟨by have := HJ.out; omega⟩, ⟨by rw [HTK.out, List.map_append]; exact HO4.out⟩, ⟨by
              rw [HTK.out]
              intro z hz
              rcases List.mem_append.1 hz with hz | hz
              · exact HKS.out z hz
              · rw [List.mem_singleton.1 hz]
                exact HKJ.out (by first | rfl | trivial)⟩, BK4, HB4⟩
        · have d1 : decide ((j : Int) < (l.length : Int)) = false := decide_eq_false (by omega)
          obtain rfl : j = l.length := by have := HJ.out; omega
          obtain ⟨m0, m1, m2⟩ := box3 BK1.out
          have hta : l.take l.length = l := List.take_length
          have HCT := Aside0.mk (kCt_mk (x := x.ct) LS.out HS.out LI.out HI.out LK.out HK.out)
          go_wp2_with ((with_reducible refine gate_builtin (b := .append) (xs := #[.tmp 50, .tmp 58]) rfl ?_); at_builtin; refine Kd.R_append (kFix w) (w0 := w) w.heap.size rfl (.tmp 50) (.tmp 58) 94 105 (.agg (certCells (.slice none 0 0) (.slice none 0 0) (.slice none 0 0)).toArray) 520 rfl Tryz.underlying94 zero105 rfl (Nat.zero_lt_succ 30 : (0 : Nat) < 31) (by omega) u5 ((l.take l.length).map Wh.ct) x.ct (certCells (.slice As x.ser.length cs_) (.slice Ai x.iss.length ci) (.slice Ak x.ski.length ck)) (fun _ => True) (fun _ => False) rfl rfl ?aP (fun _ hk => hk.elim) ?aF ?aO ?aB ?aS ?aL ?_; (case aP => exact HCT.out); (case aF => exact (fun _ _ => trivial)); (case aO => exact HO1.out); (case aB => exact HB1.out); (case aS => exact (below_size HB1.out)); (case aL => rw [List.length_map, List.length_take]; omega); intro v5 w4 ho hb hgr hat; have HO4 := Aside0.mk ho; have HB4 := Aside0.mk hb; have BK4 := Aside0.mk (blk_grown BK1.out hgr (Kd.R_ne HO1.out BK1.out (by decide))); clear ho hb hgr hat m0 m1 m2; obtain ⟨m0, m1, m2⟩ := box3 BK4.out)
          obtain ⟨rx, hrx⟩ := HKX.out
          have HKC : Aside0 (∀ z ∈ l.map Wh.ct ++ [x.ct], ∃ r, name_Key.f k z.iss = some r) := ⟨by
            intro z hz
            rcases List.mem_append.1 hz with hz | hz
            · obtain ⟨y, hy, rfl⟩ := List.mem_map.1 hz
              exact HKS.out y (by rw [hta]; exact hy)
            · rw [List.mem_singleton.1 hz]
              exact ⟨rx, hrx⟩⟩
          have HRX := Aside0.mk hrx
          clear hrx HKX HKS
          have hO5 := HO4.out
          rw [hta] at hO5
          obtain ⟨A5, c5, rfl, hc5, hC5⟩ := Kd.R_reads hO5
          have HC5 := Aside0.mk (kFix_C hC5 HB4.out)
          have LC5 := Aside0.mk hc5
          have hcl : (l.map Wh.ct ++ [x.ct]).length = l.length + 1 := by simp
          have hlast : (l.map Wh.ct ++ [x.ct]).getD l.length zCt = x.ct := by
            rw [List.getD_eq_getElem?_getD, List.getElem?_append_right (by simp)]
            simp
          have hsz : (l.map Wh.ct ++ [x.ct]).length < 1000000 := by rw [hcl]; omega
          have HSZ := Aside0.mk hsz
          have HCL := Aside0.mk hcl
          have HLA := Aside0.mk hlast
          clear hO5 hC5 hc5 hsz hcl hlast hta HO1 HO4 HCT
          generalize hcs : l.map Wh.ct ++ [x.ct] = cs at *
          clear hcs
          have hsm : ∀ (iss : List (List S64)) (ri : ByteArray), name_Key.f k iss = some ri → ∀ z ∈ cs, name_Same.f k iss z.iss = some ((name_Same.f k iss z.iss).getD false) := fun iss ri hri z hz => by
            obtain ⟨r, hr⟩ := HKC.out z hz
            unfold name_Same.f
            rw [hri, Option.bind_some, hr]
            rfl
          have HSM := Aside0.mk hsm
          clear hsm
          refine (signed_Find_gen Tb (fun hb h => Tb.below h hb) (fun y => (name_Same.f k x.iss y).getD false) false Ai As none ci cs_ 0 x.iss x.ser [] A5 c5 cs _ (HT.out.below HB4.out) ?fa (Kd.C_below HI.out HB4.out) LI.out (Kd.C_below HS.out HB4.out) LS.out nil_C (Nat.le_refl _) HC5.out LC5.out HSZ.out).mono ?_
          case fa => exact fun z hz A0 c0 A1 c1 W hTW g0 l0 g1 l1 => name_Same.calls k A0 c0 x.iss A1 c1 z.iss _ W g0 l0 g1 l1 (HSM.out x.iss rx HRX.out z hz) hTW
          rintro e w5 ⟨v7, rfl, hr7, hb5⟩
          have HB5 := Aside0.mk (below_step HB4.out hb5)
          have BK5 := Aside0.mk (blk_keep hb5 BK4.out)
          have HC6 := Aside0.mk (Kd.C_below HC5.out hb5)
          have HR7 := Aside0.mk (Kd.R_reads hr7)
          clear hb5 hr7 HB4 BK4 HC5 m0 m1 m2
          obtain ⟨m0, m1, m2⟩ := box3 BK5.out
          go_wp2_with fail
          have hk0 : name_Key.f k [] = some ⟨#[]⟩ := rfl
          refine (signed_Find_gen Tb (fun hb h => Tb.below h hb) (fun y => (name_Same.f k [] y).getD false) true none none Ak 0 0 ck [] [] x.ski A5 c5 cs _ (HT.out.below HB5.out) ?fb nil_C (Nat.le_refl _) nil_C (Nat.le_refl _) (Kd.C_below HK.out HB5.out) LK.out HC6.out LC5.out HSZ.out).mono ?_
          case fb => exact fun z hz A0 c0 A1 c1 W hTW g0 l0 g1 l1 => name_Same.calls k A0 c0 [] A1 c1 z.iss _ W g0 l0 g1 l1 (HSM.out [] _ hk0 z hz) hTW
          rintro e w6 ⟨v8, rfl, hr8, hb6⟩
          have HB6 := Aside0.mk (below_step HB5.out hb6)
          have BK6 := Aside0.mk (blk_keep hb6 BK5.out)
          obtain ⟨A8, c8, rfl, hc8, hC8⟩ := Kd.R_reads hr8
          obtain ⟨A7, c7, rfl, hc7, hC7⟩ := HR7.out
          have HC7 := Aside0.mk (Kd.C_below hC7 hb6)
          have HC8 := Aside0.mk hC8
          clear hb6 hr8 hC7 hC8 HR7 HB5 BK5 HC6 m0 m1 m2
          obtain ⟨m0, m1, m2⟩ := box3 BK6.out
          have hsame : (name_Same.f k x.iss x.iss).getD false = true := by
            unfold name_Same.f
            rw [HRX.out, Option.bind_some, Option.bind_some]
            simp
          have hla : hits (hit false x.ser [] fun y => (name_Same.f k x.iss y).getD false) cs cs.length = hits (hit false x.ser [] fun y => (name_Same.f k x.iss y).getD false) cs l.length ++ [(l.length : Int)] := by
            rw [HCL.out, hits_succ, HLA.out, if_pos]
            show hit false x.ser [] _ x.ct = true
            unfold hit
            rw [if_neg (by decide)]
            show (((strOfNums x.ser).toList == (strOfNums x.ser).toList) && _) = true
            rw [beq_self_eq_true, Bool.true_and]
            exact hsame
          have hc7' := HC7.out
          have hna := hits_len (hit false x.ser [] fun y => (name_Same.f k x.iss y).getD false) cs l.length
          rw [hla] at hc7' ⊢
          generalize hits (hit false x.ser [] fun y => (name_Same.f k x.iss y).getD false) cs l.length = PA at *
          clear hla HC7 hc7 hsame
          obtain ⟨ad7, cz7, rfl, -, hk7, hx7⟩ := Kd.C_get hc7' 0 (PA.length : Int) (by omega) (by simp; omega)
          have hk7' : cz7 = [.int .i64 ((PA ++ [(l.length : Int)]).getD (PA.length : Int).toNat 0)] := hk7
          rw [Int.toNat_natCast, List.getD_eq_getElem?_getD, List.getElem?_append_right (Nat.le_refl _), Nat.sub_self] at hk7'
          have hk7'' : cz7 = [.int .i64 (l.length : Int)] := hk7'
          subst hk7''
          have k7 : w6.cell? (ad7.add PA.length) = some (.int .i64 (l.length : Int)) := by
            have := hx7 0 _ rfl
            rw [Int.toNat_natCast] at this
            simpa [Kd.int, Kd.scalar] using this
          clear hx7 hk7 hk7' hc7'
          rw [show (PA ++ [(l.length : Int)]).length = PA.length + 1 by simp]
          generalize PA.length = na at *
          have u1 : (((na + 1 : Nat) : Int) == 0) = false := by simp; omega
          have u1' : ((na : Int) + 1 == 0) = false := by simp; omega
          have u2 : wrap64 ((na : Int) + 1 - 1) = (na : Int) := by unfold wrap64; omega
          have u2' : wrap64 (na : Int) = (na : Int) := by unfold wrap64; omega
          have u3_ : ((0 : Int) ≤ (na : Int)) = True := eq_true (by omega)
          have u4_ : ((na : Int) < (na : Int) + 1) = True := eq_true (by omega)
          by_cases hsk : 0 < x.ski.length
          · have hlb : hits (hit true [] x.ski fun y => (name_Same.f k [] y).getD false) cs cs.length = hits (hit true [] x.ski fun y => (name_Same.f k [] y).getD false) cs l.length ++ [(l.length : Int)] := by
              rw [HCL.out, hits_succ, HLA.out, if_pos]
              show hit true [] x.ski _ x.ct = true
              unfold hit
              rw [if_pos rfl]
              show (decide (0 < x.ski.length) && ((strOfNums x.ski).toList == (strOfNums x.ski).toList)) = true
              rw [beq_self_eq_true, Bool.and_true]
              exact decide_eq_true hsk
            have hc8' := HC8.out
            have hnb := hits_len (hit true [] x.ski fun y => (name_Same.f k [] y).getD false) cs l.length
            rw [hlb] at hc8' ⊢
            generalize hits (hit true [] x.ski fun y => (name_Same.f k [] y).getD false) cs l.length = PB at *
            clear hlb HC8 hc8
            obtain ⟨ad8, cz8, rfl, -, hk8, hx8⟩ := Kd.C_get hc8' 0 (PB.length : Int) (by omega) (by simp; omega)
            have hk8' : cz8 = [.int .i64 ((PB ++ [(l.length : Int)]).getD (PB.length : Int).toNat 0)] := hk8
            rw [Int.toNat_natCast, List.getD_eq_getElem?_getD, List.getElem?_append_right (Nat.le_refl _), Nat.sub_self] at hk8'
            have hk8'' : cz8 = [.int .i64 (l.length : Int)] := hk8'
            subst hk8''
            have k8 : w6.cell? (ad8.add PB.length) = some (.int .i64 (l.length : Int)) := by
              have := hx8 0 _ rfl
              rw [Int.toNat_natCast] at this
              simpa [Kd.int, Kd.scalar] using this
            clear hx8 hk8 hk8' hc8'
            rw [show (PB ++ [(l.length : Int)]).length = PB.length + 1 by simp]
            generalize PB.length = nb at *
            have v1 : decide ((0 : Int) < (nb : Int) + 1) = true := decide_eq_true (by omega)
            have v2 : wrap64 (nb : Int) = (nb : Int) := by unfold wrap64; omega
            have v2' : wrap64 ((nb : Int) + 1 - 1) = (nb : Int) := by unfold wrap64; omega
            have v3 : ((0 : Int) ≤ (nb : Int)) = True := eq_true (by omega)
            have v4 : ((nb : Int) < (nb : Int) + 1) = True := eq_true (by omega)
            have v5 : decide ((0 : Int) < (x.ski.length : Int)) = true := decide_eq_true (by omega)
            go_wp2_with fail
            refine start_ (n := 23) (S := fun w' => w'.cell? ⟨w.heap.size, 2, none⟩ = some (.slice Ak x.ski.length ck) ∧ w'.cell? (ad8.add nb) = some (.int .i64 (l.length : Int))) (ds := []) #[false, false, false, false, false, false, false, false, false, false, false, false, false, false, false, false, false, false, false, false, false, false, false] (by kernel_rfl) rfl rfl ⟨((below_drew (Below.refl w6.heap.size w6)).cell (World.block_lt_of_cell? w6 _ m2)).trans m2, ((below_drew (Below.refl w6.heap.size w6)).cell (World.block_lt_of_cell? w6 _ k8)).trans k8⟩ (fun hHeld => ?_); refine with_tabW self_walk.tab15 self_walk.bits15 (fun HT_ HW_ => ?_)
            have HB7 := Aside0.mk (below_drew HB6.out)
            have HD7 := Aside0.mk (below_drew (Below.refl w6.heap.size w6))
            generalize w6.drew = w7 at *
            refine pure_ (i := 0) (N := some 86) (v := ?_) (a' := ?_) #[true, false, false, false, false, false, false, false, false, false, false, false, false, false, false, false, false, false, false, false, false, false, false] rfl rfl (any_of HT_.out (by kernel_rfl)) (fun _ _ _ h => h) (Or.inl ⟨by rfl, ?_⟩) ?_ ?_
            rotate_left
            · intro w'
              go_simp
              with_reducible rfl
            rotate_left
            · simp only [Act.put, List.setIfInBounds_toArray, List.set_cons_zero, List.set_cons_succ, i64_w, i32_w]
              rfl
            refine pure_ (i := 1) (N := some 87) (v := ?_) (a' := ?_) #[true, true, false, false, false, false, false, false, false, false, false, false, false, false, false, false, false, false, false, false, false, false, false] rfl rfl (any_of HT_.out (by kernel_rfl)) (fun _ _ _ h => h) (Or.inl ⟨by rfl, ?_⟩) ?_ ?_
            rotate_left
            · intro w'
              go_simp
              with_reducible rfl
            rotate_left
            · simp only [Act.put, List.setIfInBounds_toArray, List.set_cons_zero, List.set_cons_succ, i64_w, i32_w]
              rfl
            refine pure_ (i := 2) (N := some 88) (v := ?_) (a' := ?_) #[true, true, true, false, false, false, false, false, false, false, false, false, false, false, false, false, false, false, false, false, false, false, false] rfl rfl (any_of HT_.out (by kernel_rfl)) (fun _ _ _ h => h) (Or.inl ⟨by rfl, ?_⟩) ?_ ?_
            rotate_left
            · intro w'
              go_simp
              with_reducible rfl
            rotate_left
            · simp only [Act.put, List.setIfInBounds_toArray, List.set_cons_zero, List.set_cons_succ, i64_w, i32_w]
              rfl
            refine pure_ (i := 3) (N := some 89) (v := ?_) (a' := ?_) #[true, true, true, true, false, false, false, false, false, false, false, false, false, false, false, false, false, false, false, false, false, false, false] rfl rfl (any_of HT_.out (by kernel_rfl)) (fun _ _ _ h => h) (Or.inl ⟨by rfl, ?_⟩) ?_ ?_
            rotate_left
            · intro w'
              go_simp
              with_reducible rfl
            rotate_left
            · simp only [Act.put, List.setIfInBounds_toArray, List.set_cons_zero, List.set_cons_succ, i64_w, i32_w]
              rfl
            refine pure_ (i := 4) (N := some 90) (v := ?_) (a' := ?_) #[true, true, true, true, true, false, false, false, false, false, false, false, false, false, false, false, false, false, false, false, false, false, false] rfl rfl (any_of HT_.out (by kernel_rfl)) (fun _ _ _ h => h) (Or.inl ⟨by rfl, ?_⟩) ?_ ?_
            rotate_left
            · intro w'
              go_simp
              with_reducible rfl
            rotate_left
            · simp only [Act.put, List.setIfInBounds_toArray, List.set_cons_zero, List.set_cons_succ, i64_w, i32_w]
              rfl
            refine pure_ (i := 5) (N := some 91) (v := ?_) (a' := ?_) #[true, true, true, true, true, true, false, false, false, false, false, false, false, false, false, false, false, false, false, false, false, false, false] rfl rfl (any_of HT_.out (by kernel_rfl)) (fun _ _ _ h => h) (Or.inl ⟨by rfl, ?_⟩) ?_ ?_
            rotate_left
            · intro w'
              go_simp
              with_reducible rfl
            rotate_left
            · simp only [Act.put, List.setIfInBounds_toArray, List.set_cons_zero, List.set_cons_succ, i64_w, i32_w]
              rfl
            refine pure_ (i := 6) (N := some 92) (v := ?_) (a' := ?_) #[true, true, true, true, true, true, true, false, false, false, false, false, false, false, false, false, false, false, false, false, false, false, false] rfl rfl (any_of HT_.out (by kernel_rfl)) (fun _ _ _ h => h) (Or.inl ⟨by rfl, ?_⟩) ?_ ?_
            rotate_left
            · intro w'
              go_simp
              with_reducible rfl
            rotate_left
            · simp only [Act.put, List.setIfInBounds_toArray, List.set_cons_zero, List.set_cons_succ, i64_w, i32_w]
              rfl
            refine pure_ (i := 7) (N := some 93) (v := ?_) (a' := ?_) #[true, true, true, true, true, true, true, true, false, false, false, false, false, false, false, false, false, false, false, false, false, false, false] rfl rfl (any_of HT_.out (by kernel_rfl)) (fun _ _ _ h => h) (Or.inl ⟨by rfl, ?_⟩) ?_ ?_
            rotate_left
            · intro w'
              go_simp
              with_reducible rfl
            rotate_left
            · simp only [Act.put, List.setIfInBounds_toArray, List.set_cons_zero, List.set_cons_succ, i64_w, i32_w]
              rfl
            refine pure_ (i := 8) (N := some 94) (v := ?_) (a' := ?_) #[true, true, true, true, true, true, true, true, true, false, false, false, false, false, false, false, false, false, false, false, false, false, false] rfl rfl (any_of HT_.out (by kernel_rfl)) (fun _ _ _ h => h) (Or.inl ⟨by rfl, ?_⟩) ?_ ?_
            rotate_left
            · intro w'
              go_simp
              with_reducible rfl
            rotate_left
            · simp only [Act.put, List.setIfInBounds_toArray, List.set_cons_zero, List.set_cons_succ, i64_w, i32_w]
              rfl
            refine take_ (i := 9) (N := some 95) (v := ?_) (a' := ?_) #[true, true, true, true, true, true, true, true, true, true, false, false, false, false, false, false, false, false, false, false, false, false, false] rfl rfl (take_ofW HT_.out HW_.out (by kernel_rfl)) (fun _ _ _ h => h) (Or.inl ⟨by rfl, ?_⟩) hHeld ?_ ?_
            rotate_left
            · rintro w' ⟨s0, s1⟩
              go_simp
              with_reducible rfl
            rotate_left
            · simp only [Act.put, List.setIfInBounds_toArray, List.set_cons_zero, List.set_cons_succ, i64_w, i32_w]
              rfl
            refine pure_ (i := 10) (N := some 96) (v := ?_) (a' := ?_) #[true, true, true, true, true, true, true, true, true, true, true, false, false, false, false, false, false, false, false, false, false, false, false] rfl rfl (any_of HT_.out (by kernel_rfl)) (fun _ _ _ h => h) (Or.inl ⟨by rfl, ?_⟩) ?_ ?_
            rotate_left
            · intro w'
              go_simp
              with_reducible rfl
            rotate_left
            · simp only [Act.put, List.setIfInBounds_toArray, List.set_cons_zero, List.set_cons_succ, i64_w, i32_w]
              rfl
            refine pure_ (i := 11) (N := some 97) (v := ?_) (a' := ?_) #[true, true, true, true, true, true, true, true, true, true, true, true, false, false, false, false, false, false, false, false, false, false, false] rfl rfl (any_of HT_.out (by kernel_rfl)) (fun _ _ _ h => h) (Or.inl ⟨by rfl, ?_⟩) ?_ ?_
            rotate_left
            · intro w'
              go_simp
              with_reducible rfl
            rotate_left
            · simp only [Act.put, List.setIfInBounds_toArray, List.set_cons_zero, List.set_cons_succ, i64_w, i32_w]
              rfl
            refine pure_ (i := 12) (N := some 98) (v := ?_) (a' := ?_) #[true, true, true, true, true, true, true, true, true, true, true, true, true, false, false, false, false, false, false, false, false, false, false] rfl rfl (any_of HT_.out (by kernel_rfl)) (fun _ _ _ h => h) (Or.inl ⟨by rfl, ?_⟩) ?_ ?_
            rotate_left
            · intro w'
              go_simp
              with_reducible rfl
            rotate_left
            · simp only [Act.put, List.setIfInBounds_toArray, List.set_cons_zero, List.set_cons_succ, i64_w, i32_w]
              rfl
            refine pure_ (i := 13) (N := some 99) (v := ?_) (a' := ?_) #[true, true, true, true, true, true, true, true, true, true, true, true, true, true, false, false, false, false, false, false, false, false, false] rfl rfl (any_of HT_.out (by kernel_rfl)) (fun _ _ _ h => h) (Or.inl ⟨by rfl, ?_⟩) ?_ ?_
            rotate_left
            · intro w'
              go_simp
              with_reducible rfl
            rotate_left
            · simp only [Act.put, List.setIfInBounds_toArray, List.set_cons_zero, List.set_cons_succ, i64_w, i32_w]
              rfl
            refine pure_ (i := 14) (N := some 100) (v := ?_) (a' := ?_) #[true, true, true, true, true, true, true, true, true, true, true, true, true, true, true, false, false, false, false, false, false, false, false] rfl rfl (any_of HT_.out (by kernel_rfl)) (fun _ _ _ h => h) (Or.inl ⟨by rfl, ?_⟩) ?_ ?_
            rotate_left
            · intro w'
              go_simp
              with_reducible rfl
            rotate_left
            · simp only [Act.put, List.setIfInBounds_toArray, List.set_cons_zero, List.set_cons_succ, i64_w, i32_w]
              rfl
            refine take_ (i := 15) (N := some 101) (v := ?_) (a' := ?_) #[true, true, true, true, true, true, true, true, true, true, true, true, true, true, true, true, false, false, false, false, false, false, false] rfl rfl (take_ofW HT_.out HW_.out (by kernel_rfl)) (fun _ _ _ h => h) (Or.inl ⟨by rfl, ?_⟩) hHeld ?_ ?_
            rotate_left
            · rintro w' ⟨s0, s1⟩
              go_simp
              with_reducible rfl
            rotate_left
            · simp only [Act.put, List.setIfInBounds_toArray, List.set_cons_zero, List.set_cons_succ, i64_w, i32_w]
              rfl
            refine pure_ (i := 16) (N := some 102) (v := ?_) (a' := ?_) #[true, true, true, true, true, true, true, true, true, true, true, true, true, true, true, true, true, false, false, false, false, false, false] rfl rfl (any_of HT_.out (by kernel_rfl)) (fun _ _ _ h => h) (Or.inl ⟨by rfl, ?_⟩) ?_ ?_
            rotate_left
            · intro w'
              go_simp
              with_reducible rfl
            rotate_left
            · simp only [Act.put, List.setIfInBounds_toArray, List.set_cons_zero, List.set_cons_succ, i64_w, i32_w]
              rfl
            refine pure_ (i := 17) (N := some 103) (v := ?_) (a' := ?_) #[true, true, true, true, true, true, true, true, true, true, true, true, true, true, true, true, true, true, false, false, false, false, false] rfl rfl (any_of HT_.out (by kernel_rfl)) (fun _ _ _ h => h) (Or.inl ⟨by rfl, ?_⟩) ?_ ?_
            rotate_left
            · intro w'
              go_simp
              with_reducible rfl
            rotate_left
            · simp only [Act.put, List.setIfInBounds_toArray, List.set_cons_zero, List.set_cons_succ, i64_w, i32_w]
              rfl
            refine pure_ (i := 18) (N := some 104) (v := ?_) (a' := ?_) #[true, true, true, true, true, true, true, true, true, true, true, true, true, true, true, true, true, true, true, false, false, false, false] rfl rfl (any_of HT_.out (by kernel_rfl)) (fun _ _ _ h => h) (Or.inl ⟨by rfl, ?_⟩) ?_ ?_
            rotate_left
            · intro w'
              go_simp
              with_reducible rfl
            rotate_left
            · simp only [Act.put, List.setIfInBounds_toArray, List.set_cons_zero, List.set_cons_succ, i64_w, i32_w]
              rfl
            refine pure_ (i := 19) (N := some 105) (v := ?_) (a' := ?_) #[true, true, true, true, true, true, true, true, true, true, true, true, true, true, true, true, true, true, true, true, false, false, false] rfl rfl (any_of HT_.out (by kernel_rfl)) (fun _ _ _ h => h) (Or.inl ⟨by rfl, ?_⟩) ?_ ?_
            rotate_left
            · intro w'
              go_simp
              with_reducible rfl
            rotate_left
            · simp only [Act.put, List.setIfInBounds_toArray, List.set_cons_zero, List.set_cons_succ, i64_w, i32_w]
              rfl
            refine one_ (i := 20) (N := some 106) #[true, true, true, true, true, true, true, true, true, true, true, true, true, true, true, true, true, true, true, true, true, false, false] rfl rfl (one_of HT_.out (by kernel_rfl)) (by decide) (fun K hK => ?_)
            refine goes_ Tryz.func50 (by kernel_rfl) rfl #[] (by rfl) rfl rfl (by (try simp only [List.map_toArray, List.map_cons, List.map_nil]); first | done | rfl) ?_
            with_reducible refine (law17_live _ (HH.out.below HB7.out)).mono ?_
            rintro e w8 ⟨rfl, hb⟩
            refine ⟨_, rfl, ?_⟩
            have HB8 := Aside0.mk (below_step HB7.out hb)
            have HD8 := Aside0.mk (below_step HD7.out hb)
            clear hb
            refine hK.out _ _ ⟨(HD8.out.cell (World.block_lt_of_cell? w6 _ m2)).trans m2, (HD8.out.cell (World.block_lt_of_cell? w6 _ k8)).trans k8⟩ (fun hHeld => ?_)
            clear hK K
            refine norm_ (a' := ?_) ?_ ?_
            rotate_left
            · show Act.put _ (some 106) _ = _
              simp only [Act.put, List.setIfInBounds_toArray, List.set_cons_zero, List.set_cons_succ, i64_w, i32_w]
              rfl
            refine pure_ (i := 21) (N := some 107) (v := ?_) (a' := ?_) #[true, true, true, true, true, true, true, true, true, true, true, true, true, true, true, true, true, true, true, true, true, true, false] rfl rfl (any_of HT_.out (by kernel_rfl)) (fun _ _ _ h => h) (Or.inl ⟨by rfl, ?_⟩) ?_ ?_
            rotate_left
            · intro w'
              go_simp
              with_reducible rfl
            rotate_left
            · simp only [Act.put, List.setIfInBounds_toArray, List.set_cons_zero, List.set_cons_succ, i64_w, i32_w]
              rfl
            refine pure_ (i := 22) (N := some 4) (v := ?_) (a' := ?_) #[true, true, true, true, true, true, true, true, true, true, true, true, true, true, true, true, true, true, true, true, true, true, true] rfl rfl (any_of HT_.out (by kernel_rfl)) (fun _ _ _ h => h) (Or.inl ⟨by rfl, ?_⟩) ?_ ?_
            rotate_left
            · intro w'
              go_simp
              with_reducible rfl
            rotate_left
            · simp only [Act.put, List.setIfInBounds_toArray, List.set_cons_zero, List.set_cons_succ, i64_w, i32_w]
              rfl
            refine done_ (done_of HT_.out (by kernel_rfl)) ?_
            go_wp2_with fail
            go_ret
            exact ⟨by first | rfl | simp, HB8.out⟩

          · have hlb : hits (hit true [] x.ski fun y => (name_Same.f k [] y).getD false) cs cs.length = [] := by
              unfold hits
              rw [List.map_eq_nil_iff, List.filter_eq_nil_iff]
              intro a _
              unfold hit
              rw [if_pos rfl, decide_eq_false hsk]
              simp
            rw [hlb]
            clear hlb HC8 hc8
            have v5 : decide ((0 : Int) < (x.ski.length : Int)) = false := decide_eq_false (by omega)
            go_wp2_with fail
            refine start_ (n := 23) (S := fun w' => w'.cell? ⟨w.heap.size, 2, none⟩ = some (.slice Ak x.ski.length ck)) (ds := []) #[false, false, false, false, false, false, false, false, false, false, false, false, false, false, false, false, false, false, false, false, false, false, false] (by kernel_rfl) rfl rfl (((below_drew (Below.refl w6.heap.size w6)).cell (World.block_lt_of_cell? w6 _ m2)).trans m2) (fun hHeld => ?_); refine with_tabW self_walk.tab15 self_walk.bits15 (fun HT_ HW_ => ?_)
            have HB7 := Aside0.mk (below_drew HB6.out)
            have HD7 := Aside0.mk (below_drew (Below.refl w6.heap.size w6))
            generalize w6.drew = w7 at *
            refine pure_ (i := 0) (N := some 86) (v := ?_) (a' := ?_) #[true, false, false, false, false, false, false, false, false, false, false, false, false, false, false, false, false, false, false, false, false, false, false] rfl rfl (any_of HT_.out (by kernel_rfl)) (fun _ _ _ h => h) (Or.inl ⟨by rfl, ?_⟩) ?_ ?_
            rotate_left
            · intro w'
              go_simp
              with_reducible rfl
            rotate_left
            · simp only [Act.put, List.setIfInBounds_toArray, List.set_cons_zero, List.set_cons_succ, i64_w, i32_w]
              rfl
            refine pure_ (i := 1) (N := some 87) (v := ?_) (a' := ?_) #[true, true, false, false, false, false, false, false, false, false, false, false, false, false, false, false, false, false, false, false, false, false, false] rfl rfl (any_of HT_.out (by kernel_rfl)) (fun _ _ _ h => h) (Or.inl ⟨by rfl, ?_⟩) ?_ ?_
            rotate_left
            · intro w'
              go_simp
              with_reducible rfl
            rotate_left
            · simp only [Act.put, List.setIfInBounds_toArray, List.set_cons_zero, List.set_cons_succ, i64_w, i32_w]
              rfl
            refine pure_ (i := 2) (N := some 88) (v := ?_) (a' := ?_) #[true, true, true, false, false, false, false, false, false, false, false, false, false, false, false, false, false, false, false, false, false, false, false] rfl rfl (any_of HT_.out (by kernel_rfl)) (fun _ _ _ h => h) (Or.inl ⟨by rfl, ?_⟩) ?_ ?_
            rotate_left
            · intro w'
              go_simp
              with_reducible rfl
            rotate_left
            · simp only [Act.put, List.setIfInBounds_toArray, List.set_cons_zero, List.set_cons_succ, i64_w, i32_w]
              rfl
            refine pure_ (i := 3) (N := some 89) (v := ?_) (a' := ?_) #[true, true, true, true, false, false, false, false, false, false, false, false, false, false, false, false, false, false, false, false, false, false, false] rfl rfl (any_of HT_.out (by kernel_rfl)) (fun _ _ _ h => h) (Or.inl ⟨by rfl, ?_⟩) ?_ ?_
            rotate_left
            · intro w'
              go_simp
              with_reducible rfl
            rotate_left
            · simp only [Act.put, List.setIfInBounds_toArray, List.set_cons_zero, List.set_cons_succ, i64_w, i32_w]
              rfl
            refine pure_ (i := 4) (N := some 90) (v := undef) (a' := ?_) #[true, true, true, true, true, false, false, false, false, false, false, false, false, false, false, false, false, false, false, false, false, false, false] rfl rfl (any_of HT_.out (by kernel_rfl)) (fun _ _ _ h => h) (Or.inr ⟨by rfl, rfl⟩) ?_ ?_
            rotate_left
            · simp only [Act.put, List.setIfInBounds_toArray, List.set_cons_zero, List.set_cons_succ, i64_w, i32_w]
              rfl
            refine pure_ (i := 5) (N := some 91) (v := undef) (a' := ?_) #[true, true, true, true, true, true, false, false, false, false, false, false, false, false, false, false, false, false, false, false, false, false, false] rfl rfl (any_of HT_.out (by kernel_rfl)) (fun _ _ _ h => h) (Or.inr ⟨by rfl, rfl⟩) ?_ ?_
            rotate_left
            · simp only [Act.put, List.setIfInBounds_toArray, List.set_cons_zero, List.set_cons_succ, i64_w, i32_w]
              rfl
            refine pure_ (i := 6) (N := some 92) (v := undef) (a' := ?_) #[true, true, true, true, true, true, true, false, false, false, false, false, false, false, false, false, false, false, false, false, false, false, false] rfl rfl (any_of HT_.out (by kernel_rfl)) (fun _ _ _ h => h) (Or.inr ⟨by rfl, rfl⟩) ?_ ?_
            rotate_left
            · simp only [Act.put, List.setIfInBounds_toArray, List.set_cons_zero, List.set_cons_succ, i64_w, i32_w]
              rfl
            refine pure_ (i := 7) (N := some 93) (v := undef) (a' := ?_) #[true, true, true, true, true, true, true, true, false, false, false, false, false, false, false, false, false, false, false, false, false, false, false] rfl rfl (any_of HT_.out (by kernel_rfl)) (fun _ _ _ h => h) (Or.inr ⟨by rfl, rfl⟩) ?_ ?_
            rotate_left
            · simp only [Act.put, List.setIfInBounds_toArray, List.set_cons_zero, List.set_cons_succ, i64_w, i32_w]
              rfl
            refine pure_ (i := 8) (N := some 94) (v := undef) (a' := ?_) #[true, true, true, true, true, true, true, true, true, false, false, false, false, false, false, false, false, false, false, false, false, false, false] rfl rfl (any_of HT_.out (by kernel_rfl)) (fun _ _ _ h => h) (Or.inr ⟨by rfl, rfl⟩) ?_ ?_
            rotate_left
            · simp only [Act.put, List.setIfInBounds_toArray, List.set_cons_zero, List.set_cons_succ, i64_w, i32_w]
              rfl
            refine pure_ (i := 9) (N := some 95) (v := undef) (a' := ?_) #[true, true, true, true, true, true, true, true, true, true, false, false, false, false, false, false, false, false, false, false, false, false, false] rfl rfl (any_of HT_.out (by kernel_rfl)) (fun _ _ _ h => h) (Or.inr ⟨by rfl, rfl⟩) ?_ ?_
            rotate_left
            · simp only [Act.put, List.setIfInBounds_toArray, List.set_cons_zero, List.set_cons_succ, i64_w, i32_w]
              rfl
            refine pure_ (i := 10) (N := some 96) (v := undef) (a' := ?_) #[true, true, true, true, true, true, true, true, true, true, true, false, false, false, false, false, false, false, false, false, false, false, false] rfl rfl (any_of HT_.out (by kernel_rfl)) (fun _ _ _ h => h) (Or.inr ⟨by rfl, rfl⟩) ?_ ?_
            rotate_left
            · simp only [Act.put, List.setIfInBounds_toArray, List.set_cons_zero, List.set_cons_succ, i64_w, i32_w]
              rfl
            refine pure_ (i := 11) (N := some 97) (v := undef) (a' := ?_) #[true, true, true, true, true, true, true, true, true, true, true, true, false, false, false, false, false, false, false, false, false, false, false] rfl rfl (any_of HT_.out (by kernel_rfl)) (fun _ _ _ h => h) (Or.inr ⟨by rfl, rfl⟩) ?_ ?_
            rotate_left
            · simp only [Act.put, List.setIfInBounds_toArray, List.set_cons_zero, List.set_cons_succ, i64_w, i32_w]
              rfl
            refine pure_ (i := 12) (N := some 98) (v := undef) (a' := ?_) #[true, true, true, true, true, true, true, true, true, true, true, true, true, false, false, false, false, false, false, false, false, false, false] rfl rfl (any_of HT_.out (by kernel_rfl)) (fun _ _ _ h => h) (Or.inr ⟨by rfl, rfl⟩) ?_ ?_
            rotate_left
            · simp only [Act.put, List.setIfInBounds_toArray, List.set_cons_zero, List.set_cons_succ, i64_w, i32_w]
              rfl
            refine pure_ (i := 13) (N := some 99) (v := ?_) (a' := ?_) #[true, true, true, true, true, true, true, true, true, true, true, true, true, true, false, false, false, false, false, false, false, false, false] rfl rfl (any_of HT_.out (by kernel_rfl)) (fun _ _ _ h => h) (Or.inl ⟨by rfl, ?_⟩) ?_ ?_
            rotate_left
            · intro w'
              go_simp
              with_reducible rfl
            rotate_left
            · simp only [Act.put, List.setIfInBounds_toArray, List.set_cons_zero, List.set_cons_succ, i64_w, i32_w]
              rfl
            refine pure_ (i := 14) (N := some 100) (v := ?_) (a' := ?_) #[true, true, true, true, true, true, true, true, true, true, true, true, true, true, true, false, false, false, false, false, false, false, false] rfl rfl (any_of HT_.out (by kernel_rfl)) (fun _ _ _ h => h) (Or.inl ⟨by rfl, ?_⟩) ?_ ?_
            rotate_left
            · intro w'
              go_simp
              with_reducible rfl
            rotate_left
            · simp only [Act.put, List.setIfInBounds_toArray, List.set_cons_zero, List.set_cons_succ, i64_w, i32_w]
              rfl
            refine take_ (i := 15) (N := some 101) (v := ?_) (a' := ?_) #[true, true, true, true, true, true, true, true, true, true, true, true, true, true, true, true, false, false, false, false, false, false, false] rfl rfl (take_ofW HT_.out HW_.out (by kernel_rfl)) (fun _ _ _ h => h) (Or.inl ⟨by rfl, ?_⟩) hHeld ?_ ?_
            rotate_left
            · rintro w' s0
              go_simp
              with_reducible rfl
            rotate_left
            · simp only [Act.put, List.setIfInBounds_toArray, List.set_cons_zero, List.set_cons_succ, i64_w, i32_w]
              rfl
            refine pure_ (i := 16) (N := some 102) (v := ?_) (a' := ?_) #[true, true, true, true, true, true, true, true, true, true, true, true, true, true, true, true, true, false, false, false, false, false, false] rfl rfl (any_of HT_.out (by kernel_rfl)) (fun _ _ _ h => h) (Or.inl ⟨by rfl, ?_⟩) ?_ ?_
            rotate_left
            · intro w'
              go_simp
              with_reducible rfl
            rotate_left
            · simp only [Act.put, List.setIfInBounds_toArray, List.set_cons_zero, List.set_cons_succ, i64_w, i32_w]
              rfl
            refine pure_ (i := 17) (N := some 103) (v := ?_) (a' := ?_) #[true, true, true, true, true, true, true, true, true, true, true, true, true, true, true, true, true, true, false, false, false, false, false] rfl rfl (any_of HT_.out (by kernel_rfl)) (fun _ _ _ h => h) (Or.inl ⟨by rfl, ?_⟩) ?_ ?_
            rotate_left
            · intro w'
              go_simp
              with_reducible rfl
            rotate_left
            · simp only [Act.put, List.setIfInBounds_toArray, List.set_cons_zero, List.set_cons_succ, i64_w, i32_w]
              rfl
            refine pure_ (i := 18) (N := some 104) (v := ?_) (a' := ?_) #[true, true, true, true, true, true, true, true, true, true, true, true, true, true, true, true, true, true, true, false, false, false, false] rfl rfl (any_of HT_.out (by kernel_rfl)) (fun _ _ _ h => h) (Or.inl ⟨by rfl, ?_⟩) ?_ ?_
            rotate_left
            · intro w'
              go_simp
              with_reducible rfl
            rotate_left
            · simp only [Act.put, List.setIfInBounds_toArray, List.set_cons_zero, List.set_cons_succ, i64_w, i32_w]
              rfl
            refine pure_ (i := 19) (N := some 105) (v := ?_) (a' := ?_) #[true, true, true, true, true, true, true, true, true, true, true, true, true, true, true, true, true, true, true, true, false, false, false] rfl rfl (any_of HT_.out (by kernel_rfl)) (fun _ _ _ h => h) (Or.inl ⟨by rfl, ?_⟩) ?_ ?_
            rotate_left
            · intro w'
              go_simp
              with_reducible rfl
            rotate_left
            · simp only [Act.put, List.setIfInBounds_toArray, List.set_cons_zero, List.set_cons_succ, i64_w, i32_w]
              rfl
            refine one_ (i := 20) (N := some 106) #[true, true, true, true, true, true, true, true, true, true, true, true, true, true, true, true, true, true, true, true, true, false, false] rfl rfl (one_of HT_.out (by kernel_rfl)) (by decide) (fun K hK => ?_)
            refine goes_ Tryz.func50 (by kernel_rfl) rfl #[] (by rfl) rfl rfl (by (try simp only [List.map_toArray, List.map_cons, List.map_nil]); first | done | rfl) ?_
            with_reducible refine (law17_live _ (HH.out.below HB7.out)).mono ?_
            rintro e w8 ⟨rfl, hb⟩
            refine ⟨_, rfl, ?_⟩
            have HB8 := Aside0.mk (below_step HB7.out hb)
            have HD8 := Aside0.mk (below_step HD7.out hb)
            clear hb
            refine hK.out _ _ ((HD8.out.cell (World.block_lt_of_cell? w6 _ m2)).trans m2) (fun hHeld => ?_)
            clear hK K
            refine norm_ (a' := ?_) ?_ ?_
            rotate_left
            · show Act.put _ (some 106) _ = _
              simp only [Act.put, List.setIfInBounds_toArray, List.set_cons_zero, List.set_cons_succ, i64_w, i32_w]
              rfl
            refine pure_ (i := 21) (N := some 107) (v := ?_) (a' := ?_) #[true, true, true, true, true, true, true, true, true, true, true, true, true, true, true, true, true, true, true, true, true, true, false] rfl rfl (any_of HT_.out (by kernel_rfl)) (fun _ _ _ h => h) (Or.inl ⟨by rfl, ?_⟩) ?_ ?_
            rotate_left
            · intro w'
              go_simp
              with_reducible rfl
            rotate_left
            · simp only [Act.put, List.setIfInBounds_toArray, List.set_cons_zero, List.set_cons_succ, i64_w, i32_w]
              rfl
            refine pure_ (i := 22) (N := some 4) (v := ?_) (a' := ?_) #[true, true, true, true, true, true, true, true, true, true, true, true, true, true, true, true, true, true, true, true, true, true, true] rfl rfl (any_of HT_.out (by kernel_rfl)) (fun _ _ _ h => h) (Or.inl ⟨by rfl, ?_⟩) ?_ ?_
            rotate_left
            · intro w'
              go_simp
              with_reducible rfl
            rotate_left
            · simp only [Act.put, List.setIfInBounds_toArray, List.set_cons_zero, List.set_cons_succ, i64_w, i32_w]
              rfl
            refine done_ (done_of HT_.out (by kernel_rfl)) ?_
            go_wp2_with fail
            go_ret
            exact ⟨by first | rfl | simp, HB8.out⟩

end Go.Proofs.YtkioddjjfifadaaGreatDoor.P
