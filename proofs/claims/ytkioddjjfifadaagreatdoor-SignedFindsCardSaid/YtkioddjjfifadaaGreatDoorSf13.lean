/- What the proof of SignedFinds needs of: Hx1. -/
import Derived.Deep.DeepBigQuietO
import Derived.Test.YtkioddjjfifadaaGreatDoorSf8
import Derived.Test.YtkioddjjfifadaaGreatDoorSf10
import Derived.Test.YtkioddjjfifadaaGreatDoorSf12
set_option linter.unusedVariables false
set_option linter.unusedSimpArgs false
namespace Go.Proofs.YtkioddjjfifadaaGreatDoor.P
open Go.RowKit Go.Proofs.YtkioddjjfifadaaGreatDoorW.PrintWords Go.Proofs.YtkioddjjfifadaaGreatDoorW.PrintLast Go.Proofs.YtkioddjjfifadaaGreatDoorW.PrintMore
def finds_walk.T9 : Bool × List (List Nat × List Nat) := (true, [([], []), ([], []), ([], []), ([1, 2], [1, 2]), ([3], [3]), ([4], [4]), ([], []), ([], []), ([6, 7], [6, 7]), ([8], [8]), ([9], [9]), ([], []), ([], []), ([11, 12], [11, 12]), ([13], [13]), ([14], [14]), ([5, 10, 15], [5, 10, 15]), ([16], [16]), ([0, 17], [0, 17]), ([18, 18, 0, 1, 2, 3, 4, 5, 6, 7, 8, 9, 10, 11, 12, 13, 14, 15, 16, 17, 18], [0, 18])])
def finds_walk.B9 : List Nat := [0, 0, 0, 6, 14, 30, 0, 0, 192, 448, 960, 0, 0, 6144, 14336, 30720, 65534, 131070, 262143, 524287]
theorem finds_walk.tab9 : rtab .any (opsOf Tryz.f15 9) = finds_walk.T9 := by kernel_rfl
theorem finds_walk.bits9 : waitsOk finds_walk.T9.2 finds_walk.B9 = true := by kernel_rfl
def finds_walk.T11 : Bool × List (List Nat × List Nat) := (true, [([], []), ([], []), ([0, 1], [0, 1]), ([], []), ([], []), ([3, 4, 2], [3, 4]), ([2, 5, 0, 1, 2], [2]), ([5, 6, 0, 1, 2, 3, 4, 5, 6], [5])])
def finds_walk.B11 : List Nat := [0, 0, 3, 0, 0, 31, 63, 127]
theorem finds_walk.tab11 : rtab .any (opsOf Tryz.f15 11) = finds_walk.T11 := by kernel_rfl
theorem finds_walk.bits11 : waitsOk finds_walk.T11.2 finds_walk.B11 = true := by kernel_rfl
set_option maxRecDepth 100000 in
set_option maxHeartbeats 16000000 in
theorem finds_walk (k KR KS : Nat) (byKey : Bool) (Ai As Ak : Option Addr) (ci cs_ ck : Nat) (x : Wh) (A1 : Option Addr) (c1 : Nat) (l : List Wh) (w : World) (hH : Hd w) (hT : Tb w)
    (hi : (Kd.slice 64 k64).C w Ai x.iss.length x.iss) (hil : x.iss.length ≤ ci) (hs : (Kd.int .u8).C w As x.ser.length x.ser) (hsl : x.ser.length ≤ cs_) (hk : (Kd.int .u8).C w Ak x.ski.length x.ski) (hkl : x.ski.length ≤ ck)
    (hl : kWh.C w A1 l.length l) (hll : l.length ≤ c1)
    (hhuge : ∀ y ∈ x :: l, ∃ b, chirographref07_Huge.f k y.iss 2000 = some b ∧ (b = false → ∃ r, name_Key.f k y.iss = some r ∧ chirographref07_Key.f KR y.iss = some r))
    (hsb : ∀ y ∈ l, chirographref01_SameBytes.f KS x.ser y.ser = some ((strOfNums x.ser).toList == (strOfNums y.ser).toList) ∧ chirographref01_SameBytes.f KS x.ski y.ski = some ((strOfNums x.ski).toList == (strOfNums y.ski).toList)) :
    Calls Tryz.prog 15 #[.bool byKey, .agg #[.slice Ai x.iss.length ci, .slice As x.ser.length cs_, .slice Ak x.ski.length ck], .slice A1 l.length c1] w fun e w' => e = .returned (.bool true) ∧ Below w.heap.size w w' := by
  have mixed : Tryz.prog.follows .mixedOrders = true := by kernel_rfl
  have HH := Aside0.mk hH
  have HT := Aside0.mk hT
  have HI := Aside0.mk hi
  have HS := Aside0.mk hs
  have HK := Aside0.mk hk
  have LI := Aside0.mk hil
  have LS := Aside0.mk hsl
  have LK := Aside0.mk hkl
  have HL := Aside0.mk hl
  have LL := Aside0.mk hll
  have HG := Aside0.mk hhuge
  have HSBL := Aside0.mk hsb
  have BK := Aside0.mk (heap_alloc_new w (.cells #[.slice Ai x.iss.length ci, .slice As x.ser.length cs_, .slice Ak x.ski.length ck] 92))
  have HB := Aside0.mk (below_alloc (Below.refl w.heap.size w) (.cells #[.slice Ai x.iss.length ci, .slice As x.ser.length cs_, .slice Ak x.ski.length ck] 92))
  clear hH hT hi hs hk hil hsl hkl hl hll hhuge hsb
  obtain ⟨m0, m1, m2⟩ := box3 BK.out
  obtain ⟨b0, hb0, hk0⟩ := HG.out x List.mem_cons_self
  have HB0 := Aside0.mk hb0
  have HK0 := Aside0.mk hk0
  clear hb0 hk0
  by_cases hn : 100 < l.length
  · have c1 : decide ((100 : Int) < (l.length : Int)) = true := decide_eq_true (by omega)
    go_enter Tryz.func15, Tryz.ntmps15
    go_wp2_with fail
    refine (law17_live _ (HH.out.below HB.out)).mono ?_
    rintro e wl ⟨rfl, hb⟩
    have HBl := Aside0.mk (below_step HB.out hb)
    clear hb
    go_wp2_with fail
    go_ret
    exact ⟨rfl, HBl.out⟩
  have c1 : decide ((100 : Int) < (l.length : Int)) = false := decide_eq_false (by omega)
  go_enter Tryz.func15, Tryz.ntmps15
  go_wp2_with fail
  refine (chirographref07_Huge.calls k Ai ci x.iss 2000 b0 _ (Kd.C_below HI.out HB.out) LI.out HB0.out).mono ?_
  rintro e w1 ⟨rfl, hd⟩
  have hb1 := hd.below
  have HB1 := Aside0.mk (below_step HB.out hb1)
  have BK1 := Aside0.mk (blk_keep hb1 BK.out)
  clear hd hb1 HB BK m0 m1 m2
  cases b0 with
  | true =>
    go_wp2_with fail
    refine (law17_live _ (HH.out.below HB1.out)).mono ?_
    rintro e wl ⟨rfl, hb⟩
    have HBl := Aside0.mk (below_step HB1.out hb)
    clear hb
    go_wp2_with fail
    go_ret
    exact ⟨rfl, HBl.out⟩
  | false =>
    have HKX := Aside0.mk (HK0.out rfl)
    clear HK0
    go_wp2_with fail
    go_loopg [7, 8] (l.length + 1) (fun kq v7 v8 w' => ∃ (j : Nat), v8 = .int .i64 (j : Int) ∧ Aside0 (j ≤ l.length ∧ l.length < kq + j) ∧ Aside0 ((kFix w).R 105 w' w.heap.size (fun _ => True) v7 ((l.take j).map Wh.ct)) ∧ Aside0 (∀ y ∈ l.take j, ∃ r, name_Key.f k y.iss = some r ∧ chirographref07_Key.f KR y.iss = some r) ∧
      Aside0 (w'.heap[w.heap.size]? = some (.cells #[.slice Ai x.iss.length ci, .slice As x.ser.length cs_, .slice Ak x.ski.length ck] 92 (0, 0))) ∧ Aside0 (Below w.heap.size w w'))
    case atStart => exact ⟨0, rfl, ⟨⟨Nat.zero_le _, by omega⟩⟩, ⟨by rw [List.take_zero]; exact Kd.R_nil _ _ _ _ _⟩, ⟨by simp⟩, BK1, HB1⟩
    case round =>
      clear BK1 HB1
      obtain ⟨j, rfl, HJ, HO1, HKS, BK1, HB1⟩ := hrel
      cases gk with
      | zero => exact absurd HJ.out (by omega)
      | succ g1 =>
        by_cases hj : j < l.length
        · have d1 : decide ((j : Int) < (l.length : Int)) = true := decide_eq_true (by omega)
          have p1 : ((0 : Int) ≤ (j : Int)) = True := eq_true (by omega)
          have q1 : ((j : Int) < (l.length : Int)) = True := eq_true (by omega)
          have hw3 : wrap64 ((j : Int) + 1) = ((j + 1 : Nat) : Int) := by unfold wrap64; omega
          obtain ⟨ad, Bi, bi, Bs, bs, Bk, bk, rfl, x0, x1, x2, gi, gs, gk⟩ := at_Wh HL.out j hj
          have hmem : l.getD j zWh ∈ x :: l := by
            rw [List.getD_eq_getElem?_getD, List.getElem?_eq_getElem hj]
            exact List.mem_cons_of_mem _ (List.getElem_mem hj)
          obtain ⟨bj, hbj, hkj⟩ := HG.out _ hmem
          have HTK : Aside0 (l.take (j + 1) = l.take j ++ [l.getD j zWh]) := ⟨by
            rw [List.getD_eq_getElem?_getD, List.getElem?_eq_getElem hj]
            exact List.take_succ_eq_append_getElem hj⟩
          clear hmem
          generalize l.getD j zWh = y at *
          have HBJ := Aside0.mk hbj
          have HKJ := Aside0.mk hkj
          clear hbj hkj
          have y0 := (HB1.out.cell (World.block_lt_of_cell? w _ x0)).trans x0
          go_wp2_with fail
          refine (chirographref07_Huge.calls k Bi bi y.iss 2000 bj _ (Kd.C_below gi.2 HB1.out) gi.1 HBJ.out).mono ?_
          rintro e w2 ⟨rfl, hd⟩
          have hb2 := hd.below
          have HB2 := Aside0.mk (below_step HB1.out hb2)
          have BK2 := Aside0.mk (blk_keep hb2 BK1.out)
          have HO2 := Aside0.mk (Kd.R_below HO1.out hb2)
          clear hd hb2 HB1 BK1 HO1 y0
          cases bj with
          | true =>
            go_wp2_with fail
            refine (law17_live _ (HH.out.below HB2.out)).mono ?_
            rintro e wl ⟨rfl, hb⟩
            have HBl := Aside0.mk (below_step HB2.out hb)
            clear hb
            go_wp2_with fail
            go_ret
            exact ⟨rfl, HBl.out⟩
          | false =>
            go_wp2_with fail
            refine start_ (n := 20) (S := fun w' => w'.cell? (ad.add (j * 3)) = some (.slice Bi y.iss.length bi) ∧ w'.cell? ⟨(ad.add (j * 3)).block, (ad.add (j * 3)).off + 1, none⟩ = some (.slice Bs y.ser.length bs) ∧ w'.cell? ⟨(ad.add (j * 3)).block, (ad.add (j * 3)).off + 2, none⟩ = some (.slice Bk y.ski.length bk)) (ds := []) #[false, false, false, false, false, false, false, false, false, false, false, false, false, false, false, false, false, false, false, false] (by kernel_rfl) rfl rfl ⟨((below_drew HB2.out).cell (World.block_lt_of_cell? w _ x0)).trans x0, ((below_drew HB2.out).cell (World.block_lt_of_cell? w _ x1)).trans x1, ((below_drew HB2.out).cell (World.block_lt_of_cell? w _ x2)).trans x2⟩ (fun hHeld => ?_); refine with_tabW finds_walk.tab9 finds_walk.bits9 (fun HT_ HW_ => ?_)
            have HB3 := Aside0.mk (below_drew HB2.out)
            have HO3 := Aside0.mk (Kd.R_drew HO2.out)
            have BK3 := Aside0.mk (blk_drew BK2.out)
            generalize w2.drew = w3 at *
            refine pure_ (i := 0) (N := some 35) (v := ?_) (a' := ?_) #[true, false, false, false, false, false, false, false, false, false, false, false, false, false, false, false, false, false, false, false] rfl rfl (any_of HT_.out (by kernel_rfl)) (fun _ _ _ h => h) (Or.inl ⟨by rfl, ?_⟩) ?_ ?_; rotate_left; (intro w'; go_simp; with_reducible rfl); rotate_left; (simp only [Act.put, List.setIfInBounds_toArray, List.set_cons_zero, List.set_cons_succ, i64_w, i32_w]; rfl)
            refine pure_ (i := 1) (N := some 36) (v := ?_) (a' := ?_) #[true, true, false, false, false, false, false, false, false, false, false, false, false, false, false, false, false, false, false, false] rfl rfl (any_of HT_.out (by kernel_rfl)) (fun _ _ _ h => h) (Or.inl ⟨by rfl, ?_⟩) ?_ ?_; rotate_left; (intro w'; go_simp; with_reducible rfl); rotate_left; (simp only [Act.put, List.setIfInBounds_toArray, List.set_cons_zero, List.set_cons_succ, i64_w, i32_w]; rfl)
            refine pure_ (i := 2) (N := some 37) (v := ?_) (a' := ?_) #[true, true, true, false, false, false, false, false, false, false, false, false, false, false, false, false, false, false, false, false] rfl rfl (any_of HT_.out (by kernel_rfl)) (fun _ _ _ h => h) (Or.inl ⟨by rfl, ?_⟩) ?_ ?_; rotate_left; (intro w'; go_simp; with_reducible rfl); rotate_left; (simp only [Act.put, List.setIfInBounds_toArray, List.set_cons_zero, List.set_cons_succ, i64_w, i32_w]; rfl)
            refine pure_ (i := 3) (N := some 38) (v := ?_) (a' := ?_) #[true, true, true, true, false, false, false, false, false, false, false, false, false, false, false, false, false, false, false, false] rfl rfl (any_of HT_.out (by kernel_rfl)) (fun _ _ _ h => h) (Or.inl ⟨by rfl, ?_⟩) ?_ ?_; rotate_left; (intro w'; go_simp; with_reducible rfl); rotate_left; (simp only [Act.put, List.setIfInBounds_toArray, List.set_cons_zero, List.set_cons_succ, i64_w, i32_w]; rfl)
            refine pure_ (i := 4) (N := some 39) (v := ?_) (a' := ?_) #[true, true, true, true, true, false, false, false, false, false, false, false, false, false, false, false, false, false, false, false] rfl rfl (any_of HT_.out (by kernel_rfl)) (fun _ _ _ h => h) (Or.inl ⟨by rfl, ?_⟩) ?_ ?_; rotate_left; (intro w'; go_simp; with_reducible rfl); rotate_left; (simp only [Act.put, List.setIfInBounds_toArray, List.set_cons_zero, List.set_cons_succ, i64_w, i32_w]; rfl)
            refine take_ (i := 5) (N := some 40) (v := ?_) (a' := ?_) #[true, true, true, true, true, true, false, false, false, false, false, false, false, false, false, false, false, false, false, false] rfl rfl (take_ofW HT_.out HW_.out (by kernel_rfl)) (fun _ _ _ h => h) (Or.inl ⟨by rfl, ?_⟩) hHeld ?_ ?_; rotate_left; (rintro w' ⟨s0, s1, s2⟩; go_simp; with_reducible rfl); rotate_left; (simp only [Act.put, List.setIfInBounds_toArray, List.set_cons_zero, List.set_cons_succ, i64_w, i32_w]; rfl)
            refine pure_ (i := 6) (N := some 41) (v := ?_) (a' := ?_) #[true, true, true, true, true, true, true, false, false, false, false, false, false, false, false, false, false, false, false, false] rfl rfl (any_of HT_.out (by kernel_rfl)) (fun _ _ _ h => h) (Or.inl ⟨by rfl, ?_⟩) ?_ ?_; rotate_left; (intro w'; go_simp; with_reducible rfl); rotate_left; (simp only [Act.put, List.setIfInBounds_toArray, List.set_cons_zero, List.set_cons_succ, i64_w, i32_w]; rfl)
            refine pure_ (i := 7) (N := some 42) (v := ?_) (a' := ?_) #[true, true, true, true, true, true, true, true, false, false, false, false, false, false, false, false, false, false, false, false] rfl rfl (any_of HT_.out (by kernel_rfl)) (fun _ _ _ h => h) (Or.inl ⟨by rfl, ?_⟩) ?_ ?_; rotate_left; (intro w'; go_simp; with_reducible rfl); rotate_left; (simp only [Act.put, List.setIfInBounds_toArray, List.set_cons_zero, List.set_cons_succ, i64_w, i32_w]; rfl)
            refine pure_ (i := 8) (N := some 43) (v := ?_) (a' := ?_) #[true, true, true, true, true, true, true, true, true, false, false, false, false, false, false, false, false, false, false, false] rfl rfl (any_of HT_.out (by kernel_rfl)) (fun _ _ _ h => h) (Or.inl ⟨by rfl, ?_⟩) ?_ ?_; rotate_left; (intro w'; go_simp; with_reducible rfl); rotate_left; (simp only [Act.put, List.setIfInBounds_toArray, List.set_cons_zero, List.set_cons_succ, i64_w, i32_w]; rfl)
            refine pure_ (i := 9) (N := some 44) (v := ?_) (a' := ?_) #[true, true, true, true, true, true, true, true, true, true, false, false, false, false, false, false, false, false, false, false] rfl rfl (any_of HT_.out (by kernel_rfl)) (fun _ _ _ h => h) (Or.inl ⟨by rfl, ?_⟩) ?_ ?_; rotate_left; (intro w'; go_simp; with_reducible rfl); rotate_left; (simp only [Act.put, List.setIfInBounds_toArray, List.set_cons_zero, List.set_cons_succ, i64_w, i32_w]; rfl)
            refine take_ (i := 10) (N := some 45) (v := ?_) (a' := ?_) #[true, true, true, true, true, true, true, true, true, true, true, false, false, false, false, false, false, false, false, false] rfl rfl (take_ofW HT_.out HW_.out (by kernel_rfl)) (fun _ _ _ h => h) (Or.inl ⟨by rfl, ?_⟩) hHeld ?_ ?_; rotate_left; (rintro w' ⟨s0, s1, s2⟩; go_simp; with_reducible rfl); rotate_left; (simp only [Act.put, List.setIfInBounds_toArray, List.set_cons_zero, List.set_cons_succ, i64_w, i32_w]; rfl)
            refine pure_ (i := 11) (N := some 46) (v := ?_) (a' := ?_) #[true, true, true, true, true, true, true, true, true, true, true, true, false, false, false, false, false, false, false, false] rfl rfl (any_of HT_.out (by kernel_rfl)) (fun _ _ _ h => h) (Or.inl ⟨by rfl, ?_⟩) ?_ ?_; rotate_left; (intro w'; go_simp; with_reducible rfl); rotate_left; (simp only [Act.put, List.setIfInBounds_toArray, List.set_cons_zero, List.set_cons_succ, i64_w, i32_w]; rfl)
            refine pure_ (i := 12) (N := some 47) (v := ?_) (a' := ?_) #[true, true, true, true, true, true, true, true, true, true, true, true, true, false, false, false, false, false, false, false] rfl rfl (any_of HT_.out (by kernel_rfl)) (fun _ _ _ h => h) (Or.inl ⟨by rfl, ?_⟩) ?_ ?_; rotate_left; (intro w'; go_simp; with_reducible rfl); rotate_left; (simp only [Act.put, List.setIfInBounds_toArray, List.set_cons_zero, List.set_cons_succ, i64_w, i32_w]; rfl)
            refine pure_ (i := 13) (N := some 48) (v := ?_) (a' := ?_) #[true, true, true, true, true, true, true, true, true, true, true, true, true, true, false, false, false, false, false, false] rfl rfl (any_of HT_.out (by kernel_rfl)) (fun _ _ _ h => h) (Or.inl ⟨by rfl, ?_⟩) ?_ ?_; rotate_left; (intro w'; go_simp; with_reducible rfl); rotate_left; (simp only [Act.put, List.setIfInBounds_toArray, List.set_cons_zero, List.set_cons_succ, i64_w, i32_w]; rfl)
            refine pure_ (i := 14) (N := some 49) (v := ?_) (a' := ?_) #[true, true, true, true, true, true, true, true, true, true, true, true, true, true, true, false, false, false, false, false] rfl rfl (any_of HT_.out (by kernel_rfl)) (fun _ _ _ h => h) (Or.inl ⟨by rfl, ?_⟩) ?_ ?_; rotate_left; (intro w'; go_simp; with_reducible rfl); rotate_left; (simp only [Act.put, List.setIfInBounds_toArray, List.set_cons_zero, List.set_cons_succ, i64_w, i32_w]; rfl)
            refine take_ (i := 15) (N := some 50) (v := ?_) (a' := ?_) #[true, true, true, true, true, true, true, true, true, true, true, true, true, true, true, true, false, false, false, false] rfl rfl (take_ofW HT_.out HW_.out (by kernel_rfl)) (fun _ _ _ h => h) (Or.inl ⟨by rfl, ?_⟩) hHeld ?_ ?_; rotate_left; (rintro w' ⟨s0, s1, s2⟩; go_simp; with_reducible rfl); rotate_left; (simp only [Act.put, List.setIfInBounds_toArray, List.set_cons_zero, List.set_cons_succ, i64_w, i32_w]; rfl)
            refine pure_ (i := 16) (N := some 51) (v := ?_) (a' := ?_) #[true, true, true, true, true, true, true, true, true, true, true, true, true, true, true, true, true, false, false, false] rfl rfl (any_of HT_.out (by kernel_rfl)) (fun _ _ _ h => h) (Or.inl ⟨by rfl, ?_⟩) ?_ ?_; rotate_left; (intro w'; go_simp; with_reducible rfl); rotate_left; (simp only [Act.put, List.setIfInBounds_toArray, List.set_cons_zero, List.set_cons_succ, i64_w, i32_w]; rfl)
            refine one_ (i := 17) (N := some 52) #[true, true, true, true, true, true, true, true, true, true, true, true, true, true, true, true, true, true, false, false] rfl rfl (one_of HT_.out (by kernel_rfl)) (by decide) (fun K hK => ?_)
            refine value_ (w1 := ?_) (v := ?_) (by rfl) rfl ?_ ?_
            rotate_left 2
            · go_simp
              constructor
              · rfl
              · rfl
            refine hK.out _ _ ⟨((below_alloc HB3.out _).cell (World.block_lt_of_cell? w _ x0)).trans x0, ((below_alloc HB3.out _).cell (World.block_lt_of_cell? w _ x1)).trans x1, ((below_alloc HB3.out _).cell (World.block_lt_of_cell? w _ x2)).trans x2⟩ (fun hHeld => ?_)
            clear hK K
            refine norm_ (a' := ?_) ?_ ?_; rotate_left; (show Act.put _ (some 52) _ = _; simp only [Act.put, List.setIfInBounds_toArray, List.set_cons_zero, List.set_cons_succ, i64_w, i32_w]; rfl)
            refine one_ (i := 18) (N := some 53) #[true, true, true, true, true, true, true, true, true, true, true, true, true, true, true, true, true, true, true, false] rfl rfl (one_of HT_.out (by kernel_rfl)) (by decide) (fun K hK => ?_)
            refine Kd.R_append_step (kFix w) (w0 := w) w.heap.size (by rfl) (.tmp 35) (.tmp 52) 94 105 (.agg (certCells (.slice none 0 0) (.slice none 0 0) (.slice none 0 0)).toArray) 520 rfl Tryz.underlying94 zero105 rfl (Nat.zero_lt_succ 30 : (0 : Nat) < 31) (by omega) u7 ((l.take j).map Wh.ct) y.ct (certCells (.slice Bs y.ser.length bs) (.slice Bi y.iss.length bi) (.slice Bk y.ski.length bk)) (fun _ => True) (fun _ => False) rfl rfl ?aP (fun _ hk => hk.elim) ?aF ?aO ?aB ?aS ?aL ?_
            (case aP => exact kCt_mk (x := y.ct) gs.1 gs.2 gi.1 gi.2 gk.1 gk.2)
            (case aF => exact (fun _ _ => trivial))
            (case aO => exact HO3.out)
            (case aB => exact HB3.out)
            (case aS => exact (below_size HB3.out))
            (case aL => have := HJ.out; rw [List.length_map, List.length_take]; omega)
            intro v5 w4 ho hb hgr hat
            have HO4 := Aside0.mk ho
            have HB4 := Aside0.mk hb
            have BK4 := Aside0.mk (blk_grown BK3.out hgr (Kd.R_ne HO3.out BK3.out (by decide)))
            clear ho hb hgr hat
            refine hK.out _ _ ⟨(HB4.out.cell (World.block_lt_of_cell? w _ x0)).trans x0, (HB4.out.cell (World.block_lt_of_cell? w _ x1)).trans x1, (HB4.out.cell (World.block_lt_of_cell? w _ x2)).trans x2⟩ (fun hHeld => ?_)
            clear hK K
            refine norm_ (a' := ?_) ?_ ?_; rotate_left; (show Act.put _ (some 53) _ = _; simp only [Act.put, List.setIfInBounds_toArray, List.set_cons_zero, List.set_cons_succ, i64_w, i32_w]; rfl)
            refine pure_ (i := 19) (N := some 7) (v := ?_) (a' := ?_) #[true, true, true, true, true, true, true, true, true, true, true, true, true, true, true, true, true, true, true, true] rfl rfl (any_of HT_.out (by kernel_rfl)) (fun _ _ _ h => h) (Or.inl ⟨by rfl, ?_⟩) ?_ ?_; rotate_left; (intro w'; go_simp; with_reducible rfl); rotate_left; (simp only [Act.put, List.setIfInBounds_toArray, List.set_cons_zero, List.set_cons_succ, i64_w, i32_w]; rfl)
            refine done_ (done_of HT_.out (by kernel_rfl)) ?_
            go_wp2_with fail
            go_roundg g1
            case measure => exact Nat.lt_succ_self _
            case rel => exact ⟨j + 1, congrArg (Value.int .i64) (by first | exact hw3 | omega), ⟨by have := HJ.out; omega⟩, ⟨by rw [HTK.out, List.map_append]; exact HO4.out⟩, ⟨by
              rw [HTK.out]
              intro z hz
              rcases List.mem_append.1 hz with hz | hz
              · exact HKS.out z hz
              · rw [List.mem_singleton.1 hz]
                exact HKJ.out (by first | rfl | trivial)⟩, BK4, HB4⟩
        · have d1 : decide ((j : Int) < (l.length : Int)) = false := decide_eq_false (by omega)
          obtain rfl : j = l.length := by have := HJ.out; omega
          obtain ⟨m0, m1, m2⟩ := box3 BK1.out
          have hta : l.take l.length = l := List.take_length
          obtain ⟨rx, hrx, hrx'⟩ := HKX.out
          have HKC : Aside0 (∀ z ∈ l.map Wh.ct, ∃ r, name_Key.f k z.iss = some r ∧ chirographref07_Key.f KR z.iss = some r) := ⟨by
            intro z hz
            obtain ⟨y, hy, rfl⟩ := List.mem_map.1 hz
            exact HKS.out y (by rw [hta]; exact hy)⟩
          have HSB : Aside0 (∀ z ∈ l.map Wh.ct, chirographref01_SameBytes.f KS x.ser z.ser = some ((strOfNums x.ser).toList == (strOfNums z.ser).toList) ∧ chirographref01_SameBytes.f KS x.ski z.ski = some ((strOfNums x.ski).toList == (strOfNums z.ski).toList)) := ⟨by
            intro z hz
            obtain ⟨y, hy, rfl⟩ := List.mem_map.1 hz
            exact HSBL.out y hy⟩
          have HSM : Aside0 (∀ z ∈ l.map Wh.ct, name_Same.f k x.iss z.iss = some ((name_Same.f k x.iss z.iss).getD false) ∧ chirographref07_Same.f KR x.iss z.iss = some ((name_Same.f k x.iss z.iss).getD false)) := ⟨by
            intro z hz
            obtain ⟨r, hr, hr'⟩ := HKC.out z hz
            unfold name_Same.f chirographref07_Same.f
            rw [hrx, hrx', Option.bind_some, Option.bind_some, hr, hr']
            exact ⟨rfl, rfl⟩⟩
          have hO5 := HO1.out
          rw [hta] at hO5
          obtain ⟨A7, c7, rfl, hc7, hC7⟩ := Kd.R_reads hO5
          have HC1 := Aside0.mk (Kd.C_alloc (kFix_C hC7 HB1.out) (.cells (signerCells byKey Ai x.iss.length ci As x.ser.length cs_ Ak x.ski.length ck) 80))
          have LC := Aside0.mk hc7
          have HSZ : Aside0 ((l.map Wh.ct).length < 1000000) := ⟨by rw [List.length_map]; omega⟩
          have HB2 := Aside0.mk (below_alloc HB1.out (.cells (signerCells byKey Ai x.iss.length ci As x.ser.length cs_ Ak x.ski.length ck) 80))
          have BS1 := Aside0.mk (heap_alloc_new wr (.cells (signerCells byKey Ai x.iss.length ci As x.ser.length cs_ Ak x.ski.length ck) 80))
          clear hO5 hC7 hc7 hta HO1 HKC HSBL HKS hrx hrx' HKX
          generalize hcs : l.map Wh.ct = cs at *
          go_wp2_with fail
          generalize wr.heap.size = gb at *
          generalize wr.alloc (.cells (signerCells byKey Ai x.iss.length ci As x.ser.length cs_ Ak x.ski.length ck) 80) = w2 at *
          refine start_ (n := 8) (S := fun w' => w'.heap[gb]? = some (.cells (signerCells byKey Ai x.iss.length ci As x.ser.length cs_ Ak x.ski.length ck) 80 (0, 0))) (ds := []) #[false, false, false, false, false, false, false, false] (by kernel_rfl) rfl rfl (blk_drew BS1.out) (fun hHeld => ?_); refine with_tabW finds_walk.tab11 finds_walk.bits11 (fun HT_ HW_ => ?_)
          have HB3 := Aside0.mk (below_drew HB2.out)
          have BS3 := Aside0.mk (blk_drew BS1.out)
          have HC3 := Aside0.mk (Kd.C_drew HC1.out)
          clear HB2 BS1 HC1
          generalize w2.drew = w3 at *
          refine take_ (i := 0) (N := some 62) (v := .agg (signerCells byKey Ai x.iss.length ci As x.ser.length cs_ Ak x.ski.length ck)) (a' := ?_) #[true, false, false, false, false, false, false, false] rfl rfl (take_ofW HT_.out HW_.out (by kernel_rfl)) (fun _ _ _ h => h) (Or.inl ⟨by rfl, ?_⟩) hHeld ?_ ?_
          · intro w' hw'
            obtain ⟨q0, q1, q2, q3, q4, q5, q6, q7, q8, q9, q10, q11, q12, q13, -⟩ := box14 hw'
            go_simp
          rotate_left
          · simp only [Act.put, List.setIfInBounds_toArray, List.set_cons_zero, List.set_cons_succ, i64_w, i32_w]
            rfl
          refine pure_ (i := 1) (N := some 63) (v := ?_) (a' := ?_) #[true, true, false, false, false, false, false, false] rfl rfl (any_of HT_.out (by kernel_rfl)) (fun _ _ _ h => h) (Or.inl ⟨by rfl, ?_⟩) ?_ ?_; rotate_left; (intro w'; go_simp; with_reducible rfl); rotate_left; (simp only [Act.put, List.setIfInBounds_toArray, List.set_cons_zero, List.set_cons_succ, i64_w, i32_w]; rfl)
          refine take_ (i := 3) (N := some 65) (v := .agg (signerCells byKey Ai x.iss.length ci As x.ser.length cs_ Ak x.ski.length ck)) (a' := ?_) #[true, true, false, true, false, false, false, false] rfl rfl (take_ofW HT_.out HW_.out (by kernel_rfl)) (fun _ _ _ h => h) (Or.inl ⟨by rfl, ?_⟩) hHeld ?_ ?_
          · intro w' hw'
            obtain ⟨q0, q1, q2, q3, q4, q5, q6, q7, q8, q9, q10, q11, q12, q13, -⟩ := box14 hw'
            go_simp
          rotate_left
          · simp only [Act.put, List.setIfInBounds_toArray, List.set_cons_zero, List.set_cons_succ, i64_w, i32_w]
            rfl
          refine pure_ (i := 4) (N := some 66) (v := ?_) (a' := ?_) #[true, true, false, true, true, false, false, false] rfl rfl (any_of HT_.out (by kernel_rfl)) (fun _ _ _ h => h) (Or.inl ⟨by rfl, ?_⟩) ?_ ?_; rotate_left; (intro w'; go_simp; with_reducible rfl); rotate_left; (simp only [Act.put, List.setIfInBounds_toArray, List.set_cons_zero, List.set_cons_succ, i64_w, i32_w]; rfl)
          refine one_ (i := 2) (N := some 64) #[true, true, true, true, true, false, false, false] rfl rfl (one_of HT_.out (by kernel_rfl)) (by decide) (fun K hK => ?_)
          refine goes_ Tryz.func61 (by kernel_rfl) rfl #[.agg (signerCells byKey Ai x.iss.length ci As x.ser.length cs_ Ak x.ski.length ck), .slice A7 cs.length c7] (by rfl) rfl rfl (by (try simp only [List.map_toArray, List.map_cons, List.map_nil]); first | done | rfl) ?_
          refine (signed_Find_gen Tb (fun hb h => Tb.below h hb) (fun y => (name_Same.f k x.iss y).getD false) byKey Ai As Ak ci cs_ ck x.iss x.ser x.ski A7 c7 cs _ (HT.out.below HB3.out) ?fa (Kd.C_below HI.out HB3.out) LI.out (Kd.C_below HS.out HB3.out) LS.out (Kd.C_below HK.out HB3.out) LK.out HC3.out LC.out HSZ.out).mono ?_
          case fa => exact fun z hz A0 c0 A1 c1 W hTW g0 l0 g1 l1 => name_Same.calls k A0 c0 x.iss A1 c1 z.iss _ W g0 l0 g1 l1 (HSM.out z hz).1 hTW
          rintro e w4 ⟨v8, rfl, hr8, hb4⟩
          refine ⟨_, rfl, ?_⟩
          have HB4 := Aside0.mk (below_step HB3.out hb4)
          have BS4 := Aside0.mk (blk_keep hb4 BS3.out)
          have HC4 := Aside0.mk (Kd.C_below HC3.out hb4)
          have HR8 := Aside0.mk (Kd.R_reads hr8)
          clear hb4 hr8 HB3 BS3 HC3
          refine hK.out _ _ BS4.out (fun hHeld => ?_)
          clear hK K
          refine norm_ (a' := ?_) ?_ ?_; rotate_left; (show Act.put _ (some 64) _ = _; simp only [Act.put, List.setIfInBounds_toArray, List.set_cons_zero, List.set_cons_succ, i64_w, i32_w]; rfl)
          refine one_ (i := 5) (N := some 67) #[true, true, true, true, true, true, false, false] rfl rfl (one_of HT_.out (by kernel_rfl)) (by decide) (fun K hK => ?_)
          refine goes_ Tryz.func62 (by kernel_rfl) rfl #[.agg (signerCells byKey Ai x.iss.length ci As x.ser.length cs_ Ak x.ski.length ck), .slice A7 cs.length c7] (by rfl) rfl rfl (by (try simp only [List.map_toArray, List.map_cons, List.map_nil]); first | done | rfl) ?_
          refine (ref_Find_gen KS (fun y => (name_Same.f k x.iss y).getD false) byKey Ai As Ak ci cs_ ck x.iss x.ser x.ski A7 c7 cs _ ?fa HSB.out (Kd.C_below HI.out HB4.out) LI.out (Kd.C_below HS.out HB4.out) LS.out (Kd.C_below HK.out HB4.out) LK.out HC4.out LC.out HSZ.out).mono ?_
          case fa => exact fun z hz A0 c0 A1 c1 W g0 l0 g1 l1 => chirographref07_Same.calls KR A0 c0 x.iss A1 c1 z.iss _ W g0 l0 g1 l1 (HSM.out z hz).2
          rintro e w5 ⟨v9, rfl, hr9, hb5⟩
          refine ⟨_, rfl, ?_⟩
          have HB5 := Aside0.mk (below_step HB4.out hb5)
          have BS5 := Aside0.mk (blk_keep hb5 BS4.out)
          obtain ⟨A8, c8, rfl, hc8, hC8⟩ := HR8.out
          obtain ⟨A9, c9, rfl, hc9, hC9⟩ := Kd.R_reads hr9
          have HC8 := Aside0.mk (Kd.C_below hC8 hb5)
          have HC9 := Aside0.mk hC9
          clear hb5 hr9 HR8 hC8 hC9 hc8 hc9 HB4 BS4 HC4
          refine hK.out _ _ BS5.out (fun hHeld => ?_)
          clear hK K
          refine norm_ (a' := ?_) ?_ ?_; rotate_left; (show Act.put _ (some 67) _ = _; simp only [Act.put, List.setIfInBounds_toArray, List.set_cons_zero, List.set_cons_succ, i64_w, i32_w]; rfl)
          refine pure_ (i := 6) (N := some 10) (v := ?_) (a' := ?_) #[true, true, true, true, true, true, true, false] rfl rfl (any_of HT_.out (by kernel_rfl)) (fun _ _ _ h => h) (Or.inl ⟨by rfl, ?_⟩) ?_ ?_; rotate_left; (intro w'; go_simp; with_reducible rfl); rotate_left; (simp only [Act.put, List.setIfInBounds_toArray, List.set_cons_zero, List.set_cons_succ, i64_w, i32_w]; rfl)
          refine pure_ (i := 7) (N := some 11) (v := ?_) (a' := ?_) #[true, true, true, true, true, true, true, true] rfl rfl (any_of HT_.out (by kernel_rfl)) (fun _ _ _ h => h) (Or.inl ⟨by rfl, ?_⟩) ?_ ?_; rotate_left; (intro w'; go_simp; with_reducible rfl); rotate_left; (simp only [Act.put, List.setIfInBounds_toArray, List.set_cons_zero, List.set_cons_succ, i64_w, i32_w]; rfl)
          refine done_ (done_of HT_.out (by kernel_rfl)) ?_
          generalize hits (hit byKey x.ser x.ski fun y => (name_Same.f k x.iss y).getD false) cs cs.length = H at *
          have HB50 := Aside0.mk (Below.refl w5.heap.size w5)
          go_wp2_with fail
          go_loopg [12] (H.length + 1) (fun kq v12 w' => ∃ (m : Nat), v12 = .int .i64 (m : Int) ∧ Aside0 (m ≤ H.length ∧ H.length < kq + m) ∧ Aside0 (Below w5.heap.size w5 w'))
          case atStart => exact ⟨0, rfl, ⟨⟨Nat.zero_le _, by omega⟩⟩, HB50⟩
          case round =>
            clear HB50
            obtain ⟨m, rfl, HM, HB6⟩ := hrel
            cases gk with
            | zero => exact absurd HM.out (by omega)
            | succ g2 =>
              by_cases hm : m < H.length
              · have d2 : decide ((m : Int) < (H.length : Int)) = true := decide_eq_true (by omega)
                have p2 : ((0 : Int) ≤ (m : Int)) = True := eq_true (by omega)
                have q2 : ((m : Int) < (H.length : Int)) = True := eq_true (by omega)
                have hw5 : wrap64 ((m : Int) + 1) = ((m + 1 : Nat) : Int) := by unfold wrap64; have := HC8.out.2.1; omega
                obtain ⟨ad8, rfl, x8⟩ := Kd.at_int (Kd.C_below HC8.out HB6.out) (m : Int) (by omega) (by omega)
                obtain ⟨ad9, rfl, x9⟩ := Kd.at_int (Kd.C_below HC9.out HB6.out) (m : Int) (by omega) (by omega)
                rw [Int.toNat_natCast] at x8 x9
                have hne : (rd H (m : Int) != rd H (m : Int)) = false := bne_self_eq_false _
                go_wp2_with fail
                go_big_quiet_o (fail)
                go_wp2_with fail
                go_roundg g2
                case measure => exact Nat.lt_succ_self _
                case rel => exact ⟨m + 1, congrArg (Value.int .i64) hw5, ⟨⟨hm, (show H.length < g2 + m + 1 from (Nat.add_right_comm g2 1 m) ▸ HM.out.2)⟩⟩, ⟨pw_below_drewN HB6.out nq⟩⟩
              · have d2 : decide ((m : Int) < (H.length : Int)) = false := decide_eq_false (by omega)
                have HB7 := Aside0.mk (below_step HB5.out HB6.out)
                go_wp2_with fail
                refine (law17_live _ (HH.out.below HB7.out)).mono ?_
                rintro e wl ⟨rfl, hb⟩
                have HBl := Aside0.mk (below_step HB7.out hb)
                clear hb
                go_wp2_with fail
                go_ret
                exact ⟨rfl, HBl.out⟩
end Go.Proofs.YtkioddjjfifadaaGreatDoor.P
