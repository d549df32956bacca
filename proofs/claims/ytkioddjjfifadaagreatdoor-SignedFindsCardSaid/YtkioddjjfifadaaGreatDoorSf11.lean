/- What the proof of SignedFinds needs of: Hr0, Pxf253, Pxf208, Pxf209, Pxf156, Pxf229. -/
import Derived.Deep.LoopGhost
import Derived.Deep.DeepBigQuietO
import Derived.Laws.BytesArg
import Derived.Test.YtkioddjjfifadaaGreatDoorSf2
namespace Go.Proofs.YtkioddjjfifadaaGreatDoor.P
open Go.RowKit Go.Proofs.YtkioddjjfifadaaGreatDoorW.PrintWords Go.Proofs.YtkioddjjfifadaaGreatDoorW.PrintLast Go.Proofs.YtkioddjjfifadaaGreatDoorW.PrintMore
/-- What cells lead to, in a world that came before. -/
def kOld {α : Type} (d : Kd α) (W0 : World) : Kd α where
  sz := d.sz
  E := []
  K := fun _ x cs => d.K W0 x cs
  M := fun _ _ _ x cs => d.K W0 x cs
  K_len := fun h => d.K_len h
  K_one := fun h => d.K_one h
  K_below := fun _ h => h
  K_of_M := fun h => h
  M_mono := fun _ h => h
  M_bound := fun h => h
  M_move := fun _ h => h
  M_lower := fun _ h => h
theorem kOld_C {α : Type} {d : Kd α} {W0 w : World} {A : Option Addr} {n : Nat} {xs : List α} (h : (kOld d W0).C w A n xs) (hb : Below W0.heap.size W0 w) : d.C w A n xs := by
  unfold Kd.C at h ⊢
  exact h.imp_ (Below.refl _ _) (fun _ _ hp => d.K_below hb hp)
abbrev kBs (W0 : World) : Kd (List Int) := kOld (Kd.slice 5 (Kd.int .u8)) W0
theorem own_block {α : Type} {d : Kd α} {e base : Nat} {ok : Nat → Prop} {w : World} {v : Value} {xs : List α} (h : d.R e w base ok v xs) (hn : 0 < xs.length) : ∃ g c, v = .slice (some ⟨g, 0, none⟩) xs.length c ∧ base ≤ g := by
  obtain ⟨inner, ho⟩ := Kd.R_own h
  rcases ho.2 with ⟨_, hz⟩ | ⟨g, cap, cur, rfl, hg, _⟩
  · omega
  · exact ⟨g, cap, rfl, hg⟩
theorem old_at {W0 W : World} {A : Option Addr} {cap base : Nat} {ok : Nat → Prop} {xs : List (List Int)} (h : (kBs W0).R 22 W base ok (.slice A xs.length cap) xs) (k : Nat) (hk : k < xs.length) :
    ∃ ad Ak ck, A = some ad ∧ W.cell? (ad.add k) = some (.slice Ak (xs.getD k []).length ck) ∧ (xs.getD k []).length ≤ ck ∧ (Kd.int .u8).C W0 Ak (xs.getD k []).length (xs.getD k []) := by
  obtain ⟨A', c', e, _, hC⟩ := Kd.R_reads h
  cases e
  obtain ⟨ad, cs, e, _, hK, hc⟩ := Kd.C_get hC [] (k : Int) (by omega) (by omega)
  rw [Int.toNat_natCast] at hK
  obtain ⟨Ak, ck, rfl, hl, hg⟩ := hK
  refine ⟨ad, Ak, ck, e, ?_, hl, hg⟩
  have := hc 0 _ rfl
  rw [Int.toNat_natCast] at this
  simpa [kOld, Kd.slice] using this
section
variable {P : Program} {ops : Array Oper} {o : Oper} {a : Act} {Q : Exit → Act → World → Prop} {Kc : Act → World → Prop} {α : Type}
theorem R_store_step (d : Kd α) {w0 W : World} (base : Nat) (hw : Region.wanted o (yielded ops a.tmps) = true) (hN : o.dst = none) (t : TypeId) (p x : Operand) (ho : o.op = .store t p x) (e : TypeId) {g n cap o' : Nat} (i : Int) (j : Nat) (xs : List α) (x' : α) (u : Value) (seg c : List Value) (ok okp : Nat → Prop)
    (haddr : a.eval p = .pointer (some ⟨g, o', none⟩)) (hoff : o' = i.toNat * d.sz + j) (hx : a.eval x = u) (hu : u.cells.toList = seg) (ht : (P.info? t).map (·.size) = some seg.length) (h1 : ∀ q ∈ seg, q.oneCell' = true)
    (HO : d.R e W base ok (.slice (some ⟨g, 0, none⟩) n cap) xs) (h0 : 0 ≤ i) (hi : i < n) (hcl : c.length = d.sz) (hcc : ∀ j u, c[j]? = some u → W.cell? ⟨g, i.toNat * d.sz + j, none⟩ = some u)
    (hj : j + seg.length ≤ d.sz) (hM : d.M W base okp x' (c.take j ++ seg ++ c.drop (j + seg.length))) (hokp : ∀ k, okp k → ok k ∧ k ≠ g) (HB : Below base w0 W)
    (h : ∀ w1, d.R e w1 base ok (.slice (some ⟨g, 0, none⟩) n cap) (xs.set i.toNat x') → Below base w0 w1 → W.grownBy w1 (some g) → Kc a w1) :
    if Region.wanted o (yielded ops a.tmps) = true then Oper.wp P o a W Kc Q else Kc (a.put none undef) W := by
  rw [if_pos hw]
  subst hoff
  obtain ⟨hrow, hg⟩ := Kd.R_seg HO i h0 hi hcl hcc hj hM hokp
  have hbg : base ≤ g := Kd.R_base HO g (by simp [Value.ownBlock])
  have hnx : n = xs.length := (Kd.R_reads' HO).1
  obtain ⟨_, inner, hown, hr⟩ := HO
  have hil : i.toNat < n := by omega
  have hB : Below base w0 (W.setCells g (i.toNat * d.sz + j) seg) := HB.trans ⟨hg.os, hg.tape, hg.output, hg.size, fun k hk => by
    have hlt : k < W.heap.size ∨ W.heap.size ≤ k := Nat.lt_or_ge _ _
    rcases hlt with hlt | hge
    · exact hg.block k hlt (fun he => by injection he with he; omega)
    · exact setCells_far seg _ k (by omega)⟩
  have hrun : (Instr.storeAt t (.pointer (some ⟨g, i.toNat * d.sz + j, none⟩)) u).run P W = .ok () (W.setCells g (i.toNat * d.sz + j) seg) := by
    rcases hown.2 with ⟨hv, _⟩ | ⟨g', cap', cur, hv, hb, hh, hnc, hcm, hcs, _⟩
    · cases hv
    injection hv with ha _ hc
    injection ha with ha
    injection ha with hg'
    subst hg'; subst hc
    refine run_store_run t u seg hh hu ht ?_ h1
    have h2 : i.toNat * d.sz + d.sz ≤ n * d.sz := by rw [← Nat.succ_mul]; exact Nat.mul_le_mul_right _ hil
    have h3 : n * d.sz ≤ cap * d.sz := Nat.mul_le_mul_right _ (by omega)
    omega
  unfold Oper.wp execOp
  simp only [ho, haddr, hx, Sem.run_bind, Sem.run_pure, Result.andThen_ok, hrun]
  show Kc (a.put o.dst undef) _
  rw [hN]
  exact h _ hrow hB hg
end
/-- One byte string less than another, as Go's strings are held. -/
def ltL (a b : List Int) : Bool := Op.bytesLess (strOfNums a).toList (strOfNums b).toList
def bub : Nat → List (List Int) → List (List Int)
  | 0, l => l
  | k + 1, l => if ltL (l.getD (k + 1) []) (l.getD k []) = true then bub k ((l.set (k + 1) (l.getD k [])).set k (l.getD (k + 1) [])) else l
def insL (out : List (List Int)) (x : List Int) : List (List Int) := bub out.length (out ++ [x])
def sortedL (l : List (List Int)) : List (List Int) := l.foldl insL []
def chirographref07_sorted.f (l : List (List Int)) : Option (List (List Int)) := if l.length ≤ 1000000 then some (sortedL l) else none
def chirographref07_sorted.T9 : Bool × List (List Nat × List Nat) := (true, [([], []), ([], []), ([], []), ([], []), ([3], [3]), ([], []), ([], []), ([6], [6]), ([5, 7], [5, 7]), ([8], [8]), ([], []), ([], []), ([10, 11], [10, 11]), ([12], [12]), ([0, 1, 0, 1, 5, 6, 7, 8, 9, 13], [0, 1]), ([14, 9, 0, 1, 5, 6, 7, 8, 9, 13], [9, 14]), ([2, 4, 0, 1, 2, 3, 4, 5, 6, 7, 8, 9, 10, 11, 12, 13, 14, 15], [2, 4]), ([16, 13, 15, 0, 1, 2, 3, 4, 5, 6, 7, 8, 9, 10, 11, 12, 13, 14, 15], [13, 16])])
def chirographref07_sorted.B9 : List Nat := [0, 0, 0, 0, 8, 0, 0, 64, 224, 480, 0, 0, 3072, 7168, 16355, 32739, 65535, 131071]
theorem chirographref07_sorted.tab9 : rtab .any (opsOf Tryz.f85 9) = chirographref07_sorted.T9 := by kernel_rfl
theorem chirographref07_sorted.bits9 : waitsOk chirographref07_sorted.T9.2 chirographref07_sorted.B9 = true := by kernel_rfl
set_option maxRecDepth 100000 in
set_option maxHeartbeats 4000000 in
theorem chirographref07_sorted.calls (A0 : Option Addr) (c0 : Nat) (l0 : List (List Int)) (r : List (List Int)) (w : World) (hr0 : Kd.C (Kd.slice 5 (Kd.int .u8)) w A0 l0.length l0) (hc0 : l0.length ≤ c0) (h : chirographref07_sorted.f l0 = some r) :
    Calls Tryz.prog 85 #[.slice A0 l0.length c0] w fun e w' => ∃ v, e = .returned v ∧ (kBs w).R 22 w' w.heap.size (fun _ => True) v r ∧ Below w.heap.size w w' := by
  have HR := Aside0.mk hr0
  have HC := Aside0.mk hc0
  clear hr0 hc0
  unfold chirographref07_sorted.f at h
  split at h
  case isFalse => cases h
  case isTrue hlen =>
  obtain rfl := Option.some.inj h
  have HLEN := Aside0.mk hlen
  clear h hlen
  have mixed : Tryz.prog.follows .mixedOrders = true := by kernel_rfl
  go_enter Tryz.func85, Tryz.ntmps85
  go_wp2_with fail
  go_loopg [3, 4] (l0.length + 1) (fun kq v3 v4 w' => ∃ (i : Nat) (out : List (List Int)), v4 = .int .i64 (i : Int) ∧ Aside0 (i ≤ l0.length ∧ l0.length < kq + i ∧ out.length = i ∧ l0.length ≤ 1000000) ∧ Aside0 (sortedL l0 = (l0.drop i).foldl insL out) ∧ Aside0 ((kBs w).R 22 w' w.heap.size (fun _ => True) v3 out) ∧ Aside0 (Below w.heap.size w w'))
  case atStart => exact ⟨0, [], rfl, ⟨⟨Nat.zero_le _, by omega, rfl, HLEN.out⟩⟩, ⟨rfl⟩, ⟨Kd.R_nil _ _ _ _ _⟩, ⟨Below.refl _ _⟩⟩
  case round =>
    obtain ⟨i, out, rfl, HI, HS, HO, HB⟩ := hrel
    cases gk with
    | zero => exact absurd HI.out (by omega)
    | succ g1 =>
      obtain ⟨Ao, co, hu⟩ := Kd.R_slice HO.out
      subst hu
      by_cases hi : i < l0.length
      · have d1 : decide ((i : Int) < (l0.length : Int)) = true := decide_eq_true (by omega)
        have p1 : ((0 : Int) ≤ (i : Int)) = True := eq_true (by omega)
        have q1 : ((i : Int) < (l0.length : Int)) = True := eq_true (by omega)
        have hw3 : wrap64 ((i : Int) + 1) = ((i + 1 : Nat) : Int) := by unfold wrap64; have := HI.out; omega
        obtain ⟨ad0, cs, rfl, _, hK, hc⟩ := Kd.C_get HR.out [] (i : Int) (by omega) (by omega)
        rw [Int.toNat_natCast] at hK
        obtain ⟨Ai, ci, rfl, hl, hg⟩ := hK
        have x0 := hc 0 _ rfl
        rw [Int.toNat_natCast] at x0
        simp only [Kd.slice, Nat.mul_one, Nat.add_zero] at x0
        have HD : Aside0 (l0.drop i = l0.getD i [] :: l0.drop (i + 1)) := ⟨by rw [List.drop_eq_getElem_cons hi, List.getD_eq_getElem?_getD, List.getElem?_eq_getElem hi]; rfl⟩
        have gx := And.intro hl hg
        clear hc hl hg
        generalize l0.getD i [] = x at *
        have HS1 : Aside0 (sortedL l0 = (l0.drop (i + 1)).foldl insL (insL out x)) := ⟨by rw [HS.out, HD.out]; rfl⟩
        clear HS HD
        have y0 := (HB.out.cell (World.block_lt_of_cell? w _ x0)).trans x0
        have hw4 : wrap64 (out.length : Int) = (i : Int) := by unfold wrap64; have := HI.out; omega
        go_wp2_with ((with_reducible refine gate_builtin (b := .append) (xs := #[.tmp 12, .tmp 17]) rfl ?_); at_builtin; refine Kd.R_append (kBs w) (w0 := w) w.heap.size rfl (.tmp 12) (.tmp 17) 67 22 (.slice none 0 0) 24 rfl Tryz.underlying67 info22 rfl (Nat.zero_lt_succ 0 : (0 : Nat) < 1) (by omega) (.slice Ao out.length co) out x [.slice Ai x.length ci] (fun _ => True) (fun _ => False) rfl rfl ?aP (fun _ hk => hk.elim) ?aF ?aO ?aB ?aS ?aL ?_; (case aP => exact ⟨_, _, rfl, gx⟩); (case aF => exact (fun _ _ => trivial)); (case aO => exact HO.out); (case aB => exact HB.out); (case aS => exact (below_size HB.out)); (case aL => have := HI.out; omega); intro v5 w4 ho hb hgr hat; obtain ⟨g, c5, hu, -⟩ := own_block ho (by simp); subst hu; have HO1 := Aside0.mk ho; have HB1 := Aside0.mk hb; clear ho hb hgr hat HO HB x0 y0)
        go_loopg [5] (i + 2) (fun kq v5 w' => ∃ (m : Nat) (cur : List (List Int)), v5 = .int .i64 (m : Int) ∧ Aside0 (m < kq ∧ m ≤ i ∧ cur.length = i + 1 ∧ i ≤ 1000000) ∧ Aside0 (bub m cur = insL out x) ∧ Aside0 ((kBs w).R 22 w' w.heap.size (fun _ => True) (.slice (some ⟨g, 0, none⟩) (out ++ [x]).length c5) cur) ∧ Aside0 (Below w.heap.size w w'))
        case atStart => exact ⟨i, out ++ [x], congrArg (Value.int .i64) hw4, ⟨by have := HI.out; rw [List.length_append, List.length_singleton]; omega⟩, ⟨by unfold insL; rw [HI.out.2.2.1]⟩, HO1, HB1⟩
        case round =>
          clear HO1 HB1
          obtain ⟨m, cur, rfl, HM, HBu, HO2, HB2⟩ := hrel
          have hlen1 : (out ++ [x]).length = cur.length := by rw [List.length_append, List.length_singleton]; have := HI.out; have := HM.out; omega
          rw [hlen1] at HO2
          have hlen2 : out.length + 1 = cur.length := by have := HI.out; have := HM.out; omega
          cases gk with
          | zero => exact absurd HM.out (by omega)
          | succ g2 =>
            by_cases hm0 : 0 < m
            · have dm : decide ((0 : Int) < (m : Int)) = true := decide_eq_true (by omega)
              obtain ⟨p, hmp⟩ : ∃ p, m = p + 1 := ⟨m - 1, by omega⟩
              have HMP := Aside0.mk hmp
              have hw5 : wrap64 ((m : Int) - 1) = (p : Int) := by unfold wrap64; have := HM.out; omega
              have pm : ((0 : Int) ≤ (m : Int)) = True := eq_true (by omega)
              have qm : ((m : Int) < (cur.length : Int)) = True := eq_true (by have := HM.out; omega)
              have pp : ((0 : Int) ≤ (p : Int)) = True := eq_true (by omega)
              have qp : ((p : Int) < (cur.length : Int)) = True := eq_true (by have := HM.out; omega)
              obtain ⟨ad, Am, cm, hA, hm1, gm⟩ := old_at HO2.out m (by have := HM.out; omega)
              obtain ⟨ad', Ap, cp, hA', hp1, gp⟩ := old_at HO2.out p (by have := HM.out; omega)
              rw [hA] at hA'
              cases hA'
              have HAD : Aside0 (ad = ⟨g, 0, none⟩) := ⟨(Option.some.inj hA).symm⟩
              have hA2 : (some ⟨g, 0, none⟩ : Option Addr) = some ad := hA
              have HBS : Aside0 (bub m cur = if ltL (cur.getD m []) (cur.getD p []) = true then bub p ((cur.set m (cur.getD p [])).set p (cur.getD m [])) else cur) := ⟨by rw [hmp]; rfl⟩
              clear hmp hA
              generalize cur.getD m [] = xm at *
              generalize cur.getD p [] = xp at *
              have hcvm : ∀ n, (convert 22 9 (.slice Am xm.length cm)).run Tryz.prog (wr.drewN n) = .ok (.string (strOfNums xm)) (wr.drewN n) := fun n => Kd.C_string (P := Tryz.prog) (A := Am) (c := cm) Tryz.underlying22 Tryz.underlying5 Tryz.underlying9 (Kd.C_drewN (Kd.C_below gm.2 HB2.out) n)
              have hcvp : ∀ n, (convert 22 9 (.slice Ap xp.length cp)).run Tryz.prog (wr.drewN n) = .ok (.string (strOfNums xp)) (wr.drewN n) := fun n => Kd.C_string (P := Tryz.prog) (A := Ap) (c := cp) Tryz.underlying22 Tryz.underlying5 Tryz.underlying9 (Kd.C_drewN (Kd.C_below gp.2 HB2.out) n)
              rw [hA2] at HO2
              rw [hA2, hlen2]
              by_cases hlt : ltL xm xp = true
              · have hbl : Op.bytesLess (strOfNums xm).toList (strOfNums xp).toList = true := hlt
                go_wp2_with fail
                go_big_quiet_o (fail)
                have HOq := Aside0.mk (Kd.R_drewN HO2.out nq)
                have HBq := Aside0.mk (pw_below_drewN HB2.out nq)
                replace hm1 : (wr.drewN nq).cell? (ad.add m) = some (.slice Am xm.length cm) := hm1
                replace hp1 : (wr.drewN nq).cell? (ad.add p) = some (.slice Ap xp.length cp) := hp1
                clear hcvm hcvp HO2 HB2
                generalize wr.drewN nq = wq at *
                go_wp2_with fail
                refine start_ (n := 18) (S := fun w' => w'.cell? (ad.add m) = some (.slice Am xm.length cm) ∧ w'.cell? (ad.add p) = some (.slice Ap xp.length cp)) (ds := [15, 17]) #[false, false, false, false, false, false, false, false, false, false, false, false, false, false, false, false, false, false] (by kernel_rfl) rfl rfl ⟨hm1, hp1⟩ (fun hHeld => ?_); refine with_tabW chirographref07_sorted.tab9 chirographref07_sorted.bits9 (fun HT_ HW_ => ?_)
                have HB3 := Aside0.mk (below_drew HBq.out)
                have HO3 := Aside0.mk (Kd.R_drew HOq.out)
                have hm3 : wq.drew.cell? (ad.add m) = some (.slice Am xm.length cm) := hm1
                have hp3 : wq.drew.cell? (ad.add p) = some (.slice Ap xp.length cp) := hp1
                clear hm1 hp1 HBq HOq
                generalize wq.drew = w3 at *
                refine pure_ (i := 0) (N := some 40) (v := ?_) (a' := ?_) #[true, false, false, false, false, false, false, false, false, false, false, false, false, false, false, false, false, false] rfl rfl (any_of HT_.out (by kernel_rfl)) (fun _ _ _ h => h) (Or.inl ⟨by rfl, ?_⟩) ?_ ?_; rotate_left; (intro w'; go_simp; with_reducible rfl); rotate_left; (simp only [Act.put, List.setIfInBounds_toArray, List.set_cons_zero, List.set_cons_succ, i64_w, i32_w]; rfl)
                refine pure_ (i := 1) (N := some 41) (v := ?_) (a' := ?_) #[true, true, false, false, false, false, false, false, false, false, false, false, false, false, false, false, false, false] rfl rfl (any_of HT_.out (by kernel_rfl)) (fun _ _ _ h => h) (Or.inl ⟨by rfl, ?_⟩) ?_ ?_; rotate_left; (intro w'; go_simp; with_reducible rfl); rotate_left; (simp only [Act.put, List.setIfInBounds_toArray, List.set_cons_zero, List.set_cons_succ, i64_w, i32_w]; rfl)
                refine pure_ (i := 2) (N := some 42) (v := ?_) (a' := ?_) #[true, true, true, false, false, false, false, false, false, false, false, false, false, false, false, false, false, false] rfl rfl (any_of HT_.out (by kernel_rfl)) (fun _ _ _ h => h) (Or.inl ⟨by rfl, ?_⟩) ?_ ?_; rotate_left; (intro w'; go_simp; with_reducible rfl); rotate_left; (simp only [Act.put, List.setIfInBounds_toArray, List.set_cons_zero, List.set_cons_succ, i64_w, i32_w]; rfl)
                refine pure_ (i := 3) (N := some 43) (v := ?_) (a' := ?_) #[true, true, true, true, false, false, false, false, false, false, false, false, false, false, false, false, false, false] rfl rfl (any_of HT_.out (by kernel_rfl)) (fun _ _ _ h => h) (Or.inl ⟨by rfl, ?_⟩) ?_ ?_; rotate_left; (intro w'; go_simp; with_reducible rfl); rotate_left; (simp only [Act.put, List.setIfInBounds_toArray, List.set_cons_zero, List.set_cons_succ, i64_w, i32_w]; rfl)
                refine pure_ (i := 4) (N := some 44) (v := ?_) (a' := ?_) #[true, true, true, true, true, false, false, false, false, false, false, false, false, false, false, false, false, false] rfl rfl (any_of HT_.out (by kernel_rfl)) (fun _ _ _ h => h) (Or.inl ⟨by rfl, ?_⟩) ?_ ?_; rotate_left; (intro w'; go_simp; with_reducible rfl); rotate_left; (simp only [Act.put, List.setIfInBounds_toArray, List.set_cons_zero, List.set_cons_succ, i64_w, i32_w]; rfl)
                refine pure_ (i := 5) (N := some 45) (v := ?_) (a' := ?_) #[true, true, true, true, true, true, false, false, false, false, false, false, false, false, false, false, false, false] rfl rfl (any_of HT_.out (by kernel_rfl)) (fun _ _ _ h => h) (Or.inl ⟨by rfl, ?_⟩) ?_ ?_; rotate_left; (intro w'; go_simp; with_reducible rfl); rotate_left; (simp only [Act.put, List.setIfInBounds_toArray, List.set_cons_zero, List.set_cons_succ, i64_w, i32_w]; rfl)
                refine pure_ (i := 6) (N := some 46) (v := ?_) (a' := ?_) #[true, true, true, true, true, true, true, false, false, false, false, false, false, false, false, false, false, false] rfl rfl (any_of HT_.out (by kernel_rfl)) (fun _ _ _ h => h) (Or.inl ⟨by rfl, ?_⟩) ?_ ?_; rotate_left; (intro w'; go_simp; with_reducible rfl); rotate_left; (simp only [Act.put, List.setIfInBounds_toArray, List.set_cons_zero, List.set_cons_succ, i64_w, i32_w]; rfl)
                refine pure_ (i := 7) (N := some 47) (v := ?_) (a' := ?_) #[true, true, true, true, true, true, true, true, false, false, false, false, false, false, false, false, false, false] rfl rfl (any_of HT_.out (by kernel_rfl)) (fun _ _ _ h => h) (Or.inl ⟨by rfl, ?_⟩) ?_ ?_; rotate_left; (intro w'; go_simp; with_reducible rfl); rotate_left; (simp only [Act.put, List.setIfInBounds_toArray, List.set_cons_zero, List.set_cons_succ, i64_w, i32_w]; rfl)
                refine pure_ (i := 8) (N := some 48) (v := ?_) (a' := ?_) #[true, true, true, true, true, true, true, true, true, false, false, false, false, false, false, false, false, false] rfl rfl (any_of HT_.out (by kernel_rfl)) (fun _ _ _ h => h) (Or.inl ⟨by rfl, ?_⟩) ?_ ?_; rotate_left; (intro w'; go_simp; with_reducible rfl); rotate_left; (simp only [Act.put, List.setIfInBounds_toArray, List.set_cons_zero, List.set_cons_succ, i64_w, i32_w]; rfl)
                refine take_ (i := 9) (N := some 49) (v := ?_) (a' := ?_) #[true, true, true, true, true, true, true, true, true, true, false, false, false, false, false, false, false, false] rfl rfl (take_ofW HT_.out HW_.out (by kernel_rfl)) (fun _ _ _ h => h) (Or.inl ⟨by rfl, ?_⟩) hHeld ?_ ?_; rotate_left; (rintro w' ⟨s0, s1⟩; go_simp; with_reducible rfl); rotate_left; (simp only [Act.put, List.setIfInBounds_toArray, List.set_cons_zero, List.set_cons_succ, i64_w, i32_w]; rfl)
                refine pure_ (i := 10) (N := some 50) (v := ?_) (a' := ?_) #[true, true, true, true, true, true, true, true, true, true, true, false, false, false, false, false, false, false] rfl rfl (any_of HT_.out (by kernel_rfl)) (fun _ _ _ h => h) (Or.inl ⟨by rfl, ?_⟩) ?_ ?_; rotate_left; (intro w'; go_simp; with_reducible rfl); rotate_left; (simp only [Act.put, List.setIfInBounds_toArray, List.set_cons_zero, List.set_cons_succ, i64_w, i32_w]; rfl)
                refine pure_ (i := 11) (N := some 51) (v := ?_) (a' := ?_) #[true, true, true, true, true, true, true, true, true, true, true, true, false, false, false, false, false, false] rfl rfl (any_of HT_.out (by kernel_rfl)) (fun _ _ _ h => h) (Or.inl ⟨by rfl, ?_⟩) ?_ ?_; rotate_left; (intro w'; go_simp; with_reducible rfl); rotate_left; (simp only [Act.put, List.setIfInBounds_toArray, List.set_cons_zero, List.set_cons_succ, i64_w, i32_w]; rfl)
                refine pure_ (i := 12) (N := some 52) (v := ?_) (a' := ?_) #[true, true, true, true, true, true, true, true, true, true, true, true, true, false, false, false, false, false] rfl rfl (any_of HT_.out (by kernel_rfl)) (fun _ _ _ h => h) (Or.inl ⟨by rfl, ?_⟩) ?_ ?_; rotate_left; (intro w'; go_simp; with_reducible rfl); rotate_left; (simp only [Act.put, List.setIfInBounds_toArray, List.set_cons_zero, List.set_cons_succ, i64_w, i32_w]; rfl)
                refine take_ (i := 13) (N := some 53) (v := ?_) (a' := ?_) #[true, true, true, true, true, true, true, true, true, true, true, true, true, true, false, false, false, false] rfl rfl (take_ofW HT_.out HW_.out (by kernel_rfl)) (fun _ _ _ h => h) (Or.inl ⟨by rfl, ?_⟩) hHeld ?_ ?_; rotate_left; (rintro w' ⟨s0, s1⟩; go_simp; with_reducible rfl); rotate_left; (simp only [Act.put, List.setIfInBounds_toArray, List.set_cons_zero, List.set_cons_succ, i64_w, i32_w]; rfl)
                refine pure_ (i := 14) (N := some 54) (v := ?_) (a' := ?_) #[true, true, true, true, true, true, true, true, true, true, true, true, true, true, true, false, false, false] rfl rfl (any_of HT_.out (by kernel_rfl)) (fun _ _ _ h => h) (Or.inl ⟨by rfl, ?_⟩) ?_ ?_; rotate_left; (intro w'; go_simp; with_reducible rfl); rotate_left; (simp only [Act.put, List.setIfInBounds_toArray, List.set_cons_zero, List.set_cons_succ, i64_w, i32_w]; rfl)
                refine last_ (i := 15) (N := none) #[true, true, true, true, true, true, true, true, true, true, true, true, true, true, true, true, false, false] rfl rfl (one_of HT_.out (by kernel_rfl)) (by decide) (fun K hK => ?_)
                refine R_store_step (kBs w) (w0 := w) w.heap.size (by rfl) rfl 22 (.tmp 54) (.tmp 49) rfl 22 (g := g) (n := cur.length) (cap := c5) (o' := m) (m : Int) 0 (cur) xp (.slice Ap xp.length cp) [.slice Ap xp.length cp] [.slice Am xm.length cm] (fun _ => True) (fun _ => False) ?aA ?aF rfl rfl (by kernel_rfl) ?a1 (by have := HO3.out; rw [HAD.out] at this; exact this) (by omega) ?ai rfl ?ac (Nat.le_refl 1) ?aM (fun _ hk => hk.elim) HB3.out ?_
                case aA => show Value.pointer (some (ad.add m)) = _; rw [HAD.out, add_plain]
                case aF => show m = (m : Int).toNat * 1 + 0; omega
                case a1 => intro q hq; rw [List.mem_singleton.1 hq]; rfl
                case ai => have := HM.out; have := HMP.out; omega
                case ac =>
                  intro jj uu hu
                  obtain ⟨rfl, rfl⟩ : jj = 0 ∧ uu = .slice Am xm.length cm := by cases jj with | zero => exact ⟨rfl, (Option.some.inj hu).symm⟩ | succ z => cases hu
                  rw [Int.toNat_natCast, show m * (kBs w).sz + 0 = m from Nat.mul_one _, ← add_plain, ← HAD.out]
                  exact hm3
                case aM => exact ⟨_, _, rfl, gp⟩
                intro w4 ho hb hgr
                refine hK.out _ _ ?_
                clear hK K
                have HO4 := Aside0.mk ho
                have HB4 := Aside0.mk hb
                clear ho hb hgr
                obtain ⟨ad4, A4, c4, e4, hp4, _⟩ := old_at (A := some ⟨g, 0, none⟩) (cap := c5) (xs := cur.set (m : Int).toNat xp) (by rw [List.length_set]; exact HO4.out) p (by rw [List.length_set]; have := HM.out; have := HMP.out; omega)
                cases e4
                refine pure_ (i := 16) (N := some 55) (v := ?_) (a' := ?_) #[true, true, true, true, true, true, true, true, true, true, true, true, true, true, true, true, true, false] rfl rfl (any_of HT_.out (by kernel_rfl)) (fun _ _ _ h => h) (Or.inl ⟨by rfl, ?_⟩) ?_ ?_; rotate_left; (intro w'; go_simp; with_reducible rfl); rotate_left; (simp only [Act.put, List.setIfInBounds_toArray, List.set_cons_zero, List.set_cons_succ, i64_w, i32_w]; rfl)
                refine last_ (i := 17) (N := none) #[true, true, true, true, true, true, true, true, true, true, true, true, true, true, true, true, true, true] rfl rfl (one_of HT_.out (by kernel_rfl)) (by decide) (fun K hK => ?_)
                refine R_store_step (kBs w) (w0 := w) w.heap.size (by rfl) rfl 22 (.tmp 55) (.tmp 53) rfl 22 (g := g) (n := cur.length) (cap := c5) (o' := p) (p : Int) 0 (cur.set (m : Int).toNat xp) xm (.slice Am xm.length cm) [.slice Am xm.length cm] [.slice A4 ((cur.set (m : Int).toNat xp).getD p []).length c4] (fun _ => True) (fun _ => False) ?aA ?aF rfl rfl (by kernel_rfl) ?a1 HO4.out (by omega) ?ai rfl ?ac (Nat.le_refl 1) ?aM (fun _ hk => hk.elim) HB4.out ?_
                case aA => show Value.pointer (some (ad.add p)) = _; rw [HAD.out, add_plain]
                case aF => show p = (p : Int).toNat * 1 + 0; omega
                case a1 => intro q hq; rw [List.mem_singleton.1 hq]; rfl
                case ai => have := HM.out; have := HMP.out; omega
                case ac =>
                  intro jj uu hu
                  obtain ⟨rfl, rfl⟩ : jj = 0 ∧ uu = .slice A4 ((cur.set (m : Int).toNat xp).getD p []).length c4 := by cases jj with | zero => exact ⟨rfl, (Option.some.inj hu).symm⟩ | succ z => cases hu
                  rw [Int.toNat_natCast, show p * (kBs w).sz + 0 = p from Nat.mul_one _, ← add_plain]
                  exact hp4
                case aM => exact ⟨_, _, rfl, gm⟩
                intro w5 ho hb hgr
                refine hK.out _ _ ?_
                clear hK K
                have HO5 := Aside0.mk ho
                have HB5 := Aside0.mk hb
                clear ho hb hgr
                refine done_ (done_of HT_.out (by kernel_rfl)) ?_
                go_wp2_with fail
                rw [HAD.out, ← hlen2]
                go_roundg g2
                case measure => exact Nat.lt_succ_self _
                case rel => exact ⟨p, (cur.set (m : Int).toNat xp).set (p : Int).toNat xm, congrArg (Value.int .i64) (by first | exact hw5 | omega), ⟨by rw [List.length_set, List.length_set]; have := HM.out; have := HMP.out; omega⟩, ⟨by have := HBu.out; rw [HBS.out, if_pos hlt] at this; simpa using this⟩, ⟨by rw [hlen1]; exact HO5.out⟩, HB5⟩
              · have hbl : Op.bytesLess (strOfNums xm).toList (strOfNums xp).toList = false := by simpa [ltL] using hlt
                go_wp2_with fail
                go_big_quiet_o (fail)
                go_wp2_with fail
                go_roundg g1
                case measure => exact Nat.lt_succ_self _
                case rel => exact ⟨i + 1, cur, congrArg (Value.int .i64) (by first | exact hw3 | omega), ⟨by have := HM.out; have := HI.out; omega⟩, ⟨by have := HBu.out; rw [HBS.out, if_neg hlt] at this; rw [this]; exact HS1.out⟩, ⟨Kd.R_drewN HO2.out nq⟩, ⟨pw_below_drewN HB2.out nq⟩⟩
            · obtain rfl : m = 0 := by omega
              go_wp2_with fail
              go_big_quiet_o (fail)
              go_wp2_with fail
              rw [hlen2]
              go_roundg g1
              case measure => exact Nat.lt_succ_self _
              case rel => exact ⟨i + 1, cur, congrArg (Value.int .i64) (by first | exact hw3 | omega), ⟨by have := HM.out; have := HI.out; omega⟩, ⟨by have := HBu.out; rw [show cur = insL out x from this]; exact HS1.out⟩, ⟨Kd.R_drewN HO2.out nq⟩, ⟨pw_below_drewN HB2.out nq⟩⟩
      · have d1 : decide ((i : Int) < (l0.length : Int)) = false := decide_eq_false (by omega)
        have hie : i = l0.length := by have := HI.out; omega
        have HS1 : sortedL l0 = out := by rw [HS.out, hie, List.drop_length]; rfl
        go_wp2_with fail
        go_ret
        exact ⟨_, rfl, by rw [HS1]; exact HO.out, HB.out⟩
end Go.Proofs.YtkioddjjfifadaaGreatDoor.P
namespace Go.Proofs.YtkioddjjfifadaaGreatDoor.P
open Go.RowKit Go.Proofs.YtkioddjjfifadaaGreatDoorW.PrintWords Go.Proofs.YtkioddjjfifadaaGreatDoorW.PrintLast Go.Proofs.YtkioddjjfifadaaGreatDoorW.PrintMore
attribute [local go_sem] max2_int min2_int max_two min_two max_three min_three max_four min_four   -- for this text's walks alone
set_option linter.unusedVariables false
set_option linter.unusedSimpArgs false
mutual
def chirographref06_whole.j2 : Nat → List Int → Int → Int → Int → Int → Option (Int)
  | 0, _, _, _, _, _ => none
  | k + 1, x0, x1, x6, x7, x8 => if (wrap64 (x1 + x6)) > (x0.length : Int) then (some 0) else (chirographref06_whole.l0 k x0 x1 x6 x7 x8 (wrap64 (x1 + 1)))
def chirographref06_whole.l0 : Nat → List Int → Int → Int → Int → Int → Int → Option (Int)
  | 0, _, _, _, _, _, _ => none
  | k + 1, x0, x1, x6, x7, x8, x9 => if x9 < (wrap64 (x1 + x6)) then (if 0 ≤ x9 then (if x9 < (x0.length : Int) then (if (rd x0 x9) < 128 then (some 0) else (if (rd x0 x9) ≥ 192 then (some 0) else (chirographref06_whole.l0 k x0 x1 x6 (wrap64 ((wrap64 ((wrap64 (x7 * 64)) + (wrap64 (rd x0 x9)))) - 128)) x8 (wrap64 (x9 + 1))))) else (none)) else (none)) else (if x7 < x8 then (some 0) else (if x7 > 1114111 then (some 0) else (if x7 ≥ 55296 then (if x7 ≤ 57343 then (some 0) else (some x6)) else (some x6))))
def chirographref06_whole.j0 : Nat → List Int → Int → Int → Bool → Option (Int)
  | 0, _, _, _, _ => none
  | k + 1, x0, x1, x5, x18 => if x18 = true then (chirographref06_whole.j2 k x0 x1 2 (wrap64 (x5 - 192)) 128) else (if x5 ≥ 224 then (chirographref06_whole.j1 k x0 x1 x5 (decide (x5 < 240))) else (chirographref06_whole.j1 k x0 x1 x5 false))
def chirographref06_whole.j1 : Nat → List Int → Int → Int → Bool → Option (Int)
  | 0, _, _, _, _ => none
  | k + 1, x0, x1, x5, x27 => if x27 = true then (chirographref06_whole.j2 k x0 x1 3 (wrap64 (x5 - 224)) 2048) else (if x5 ≥ 240 then (if x5 < 248 then (chirographref06_whole.j2 k x0 x1 4 (wrap64 (x5 - 240)) 65536) else (some 0)) else (some 0))
end
def chirographref06_whole.f (k : Nat) (l0 : List Int) (a1 : Int) : Option (Int) := if 0 ≤ a1 then (if a1 < (l0.length : Int) then (if (wrap64 (rd l0 a1)) < 128 then (some 1) else (if (wrap64 (rd l0 a1)) ≥ 192 then (chirographref06_whole.j0 k l0 a1 (wrap64 (rd l0 a1)) (decide ((wrap64 (rd l0 a1)) < 224))) else (chirographref06_whole.j0 k l0 a1 (wrap64 (rd l0 a1)) false))) else (none)) else (none)
set_option maxHeartbeats 8000000 in
set_option maxRecDepth 100000 in
theorem chirographref06_whole.calls (k : Nat) (A0 : Option Addr) (c0 : Nat) (l0 : List Int) (a1 : Int) (r : Int) (w : World) (hr0 : Kd.C (Kd.int .u8) w A0 l0.length l0) (hc0 : l0.length ≤ c0) (h : chirographref06_whole.f k l0 a1 = some r) :
    Calls Tryz.prog 253 #[.slice A0 l0.length c0, .int .i64 a1] w fun e w' => e = .returned (.int .i64 r) ∧ Drawn0 w w' := by
  have HR0 := Aside0.mk hr0
  have HC0 := Aside0.mk hc0
  clear hr0 hc0
  have H : (if 0 ≤ a1 then (if a1 < (l0.length : Int) then (if (wrap64 (rd l0 a1)) < 128 then (some 1) else (if (wrap64 (rd l0 a1)) ≥ 192 then (chirographref06_whole.j0 k l0 a1 (wrap64 (rd l0 a1)) (decide ((wrap64 (rd l0 a1)) < 224))) else (chirographref06_whole.j0 k l0 a1 (wrap64 (rd l0 a1)) false))) else (none)) else (none)) = some r := h
  clear h
  by_cases c3 : 0 ≤ a1
  · rw [if_pos c3] at H
    have c3b0 : decide (0 ≤ a1) = true := decide_eq_true c3
    clear c3
    by_cases c4 : a1 < (l0.length : Int)
    · rw [if_pos c4] at H
      have c4b0 : decide (a1 < (l0.length : Int)) = true := decide_eq_true c4
      clear c4
      have HC5 := Aside0.mk H
      clear H
      have p1067 : 0 ≤ (a1 : Int) := of_decide_eq_true (by first | (with_reducible assumption) | assumption)
      have q1067 : a1 < (l0.length : Int) := of_decide_eq_true (by first | (with_reducible assumption) | assumption)
      obtain ⟨ad1067, e1067, hx1067_0⟩ := Kd.at_int HR0.out a1 p1067 q1067
      cases e1067
      replace p1067 := eq_true p1067
      replace q1067 := eq_true q1067
      go_enter Tryz.func253, Tryz.ntmps253
      go_upto_block 0 with (fail)
      go_cut [6, 7, 8] (fun v6 v7 v8 wc => ∃ (kq : Nat) (x6_4 : Int) (x7_4 : Int) (x8_4 : Int), v6 = .int .i64 x6_4 ∧ v7 = .int .i64 x7_4 ∧ v8 = .int .i64 x8_4 ∧ Aside0 (chirographref06_whole.j2 kq l0 a1 x6_4 x7_4 x8_4 = some r) ∧ Aside0 (kq ≤ k) ∧ Drawn0 w wc)
      case first =>
        have H := HC5.out
        clear HC5
        by_cases c6 : (wrap64 (rd l0 a1)) < 128
        · rw [if_pos c6] at H
          have c6b0 : decide ((wrap64 (rd l0 a1)) < 128) = true := decide_eq_true c6
          clear c6
          (first | rw [c6b0] | (simp only [i64_w, i32_w]; rw [c6b0]) | skip)
          obtain rfl := Option.some.inj H
          go_wp2
          go_ret
          exact ⟨by first | rfl | (simp; done) | (simp [*]; done), by repeat (first | exact Drawn0.refl _ | apply Drawn0.step)⟩
        · rw [if_neg c6] at H
          have c6b0 : decide ((wrap64 (rd l0 a1)) < 128) = false := decide_eq_false c6
          clear c6
          (first | rw [c6b0] | (simp only [i64_w, i32_w]; rw [c6b0]) | skip)
          have HC7 := Aside0.mk H
          clear H
          go_upto_region 6 with (fail)
          go_cut [18] (fun v18 wc => ∃ (kq : Nat) (x18_6 : Bool), v18 = .bool x18_6 ∧ Aside0 (chirographref06_whole.j0 kq l0 a1 (wrap64 (rd l0 a1)) x18_6 = some r) ∧ Aside0 (kq ≤ k) ∧ Drawn0 w wc)
          case first =>
            have H := HC7.out
            clear HC7
            by_cases c8 : (wrap64 (rd l0 a1)) ≥ 192
            · rw [if_pos c8] at H
              have c8b0 : decide (192 ≤ (wrap64 (rd l0 a1))) = true := decide_eq_true c8
              clear c8
              (first | rw [c8b0] | (simp only [i64_w, i32_w]; rw [c8b0]) | skip)
              have H' := Aside0.mk H
              clear H
              go_wp2
              go_meet
              case rel => exact ⟨_, (decide ((wrap64 (rd l0 a1)) < 224)), (by first | rfl | (simp; done) | (simp [*]; done)), H', ⟨by first | omega | exact Nat.le_refl _⟩, by repeat (first | exact Drawn0.refl _ | apply Drawn0.step)⟩
            · rw [if_neg c8] at H
              have c8b0 : decide (192 ≤ (wrap64 (rd l0 a1))) = false := decide_eq_false c8
              clear c8
              (first | rw [c8b0] | (simp only [i64_w, i32_w]; rw [c8b0]) | skip)
              have H' := Aside0.mk H
              clear H
              go_wp2
              go_meet
              case rel => exact ⟨_, (false), (by first | rfl | (simp; done) | (simp [*]; done)), H', ⟨by first | omega | exact Nat.le_refl _⟩, by repeat (first | exact Drawn0.refl _ | apply Drawn0.step)⟩
          case rest =>
            clear HC7
            try clear p1
            try clear q1
            try clear hx1
            try clear c2
            try clear p2
            try clear c3
            try clear c3b0
            try clear c4
            try clear c4b0
            try clear c6
            try clear c6b0
            try clear p6
            try clear c8
            try clear c8b0
            try clear hx1067_0
            try clear p1067
            try clear q1067
            obtain ⟨kq, x18_6, rfl, HA, HJ6, ⟨mc6, rfl⟩⟩ := hcut
            cases kq with
            | zero => exact absurd HA.out (by simp [chirographref06_whole.j0])
            | succ kj6 =>
              have H := HA.out
              clear HA
              simp only [chirographref06_whole.j0] at H
              by_cases c9 : x18_6 = true
              · subst c9
                have H1 : (chirographref06_whole.j2 kj6 l0 a1 2 (wrap64 ((wrap64 (rd l0 a1)) - 192)) 128) = some r := by rw [if_pos rfl] at H; exact H
                clear H
                have H := H1
                clear H1
                have H' := Aside0.mk H
                clear H
                go_wp2
                go_meet
                case rel => exact ⟨_, (2), (wrap64 ((wrap64 (rd l0 a1)) - 192)), (128), (by first | rfl | (simp; done) | (simp [*]; done)), (by first | rfl | (simp; done) | (simp [*]; done)), (by first | rfl | (simp; done) | (simp [*]; done)), H', ⟨by have := HJ6.out; first | omega | exact Nat.le_refl _⟩, by repeat (first | exact Drawn0.refl _ | apply Drawn0.step)⟩
              · replace c9 := Bool.eq_false_iff.mpr c9
                subst c9
                have H1 : (if (wrap64 (rd l0 a1)) ≥ 224 then (chirographref06_whole.j1 kj6 l0 a1 (wrap64 (rd l0 a1)) (decide ((wrap64 (rd l0 a1)) < 240))) else (chirographref06_whole.j1 kj6 l0 a1 (wrap64 (rd l0 a1)) false)) = some r := by rw [if_neg (show ¬ (false = true) by decide)] at H; exact H
                clear H
                have H := H1
                clear H1
                have HC10 := Aside0.mk H
                clear H
                go_upto_region 8 with (fail)
                go_cut [27] (fun v27 wc => ∃ (kq : Nat) (x27_9 : Bool), v27 = .bool x27_9 ∧ Aside0 (chirographref06_whole.j1 kq l0 a1 (wrap64 (rd l0 a1)) x27_9 = some r) ∧ Aside0 (kq ≤ kj6) ∧ Drawn0 w wc)
                case first =>
                  have H := HC10.out
                  clear HC10
                  by_cases c11 : (wrap64 (rd l0 a1)) ≥ 224
                  · rw [if_pos c11] at H
                    have c11b0 : decide (224 ≤ (wrap64 (rd l0 a1))) = true := decide_eq_true c11
                    clear c11
                    (first | rw [c11b0] | (simp only [i64_w, i32_w]; rw [c11b0]) | skip)
                    have H' := Aside0.mk H
                    clear H
                    go_wp2
                    go_meet
                    case rel => exact ⟨_, (decide ((wrap64 (rd l0 a1)) < 240)), (by first | rfl | (simp; done) | (simp [*]; done)), H', ⟨by have := HJ6.out; first | omega | exact Nat.le_refl _⟩, by repeat (first | exact Drawn0.refl _ | apply Drawn0.step)⟩
                  · rw [if_neg c11] at H
                    have c11b0 : decide (224 ≤ (wrap64 (rd l0 a1))) = false := decide_eq_false c11
                    clear c11
                    (first | rw [c11b0] | (simp only [i64_w, i32_w]; rw [c11b0]) | skip)
                    have H' := Aside0.mk H
                    clear H
                    go_wp2
                    go_meet
                    case rel => exact ⟨_, (false), (by first | rfl | (simp; done) | (simp [*]; done)), H', ⟨by have := HJ6.out; first | omega | exact Nat.le_refl _⟩, by repeat (first | exact Drawn0.refl _ | apply Drawn0.step)⟩
                case rest =>
                  clear HC10
                  try clear c1
                  try clear p1
                  try clear q1
                  try clear hx1
                  try clear c2
                  try clear p2
                  try clear c3
                  try clear c3b0
                  try clear c4
                  try clear c4b0
                  try clear c6
                  try clear c6b0
                  try clear p6
                  try clear c8
                  try clear c8b0
                  try clear c9
                  try clear p10
                  try clear q10
                  try clear hx10
                  try clear c11
                  try clear c11b0
                  try clear hx1067_0
                  try clear p1
                  try clear p1067
                  try clear p2
                  try clear p6
                  try clear q1
                  try clear q1067
                  obtain ⟨kq, x27_9, rfl, HA, HJ9, ⟨mc9, rfl⟩⟩ := hcut
                  cases kq with
                  | zero => exact absurd HA.out (by simp [chirographref06_whole.j1])
                  | succ kj9 =>
                    have H := HA.out
                    clear HA
                    simp only [chirographref06_whole.j1] at H
                    by_cases c12 : x27_9 = true
                    · subst c12
                      have H1 : (chirographref06_whole.j2 kj9 l0 a1 3 (wrap64 ((wrap64 (rd l0 a1)) - 224)) 2048) = some r := by rw [if_pos rfl] at H; exact H
                      clear H
                      have H := H1
                      clear H1
                      have H' := Aside0.mk H
                      clear H
                      go_wp2
                      go_meet
                      case rel => exact ⟨_, (3), (wrap64 ((wrap64 (rd l0 a1)) - 224)), (2048), (by first | rfl | (simp; done) | (simp [*]; done)), (by first | rfl | (simp; done) | (simp [*]; done)), (by first | rfl | (simp; done) | (simp [*]; done)), H', ⟨by have := HJ6.out; have := HJ9.out; first | omega | exact Nat.le_refl _⟩, by repeat (first | exact Drawn0.refl _ | apply Drawn0.step)⟩
                    · replace c12 := Bool.eq_false_iff.mpr c12
                      subst c12
                      have H1 : (if (wrap64 (rd l0 a1)) ≥ 240 then (if (wrap64 (rd l0 a1)) < 248 then (chirographref06_whole.j2 kj9 l0 a1 4 (wrap64 ((wrap64 (rd l0 a1)) - 240)) 65536) else (some 0)) else (some 0)) = some r := by rw [if_neg (show ¬ (false = true) by decide)] at H; exact H
                      clear H
                      have H := H1
                      clear H1
                      by_cases c13 : (wrap64 (rd l0 a1)) ≥ 240
                      · rw [if_pos c13] at H
                        have c13b0 : decide (240 ≤ (wrap64 (rd l0 a1))) = true := decide_eq_true c13
                        clear c13
                        by_cases c14 : (wrap64 (rd l0 a1)) < 248
                        · rw [if_pos c14] at H
                          have c14b0 : decide ((wrap64 (rd l0 a1)) < 248) = true := decide_eq_true c14
                          clear c14
                          have H' := Aside0.mk H
                          clear H
                          go_wp2
                          go_meet
                          case rel => exact ⟨_, (4), (wrap64 ((wrap64 (rd l0 a1)) - 240)), (65536), (by first | rfl | (simp; done) | (simp [*]; done)), (by first | rfl | (simp; done) | (simp [*]; done)), (by first | rfl | (simp; done) | (simp [*]; done)), H', ⟨by have := HJ6.out; have := HJ9.out; first | omega | exact Nat.le_refl _⟩, by repeat (first | exact Drawn0.refl _ | apply Drawn0.step)⟩
                        · rw [if_neg c14] at H
                          have c14b0 : decide ((wrap64 (rd l0 a1)) < 248) = false := decide_eq_false c14
                          clear c14
                          obtain rfl := Option.some.inj H
                          go_wp2
                          go_ret
                          exact ⟨by first | rfl | (simp; done) | (simp [*]; done), by repeat (first | exact Drawn0.refl _ | apply Drawn0.step)⟩
                      · rw [if_neg c13] at H
                        have c13b0 : decide (240 ≤ (wrap64 (rd l0 a1))) = false := decide_eq_false c13
                        clear c13
                        obtain rfl := Option.some.inj H
                        go_wp2
                        go_ret
                        exact ⟨by first | rfl | (simp; done) | (simp [*]; done), by repeat (first | exact Drawn0.refl _ | apply Drawn0.step)⟩
      case rest =>
        clear HC5
        try clear c1
        try clear p1
        try clear q1
        try clear hx1
        try clear c2
        try clear p2
        try clear c3
        try clear c3b0
        try clear c4
        try clear c4b0
        try clear c6
        try clear c6b0
        try clear p6
        try clear c8
        try clear c8b0
        try clear c9
        try clear p10
        try clear q10
        try clear hx10
        try clear c11
        try clear c11b0
        try clear c12
        try clear c13
        try clear c13b0
        try clear c14
        try clear c14b0
        try clear hx1067_0
        try clear p1
        try clear p10
        try clear p1067
        try clear p2
        try clear p6
        try clear q1
        try clear q10
        try clear q1067
        obtain ⟨kq, x6_4, x7_4, x8_4, rfl, rfl, rfl, HA, HJ4, ⟨mc4, rfl⟩⟩ := hcut
        cases kq with
        | zero => exact absurd HA.out (by simp [chirographref06_whole.j2])
        | succ kj4 =>
          have H := HA.out
          clear HA
          simp only [chirographref06_whole.j2] at H
          by_cases c15 : (wrap64 (a1 + x6_4)) > (l0.length : Int)
          · rw [if_pos c15] at H
            have c15b0 : decide ((l0.length : Int) < (wrap64 (a1 + x6_4))) = true := decide_eq_true c15
            clear c15
            obtain rfl := Option.some.inj H
            go_wp2
            go_ret
            exact ⟨by first | rfl | (simp; done) | (simp [*]; done), by repeat (first | exact Drawn0.refl _ | apply Drawn0.step)⟩
          · rw [if_neg c15] at H
            have c15b0 : decide ((l0.length : Int) < (wrap64 (a1 + x6_4))) = false := decide_eq_false c15
            clear c15
            have H' := Aside0.mk H
            clear H
            go_wp2
            go_loopg [7, 9] kj4 (fun kq v7 v9 w' => ∃ (x7_2 : Int) (x9_2 : Int), v7 = .int .i64 x7_2 ∧ v9 = .int .i64 x9_2 ∧ Aside0 (chirographref06_whole.l0 kq l0 a1 x6_4 x7_2 x8_4 x9_2 = some r) ∧ Aside0 (kq ≤ kj4) ∧ Drawn0 w w')
            case atStart => exact ⟨(x7_4), (wrap64 (a1 + 1)), (by first | rfl | (simp; done) | (simp [*]; done)), (by first | rfl | (simp; done) | (simp [*]; done)), H', ⟨Nat.le_refl _⟩, by repeat (first | exact Drawn0.refl _ | apply Drawn0.step)⟩
            case round =>
              clear H'
              try clear c1
              try clear p1
              try clear q1
              try clear hx1
              try clear c2
              try clear p2
              try clear c3
              try clear c3b0
              try clear c4
              try clear c4b0
              try clear c6
              try clear c6b0
              try clear p6
              try clear c8
              try clear c8b0
              try clear c9
              try clear p10
              try clear q10
              try clear hx10
              try clear c11
              try clear c11b0
              try clear c12
              try clear c13
              try clear c13b0
              try clear c14
              try clear c14b0
              try clear c15
              try clear c15b0
              try clear hx1067_0
              try clear p1
              try clear p10
              try clear p1067
              try clear p2
              try clear p6
              try clear q1
              try clear q10
              try clear q1067
              obtain ⟨x7_2, x9_2, rfl, rfl, HA, HK2, ⟨m2, rfl⟩⟩ := hrel
              cases gk with
              | zero => exact absurd HA.out (by simp [chirographref06_whole.l0])
              | succ k2 =>
                have H := HA.out
                clear HA
                simp only [chirographref06_whole.l0] at H
                by_cases c16 : x9_2 < (wrap64 (a1 + x6_4))
                · rw [if_pos c16] at H
                  have c16b0 : decide (x9_2 < (wrap64 (a1 + x6_4))) = true := decide_eq_true c16
                  clear c16
                  by_cases c17 : 0 ≤ x9_2
                  · rw [if_pos c17] at H
                    have c17b0 : decide (0 ≤ x9_2) = true := decide_eq_true c17
                    clear c17
                    by_cases c18 : x9_2 < (l0.length : Int)
                    · rw [if_pos c18] at H
                      have c18b0 : decide (x9_2 < (l0.length : Int)) = true := decide_eq_true c18
                      clear c18
                      by_cases c19 : (rd l0 x9_2) < 128
                      · rw [if_pos c19] at H
                        have c19b0 : decide ((rd l0 x9_2) < 128) = true := decide_eq_true c19
                        clear c19
                        obtain rfl := Option.some.inj H
                        have p1068 : 0 ≤ (x9_2 : Int) := of_decide_eq_true (by first | (with_reducible assumption) | assumption)
                        have q1068 : x9_2 < (l0.length : Int) := of_decide_eq_true (by first | (with_reducible assumption) | assumption)
                        obtain ⟨ad1068, e1068, hx1068_0⟩ := Kd.at_int HR0.out x9_2 p1068 q1068
                        obtain rfl : ad1067 = ad1068 := (by injection e1068)
                        replace p1068 := eq_true p1068
                        replace q1068 := eq_true q1068
                        go_wp2
                        go_ret
                        exact ⟨by first | rfl | (simp; done) | (simp [*]; done), by repeat (first | exact Drawn0.refl _ | apply Drawn0.step)⟩
                      · rw [if_neg c19] at H
                        have c19b0 : decide ((rd l0 x9_2) < 128) = false := decide_eq_false c19
                        clear c19
                        by_cases c20 : (rd l0 x9_2) ≥ 192
                        · rw [if_pos c20] at H
                          have c20b0 : decide (192 ≤ (rd l0 x9_2)) = true := decide_eq_true c20
                          clear c20
                          obtain rfl := Option.some.inj H
                          have p1068 : 0 ≤ (x9_2 : Int) := of_decide_eq_true (by first | (with_reducible assumption) | assumption)
                          have q1068 : x9_2 < (l0.length : Int) := of_decide_eq_true (by first | (with_reducible assumption) | assumption)
                          obtain ⟨ad1068, e1068, hx1068_0⟩ := Kd.at_int HR0.out x9_2 p1068 q1068
                          obtain rfl : ad1067 = ad1068 := (by injection e1068)
                          replace p1068 := eq_true p1068
                          replace q1068 := eq_true q1068
                          have p1069 : 0 ≤ (x9_2 : Int) := of_decide_eq_true (by first | (with_reducible assumption) | assumption)
                          have q1069 : x9_2 < (l0.length : Int) := of_decide_eq_true (by first | (with_reducible assumption) | assumption)
                          obtain ⟨ad1069, e1069, hx1069_0⟩ := Kd.at_int HR0.out x9_2 p1069 q1069
                          obtain rfl : ad1067 = ad1069 := (by injection e1069)
                          replace p1069 := eq_true p1069
                          replace q1069 := eq_true q1069
                          go_wp2
                          go_ret
                          exact ⟨by first | rfl | (simp; done) | (simp [*]; done), by repeat (first | exact Drawn0.refl _ | apply Drawn0.step)⟩
                        · rw [if_neg c20] at H
                          have c20b0 : decide (192 ≤ (rd l0 x9_2)) = false := decide_eq_false c20
                          clear c20
                          have H' := Aside0.mk H
                          clear H
                          have p1068 : 0 ≤ (x9_2 : Int) := of_decide_eq_true (by first | (with_reducible assumption) | assumption)
                          have q1068 : x9_2 < (l0.length : Int) := of_decide_eq_true (by first | (with_reducible assumption) | assumption)
                          obtain ⟨ad1068, e1068, hx1068_0⟩ := Kd.at_int HR0.out x9_2 p1068 q1068
                          obtain rfl : ad1067 = ad1068 := (by injection e1068)
                          replace p1068 := eq_true p1068
                          replace q1068 := eq_true q1068
                          have p1069 : 0 ≤ (x9_2 : Int) := of_decide_eq_true (by first | (with_reducible assumption) | assumption)
                          have q1069 : x9_2 < (l0.length : Int) := of_decide_eq_true (by first | (with_reducible assumption) | assumption)
                          obtain ⟨ad1069, e1069, hx1069_0⟩ := Kd.at_int HR0.out x9_2 p1069 q1069
                          obtain rfl : ad1067 = ad1069 := (by injection e1069)
                          replace p1069 := eq_true p1069
                          replace q1069 := eq_true q1069
                          have p1070 : 0 ≤ (x9_2 : Int) := of_decide_eq_true (by first | (with_reducible assumption) | assumption)
                          have q1070 : x9_2 < (l0.length : Int) := of_decide_eq_true (by first | (with_reducible assumption) | assumption)
                          obtain ⟨ad1070, e1070, hx1070_0⟩ := Kd.at_int HR0.out x9_2 p1070 q1070
                          obtain rfl : ad1067 = ad1070 := (by injection e1070)
                          replace p1070 := eq_true p1070
                          replace q1070 := eq_true q1070
                          go_wp2
                          go_roundg k2
                          case measure => have := HJ4.out; have := HK2.out; omega
                          case rel => exact ⟨(wrap64 ((wrap64 ((wrap64 (x7_2 * 64)) + (wrap64 (rd l0 x9_2)))) - 128)), (wrap64 (x9_2 + 1)), (by first | rfl | (simp; done) | (simp [*]; done)), (by first | rfl | (simp; done) | (simp [*]; done)), H', ⟨by have := HJ4.out; have := HK2.out; omega⟩, by repeat (first | exact Drawn0.refl _ | apply Drawn0.step)⟩
                    · rw [if_neg c18] at H
                      exact absurd H (by simp)
                  · rw [if_neg c17] at H
                    exact absurd H (by simp)
                · rw [if_neg c16] at H
                  have c16b0 : decide (x9_2 < (wrap64 (a1 + x6_4))) = false := decide_eq_false c16
                  clear c16
                  by_cases c21 : x7_2 < x8_4
                  · rw [if_pos c21] at H
                    have c21b0 : decide (x7_2 < x8_4) = true := decide_eq_true c21
                    clear c21
                    obtain rfl := Option.some.inj H
                    go_wp2
                    go_ret
                    exact ⟨by first | rfl | (simp; done) | (simp [*]; done), by repeat (first | exact Drawn0.refl _ | apply Drawn0.step)⟩
                  · rw [if_neg c21] at H
                    have c21b0 : decide (x7_2 < x8_4) = false := decide_eq_false c21
                    clear c21
                    by_cases c22 : x7_2 > 1114111
                    · rw [if_pos c22] at H
                      have c22b0 : decide (1114111 < x7_2) = true := decide_eq_true c22
                      clear c22
                      obtain rfl := Option.some.inj H
                      go_wp2
                      go_ret
                      exact ⟨by first | rfl | (simp; done) | (simp [*]; done), by repeat (first | exact Drawn0.refl _ | apply Drawn0.step)⟩
                    · rw [if_neg c22] at H
                      have c22b0 : decide (1114111 < x7_2) = false := decide_eq_false c22
                      clear c22
                      by_cases c23 : x7_2 ≥ 55296
                      · rw [if_pos c23] at H
                        have c23b0 : decide (55296 ≤ x7_2) = true := decide_eq_true c23
                        clear c23
                        by_cases c24 : x7_2 ≤ 57343
                        · rw [if_pos c24] at H
                          have c24b0 : decide (x7_2 ≤ 57343) = true := decide_eq_true c24
                          clear c24
                          obtain rfl := Option.some.inj H
                          go_wp2
                          go_ret
                          exact ⟨by first | rfl | (simp; done) | (simp [*]; done), by repeat (first | exact Drawn0.refl _ | apply Drawn0.step)⟩
                        · rw [if_neg c24] at H
                          have c24b0 : decide (x7_2 ≤ 57343) = false := decide_eq_false c24
                          clear c24
                          obtain rfl := Option.some.inj H
                          go_wp2
                          go_ret
                          exact ⟨by first | rfl | (simp; done) | (simp [*]; done), by repeat (first | exact Drawn0.refl _ | apply Drawn0.step)⟩
                      · rw [if_neg c23] at H
                        have c23b0 : decide (55296 ≤ x7_2) = false := decide_eq_false c23
                        clear c23
                        obtain rfl := Option.some.inj H
                        go_wp2
                        go_ret
                        exact ⟨by first | rfl | (simp; done) | (simp [*]; done), by repeat (first | exact Drawn0.refl _ | apply Drawn0.step)⟩
    · rw [if_neg c4] at H
      exact absurd H (by simp)
  · rw [if_neg c3] at H
    exact absurd H (by simp)
end Go.Proofs.YtkioddjjfifadaaGreatDoor.P
namespace Go.Proofs.YtkioddjjfifadaaGreatDoor.P
open Go.RowKit Go.Proofs.YtkioddjjfifadaaGreatDoorW.PrintWords Go.Proofs.YtkioddjjfifadaaGreatDoorW.PrintLast Go.Proofs.YtkioddjjfifadaaGreatDoorW.PrintMore
attribute [local go_sem] max2_int min2_int max_two min_two max_three min_three max_four min_four   -- for this text's walks alone
set_option linter.unusedVariables false
set_option linter.unusedSimpArgs false
def chirographref06_utf8.l0 : Nat → List Int → Int → Option (Bool)
  | 0, _, _ => none
  | k + 1, x0, x3 => if x3 < (x0.length : Int) then ((chirographref06_whole.f k x0 x3).bind fun t1071 => (if t1071 = 0 then (some false) else (chirographref06_utf8.l0 k x0 (wrap64 (x3 + t1071))))) else (some true)
def chirographref06_utf8.f (k : Nat) (l0 : List Int) : Option (Bool) := chirographref06_utf8.l0 k l0 0
set_option maxHeartbeats 8000000 in
set_option maxRecDepth 100000 in
theorem chirographref06_utf8.calls (k : Nat) (A0 : Option Addr) (c0 : Nat) (l0 : List Int) (r : Bool) (w : World) (hr0 : Kd.C (Kd.int .u8) w A0 l0.length l0) (hc0 : l0.length ≤ c0) (h : chirographref06_utf8.f k l0 = some r) :
    Calls Tryz.prog 208 #[.slice A0 l0.length c0] w fun e w' => e = .returned (.bool r) ∧ Drawn0 w w' := by
  have HR0 := Aside0.mk hr0
  have HC0 := Aside0.mk hc0
  clear hr0 hc0
  have H : (chirographref06_utf8.l0 k l0 0) = some r := h
  clear h
  have H' := Aside0.mk H
  clear H
  go_enter Tryz.func208, Tryz.ntmps208
  go_wp2
  go_loopg [3] k (fun kq v3 w' => ∃ (x3_1 : Int), v3 = .int .i64 x3_1 ∧ Aside0 (chirographref06_utf8.l0 kq l0 x3_1 = some r) ∧ Aside0 (kq ≤ k) ∧ Drawn0 w w')
  case atStart => exact ⟨(0), (by first | rfl | (simp; done) | (simp [*]; done)), H', ⟨Nat.le_refl _⟩, by repeat (first | exact Drawn0.refl _ | apply Drawn0.step)⟩
  case round =>
    clear H'
    obtain ⟨x3_1, rfl, HA, HK1, ⟨m1, rfl⟩⟩ := hrel
    cases gk with
    | zero => exact absurd HA.out (by simp [chirographref06_utf8.l0])
    | succ k1 =>
      have H := HA.out
      clear HA
      simp only [chirographref06_utf8.l0] at H
      by_cases c2 : x3_1 < (l0.length : Int)
      · rw [if_pos c2] at H
        have c2b0 : decide (x3_1 < (l0.length : Int)) = true := decide_eq_true c2
        clear c2
        replace H := Option.bind_eq_some_iff.mp H
        obtain ⟨t1071, A30, H⟩ := H
        replace H : (if t1071 = 0 then (some false) else (chirographref06_utf8.l0 k1 l0 (wrap64 (x3_1 + t1071)))) = some r := H
        have A3 := Aside0.mk A30
        clear A30
        by_cases c4 : t1071 = 0
        · rw [if_pos c4] at H
          have c4b0 : (t1071 == 0) = true := beq_iff_eq.mpr c4
          have c4b1 : (t1071 != 0) = false := bne_eq_false_iff_eq.mpr c4
          clear c4
          obtain rfl := Option.some.inj H
          go_wp2_with (first | ((with_reducible refine gate_callee (f := 253) rfl ?_); refine goesL_ (some 11) rfl rfl Tryz.func253 (by kernel_rfl) rfl #[.slice A0 l0.length c0, .int .i64 x3_1] rfl (by (try simp only [List.map_toArray, List.map_cons, List.map_nil]); first | done | rfl | (simp only [List.length_drop, List.length_take]; rfl)) ?_; (with_reducible refine (chirographref06_whole.calls k1 _ _ l0 x3_1 t1071 _ ?side1 ?side2 A3.out).mono ?_); (case side1 => repeat (first | exact HR0.out | (with_reducible refine Kd.C_alloc ?_ _) | (with_reducible refine Kd.C_drewN ?_ _) | (with_reducible refine Kd.C_drew ?_))); (case side2 => exact HC0.out); rintro e w' ⟨rfl, ⟨nd, rfl⟩⟩; refine ⟨_, rfl, ?_⟩))
          go_ret
          exact ⟨by first | rfl | (simp; done) | (simp [*]; done), by repeat (first | exact Drawn0.refl _ | apply Drawn0.step)⟩
        · rw [if_neg c4] at H
          have c4b0 : (t1071 == 0) = false := beq_eq_false_iff_ne.mpr c4
          have c4b1 : (t1071 != 0) = true := bne_iff_ne.mpr c4
          have H' := Aside0.mk H
          clear H
          go_wp2_with (first | ((with_reducible refine gate_callee (f := 253) rfl ?_); refine goesL_ (some 11) rfl rfl Tryz.func253 (by kernel_rfl) rfl #[.slice A0 l0.length c0, .int .i64 x3_1] rfl (by (try simp only [List.map_toArray, List.map_cons, List.map_nil]); first | done | rfl | (simp only [List.length_drop, List.length_take]; rfl)) ?_; (with_reducible refine (chirographref06_whole.calls k1 _ _ l0 x3_1 t1071 _ ?side1 ?side2 A3.out).mono ?_); (case side1 => repeat (first | exact HR0.out | (with_reducible refine Kd.C_alloc ?_ _) | (with_reducible refine Kd.C_drewN ?_ _) | (with_reducible refine Kd.C_drew ?_))); (case side2 => exact HC0.out); rintro e w' ⟨rfl, ⟨nd, rfl⟩⟩; refine ⟨_, rfl, ?_⟩))
          go_roundg k1
          case measure => have := HK1.out; omega
          case rel => exact ⟨(wrap64 (x3_1 + t1071)), (by first | rfl | (simp; done) | (simp [*]; done)), H', ⟨by have := HK1.out; omega⟩, by repeat (first | exact Drawn0.refl _ | apply Drawn0.step)⟩
      · rw [if_neg c2] at H
        have c2b0 : decide (x3_1 < (l0.length : Int)) = false := decide_eq_false c2
        clear c2
        obtain rfl := Option.some.inj H
        go_wp2
        go_ret
        exact ⟨by first | rfl | (simp; done) | (simp [*]; done), by repeat (first | exact Drawn0.refl _ | apply Drawn0.step)⟩
end Go.Proofs.YtkioddjjfifadaaGreatDoor.P
namespace Go.Proofs.YtkioddjjfifadaaGreatDoor.P
open Go.RowKit Go.Proofs.YtkioddjjfifadaaGreatDoorW.PrintWords Go.Proofs.YtkioddjjfifadaaGreatDoorW.PrintLast Go.Proofs.YtkioddjjfifadaaGreatDoorW.PrintMore
attribute [local go_sem] max2_int min2_int max_two min_two max_three min_three max_four min_four   -- for this text's walks alone
set_option linter.unusedVariables false
set_option linter.unusedSimpArgs false
mutual
def chirographref06_printable.j0 : Nat → Int → Bool → Option (Bool)
  | 0, _, _ => none
  | k + 1, x0, x26 => if x26 = true then (some true) else (chirographref06_printable.l0 k x0 (⟨#[32, 39, 40, 41, 43, 44, 45, 46, 47, 58, 61, 63]⟩ : ByteArray) 0)
def chirographref06_printable.l0 : Nat → Int → ByteArray → Int → Option (Bool)
  | 0, _, _, _ => none
  | k + 1, x0, x3, x4 => if x4 < (x3.size : Int) then (if 0 ≤ x4 then (if (bt x3 x4) = x0 then (some true) else (chirographref06_printable.l0 k x0 x3 (wrap64 (x4 + 1)))) else (none)) else (some false)
end
def chirographref06_printable.f (k : Nat) (a0 : Int) : Option (Bool) := if a0 ≥ 65 then (if a0 ≤ 90 then (chirographref06_printable.j0 k a0 true) else (if a0 ≥ 97 then (if a0 ≤ 122 then (chirographref06_printable.j0 k a0 true) else (if a0 ≥ 48 then (chirographref06_printable.j0 k a0 (decide (a0 ≤ 57))) else (chirographref06_printable.j0 k a0 false))) else (if a0 ≥ 48 then (chirographref06_printable.j0 k a0 (decide (a0 ≤ 57))) else (chirographref06_printable.j0 k a0 false)))) else (if a0 ≥ 97 then (if a0 ≤ 122 then (chirographref06_printable.j0 k a0 true) else (if a0 ≥ 48 then (chirographref06_printable.j0 k a0 (decide (a0 ≤ 57))) else (chirographref06_printable.j0 k a0 false))) else (if a0 ≥ 48 then (chirographref06_printable.j0 k a0 (decide (a0 ≤ 57))) else (chirographref06_printable.j0 k a0 false)))
theorem chirographref06_printable.mono_l : ∀ k, (∀ y0 y1, LeO (chirographref06_printable.j0 k y0 y1) (chirographref06_printable.j0 (k + 1) y0 y1)) ∧ (∀ y0 y1 y2, LeO (chirographref06_printable.l0 k y0 y1 y2) (chirographref06_printable.l0 (k + 1) y0 y1 y2))
  | 0 => ⟨fun _ _ r h => by simp [chirographref06_printable.j0] at h, fun _ _ _ r h => by simp [chirographref06_printable.l0] at h⟩
  | k + 1 => by
    obtain ⟨ih0, ih1⟩ := chirographref06_printable.mono_l k
    refine ⟨?_, ?_⟩
    · intro y0 y1
      unfold chirographref06_printable.j0
      repeat' first
      | (with_reducible exact ih0 _ _)
      | (with_reducible exact ih1 _ _ _)
      | (with_reducible exact LeO.refl _)
      | (with_reducible exact LeO.none _)
      | (with_reducible refine LeO.ite ?_ ?_)
      | (with_reducible refine LeO.bind ?_ (fun _ => ?_))
      | exact ih0 _ _
      | exact ih1 _ _ _
      | exact LeO.none _
      | refine LeO.ite ?_ ?_
      | refine LeO.bind ?_ (fun _ => ?_)
    · intro y0 y1 y2
      unfold chirographref06_printable.l0
      repeat' first
      | (with_reducible exact ih0 _ _)
      | (with_reducible exact ih1 _ _ _)
      | (with_reducible exact LeO.refl _)
      | (with_reducible exact LeO.none _)
      | (with_reducible refine LeO.ite ?_ ?_)
      | (with_reducible refine LeO.bind ?_ (fun _ => ?_))
      | exact ih0 _ _
      | exact ih1 _ _ _
      | exact LeO.none _
      | refine LeO.ite ?_ ?_
      | refine LeO.bind ?_ (fun _ => ?_)
theorem chirographref06_printable.mono : ∀ a0 k, LeO (chirographref06_printable.f k a0) (chirographref06_printable.f (k + 1) a0) := by
  intro a0 k
  obtain ⟨ih0, ih1⟩ := chirographref06_printable.mono_l k
  unfold chirographref06_printable.f
  repeat' first
      | (with_reducible exact ih0 _ _)
      | (with_reducible exact ih1 _ _ _)
      | (with_reducible exact LeO.refl _)
      | (with_reducible exact LeO.none _)
      | (with_reducible refine LeO.ite ?_ ?_)
      | (with_reducible refine LeO.bind ?_ (fun _ => ?_))
      | exact ih0 _ _
      | exact ih1 _ _ _
      | exact LeO.none _
      | refine LeO.ite ?_ ?_
      | refine LeO.bind ?_ (fun _ => ?_)
set_option maxHeartbeats 8000000 in
set_option maxRecDepth 100000 in
theorem chirographref06_printable.calls (k : Nat) (a0 : Int) (r : Bool) (w : World) (h : chirographref06_printable.f k a0 = some r) :
    Calls Tryz.prog 209 #[.int .u8 a0] w fun e w' => e = .returned (.bool r) ∧ Drawn0 w w' := by
  have H : (if a0 ≥ 65 then (if a0 ≤ 90 then (chirographref06_printable.j0 k a0 true) else (if a0 ≥ 97 then (if a0 ≤ 122 then (chirographref06_printable.j0 k a0 true) else (if a0 ≥ 48 then (chirographref06_printable.j0 k a0 (decide (a0 ≤ 57))) else (chirographref06_printable.j0 k a0 false))) else (if a0 ≥ 48 then (chirographref06_printable.j0 k a0 (decide (a0 ≤ 57))) else (chirographref06_printable.j0 k a0 false)))) else (if a0 ≥ 97 then (if a0 ≤ 122 then (chirographref06_printable.j0 k a0 true) else (if a0 ≥ 48 then (chirographref06_printable.j0 k a0 (decide (a0 ≤ 57))) else (chirographref06_printable.j0 k a0 false))) else (if a0 ≥ 48 then (chirographref06_printable.j0 k a0 (decide (a0 ≤ 57))) else (chirographref06_printable.j0 k a0 false)))) = some r := h
  clear h
  have HC2 := Aside0.mk H
  clear H
  go_enter Tryz.func209, Tryz.ntmps209
  go_upto_region 1 with (fail)
  go_cut [26] (fun v26 wc => ∃ (kq : Nat) (x26_1 : Bool), v26 = .bool x26_1 ∧ Aside0 (chirographref06_printable.j0 kq a0 x26_1 = some r) ∧ Aside0 (kq ≤ k) ∧ Drawn0 w wc)
  case first =>
    have H := HC2.out
    clear HC2
    by_cases c3 : a0 ≥ 65
    · rw [if_pos c3] at H
      have c3b0 : decide (65 ≤ a0) = true := decide_eq_true c3
      clear c3
      (first | rw [c3b0] | (simp only [i64_w, i32_w]; rw [c3b0]) | skip)
      by_cases c4 : a0 ≤ 90
      · rw [if_pos c4] at H
        have c4b0 : decide (a0 ≤ 90) = true := decide_eq_true c4
        clear c4
        have H' := Aside0.mk H
        clear H
        go_wp2
        go_meet
        case rel => exact ⟨_, (true), (by first | rfl | (simp; done) | (simp [*]; done)), H', ⟨by first | omega | exact Nat.le_refl _⟩, by repeat (first | exact Drawn0.refl _ | apply Drawn0.step)⟩
      · rw [if_neg c4] at H
        have c4b0 : decide (a0 ≤ 90) = false := decide_eq_false c4
        clear c4
        by_cases c5 : a0 ≥ 97
        · rw [if_pos c5] at H
          have c5b0 : decide (97 ≤ a0) = true := decide_eq_true c5
          clear c5
          by_cases c6 : a0 ≤ 122
          · rw [if_pos c6] at H
            have c6b0 : decide (a0 ≤ 122) = true := decide_eq_true c6
            clear c6
            have H' := Aside0.mk H
            clear H
            go_wp2
            go_meet
            case rel => exact ⟨_, (true), (by first | rfl | (simp; done) | (simp [*]; done)), H', ⟨by first | omega | exact Nat.le_refl _⟩, by repeat (first | exact Drawn0.refl _ | apply Drawn0.step)⟩
          · rw [if_neg c6] at H
            have c6b0 : decide (a0 ≤ 122) = false := decide_eq_false c6
            clear c6
            by_cases c7 : a0 ≥ 48
            · rw [if_pos c7] at H
              have c7b0 : decide (48 ≤ a0) = true := decide_eq_true c7
              clear c7
              have H' := Aside0.mk H
              clear H
              go_wp2
              go_meet
              case rel => exact ⟨_, (decide (a0 ≤ 57)), (by first | rfl | (simp; done) | (simp [*]; done)), H', ⟨by first | omega | exact Nat.le_refl _⟩, by repeat (first | exact Drawn0.refl _ | apply Drawn0.step)⟩
            · rw [if_neg c7] at H
              have c7b0 : decide (48 ≤ a0) = false := decide_eq_false c7
              clear c7
              have H' := Aside0.mk H
              clear H
              go_wp2
              go_meet
              case rel => exact ⟨_, (false), (by first | rfl | (simp; done) | (simp [*]; done)), H', ⟨by first | omega | exact Nat.le_refl _⟩, by repeat (first | exact Drawn0.refl _ | apply Drawn0.step)⟩
        · rw [if_neg c5] at H
          have c5b0 : decide (97 ≤ a0) = false := decide_eq_false c5
          clear c5
          by_cases c8 : a0 ≥ 48
          · rw [if_pos c8] at H
            have c8b0 : decide (48 ≤ a0) = true := decide_eq_true c8
            clear c8
            have H' := Aside0.mk H
            clear H
            go_wp2
            go_meet
            case rel => exact ⟨_, (decide (a0 ≤ 57)), (by first | rfl | (simp; done) | (simp [*]; done)), H', ⟨by first | omega | exact Nat.le_refl _⟩, by repeat (first | exact Drawn0.refl _ | apply Drawn0.step)⟩
          · rw [if_neg c8] at H
            have c8b0 : decide (48 ≤ a0) = false := decide_eq_false c8
            clear c8
            have H' := Aside0.mk H
            clear H
            go_wp2
            go_meet
            case rel => exact ⟨_, (false), (by first | rfl | (simp; done) | (simp [*]; done)), H', ⟨by first | omega | exact Nat.le_refl _⟩, by repeat (first | exact Drawn0.refl _ | apply Drawn0.step)⟩
    · rw [if_neg c3] at H
      have c3b0 : decide (65 ≤ a0) = false := decide_eq_false c3
      clear c3
      (first | rw [c3b0] | (simp only [i64_w, i32_w]; rw [c3b0]) | skip)
      by_cases c9 : a0 ≥ 97
      · rw [if_pos c9] at H
        have c9b0 : decide (97 ≤ a0) = true := decide_eq_true c9
        clear c9
        by_cases c10 : a0 ≤ 122
        · rw [if_pos c10] at H
          have c10b0 : decide (a0 ≤ 122) = true := decide_eq_true c10
          clear c10
          have H' := Aside0.mk H
          clear H
          go_wp2
          go_meet
          case rel => exact ⟨_, (true), (by first | rfl | (simp; done) | (simp [*]; done)), H', ⟨by first | omega | exact Nat.le_refl _⟩, by repeat (first | exact Drawn0.refl _ | apply Drawn0.step)⟩
        · rw [if_neg c10] at H
          have c10b0 : decide (a0 ≤ 122) = false := decide_eq_false c10
          clear c10
          by_cases c11 : a0 ≥ 48
          · rw [if_pos c11] at H
            have c11b0 : decide (48 ≤ a0) = true := decide_eq_true c11
            clear c11
            have H' := Aside0.mk H
            clear H
            go_wp2
            go_meet
            case rel => exact ⟨_, (decide (a0 ≤ 57)), (by first | rfl | (simp; done) | (simp [*]; done)), H', ⟨by first | omega | exact Nat.le_refl _⟩, by repeat (first | exact Drawn0.refl _ | apply Drawn0.step)⟩
          · rw [if_neg c11] at H
            have c11b0 : decide (48 ≤ a0) = false := decide_eq_false c11
            clear c11
            have H' := Aside0.mk H
            clear H
            go_wp2
            go_meet
            case rel => exact ⟨_, (false), (by first | rfl | (simp; done) | (simp [*]; done)), H', ⟨by first | omega | exact Nat.le_refl _⟩, by repeat (first | exact Drawn0.refl _ | apply Drawn0.step)⟩
      · rw [if_neg c9] at H
        have c9b0 : decide (97 ≤ a0) = false := decide_eq_false c9
        clear c9
        by_cases c12 : a0 ≥ 48
        · rw [if_pos c12] at H
          have c12b0 : decide (48 ≤ a0) = true := decide_eq_true c12
          clear c12
          have H' := Aside0.mk H
          clear H
          go_wp2
          go_meet
          case rel => exact ⟨_, (decide (a0 ≤ 57)), (by first | rfl | (simp; done) | (simp [*]; done)), H', ⟨by first | omega | exact Nat.le_refl _⟩, by repeat (first | exact Drawn0.refl _ | apply Drawn0.step)⟩
        · rw [if_neg c12] at H
          have c12b0 : decide (48 ≤ a0) = false := decide_eq_false c12
          clear c12
          have H' := Aside0.mk H
          clear H
          go_wp2
          go_meet
          case rel => exact ⟨_, (false), (by first | rfl | (simp; done) | (simp [*]; done)), H', ⟨by first | omega | exact Nat.le_refl _⟩, by repeat (first | exact Drawn0.refl _ | apply Drawn0.step)⟩
  case rest =>
    clear HC2
    try clear c1
    try clear c2
    try clear p2
    try clear c3
    try clear c3b0
    try clear c4
    try clear c4b0
    try clear c5
    try clear c5b0
    try clear c6
    try clear c6b0
    try clear c7
    try clear c7b0
    try clear c8
    try clear c8b0
    try clear c9
    try clear c9b0
    try clear c10
    try clear c10b0
    try clear c11
    try clear c11b0
    try clear c12
    try clear c12b0
    obtain ⟨kq, x26_1, rfl, HA, HJ1, ⟨mc1, rfl⟩⟩ := hcut
    cases kq with
    | zero => exact absurd HA.out (by simp [chirographref06_printable.j0])
    | succ kj1 =>
      have H := HA.out
      clear HA
      simp only [chirographref06_printable.j0] at H
      by_cases c13 : x26_1 = true
      · subst c13
        have H1 : (some true) = some r := by rw [if_pos rfl] at H; exact H
        clear H
        have H := H1
        clear H1
        obtain rfl := Option.some.inj H
        go_wp2
        go_ret
        exact ⟨by first | rfl | (simp; done) | (simp [*]; done), by repeat (first | exact Drawn0.refl _ | apply Drawn0.step)⟩
      · replace c13 := Bool.eq_false_iff.mpr c13
        subst c13
        have H1 : (chirographref06_printable.l0 kj1 a0 (⟨#[32, 39, 40, 41, 43, 44, 45, 46, 47, 58, 61, 63]⟩ : ByteArray) 0) = some r := by rw [if_neg (show ¬ (false = true) by decide)] at H; exact H
        clear H
        have H := H1
        clear H1
        have H' := Aside0.mk H
        clear H
        go_wp2
        go_loopg [4] kj1 (fun kq v4 w' => ∃ (x4_2 : Int), v4 = .int .i64 x4_2 ∧ Aside0 (chirographref06_printable.l0 kq a0 (⟨#[32, 39, 40, 41, 43, 44, 45, 46, 47, 58, 61, 63]⟩ : ByteArray) x4_2 = some r) ∧ Aside0 (kq ≤ kj1) ∧ Drawn0 w w')
        case atStart => exact ⟨(0), (by first | rfl | (simp; done) | (simp [*]; done)), H', ⟨Nat.le_refl _⟩, by repeat (first | exact Drawn0.refl _ | apply Drawn0.step)⟩
        case round =>
          clear H'
          try clear c1
          try clear c2
          try clear p2
          try clear c3
          try clear c3b0
          try clear c4
          try clear c4b0
          try clear c5
          try clear c5b0
          try clear c6
          try clear c6b0
          try clear c7
          try clear c7b0
          try clear c8
          try clear c8b0
          try clear c9
          try clear c9b0
          try clear c10
          try clear c10b0
          try clear c11
          try clear c11b0
          try clear c12
          try clear c12b0
          try clear c13
          try clear p2
          obtain ⟨x4_2, rfl, HA, HK2, ⟨m2, rfl⟩⟩ := hrel
          cases gk with
          | zero => exact absurd HA.out (by simp [chirographref06_printable.l0])
          | succ k2 =>
            have H := HA.out
            clear HA
            simp only [chirographref06_printable.l0] at H
            generalize hS : (⟨#[32, 39, 40, 41, 43, 44, 45, 46, 47, 58, 61, 63]⟩ : ByteArray) = S at *
            clear hS
            by_cases c14 : x4_2 < (S.size : Int)
            · rw [if_pos c14] at H
              have c14b0 : decide (x4_2 < (S.size : Int)) = true := decide_eq_true c14
              clear c14
              by_cases c15 : 0 ≤ x4_2
              · rw [if_pos c15] at H
                have c15b0 : decide (0 ≤ x4_2) = true := decide_eq_true c15
                clear c15
                by_cases c17 : (bt S x4_2) = a0
                · rw [if_pos c17] at H
                  have c17b0 : ((bt S x4_2) == a0) = true := beq_iff_eq.mpr c17
                  have c17b1 : ((bt S x4_2) != a0) = false := bne_eq_false_iff_eq.mpr c17
                  clear c17
                  obtain rfl := Option.some.inj H
                  have p16 : 0 ≤ (x4_2 : Int) := of_decide_eq_true (by first | (with_reducible assumption) | assumption)
                  have q16 : x4_2 < (S.size : Int) := of_decide_eq_true (by first | (with_reducible assumption) | assumption)
                  have hx16 := bt_at S x4_2
                  replace p16 := eq_true p16
                  replace q16 := eq_true q16
                  go_wp2
                  go_ret
                  exact ⟨by first | rfl | (simp; done) | (simp [*]; done), by repeat (first | exact Drawn0.refl _ | apply Drawn0.step)⟩
                · rw [if_neg c17] at H
                  have c17b0 : ((bt S x4_2) == a0) = false := beq_eq_false_iff_ne.mpr c17
                  have c17b1 : ((bt S x4_2) != a0) = true := bne_iff_ne.mpr c17
                  have H' := Aside0.mk H
                  clear H
                  have p16 : 0 ≤ (x4_2 : Int) := of_decide_eq_true (by first | (with_reducible assumption) | assumption)
                  have q16 : x4_2 < (S.size : Int) := of_decide_eq_true (by first | (with_reducible assumption) | assumption)
                  have hx16 := bt_at S x4_2
                  replace p16 := eq_true p16
                  replace q16 := eq_true q16
                  go_wp2
                  go_roundg k2
                  case measure => have := HJ1.out; have := HK2.out; omega
                  case rel => exact ⟨(wrap64 (x4_2 + 1)), (by first | rfl | (simp; done) | (simp [*]; done)), H', ⟨by have := HJ1.out; have := HK2.out; omega⟩, by repeat (first | exact Drawn0.refl _ | apply Drawn0.step)⟩
              · rw [if_neg c15] at H
                exact absurd H (by simp)
            · rw [if_neg c14] at H
              have c14b0 : decide (x4_2 < (S.size : Int)) = false := decide_eq_false c14
              clear c14
              obtain rfl := Option.some.inj H
              go_wp2
              go_ret
              exact ⟨by first | rfl | (simp; done) | (simp [*]; done), by repeat (first | exact Drawn0.refl _ | apply Drawn0.step)⟩
end Go.Proofs.YtkioddjjfifadaaGreatDoor.P
namespace Go.Proofs.YtkioddjjfifadaaGreatDoor.P
open Go.RowKit Go.Proofs.YtkioddjjfifadaaGreatDoorW.PrintWords Go.Proofs.YtkioddjjfifadaaGreatDoorW.PrintLast Go.Proofs.YtkioddjjfifadaaGreatDoorW.PrintMore
attribute [local go_sem] max2_int min2_int max_two min_two max_three min_three max_four min_four   -- for this text's walks alone
set_option linter.unusedVariables false
set_option linter.unusedSimpArgs false
mutual
def chirographref06_Text.l0 : Nat → List Int → List Int → Int → Option (ByteArray × Int)
  | 0, _, _, _ => none
  | k + 1, x1, x6, x7 => if x7 < (x1.length : Int) then (if 0 ≤ x7 then (if 0 ≤ (wrap64 (x7 + 1)) then (if (wrap64 (x7 + 1)) < (x1.length : Int) then (if (wrap64 ((wrap64 ((wrap64 (rd x1 x7)) * 256)) + (wrap64 (rd x1 (wrap64 (x7 + 1)))))) ≥ 55296 then (chirographref06_Text.j1 k x1 x6 x7 (wrap64 ((wrap64 ((wrap64 (rd x1 x7)) * 256)) + (wrap64 (rd x1 (wrap64 (x7 + 1)))))) (decide ((wrap64 ((wrap64 ((wrap64 (rd x1 x7)) * 256)) + (wrap64 (rd x1 (wrap64 (x7 + 1)))))) ≤ 57343))) else (chirographref06_Text.j1 k x1 x6 x7 (wrap64 ((wrap64 ((wrap64 (rd x1 x7)) * 256)) + (wrap64 (rd x1 (wrap64 (x7 + 1)))))) false)) else (none)) else (none)) else (none)) else (some (strOfNums x6, 0))
def chirographref06_Text.j1 : Nat → List Int → List Int → Int → Int → Bool → Option (ByteArray × Int)
  | 0, _, _, _, _, _ => none
  | k + 1, x1, x6, x7, x8, x61 => if x61 = true then (some ((⟨#[]⟩ : ByteArray), 60)) else (if x8 < 128 then (if x6.length < 140737488355328 then (chirographref06_Text.l0 k x1 (x6 ++ [(x8) % 256]) (wrap64 (x7 + 2))) else (none)) else (if x8 < 2048 then ((some (([(wrap64 (192 + (wrap64 (Int.tdiv x8 64)))) % 256, (wrap64 (128 + (Int.tmod x8 64))) % 256] : List Int) : List Int)).bind fun y1078 => (if x6.length + y1078.length < 140737488355328 then (chirographref06_Text.l0 k x1 (x6 ++ y1078) (wrap64 (x7 + 2))) else (none))) else ((some (([(wrap64 (224 + (wrap64 (Int.tdiv x8 4096)))) % 256, (wrap64 (128 + (Int.tmod (wrap64 (Int.tdiv x8 64)) 64))) % 256, (wrap64 (128 + (Int.tmod x8 64))) % 256] : List Int) : List Int)).bind fun y1084 => (if x6.length + y1084.length < 140737488355328 then (chirographref06_Text.l0 k x1 (x6 ++ y1084) (wrap64 (x7 + 2))) else (none)))))
def chirographref06_Text.j2 : Nat → Int → List Int → Bool → Option (ByteArray × Int)
  | 0, _, _, _ => none
  | k + 1, x0, x1, x92 => if x92 = true then (chirographref06_Text.l1 k x0 x1 0) else (some ((⟨#[]⟩ : ByteArray), 61))
def chirographref06_Text.l1 : Nat → Int → List Int → Int → Option (ByteArray × Int)
  | 0, _, _, _ => none
  | k + 1, x0, x1, x9 => if x9 < (x1.length : Int) then (if 0 ≤ x9 then (if (rd x1 x9) ≥ 48 then (if (rd x1 x9) ≤ 57 then (chirographref06_Text.j4 k x0 x1 x9 (rd x1 x9) true) else (chirographref06_Text.j4 k x0 x1 x9 (rd x1 x9) ((rd x1 x9) == 32))) else (chirographref06_Text.j4 k x0 x1 x9 (rd x1 x9) ((rd x1 x9) == 32))) else (none)) else (some (strOfNums x1, 0))
def chirographref06_Text.j4 : Nat → Int → List Int → Int → Int → Bool → Option (ByteArray × Int)
  | 0, _, _, _, _, _ => none
  | k + 1, x0, x1, x9, x10, x11 => if x0 = 19 then ((chirographref06_printable.f k x10).bind fun t1091 => (chirographref06_Text.j5 k x0 x1 x9 x10 t1091)) else (chirographref06_Text.j5 k x0 x1 x9 x10 x11)
def chirographref06_Text.j5 : Nat → Int → List Int → Int → Int → Bool → Option (ByteArray × Int)
  | 0, _, _, _, _, _ => none
  | k + 1, x0, x1, x9, x10, x11 => if x0 = 22 then (chirographref06_Text.j6 k x0 x1 x9 x10 (decide (x10 < 128))) else (chirographref06_Text.j6 k x0 x1 x9 x10 x11)
def chirographref06_Text.j6 : Nat → Int → List Int → Int → Int → Bool → Option (ByteArray × Int)
  | 0, _, _, _, _, _ => none
  | k + 1, x0, x1, x9, x10, x11 => if x0 = 26 then (if x10 ≥ 32 then (if x10 ≤ 126 then (chirographref06_Text.l1 k x0 x1 (wrap64 (x9 + 1))) else (some ((⟨#[]⟩ : ByteArray), 60))) else (some ((⟨#[]⟩ : ByteArray), 60))) else (if x11 = true then (chirographref06_Text.l1 k x0 x1 (wrap64 (x9 + 1))) else (some ((⟨#[]⟩ : ByteArray), 60)))
end
def chirographref06_Text.f (k : Nat) (a0 : Int) (l1 : List Int) : Option (ByteArray × Int) := if a0 = 12 then ((chirographref06_utf8.f k l1).bind fun t1072 => (if t1072 = true then (some (strOfNums l1, 0)) else (some ((⟨#[]⟩ : ByteArray), 60)))) else (if a0 = 30 then (if ((l1.length : Int) % 2) = 1 then (some ((⟨#[]⟩ : ByteArray), 60)) else (chirographref06_Text.l0 k l1 ([] : List Int) 0)) else (if a0 = 18 then (chirographref06_Text.j2 k a0 l1 (a0 == 18)) else (if a0 = 19 then (chirographref06_Text.j2 k a0 l1 (a0 == 19)) else (if a0 = 22 then (chirographref06_Text.j2 k a0 l1 (a0 == 22)) else (chirographref06_Text.j2 k a0 l1 (a0 == 26))))))
set_option maxHeartbeats 8000000 in
set_option maxRecDepth 100000 in
theorem chirographref06_Text.calls (k : Nat) (a0 : Int) (A1 : Option Addr) (c1 : Nat) (l1 : List Int) (r1 : ByteArray) (r2 : Int) (w : World) (hr1 : Kd.C (Kd.int .u8) w A1 l1.length l1) (hc1 : l1.length ≤ c1) (h : chirographref06_Text.f k a0 l1 = some (r1, r2)) :
    Calls Tryz.prog 156 #[.int .i64 a0, .slice A1 l1.length c1] w fun e w' => e = .returned (.tuple #[.string r1, .int .i64 r2]) ∧ Below w.heap.size w w' := by
  have HR1 := Aside0.mk hr1
  have HC1 := Aside0.mk hc1
  clear hr1 hc1
  have HB := Aside0.mk (Below.refl w.heap.size w)
  have H : (if a0 = 12 then ((chirographref06_utf8.f k l1).bind fun t1072 => (if t1072 = true then (some (strOfNums l1, 0)) else (some ((⟨#[]⟩ : ByteArray), 60)))) else (if a0 = 30 then (if ((l1.length : Int) % 2) = 1 then (some ((⟨#[]⟩ : ByteArray), 60)) else (chirographref06_Text.l0 k l1 ([] : List Int) 0)) else (if a0 = 18 then (chirographref06_Text.j2 k a0 l1 (a0 == 18)) else (if a0 = 19 then (chirographref06_Text.j2 k a0 l1 (a0 == 19)) else (if a0 = 22 then (chirographref06_Text.j2 k a0 l1 (a0 == 22)) else (chirographref06_Text.j2 k a0 l1 (a0 == 26))))))) = some (r1, r2) := h
  clear h
  by_cases c3 : a0 = 12
  · rw [if_pos c3] at H
    have c3b0 : (a0 == 12) = true := beq_iff_eq.mpr c3
    have c3b1 : (a0 != 12) = false := bne_eq_false_iff_eq.mpr c3
    clear c3
    replace H := Option.bind_eq_some_iff.mp H
    obtain ⟨t1072, A40, H⟩ := H
    replace H : (if t1072 = true then (some (strOfNums l1, 0)) else (some ((⟨#[]⟩ : ByteArray), 60))) = some (r1, r2) := H
    have A4 := Aside0.mk A40
    clear A40
    by_cases c5 : t1072 = true
    · subst c5
      have H1 : (some (strOfNums l1, 0)) = some (r1, r2) := by rw [if_pos rfl] at H; exact H
      clear H
      have H := H1
      clear H1
      simp only [Option.some.injEq, Prod.mk.injEq] at H
      obtain ⟨rfl, rfl⟩ := H
      go_enter Tryz.func156, Tryz.ntmps156
      go_wp2_with (first | (go_at_call 208; (with_reducible refine (chirographref06_utf8.calls k _ _ l1 true _ ?side1 ?side2 A4.out).mono ?_); (case side1 => repeat (first | exact HR1.out | (with_reducible refine Kd.C_alloc ?_ _) | (with_reducible refine Kd.C_drewN ?_ _) | (with_reducible refine Kd.C_drew ?_))); (case side2 => exact HC1.out); rintro e w' ⟨rfl, ⟨nd, rfl⟩⟩; (try first | exact ⟨rfl, _, World.drewN_drewN _ _ _⟩ | exact ⟨rfl, _, Eq.trans (World.drewN_drewN _ _ _) (congrArg (World.drewN _) (Nat.add_assoc _ _ _))⟩); have hcv6 := Kd.C_string (P := Tryz.prog) (A := A1) (c := c1) Tryz.underlying22 Tryz.underlying5 Tryz.underlying9 (Kd.C_drewN HR1.out nd)))
      repeat (go_quiet (first | (go_at_call 208; (with_reducible refine (chirographref06_utf8.calls k _ _ l1 true _ ?side1 ?side2 A4.out).mono ?_); (case side1 => repeat (first | exact HR1.out | (with_reducible refine Kd.C_alloc ?_ _) | (with_reducible refine Kd.C_drewN ?_ _) | (with_reducible refine Kd.C_drew ?_))); (case side2 => exact HC1.out); rintro e w' ⟨rfl, ⟨nd, rfl⟩⟩; (try first | exact ⟨rfl, _, World.drewN_drewN _ _ _⟩ | exact ⟨rfl, _, Eq.trans (World.drewN_drewN _ _ _) (congrArg (World.drewN _) (Nat.add_assoc _ _ _))⟩); have hcv6 := Kd.C_string (P := Tryz.prog) (A := A1) (c := c1) Tryz.underlying22 Tryz.underlying5 Tryz.underlying9 (Kd.C_drewN HR1.out nd))); try go_wp2_with (first | (go_at_call 208; (with_reducible refine (chirographref06_utf8.calls k _ _ l1 true _ ?side1 ?side2 A4.out).mono ?_); (case side1 => repeat (first | exact HR1.out | (with_reducible refine Kd.C_alloc ?_ _) | (with_reducible refine Kd.C_drewN ?_ _) | (with_reducible refine Kd.C_drew ?_))); (case side2 => exact HC1.out); rintro e w' ⟨rfl, ⟨nd, rfl⟩⟩; (try first | exact ⟨rfl, _, World.drewN_drewN _ _ _⟩ | exact ⟨rfl, _, Eq.trans (World.drewN_drewN _ _ _) (congrArg (World.drewN _) (Nat.add_assoc _ _ _))⟩); have hcv6 := Kd.C_string (P := Tryz.prog) (A := A1) (c := c1) Tryz.underlying22 Tryz.underlying5 Tryz.underlying9 (Kd.C_drewN HR1.out nd))))
      go_ret2
      exact ⟨by first | rfl | (simp [errW_none, errW_some] <;> rfl) | (simp [*, errW_none, errW_some] <;> rfl), by repeat (first | (with_reducible first | exact HB.out | apply below_alloc | apply pw_below_drewN | apply below_drew1) | exact HB.out)⟩
    · replace c5 := Bool.eq_false_iff.mpr c5
      subst c5
      have H1 : (some ((⟨#[]⟩ : ByteArray), 60)) = some (r1, r2) := by rw [if_neg (show ¬ (false = true) by decide)] at H; exact H
      clear H
      have H := H1
      clear H1
      simp only [Option.some.injEq, Prod.mk.injEq] at H
      obtain ⟨rfl, rfl⟩ := H
      go_enter Tryz.func156, Tryz.ntmps156
      go_wp2_with (first | (go_at_call 208; (with_reducible refine (chirographref06_utf8.calls k _ _ l1 false _ ?side1 ?side2 A4.out).mono ?_); (case side1 => repeat (first | exact HR1.out | (with_reducible refine Kd.C_alloc ?_ _) | (with_reducible refine Kd.C_drewN ?_ _) | (with_reducible refine Kd.C_drew ?_))); (case side2 => exact HC1.out); rintro e w' ⟨rfl, ⟨nd, rfl⟩⟩; (try first | exact ⟨rfl, _, World.drewN_drewN _ _ _⟩ | exact ⟨rfl, _, Eq.trans (World.drewN_drewN _ _ _) (congrArg (World.drewN _) (Nat.add_assoc _ _ _))⟩)))
      repeat (go_quiet (first | (go_at_call 208; (with_reducible refine (chirographref06_utf8.calls k _ _ l1 false _ ?side1 ?side2 A4.out).mono ?_); (case side1 => repeat (first | exact HR1.out | (with_reducible refine Kd.C_alloc ?_ _) | (with_reducible refine Kd.C_drewN ?_ _) | (with_reducible refine Kd.C_drew ?_))); (case side2 => exact HC1.out); rintro e w' ⟨rfl, ⟨nd, rfl⟩⟩; (try first | exact ⟨rfl, _, World.drewN_drewN _ _ _⟩ | exact ⟨rfl, _, Eq.trans (World.drewN_drewN _ _ _) (congrArg (World.drewN _) (Nat.add_assoc _ _ _))⟩))); try go_wp2_with (first | (go_at_call 208; (with_reducible refine (chirographref06_utf8.calls k _ _ l1 false _ ?side1 ?side2 A4.out).mono ?_); (case side1 => repeat (first | exact HR1.out | (with_reducible refine Kd.C_alloc ?_ _) | (with_reducible refine Kd.C_drewN ?_ _) | (with_reducible refine Kd.C_drew ?_))); (case side2 => exact HC1.out); rintro e w' ⟨rfl, ⟨nd, rfl⟩⟩; (try first | exact ⟨rfl, _, World.drewN_drewN _ _ _⟩ | exact ⟨rfl, _, Eq.trans (World.drewN_drewN _ _ _) (congrArg (World.drewN _) (Nat.add_assoc _ _ _))⟩))))
      go_ret2
      exact ⟨by first | rfl | (simp [errW_none, errW_some] <;> rfl) | (simp [*, errW_none, errW_some] <;> rfl), by repeat (first | (with_reducible first | exact HB.out | apply below_alloc | apply pw_below_drewN | apply below_drew1) | exact HB.out)⟩
  · rw [if_neg c3] at H
    have c3b0 : (a0 == 12) = false := beq_eq_false_iff_ne.mpr c3
    have c3b1 : (a0 != 12) = true := bne_iff_ne.mpr c3
    by_cases c7 : a0 = 30
    · rw [if_pos c7] at H
      have c7b0 : (a0 == 30) = true := beq_iff_eq.mpr c7
      have c7b1 : (a0 != 30) = false := bne_eq_false_iff_eq.mpr c7
      clear c7
      by_cases c8 : ((l1.length : Int) % 2) = 1
      · rw [if_pos c8] at H
        have c8b0 : (((l1.length : Int) % 2) == 1) = true := beq_iff_eq.mpr c8
        have c8b1 : (((l1.length : Int) % 2) != 1) = false := bne_eq_false_iff_eq.mpr c8
        clear c8
        simp only [Option.some.injEq, Prod.mk.injEq] at H
        obtain ⟨rfl, rfl⟩ := H
        go_enter Tryz.func156, Tryz.ntmps156
        go_wp2
        repeat (go_quiet (fail); try go_wp2)
        go_ret2
        exact ⟨by first | rfl | (simp [errW_none, errW_some] <;> rfl) | (simp [*, errW_none, errW_some] <;> rfl), by repeat (first | (with_reducible first | exact HB.out | apply below_alloc | apply pw_below_drewN | apply below_drew1) | exact HB.out)⟩
      · rw [if_neg c8] at H
        have c8b0 : (((l1.length : Int) % 2) == 1) = false := beq_eq_false_iff_ne.mpr c8
        have c8b1 : (((l1.length : Int) % 2) != 1) = true := bne_iff_ne.mpr c8
        have H' := Aside0.mk H
        clear H
        go_enter Tryz.func156, Tryz.ntmps156
        go_wp2
        repeat (go_quiet (fail); try go_wp2)
        go_loopg [6, 7] k (fun kq v6 v7 w' => ∃ (x6_1 : List Int) (x7_1 : Int), v7 = .int .i64 x7_1 ∧ Aside0 (chirographref06_Text.l0 kq l1 x6_1 x7_1 = some (r1, r2)) ∧ Aside0 (kq ≤ k) ∧ Aside0 (Kd.R (Kd.int .u8) 5 w' w.heap.size (fun _ => True) v6 x6_1) ∧ Aside0 (Below w.heap.size w w'))
        case atStart => exact ⟨(([] : List Int)), (0), (by first | rfl | (simp; done) | (simp [*]; done)), H', ⟨Nat.le_refl _⟩, ⟨by first | exact Kd.R_nil _ _ _ _ _ | exact Kd.N_nil _ _ _ _ _ | exact Kd.V_nil _ _ _ _ _ | exact Kd.Q_nil _ _ _ _ _ | exact Kd.S_nil _ _ _ _ _⟩, ⟨by repeat (first | (with_reducible first | exact HB.out | apply below_alloc | apply pw_below_drewN | apply below_drew1) | exact HB.out)⟩⟩
        case round =>
          clear H'
          try clear c1
          try clear p2
          try clear c3
          try clear c3b0
          try clear c3b1
          try clear c5
          try clear hcv6
          try clear c7
          try clear c7b0
          try clear c7b1
          try clear c8
          try clear c8b0
          try clear c8b1
          obtain ⟨x6_1, x7_1, rfl, HA, HK1, HO_6, HB⟩ := hrel
          cases gk with
          | zero => exact absurd HA.out (by simp [chirographref06_Text.l0])
          | succ k1 =>
            have H := HA.out
            clear HA
            simp only [chirographref06_Text.l0] at H
            by_cases c9 : x7_1 < (l1.length : Int)
            · rw [if_pos c9] at H
              have c9b0 : decide (x7_1 < (l1.length : Int)) = true := decide_eq_true c9
              clear c9
              by_cases c10 : 0 ≤ x7_1
              · rw [if_pos c10] at H
                have c10b0 : decide (0 ≤ x7_1) = true := decide_eq_true c10
                clear c10
                by_cases c11 : 0 ≤ (wrap64 (x7_1 + 1))
                · rw [if_pos c11] at H
                  have c11b0 : decide (0 ≤ (wrap64 (x7_1 + 1))) = true := decide_eq_true c11
                  clear c11
                  by_cases c12 : (wrap64 (x7_1 + 1)) < (l1.length : Int)
                  · rw [if_pos c12] at H
                    have c12b0 : decide ((wrap64 (x7_1 + 1)) < (l1.length : Int)) = true := decide_eq_true c12
                    clear c12
                    have HC13 := Aside0.mk H
                    clear H
                    have p1073 : 0 ≤ (x7_1 : Int) := of_decide_eq_true (by first | (with_reducible assumption) | assumption)
                    have q1073 : x7_1 < (l1.length : Int) := of_decide_eq_true (by first | (with_reducible assumption) | assumption)
                    obtain ⟨ad1073, e1073, hx1073_0⟩ := Kd.at_int HR1.out x7_1 p1073 q1073
                    cases e1073
                    replace hx1073_0 := (HB.out.cell (World.block_lt_of_cell? w _ hx1073_0)).trans hx1073_0
                    replace p1073 := eq_true p1073
                    replace q1073 := eq_true q1073
                    have p1074 : 0 ≤ ((wrap64 (x7_1 + 1)) : Int) := of_decide_eq_true (by first | (with_reducible assumption) | assumption)
                    have q1074 : (wrap64 (x7_1 + 1)) < (l1.length : Int) := of_decide_eq_true (by first | (with_reducible assumption) | assumption)
                    obtain ⟨ad1074, e1074, hx1074_0⟩ := Kd.at_int HR1.out (wrap64 (x7_1 + 1)) p1074 q1074
                    obtain rfl : ad1073 = ad1074 := (by injection e1074)
                    replace hx1074_0 := (HB.out.cell (World.block_lt_of_cell? w _ hx1074_0)).trans hx1074_0
                    replace p1074 := eq_true p1074
                    replace q1074 := eq_true q1074
                    go_upto_region 15 with (fail)
                    repeat (go_quiet (fail); go_upto_region 15 with (fail))
                    go_cut [61] (fun v61 wc => ∃ (kq : Nat) (x61_12 : Bool), v61 = .bool x61_12 ∧ Aside0 (chirographref06_Text.j1 kq l1 x6_1 x7_1 (wrap64 ((wrap64 ((wrap64 (rd l1 x7_1)) * 256)) + (wrap64 (rd l1 (wrap64 (x7_1 + 1)))))) x61_12 = some (r1, r2)) ∧ Aside0 (kq ≤ k1) ∧ Aside0 (Kd.R (Kd.int .u8) 5 wc w.heap.size (fun _ => True) u6 x6_1) ∧ Aside0 (Below w.heap.size w wc))
                    case first =>
                      have H := HC13.out
                      clear HC13
                      by_cases c14 : (wrap64 ((wrap64 ((wrap64 (rd l1 x7_1)) * 256)) + (wrap64 (rd l1 (wrap64 (x7_1 + 1)))))) ≥ 55296
                      · rw [if_pos c14] at H
                        have c14b0 : decide (55296 ≤ (wrap64 ((wrap64 ((wrap64 (rd l1 x7_1)) * 256)) + (wrap64 (rd l1 (wrap64 (x7_1 + 1))))))) = true := decide_eq_true c14
                        clear c14
                        (first | rw [c14b0] | (simp only [i64_w, i32_w]; rw [c14b0]) | skip)
                        have H' := Aside0.mk H
                        clear H
                        go_wp2
                        repeat (go_quiet (fail); try go_wp2)
                        go_meet
                        case rel => exact ⟨_, (decide ((wrap64 ((wrap64 ((wrap64 (rd l1 x7_1)) * 256)) + (wrap64 (rd l1 (wrap64 (x7_1 + 1)))))) ≤ 57343)), (by first | rfl | (simp; done) | (simp [*]; done)), H', ⟨by have := HK1.out; first | omega | exact Nat.le_refl _⟩, ⟨by (with_reducible repeat (first | apply Kd.R_alloc | apply Kd.R_drewN | apply Kd.R_drew)); exact HO_6.out⟩, ⟨by repeat (first | (with_reducible first | exact HB.out | apply below_alloc | apply pw_below_drewN | apply below_drew1) | exact HB.out)⟩⟩
                      · rw [if_neg c14] at H
                        have c14b0 : decide (55296 ≤ (wrap64 ((wrap64 ((wrap64 (rd l1 x7_1)) * 256)) + (wrap64 (rd l1 (wrap64 (x7_1 + 1))))))) = false := decide_eq_false c14
                        clear c14
                        (first | rw [c14b0] | (simp only [i64_w, i32_w]; rw [c14b0]) | skip)
                        have H' := Aside0.mk H
                        clear H
                        go_wp2
                        repeat (go_quiet (fail); try go_wp2)
                        go_meet
                        case rel => exact ⟨_, (false), (by first | rfl | (simp; done) | (simp [*]; done)), H', ⟨by have := HK1.out; first | omega | exact Nat.le_refl _⟩, ⟨by (with_reducible repeat (first | apply Kd.R_alloc | apply Kd.R_drewN | apply Kd.R_drew)); exact HO_6.out⟩, ⟨by repeat (first | (with_reducible first | exact HB.out | apply below_alloc | apply pw_below_drewN | apply below_drew1) | exact HB.out)⟩⟩
                    case rest =>
                      clear HC13
                      try clear c1
                      try clear p1
                      try clear q1
                      try clear hx1
                      try clear p2
                      try clear c3
                      try clear c3b0
                      try clear c3b1
                      try clear c5
                      try clear p6
                      try clear hcv6
                      try clear c7
                      try clear c7b0
                      try clear c7b1
                      try clear c8
                      try clear c8b0
                      try clear c8b1
                      try clear c9
                      try clear c9b0
                      try clear c10
                      try clear c10b0
                      try clear p10
                      try clear q10
                      try clear hx10
                      try clear c11
                      try clear c11b0
                      try clear c12
                      try clear c12b0
                      try clear c14
                      try clear c14b0
                      try clear hx1073_0
                      try clear hx1074_0
                      try clear p1073
                      try clear p1074
                      try clear p2
                      try clear q1073
                      try clear q1074
                      obtain ⟨kq, x61_12, rfl, HA, HJ12, HO_6, HB⟩ := hcut
                      cases kq with
                      | zero => exact absurd HA.out (by simp [chirographref06_Text.j1])
                      | succ kj12 =>
                        have H := HA.out
                        clear HA
                        simp only [chirographref06_Text.j1] at H
                        by_cases c15 : x61_12 = true
                        · subst c15
                          have H1 : (some ((⟨#[]⟩ : ByteArray), 60)) = some (r1, r2) := by rw [if_pos rfl] at H; exact H
                          clear H
                          have H := H1
                          clear H1
                          simp only [Option.some.injEq, Prod.mk.injEq] at H
                          obtain ⟨rfl, rfl⟩ := H
                          go_wp2
                          repeat (go_quiet (fail); try go_wp2)
                          go_ret2
                          exact ⟨by first | rfl | (simp [errW_none, errW_some] <;> rfl) | (simp [*, errW_none, errW_some] <;> rfl), by repeat (first | (with_reducible first | exact HB.out | apply below_alloc | apply pw_below_drewN | apply below_drew1) | exact HB.out)⟩
                        · replace c15 := Bool.eq_false_iff.mpr c15
                          subst c15
                          have H1 : (if (wrap64 ((wrap64 ((wrap64 (rd l1 x7_1)) * 256)) + (wrap64 (rd l1 (wrap64 (x7_1 + 1)))))) < 128 then (if x6_1.length < 140737488355328 then (chirographref06_Text.l0 kj12 l1 (x6_1 ++ [((wrap64 ((wrap64 ((wrap64 (rd l1 x7_1)) * 256)) + (wrap64 (rd l1 (wrap64 (x7_1 + 1))))))) % 256]) (wrap64 (x7_1 + 2))) else (none)) else (if (wrap64 ((wrap64 ((wrap64 (rd l1 x7_1)) * 256)) + (wrap64 (rd l1 (wrap64 (x7_1 + 1)))))) < 2048 then ((some (([(wrap64 (192 + (wrap64 (Int.tdiv (wrap64 ((wrap64 ((wrap64 (rd l1 x7_1)) * 256)) + (wrap64 (rd l1 (wrap64 (x7_1 + 1)))))) 64)))) % 256, (wrap64 (128 + (Int.tmod (wrap64 ((wrap64 ((wrap64 (rd l1 x7_1)) * 256)) + (wrap64 (rd l1 (wrap64 (x7_1 + 1)))))) 64))) % 256] : List Int) : List Int)).bind fun y1078 => (if x6_1.length + y1078.length < 140737488355328 then (chirographref06_Text.l0 kj12 l1 (x6_1 ++ y1078) (wrap64 (x7_1 + 2))) else (none))) else ((some (([(wrap64 (224 + (wrap64 (Int.tdiv (wrap64 ((wrap64 ((wrap64 (rd l1 x7_1)) * 256)) + (wrap64 (rd l1 (wrap64 (x7_1 + 1)))))) 4096)))) % 256, (wrap64 (128 + (Int.tmod (wrap64 (Int.tdiv (wrap64 ((wrap64 ((wrap64 (rd l1 x7_1)) * 256)) + (wrap64 (rd l1 (wrap64 (x7_1 + 1)))))) 64)) 64))) % 256, (wrap64 (128 + (Int.tmod (wrap64 ((wrap64 ((wrap64 (rd l1 x7_1)) * 256)) + (wrap64 (rd l1 (wrap64 (x7_1 + 1)))))) 64))) % 256] : List Int) : List Int)).bind fun y1084 => (if x6_1.length + y1084.length < 140737488355328 then (chirographref06_Text.l0 kj12 l1 (x6_1 ++ y1084) (wrap64 (x7_1 + 2))) else (none))))) = some (r1, r2) := by rw [if_neg (show ¬ (false = true) by decide)] at H; exact H
                          clear H
                          have H := H1
                          clear H1
                          by_cases c16 : (wrap64 ((wrap64 ((wrap64 (rd l1 x7_1)) * 256)) + (wrap64 (rd l1 (wrap64 (x7_1 + 1)))))) < 128
                          · rw [if_pos c16] at H
                            have c16b0 : decide ((wrap64 ((wrap64 ((wrap64 (rd l1 x7_1)) * 256)) + (wrap64 (rd l1 (wrap64 (x7_1 + 1)))))) < 128) = true := decide_eq_true c16
                            clear c16
                            by_cases c17 : x6_1.length < 140737488355328
                            · rw [if_pos c17] at H
                              have LMc17 := Aside0.mk c17
                              clear c17
                              obtain ⟨y1075, hy1075⟩ : ∃ y_ : List Int, y_ = (x6_1 ++ [((wrap64 ((wrap64 ((wrap64 (rd l1 x7_1)) * 256)) + (wrap64 (rd l1 (wrap64 (x7_1 + 1))))))) % 256]) := ⟨_, rfl⟩
                              replace H : (chirographref06_Text.l0 kj12 l1 y1075 (wrap64 (x7_1 + 2))) = some (r1, r2) := by first | (rw [hy1075]; with_reducible exact H) | (have H2_ := (Option.bind_some _ _).symm.trans H; rw [hy1075]; with_reducible exact H2_) | (have H2_ := (Option.bind_some _ _).symm.trans H; with_reducible exact H2_) | with_reducible exact H | (rw [hy1075]; exact H) | exact H
                              have Ny1075 := Aside0.mk hy1075
                              clear hy1075
                              have H' := Aside0.mk H
                              clear H
                              go_wp2_with (first | ((with_reducible refine gate_builtin (b := .append) (xs := #[.tmp 71, .tmp 74]) rfl ?_); at_builtin; refine Kd.R_append (Kd.int .u8) (w0 := w) w.heap.size rfl (.tmp 71) (.tmp 74) 22 5 (.int .u8 0) 1 rfl Tryz.underlying22 info5 rfl (by decide) (by omega) u6 x6_1 (((wrap64 ((wrap64 ((wrap64 (rd l1 x7_1)) * 256)) + (wrap64 (rd l1 (wrap64 (x7_1 + 1))))))) % 256) [.int .u8 (((wrap64 ((wrap64 ((wrap64 (rd l1 x7_1)) * 256)) + (wrap64 (rd l1 (wrap64 (x7_1 + 1))))))) % 256)] (fun _ => True) (fun _ => False) rfl rfl ?aP (fun _ hk => hk.elim) ?aF ?aO ?aB ?aS ?aL ?_; (case aP => exact rfl); (case aB => exact (by repeat (first | (with_reducible first | exact HB.out | apply below_alloc | apply pw_below_drewN | apply below_drew1) | exact HB.out))); (case aF => exact (fun _ _ => trivial)); (case aO => exact (by (with_reducible repeat (first | apply Kd.R_alloc | apply Kd.R_drewN | apply Kd.R_drew)); exact HO_6.out)); (case aS => exact (below_size (by repeat (first | (with_reducible first | exact HB.out | apply below_alloc | apply pw_below_drewN | apply below_drew1) | exact HB.out)))); (case aL => have := LMc17.out; omega); intro v1076 w18 ho hb hg hat; rw [← Ny1075.out] at ho; have n0_ := Aside0.mk (hb); have n1_ := Aside0.mk (ho); clear HB; clear HO_6; have HB := n0_; have HO1077 := n1_; clear n0_ n1_; clear ho hb hg hat))
                              repeat (go_quiet (first | ((with_reducible refine gate_builtin (b := .append) (xs := #[.tmp 71, .tmp 74]) rfl ?_); at_builtin; refine Kd.R_append (Kd.int .u8) (w0 := w) w.heap.size rfl (.tmp 71) (.tmp 74) 22 5 (.int .u8 0) 1 rfl Tryz.underlying22 info5 rfl (by decide) (by omega) u6 x6_1 (((wrap64 ((wrap64 ((wrap64 (rd l1 x7_1)) * 256)) + (wrap64 (rd l1 (wrap64 (x7_1 + 1))))))) % 256) [.int .u8 (((wrap64 ((wrap64 ((wrap64 (rd l1 x7_1)) * 256)) + (wrap64 (rd l1 (wrap64 (x7_1 + 1))))))) % 256)] (fun _ => True) (fun _ => False) rfl rfl ?aP (fun _ hk => hk.elim) ?aF ?aO ?aB ?aS ?aL ?_; (case aP => exact rfl); (case aB => exact (by repeat (first | (with_reducible first | exact HB.out | apply below_alloc | apply pw_below_drewN | apply below_drew1) | exact HB.out))); (case aF => exact (fun _ _ => trivial)); (case aO => exact (by (with_reducible repeat (first | apply Kd.R_alloc | apply Kd.R_drewN | apply Kd.R_drew)); exact HO_6.out)); (case aS => exact (below_size (by repeat (first | (with_reducible first | exact HB.out | apply below_alloc | apply pw_below_drewN | apply below_drew1) | exact HB.out)))); (case aL => have := LMc17.out; omega); intro v1076 w18 ho hb hg hat; rw [← Ny1075.out] at ho; have n0_ := Aside0.mk (hb); have n1_ := Aside0.mk (ho); clear HB; clear HO_6; have HB := n0_; have HO1077 := n1_; clear n0_ n1_; clear ho hb hg hat)); try go_wp2_with (first | ((with_reducible refine gate_builtin (b := .append) (xs := #[.tmp 71, .tmp 74]) rfl ?_); at_builtin; refine Kd.R_append (Kd.int .u8) (w0 := w) w.heap.size rfl (.tmp 71) (.tmp 74) 22 5 (.int .u8 0) 1 rfl Tryz.underlying22 info5 rfl (by decide) (by omega) u6 x6_1 (((wrap64 ((wrap64 ((wrap64 (rd l1 x7_1)) * 256)) + (wrap64 (rd l1 (wrap64 (x7_1 + 1))))))) % 256) [.int .u8 (((wrap64 ((wrap64 ((wrap64 (rd l1 x7_1)) * 256)) + (wrap64 (rd l1 (wrap64 (x7_1 + 1))))))) % 256)] (fun _ => True) (fun _ => False) rfl rfl ?aP (fun _ hk => hk.elim) ?aF ?aO ?aB ?aS ?aL ?_; (case aP => exact rfl); (case aB => exact (by repeat (first | (with_reducible first | exact HB.out | apply below_alloc | apply pw_below_drewN | apply below_drew1) | exact HB.out))); (case aF => exact (fun _ _ => trivial)); (case aO => exact (by (with_reducible repeat (first | apply Kd.R_alloc | apply Kd.R_drewN | apply Kd.R_drew)); exact HO_6.out)); (case aS => exact (below_size (by repeat (first | (with_reducible first | exact HB.out | apply below_alloc | apply pw_below_drewN | apply below_drew1) | exact HB.out)))); (case aL => have := LMc17.out; omega); intro v1076 w18 ho hb hg hat; rw [← Ny1075.out] at ho; have n0_ := Aside0.mk (hb); have n1_ := Aside0.mk (ho); clear HB; clear HO_6; have HB := n0_; have HO1077 := n1_; clear n0_ n1_; clear ho hb hg hat)))
                              go_roundg kj12
                              case measure => have := HK1.out; have := HJ12.out; omega
                              case rel => exact ⟨(y1075), (wrap64 (x7_1 + 2)), (by first | rfl | (simp; done) | (simp [*]; done)), H', ⟨by have := HK1.out; have := HJ12.out; omega⟩, ⟨by (with_reducible repeat (first | apply Kd.R_alloc | apply Kd.R_drewN | apply Kd.R_drew)); exact HO1077.out⟩, ⟨by repeat (first | (with_reducible first | exact HB.out | apply below_alloc | apply pw_below_drewN | apply below_drew1) | exact HB.out)⟩⟩
                            · rw [if_neg c17] at H
                              exact absurd H (by simp)
                          · rw [if_neg c16] at H
                            have c16b0 : decide ((wrap64 ((wrap64 ((wrap64 (rd l1 x7_1)) * 256)) + (wrap64 (rd l1 (wrap64 (x7_1 + 1)))))) < 128) = false := decide_eq_false c16
                            clear c16
                            by_cases c19 : (wrap64 ((wrap64 ((wrap64 (rd l1 x7_1)) * 256)) + (wrap64 (rd l1 (wrap64 (x7_1 + 1)))))) < 2048
                            · rw [if_pos c19] at H
                              have c19b0 : decide ((wrap64 ((wrap64 ((wrap64 (rd l1 x7_1)) * 256)) + (wrap64 (rd l1 (wrap64 (x7_1 + 1)))))) < 2048) = true := decide_eq_true c19
                              clear c19
                              obtain ⟨y1078, hy1078⟩ : ∃ y_ : List Int, y_ = (([(wrap64 (192 + (wrap64 (Int.tdiv (wrap64 ((wrap64 ((wrap64 (rd l1 x7_1)) * 256)) + (wrap64 (rd l1 (wrap64 (x7_1 + 1)))))) 64)))) % 256, (wrap64 (128 + (Int.tmod (wrap64 ((wrap64 ((wrap64 (rd l1 x7_1)) * 256)) + (wrap64 (rd l1 (wrap64 (x7_1 + 1)))))) 64))) % 256] : List Int)) := ⟨_, rfl⟩
                              replace H : (if x6_1.length + y1078.length < 140737488355328 then (chirographref06_Text.l0 kj12 l1 (x6_1 ++ y1078) (wrap64 (x7_1 + 2))) else (none)) = some (r1, r2) := by first | (rw [hy1078]; with_reducible exact H) | (have H2_ := (Option.bind_some _ _).symm.trans H; rw [hy1078]; with_reducible exact H2_) | (have H2_ := (Option.bind_some _ _).symm.trans H; with_reducible exact H2_) | with_reducible exact H | (rw [hy1078]; exact H) | exact H
                              have Ny1078 := Aside0.mk hy1078
                              clear hy1078
                              by_cases c20 : x6_1.length + y1078.length < 140737488355328
                              · rw [if_pos c20] at H
                                have LMc20 := Aside0.mk c20
                                clear c20
                                obtain ⟨y1081, hy1081⟩ : ∃ y_ : List Int, y_ = (x6_1 ++ y1078) := ⟨_, rfl⟩
                                replace H : (chirographref06_Text.l0 kj12 l1 y1081 (wrap64 (x7_1 + 2))) = some (r1, r2) := by first | (rw [hy1081]; with_reducible exact H) | (have H2_ := (Option.bind_some _ _).symm.trans H; rw [hy1081]; with_reducible exact H2_) | (have H2_ := (Option.bind_some _ _).symm.trans H; with_reducible exact H2_) | with_reducible exact H | (rw [hy1081]; exact H) | exact H
                                have Ny1081 := Aside0.mk hy1081
                                clear hy1081
                                have H' := Aside0.mk H
                                clear H
                                go_wp2_with (first | ((with_reducible refine gate_dst (N := 88) rfl ?_); refine Kd.R_lit (Kd.int .u8) _ 5 ?hg (N := 88) ?hd (xs := ([(wrap64 (192 + (wrap64 (Int.tdiv (wrap64 ((wrap64 ((wrap64 (rd l1 x7_1)) * 256)) + (wrap64 (rd l1 (wrap64 (x7_1 + 1)))))) 64)))) % 256, (wrap64 (128 + (Int.tmod (wrap64 ((wrap64 ((wrap64 (rd l1 x7_1)) * 256)) + (wrap64 (rd l1 (wrap64 (x7_1 + 1)))))) 64))) % 256] : List Int)) (inner := [.int .u8 ((wrap64 (192 + (wrap64 (Int.tdiv (wrap64 ((wrap64 ((wrap64 (rd l1 x7_1)) * 256)) + (wrap64 (rd l1 (wrap64 (x7_1 + 1)))))) 64)))) % 256), .int .u8 ((wrap64 (128 + (Int.tmod (wrap64 ((wrap64 ((wrap64 (rd l1 x7_1)) * 256)) + (wrap64 (rd l1 (wrap64 (x7_1 + 1)))))) 64))) % 256)]) (ok := fun _ => True) (okp := fun _ => True) ?hr ?hp (fun _ hk => hk) trivial (Below.refl _ _) (Nat.le_refl _) (by simp) ?_; (case hd => rfl); (case hg => rfl); (case hr => first | (go_simp; done) | (go_simp; rfl)); (case hp => exact (Reps.one (show Kd.M (Kd.int .u8) _ _ _ ((wrap64 (192 + (wrap64 (Int.tdiv (wrap64 ((wrap64 ((wrap64 (rd l1 x7_1)) * 256)) + (wrap64 (rd l1 (wrap64 (x7_1 + 1)))))) 64)))) % 256) [.int .u8 ((wrap64 (192 + (wrap64 (Int.tdiv (wrap64 ((wrap64 ((wrap64 (rd l1 x7_1)) * 256)) + (wrap64 (rd l1 (wrap64 (x7_1 + 1)))))) 64)))) % 256)] from rfl) (Reps.one (show Kd.M (Kd.int .u8) _ _ _ ((wrap64 (128 + (Int.tmod (wrap64 ((wrap64 ((wrap64 (rd l1 x7_1)) * 256)) + (wrap64 (rd l1 (wrap64 (x7_1 + 1)))))) 64))) % 256) [.int .u8 ((wrap64 (128 + (Int.tmod (wrap64 ((wrap64 ((wrap64 (rd l1 x7_1)) * 256)) + (wrap64 (rd l1 (wrap64 (x7_1 + 1)))))) 64))) % 256)] from rfl) (Reps.none _ _)))); intro v1079 w21 ho22 hb hg_ hnew_; clear hg_ hnew_; (first | rw [← Ny1078.out] at ho22 | (simp only [Int.reduceToNat] at ho22; rw [← Ny1078.out] at ho22)); have n0_ := Aside0.mk (Kd.R_elder' (by (with_reducible repeat (first | apply Kd.R_alloc | apply Kd.R_drewN | apply Kd.R_drew)); exact HO_6.out) (Kd.R_base ho22) hb); have n1_ := Aside0.mk (Kd.R_lower (Kd.R_new' ho22 (Kd.R_lt (by (with_reducible repeat (first | apply Kd.R_alloc | apply Kd.R_drewN | apply Kd.R_drew)); exact HO_6.out))) (below_size (by repeat (first | (with_reducible first | exact HB.out | apply below_alloc | apply pw_below_drewN | apply below_drew1) | exact HB.out)))); have n2_ := Aside0.mk (below_step (by repeat (first | (with_reducible first | exact HB.out | apply below_alloc | apply pw_below_drewN | apply below_drew1) | exact HB.out)) hb); clear HO_6; clear HB; have HO_6 := n0_; have HO1080 := n1_; have HB := n2_; clear n0_ n1_ n2_; clear hb ho22; obtain ⟨Ao24, co24, eo24⟩ := Kd.R_slice HO1080.out; subst eo24) | ((with_reducible refine gate_builtin (b := .append) (xs := #[.tmp 79, .tmp 88]) rfl ?_); at_builtin; refine Kd.R_append_rows (Kd.int .u8) (w0 := w) w.heap.size rfl (.tmp 79) (.tmp 88) 22 5 (.int .u8 0) 1 rfl Tryz.underlying22 info5 rfl (by decide) (by omega) u6 x6_1 y1078 _ _ _ (fun k_ => some k_ ≠ (.slice Ao24 y1078.length co24 : Value).ownBlock) (fun _ => False) rfl rfl ?aO ?aR (fun _ _ h => h) (fun _ h => h.elim) ?aF ?aB ?aS ?aL ?_; (case aR => repeat (first | exact (Kd.R_reads' HO1080.out).2.2 | (with_reducible refine Kd.C_alloc ?_ _) | (with_reducible refine Kd.C_drewN ?_ _) | (with_reducible refine Kd.C_drew ?_))); (case aB => exact (by repeat (first | (with_reducible first | exact HB.out | apply below_alloc | apply pw_below_drewN | apply below_drew1) | exact HB.out))); (case aF => exact (fun k_ hk => Kd.fresh' (Kd.R_lt (by (with_reducible repeat (first | apply Kd.R_alloc | apply Kd.R_drewN | apply Kd.R_drew)); exact HO1080.out)) k_ hk)); (case aO => exact (by (with_reducible repeat (first | apply Kd.R_alloc | apply Kd.R_drewN | apply Kd.R_drew)); exact Kd.R_mono HO_6.out (fun _ hk => hk.2))); (case aS => exact (below_size (by repeat (first | (with_reducible first | exact HB.out | apply below_alloc | apply pw_below_drewN | apply below_drew1) | exact HB.out)))); (case aL => have := LMc20.out; omega); intro v1082 w23 ho hb hg hat; rw [← Ny1081.out] at ho; have n0_ := Aside0.mk (Kd.R_after (ok := (fun _ => True)) (by (with_reducible repeat (first | apply Kd.R_alloc | apply Kd.R_drewN | apply Kd.R_drew)); exact HO1080.out) hg hat); have n1_ := Aside0.mk (hb); have n2_ := Aside0.mk (ho); clear HO1080; clear HB; clear HO_6; have HO1080 := n0_; have HB := n1_; have HO1083 := n2_; clear n0_ n1_ n2_; clear ho hb hg hat))
                                repeat (go_quiet (first | ((with_reducible refine gate_dst (N := 88) rfl ?_); refine Kd.R_lit (Kd.int .u8) _ 5 ?hg (N := 88) ?hd (xs := ([(wrap64 (192 + (wrap64 (Int.tdiv (wrap64 ((wrap64 ((wrap64 (rd l1 x7_1)) * 256)) + (wrap64 (rd l1 (wrap64 (x7_1 + 1)))))) 64)))) % 256, (wrap64 (128 + (Int.tmod (wrap64 ((wrap64 ((wrap64 (rd l1 x7_1)) * 256)) + (wrap64 (rd l1 (wrap64 (x7_1 + 1)))))) 64))) % 256] : List Int)) (inner := [.int .u8 ((wrap64 (192 + (wrap64 (Int.tdiv (wrap64 ((wrap64 ((wrap64 (rd l1 x7_1)) * 256)) + (wrap64 (rd l1 (wrap64 (x7_1 + 1)))))) 64)))) % 256), .int .u8 ((wrap64 (128 + (Int.tmod (wrap64 ((wrap64 ((wrap64 (rd l1 x7_1)) * 256)) + (wrap64 (rd l1 (wrap64 (x7_1 + 1)))))) 64))) % 256)]) (ok := fun _ => True) (okp := fun _ => True) ?hr ?hp (fun _ hk => hk) trivial (Below.refl _ _) (Nat.le_refl _) (by simp) ?_; (case hd => rfl); (case hg => rfl); (case hr => first | (go_simp; done) | (go_simp; rfl)); (case hp => exact (Reps.one (show Kd.M (Kd.int .u8) _ _ _ ((wrap64 (192 + (wrap64 (Int.tdiv (wrap64 ((wrap64 ((wrap64 (rd l1 x7_1)) * 256)) + (wrap64 (rd l1 (wrap64 (x7_1 + 1)))))) 64)))) % 256) [.int .u8 ((wrap64 (192 + (wrap64 (Int.tdiv (wrap64 ((wrap64 ((wrap64 (rd l1 x7_1)) * 256)) + (wrap64 (rd l1 (wrap64 (x7_1 + 1)))))) 64)))) % 256)] from rfl) (Reps.one (show Kd.M (Kd.int .u8) _ _ _ ((wrap64 (128 + (Int.tmod (wrap64 ((wrap64 ((wrap64 (rd l1 x7_1)) * 256)) + (wrap64 (rd l1 (wrap64 (x7_1 + 1)))))) 64))) % 256) [.int .u8 ((wrap64 (128 + (Int.tmod (wrap64 ((wrap64 ((wrap64 (rd l1 x7_1)) * 256)) + (wrap64 (rd l1 (wrap64 (x7_1 + 1)))))) 64))) % 256)] from rfl) (Reps.none _ _)))); intro v1079 w21 ho22 hb hg_ hnew_; clear hg_ hnew_; (first | rw [← Ny1078.out] at ho22 | (simp only [Int.reduceToNat] at ho22; rw [← Ny1078.out] at ho22)); have n0_ := Aside0.mk (Kd.R_elder' (by (with_reducible repeat (first | apply Kd.R_alloc | apply Kd.R_drewN | apply Kd.R_drew)); exact HO_6.out) (Kd.R_base ho22) hb); have n1_ := Aside0.mk (Kd.R_lower (Kd.R_new' ho22 (Kd.R_lt (by (with_reducible repeat (first | apply Kd.R_alloc | apply Kd.R_drewN | apply Kd.R_drew)); exact HO_6.out))) (below_size (by repeat (first | (with_reducible first | exact HB.out | apply below_alloc | apply pw_below_drewN | apply below_drew1) | exact HB.out)))); have n2_ := Aside0.mk (below_step (by repeat (first | (with_reducible first | exact HB.out | apply below_alloc | apply pw_below_drewN | apply below_drew1) | exact HB.out)) hb); clear HO_6; clear HB; have HO_6 := n0_; have HO1080 := n1_; have HB := n2_; clear n0_ n1_ n2_; clear hb ho22; obtain ⟨Ao24, co24, eo24⟩ := Kd.R_slice HO1080.out; subst eo24) | ((with_reducible refine gate_builtin (b := .append) (xs := #[.tmp 79, .tmp 88]) rfl ?_); at_builtin; refine Kd.R_append_rows (Kd.int .u8) (w0 := w) w.heap.size rfl (.tmp 79) (.tmp 88) 22 5 (.int .u8 0) 1 rfl Tryz.underlying22 info5 rfl (by decide) (by omega) u6 x6_1 y1078 _ _ _ (fun k_ => some k_ ≠ (.slice Ao24 y1078.length co24 : Value).ownBlock) (fun _ => False) rfl rfl ?aO ?aR (fun _ _ h => h) (fun _ h => h.elim) ?aF ?aB ?aS ?aL ?_; (case aR => repeat (first | exact (Kd.R_reads' HO1080.out).2.2 | (with_reducible refine Kd.C_alloc ?_ _) | (with_reducible refine Kd.C_drewN ?_ _) | (with_reducible refine Kd.C_drew ?_))); (case aB => exact (by repeat (first | (with_reducible first | exact HB.out | apply below_alloc | apply pw_below_drewN | apply below_drew1) | exact HB.out))); (case aF => exact (fun k_ hk => Kd.fresh' (Kd.R_lt (by (with_reducible repeat (first | apply Kd.R_alloc | apply Kd.R_drewN | apply Kd.R_drew)); exact HO1080.out)) k_ hk)); (case aO => exact (by (with_reducible repeat (first | apply Kd.R_alloc | apply Kd.R_drewN | apply Kd.R_drew)); exact Kd.R_mono HO_6.out (fun _ hk => hk.2))); (case aS => exact (below_size (by repeat (first | (with_reducible first | exact HB.out | apply below_alloc | apply pw_below_drewN | apply below_drew1) | exact HB.out)))); (case aL => have := LMc20.out; omega); intro v1082 w23 ho hb hg hat; rw [← Ny1081.out] at ho; have n0_ := Aside0.mk (Kd.R_after (ok := (fun _ => True)) (by (with_reducible repeat (first | apply Kd.R_alloc | apply Kd.R_drewN | apply Kd.R_drew)); exact HO1080.out) hg hat); have n1_ := Aside0.mk (hb); have n2_ := Aside0.mk (ho); clear HO1080; clear HB; clear HO_6; have HO1080 := n0_; have HB := n1_; have HO1083 := n2_; clear n0_ n1_ n2_; clear ho hb hg hat)); try go_wp2_with (first | ((with_reducible refine gate_dst (N := 88) rfl ?_); refine Kd.R_lit (Kd.int .u8) _ 5 ?hg (N := 88) ?hd (xs := ([(wrap64 (192 + (wrap64 (Int.tdiv (wrap64 ((wrap64 ((wrap64 (rd l1 x7_1)) * 256)) + (wrap64 (rd l1 (wrap64 (x7_1 + 1)))))) 64)))) % 256, (wrap64 (128 + (Int.tmod (wrap64 ((wrap64 ((wrap64 (rd l1 x7_1)) * 256)) + (wrap64 (rd l1 (wrap64 (x7_1 + 1)))))) 64))) % 256] : List Int)) (inner := [.int .u8 ((wrap64 (192 + (wrap64 (Int.tdiv (wrap64 ((wrap64 ((wrap64 (rd l1 x7_1)) * 256)) + (wrap64 (rd l1 (wrap64 (x7_1 + 1)))))) 64)))) % 256), .int .u8 ((wrap64 (128 + (Int.tmod (wrap64 ((wrap64 ((wrap64 (rd l1 x7_1)) * 256)) + (wrap64 (rd l1 (wrap64 (x7_1 + 1)))))) 64))) % 256)]) (ok := fun _ => True) (okp := fun _ => True) ?hr ?hp (fun _ hk => hk) trivial (Below.refl _ _) (Nat.le_refl _) (by simp) ?_; (case hd => rfl); (case hg => rfl); (case hr => first | (go_simp; done) | (go_simp; rfl)); (case hp => exact (Reps.one (show Kd.M (Kd.int .u8) _ _ _ ((wrap64 (192 + (wrap64 (Int.tdiv (wrap64 ((wrap64 ((wrap64 (rd l1 x7_1)) * 256)) + (wrap64 (rd l1 (wrap64 (x7_1 + 1)))))) 64)))) % 256) [.int .u8 ((wrap64 (192 + (wrap64 (Int.tdiv (wrap64 ((wrap64 ((wrap64 (rd l1 x7_1)) * 256)) + (wrap64 (rd l1 (wrap64 (x7_1 + 1)))))) 64)))) % 256)] from rfl) (Reps.one (show Kd.M (Kd.int .u8) _ _ _ ((wrap64 (128 + (Int.tmod (wrap64 ((wrap64 ((wrap64 (rd l1 x7_1)) * 256)) + (wrap64 (rd l1 (wrap64 (x7_1 + 1)))))) 64))) % 256) [.int .u8 ((wrap64 (128 + (Int.tmod (wrap64 ((wrap64 ((wrap64 (rd l1 x7_1)) * 256)) + (wrap64 (rd l1 (wrap64 (x7_1 + 1)))))) 64))) % 256)] from rfl) (Reps.none _ _)))); intro v1079 w21 ho22 hb hg_ hnew_; clear hg_ hnew_; (first | rw [← Ny1078.out] at ho22 | (simp only [Int.reduceToNat] at ho22; rw [← Ny1078.out] at ho22)); have n0_ := Aside0.mk (Kd.R_elder' (by (with_reducible repeat (first | apply Kd.R_alloc | apply Kd.R_drewN | apply Kd.R_drew)); exact HO_6.out) (Kd.R_base ho22) hb); have n1_ := Aside0.mk (Kd.R_lower (Kd.R_new' ho22 (Kd.R_lt (by (with_reducible repeat (first | apply Kd.R_alloc | apply Kd.R_drewN | apply Kd.R_drew)); exact HO_6.out))) (below_size (by repeat (first | (with_reducible first | exact HB.out | apply below_alloc | apply pw_below_drewN | apply below_drew1) | exact HB.out)))); have n2_ := Aside0.mk (below_step (by repeat (first | (with_reducible first | exact HB.out | apply below_alloc | apply pw_below_drewN | apply below_drew1) | exact HB.out)) hb); clear HO_6; clear HB; have HO_6 := n0_; have HO1080 := n1_; have HB := n2_; clear n0_ n1_ n2_; clear hb ho22; obtain ⟨Ao24, co24, eo24⟩ := Kd.R_slice HO1080.out; subst eo24) | ((with_reducible refine gate_builtin (b := .append) (xs := #[.tmp 79, .tmp 88]) rfl ?_); at_builtin; refine Kd.R_append_rows (Kd.int .u8) (w0 := w) w.heap.size rfl (.tmp 79) (.tmp 88) 22 5 (.int .u8 0) 1 rfl Tryz.underlying22 info5 rfl (by decide) (by omega) u6 x6_1 y1078 _ _ _ (fun k_ => some k_ ≠ (.slice Ao24 y1078.length co24 : Value).ownBlock) (fun _ => False) rfl rfl ?aO ?aR (fun _ _ h => h) (fun _ h => h.elim) ?aF ?aB ?aS ?aL ?_; (case aR => repeat (first | exact (Kd.R_reads' HO1080.out).2.2 | (with_reducible refine Kd.C_alloc ?_ _) | (with_reducible refine Kd.C_drewN ?_ _) | (with_reducible refine Kd.C_drew ?_))); (case aB => exact (by repeat (first | (with_reducible first | exact HB.out | apply below_alloc | apply pw_below_drewN | apply below_drew1) | exact HB.out))); (case aF => exact (fun k_ hk => Kd.fresh' (Kd.R_lt (by (with_reducible repeat (first | apply Kd.R_alloc | apply Kd.R_drewN | apply Kd.R_drew)); exact HO1080.out)) k_ hk)); (case aO => exact (by (with_reducible repeat (first | apply Kd.R_alloc | apply Kd.R_drewN | apply Kd.R_drew)); exact Kd.R_mono HO_6.out (fun _ hk => hk.2))); (case aS => exact (below_size (by repeat (first | (with_reducible first | exact HB.out | apply below_alloc | apply pw_below_drewN | apply below_drew1) | exact HB.out)))); (case aL => have := LMc20.out; omega); intro v1082 w23 ho hb hg hat; rw [← Ny1081.out] at ho; have n0_ := Aside0.mk (Kd.R_after (ok := (fun _ => True)) (by (with_reducible repeat (first | apply Kd.R_alloc | apply Kd.R_drewN | apply Kd.R_drew)); exact HO1080.out) hg hat); have n1_ := Aside0.mk (hb); have n2_ := Aside0.mk (ho); clear HO1080; clear HB; clear HO_6; have HO1080 := n0_; have HB := n1_; have HO1083 := n2_; clear n0_ n1_ n2_; clear ho hb hg hat)))
                                go_roundg kj12
                                case measure => have := HK1.out; have := HJ12.out; omega
                                case rel => exact ⟨(y1081), (wrap64 (x7_1 + 2)), (by first | rfl | (simp; done) | (simp [*]; done)), H', ⟨by have := HK1.out; have := HJ12.out; omega⟩, ⟨by (with_reducible repeat (first | apply Kd.R_alloc | apply Kd.R_drewN | apply Kd.R_drew)); exact Kd.R_mono HO1083.out (fun _ hk => trivial)⟩, ⟨by repeat (first | (with_reducible first | exact HB.out | apply below_alloc | apply pw_below_drewN | apply below_drew1) | exact HB.out)⟩⟩
                              · rw [if_neg c20] at H
                                exact absurd H (by simp)
                            · rw [if_neg c19] at H
                              have c19b0 : decide ((wrap64 ((wrap64 ((wrap64 (rd l1 x7_1)) * 256)) + (wrap64 (rd l1 (wrap64 (x7_1 + 1)))))) < 2048) = false := decide_eq_false c19
                              clear c19
                              obtain ⟨y1084, hy1084⟩ : ∃ y_ : List Int, y_ = (([(wrap64 (224 + (wrap64 (Int.tdiv (wrap64 ((wrap64 ((wrap64 (rd l1 x7_1)) * 256)) + (wrap64 (rd l1 (wrap64 (x7_1 + 1)))))) 4096)))) % 256, (wrap64 (128 + (Int.tmod (wrap64 (Int.tdiv (wrap64 ((wrap64 ((wrap64 (rd l1 x7_1)) * 256)) + (wrap64 (rd l1 (wrap64 (x7_1 + 1)))))) 64)) 64))) % 256, (wrap64 (128 + (Int.tmod (wrap64 ((wrap64 ((wrap64 (rd l1 x7_1)) * 256)) + (wrap64 (rd l1 (wrap64 (x7_1 + 1)))))) 64))) % 256] : List Int)) := ⟨_, rfl⟩
                              replace H : (if x6_1.length + y1084.length < 140737488355328 then (chirographref06_Text.l0 kj12 l1 (x6_1 ++ y1084) (wrap64 (x7_1 + 2))) else (none)) = some (r1, r2) := by first | (rw [hy1084]; with_reducible exact H) | (have H2_ := (Option.bind_some _ _).symm.trans H; rw [hy1084]; with_reducible exact H2_) | (have H2_ := (Option.bind_some _ _).symm.trans H; with_reducible exact H2_) | with_reducible exact H | (rw [hy1084]; exact H) | exact H
                              have Ny1084 := Aside0.mk hy1084
                              clear hy1084
                              by_cases c25 : x6_1.length + y1084.length < 140737488355328
                              · rw [if_pos c25] at H
                                have LMc25 := Aside0.mk c25
                                clear c25
                                obtain ⟨y1087, hy1087⟩ : ∃ y_ : List Int, y_ = (x6_1 ++ y1084) := ⟨_, rfl⟩
                                replace H : (chirographref06_Text.l0 kj12 l1 y1087 (wrap64 (x7_1 + 2))) = some (r1, r2) := by first | (rw [hy1087]; with_reducible exact H) | (have H2_ := (Option.bind_some _ _).symm.trans H; rw [hy1087]; with_reducible exact H2_) | (have H2_ := (Option.bind_some _ _).symm.trans H; with_reducible exact H2_) | with_reducible exact H | (rw [hy1087]; exact H) | exact H
                                have Ny1087 := Aside0.mk hy1087
                                clear hy1087
                                have H' := Aside0.mk H
                                clear H
                                go_wp2_with (first | ((with_reducible refine gate_dst (N := 59) rfl ?_); refine Kd.R_lit (Kd.int .u8) _ 5 ?hg (N := 59) ?hd (xs := ([(wrap64 (224 + (wrap64 (Int.tdiv (wrap64 ((wrap64 ((wrap64 (rd l1 x7_1)) * 256)) + (wrap64 (rd l1 (wrap64 (x7_1 + 1)))))) 4096)))) % 256, (wrap64 (128 + (Int.tmod (wrap64 (Int.tdiv (wrap64 ((wrap64 ((wrap64 (rd l1 x7_1)) * 256)) + (wrap64 (rd l1 (wrap64 (x7_1 + 1)))))) 64)) 64))) % 256, (wrap64 (128 + (Int.tmod (wrap64 ((wrap64 ((wrap64 (rd l1 x7_1)) * 256)) + (wrap64 (rd l1 (wrap64 (x7_1 + 1)))))) 64))) % 256] : List Int)) (inner := [.int .u8 ((wrap64 (224 + (wrap64 (Int.tdiv (wrap64 ((wrap64 ((wrap64 (rd l1 x7_1)) * 256)) + (wrap64 (rd l1 (wrap64 (x7_1 + 1)))))) 4096)))) % 256), .int .u8 ((wrap64 (128 + (Int.tmod (wrap64 (Int.tdiv (wrap64 ((wrap64 ((wrap64 (rd l1 x7_1)) * 256)) + (wrap64 (rd l1 (wrap64 (x7_1 + 1)))))) 64)) 64))) % 256), .int .u8 ((wrap64 (128 + (Int.tmod (wrap64 ((wrap64 ((wrap64 (rd l1 x7_1)) * 256)) + (wrap64 (rd l1 (wrap64 (x7_1 + 1)))))) 64))) % 256)]) (ok := fun _ => True) (okp := fun _ => True) ?hr ?hp (fun _ hk => hk) trivial (Below.refl _ _) (Nat.le_refl _) (by simp) ?_; (case hd => rfl); (case hg => rfl); (case hr => first | (go_simp; done) | (go_simp; rfl)); (case hp => exact (Reps.one (show Kd.M (Kd.int .u8) _ _ _ ((wrap64 (224 + (wrap64 (Int.tdiv (wrap64 ((wrap64 ((wrap64 (rd l1 x7_1)) * 256)) + (wrap64 (rd l1 (wrap64 (x7_1 + 1)))))) 4096)))) % 256) [.int .u8 ((wrap64 (224 + (wrap64 (Int.tdiv (wrap64 ((wrap64 ((wrap64 (rd l1 x7_1)) * 256)) + (wrap64 (rd l1 (wrap64 (x7_1 + 1)))))) 4096)))) % 256)] from rfl) (Reps.one (show Kd.M (Kd.int .u8) _ _ _ ((wrap64 (128 + (Int.tmod (wrap64 (Int.tdiv (wrap64 ((wrap64 ((wrap64 (rd l1 x7_1)) * 256)) + (wrap64 (rd l1 (wrap64 (x7_1 + 1)))))) 64)) 64))) % 256) [.int .u8 ((wrap64 (128 + (Int.tmod (wrap64 (Int.tdiv (wrap64 ((wrap64 ((wrap64 (rd l1 x7_1)) * 256)) + (wrap64 (rd l1 (wrap64 (x7_1 + 1)))))) 64)) 64))) % 256)] from rfl) (Reps.one (show Kd.M (Kd.int .u8) _ _ _ ((wrap64 (128 + (Int.tmod (wrap64 ((wrap64 ((wrap64 (rd l1 x7_1)) * 256)) + (wrap64 (rd l1 (wrap64 (x7_1 + 1)))))) 64))) % 256) [.int .u8 ((wrap64 (128 + (Int.tmod (wrap64 ((wrap64 ((wrap64 (rd l1 x7_1)) * 256)) + (wrap64 (rd l1 (wrap64 (x7_1 + 1)))))) 64))) % 256)] from rfl) (Reps.none _ _))))); intro v1085 w26 ho27 hb hg_ hnew_; clear hg_ hnew_; (first | rw [← Ny1084.out] at ho27 | (simp only [Int.reduceToNat] at ho27; rw [← Ny1084.out] at ho27)); have n0_ := Aside0.mk (Kd.R_elder' (by (with_reducible repeat (first | apply Kd.R_alloc | apply Kd.R_drewN | apply Kd.R_drew)); exact HO_6.out) (Kd.R_base ho27) hb); have n1_ := Aside0.mk (Kd.R_lower (Kd.R_new' ho27 (Kd.R_lt (by (with_reducible repeat (first | apply Kd.R_alloc | apply Kd.R_drewN | apply Kd.R_drew)); exact HO_6.out))) (below_size (by repeat (first | (with_reducible first | exact HB.out | apply below_alloc | apply pw_below_drewN | apply below_drew1) | exact HB.out)))); have n2_ := Aside0.mk (below_step (by repeat (first | (with_reducible first | exact HB.out | apply below_alloc | apply pw_below_drewN | apply below_drew1) | exact HB.out)) hb); clear HO_6; clear HB; have HO_6 := n0_; have HO1086 := n1_; have HB := n2_; clear n0_ n1_ n2_; clear hb ho27; obtain ⟨Ao29, co29, eo29⟩ := Kd.R_slice HO1086.out; subst eo29) | ((with_reducible refine gate_builtin (b := .append) (xs := #[.tmp 45, .tmp 59]) rfl ?_); at_builtin; refine Kd.R_append_rows (Kd.int .u8) (w0 := w) w.heap.size rfl (.tmp 45) (.tmp 59) 22 5 (.int .u8 0) 1 rfl Tryz.underlying22 info5 rfl (by decide) (by omega) u6 x6_1 y1084 _ _ _ (fun k_ => some k_ ≠ (.slice Ao29 y1084.length co29 : Value).ownBlock) (fun _ => False) rfl rfl ?aO ?aR (fun _ _ h => h) (fun _ h => h.elim) ?aF ?aB ?aS ?aL ?_; (case aR => repeat (first | exact (Kd.R_reads' HO1086.out).2.2 | (with_reducible refine Kd.C_alloc ?_ _) | (with_reducible refine Kd.C_drewN ?_ _) | (with_reducible refine Kd.C_drew ?_))); (case aB => exact (by repeat (first | (with_reducible first | exact HB.out | apply below_alloc | apply pw_below_drewN | apply below_drew1) | exact HB.out))); (case aF => exact (fun k_ hk => Kd.fresh' (Kd.R_lt (by (with_reducible repeat (first | apply Kd.R_alloc | apply Kd.R_drewN | apply Kd.R_drew)); exact HO1086.out)) k_ hk)); (case aO => exact (by (with_reducible repeat (first | apply Kd.R_alloc | apply Kd.R_drewN | apply Kd.R_drew)); exact Kd.R_mono HO_6.out (fun _ hk => hk.2))); (case aS => exact (below_size (by repeat (first | (with_reducible first | exact HB.out | apply below_alloc | apply pw_below_drewN | apply below_drew1) | exact HB.out)))); (case aL => have := LMc25.out; omega); intro v1088 w28 ho hb hg hat; rw [← Ny1087.out] at ho; have n0_ := Aside0.mk (Kd.R_after (ok := (fun _ => True)) (by (with_reducible repeat (first | apply Kd.R_alloc | apply Kd.R_drewN | apply Kd.R_drew)); exact HO1086.out) hg hat); have n1_ := Aside0.mk (hb); have n2_ := Aside0.mk (ho); clear HO1086; clear HB; clear HO_6; have HO1086 := n0_; have HB := n1_; have HO1089 := n2_; clear n0_ n1_ n2_; clear ho hb hg hat))
                                repeat (go_quiet (first | ((with_reducible refine gate_dst (N := 59) rfl ?_); refine Kd.R_lit (Kd.int .u8) _ 5 ?hg (N := 59) ?hd (xs := ([(wrap64 (224 + (wrap64 (Int.tdiv (wrap64 ((wrap64 ((wrap64 (rd l1 x7_1)) * 256)) + (wrap64 (rd l1 (wrap64 (x7_1 + 1)))))) 4096)))) % 256, (wrap64 (128 + (Int.tmod (wrap64 (Int.tdiv (wrap64 ((wrap64 ((wrap64 (rd l1 x7_1)) * 256)) + (wrap64 (rd l1 (wrap64 (x7_1 + 1)))))) 64)) 64))) % 256, (wrap64 (128 + (Int.tmod (wrap64 ((wrap64 ((wrap64 (rd l1 x7_1)) * 256)) + (wrap64 (rd l1 (wrap64 (x7_1 + 1)))))) 64))) % 256] : List Int)) (inner := [.int .u8 ((wrap64 (224 + (wrap64 (Int.tdiv (wrap64 ((wrap64 ((wrap64 (rd l1 x7_1)) * 256)) + (wrap64 (rd l1 (wrap64 (x7_1 + 1)))))) 4096)))) % 256), .int .u8 ((wrap64 (128 + (Int.tmod (wrap64 (Int.tdiv (wrap64 ((wrap64 ((wrap64 (rd l1 x7_1)) * 256)) + (wrap64 (rd l1 (wrap64 (x7_1 + 1)))))) 64)) 64))) % 256), .int .u8 ((wrap64 (128 + (Int.tmod (wrap64 ((wrap64 ((wrap64 (rd l1 x7_1)) * 256)) + (wrap64 (rd l1 (wrap64 (x7_1 + 1)))))) 64))) % 256)]) (ok := fun _ => True) (okp := fun _ => True) ?hr ?hp (fun _ hk => hk) trivial (Below.refl _ _) (Nat.le_refl _) (by simp) ?_; (case hd => rfl); (case hg => rfl); (case hr => first | (go_simp; done) | (go_simp; rfl)); (case hp => exact (Reps.one (show Kd.M (Kd.int .u8) _ _ _ ((wrap64 (224 + (wrap64 (Int.tdiv (wrap64 ((wrap64 ((wrap64 (rd l1 x7_1)) * 256)) + (wrap64 (rd l1 (wrap64 (x7_1 + 1)))))) 4096)))) % 256) [.int .u8 ((wrap64 (224 + (wrap64 (Int.tdiv (wrap64 ((wrap64 ((wrap64 (rd l1 x7_1)) * 256)) + (wrap64 (rd l1 (wrap64 (x7_1 + 1)))))) 4096)))) % 256)] from rfl) (Reps.one (show Kd.M (Kd.int .u8) _ _ _ ((wrap64 (128 + (Int.tmod (wrap64 (Int.tdiv (wrap64 ((wrap64 ((wrap64 (rd l1 x7_1)) * 256)) + (wrap64 (rd l1 (wrap64 (x7_1 + 1)))))) 64)) 64))) % 256) [.int .u8 ((wrap64 (128 + (Int.tmod (wrap64 (Int.tdiv (wrap64 ((wrap64 ((wrap64 (rd l1 x7_1)) * 256)) + (wrap64 (rd l1 (wrap64 (x7_1 + 1)))))) 64)) 64))) % 256)] from rfl) (Reps.one (show Kd.M (Kd.int .u8) _ _ _ ((wrap64 (128 + (Int.tmod (wrap64 ((wrap64 ((wrap64 (rd l1 x7_1)) * 256)) + (wrap64 (rd l1 (wrap64 (x7_1 + 1)))))) 64))) % 256) [.int .u8 ((wrap64 (128 + (Int.tmod (wrap64 ((wrap64 ((wrap64 (rd l1 x7_1)) * 256)) + (wrap64 (rd l1 (wrap64 (x7_1 + 1)))))) 64))) % 256)] from rfl) (Reps.none _ _))))); intro v1085 w26 ho27 hb hg_ hnew_; clear hg_ hnew_; (first | rw [← Ny1084.out] at ho27 | (simp only [Int.reduceToNat] at ho27; rw [← Ny1084.out] at ho27)); have n0_ := Aside0.mk (Kd.R_elder' (by (with_reducible repeat (first | apply Kd.R_alloc | apply Kd.R_drewN | apply Kd.R_drew)); exact HO_6.out) (Kd.R_base ho27) hb); have n1_ := Aside0.mk (Kd.R_lower (Kd.R_new' ho27 (Kd.R_lt (by (with_reducible repeat (first | apply Kd.R_alloc | apply Kd.R_drewN | apply Kd.R_drew)); exact HO_6.out))) (below_size (by repeat (first | (with_reducible first | exact HB.out | apply below_alloc | apply pw_below_drewN | apply below_drew1) | exact HB.out)))); have n2_ := Aside0.mk (below_step (by repeat (first | (with_reducible first | exact HB.out | apply below_alloc | apply pw_below_drewN | apply below_drew1) | exact HB.out)) hb); clear HO_6; clear HB; have HO_6 := n0_; have HO1086 := n1_; have HB := n2_; clear n0_ n1_ n2_; clear hb ho27; obtain ⟨Ao29, co29, eo29⟩ := Kd.R_slice HO1086.out; subst eo29) | ((with_reducible refine gate_builtin (b := .append) (xs := #[.tmp 45, .tmp 59]) rfl ?_); at_builtin; refine Kd.R_append_rows (Kd.int .u8) (w0 := w) w.heap.size rfl (.tmp 45) (.tmp 59) 22 5 (.int .u8 0) 1 rfl Tryz.underlying22 info5 rfl (by decide) (by omega) u6 x6_1 y1084 _ _ _ (fun k_ => some k_ ≠ (.slice Ao29 y1084.length co29 : Value).ownBlock) (fun _ => False) rfl rfl ?aO ?aR (fun _ _ h => h) (fun _ h => h.elim) ?aF ?aB ?aS ?aL ?_; (case aR => repeat (first | exact (Kd.R_reads' HO1086.out).2.2 | (with_reducible refine Kd.C_alloc ?_ _) | (with_reducible refine Kd.C_drewN ?_ _) | (with_reducible refine Kd.C_drew ?_))); (case aB => exact (by repeat (first | (with_reducible first | exact HB.out | apply below_alloc | apply pw_below_drewN | apply below_drew1) | exact HB.out))); (case aF => exact (fun k_ hk => Kd.fresh' (Kd.R_lt (by (with_reducible repeat (first | apply Kd.R_alloc | apply Kd.R_drewN | apply Kd.R_drew)); exact HO1086.out)) k_ hk)); (case aO => exact (by (with_reducible repeat (first | apply Kd.R_alloc | apply Kd.R_drewN | apply Kd.R_drew)); exact Kd.R_mono HO_6.out (fun _ hk => hk.2))); (case aS => exact (below_size (by repeat (first | (with_reducible first | exact HB.out | apply below_alloc | apply pw_below_drewN | apply below_drew1) | exact HB.out)))); (case aL => have := LMc25.out; omega); intro v1088 w28 ho hb hg hat; rw [← Ny1087.out] at ho; have n0_ := Aside0.mk (Kd.R_after (ok := (fun _ => True)) (by (with_reducible repeat (first | apply Kd.R_alloc | apply Kd.R_drewN | apply Kd.R_drew)); exact HO1086.out) hg hat); have n1_ := Aside0.mk (hb); have n2_ := Aside0.mk (ho); clear HO1086; clear HB; clear HO_6; have HO1086 := n0_; have HB := n1_; have HO1089 := n2_; clear n0_ n1_ n2_; clear ho hb hg hat)); try go_wp2_with (first | ((with_reducible refine gate_dst (N := 59) rfl ?_); refine Kd.R_lit (Kd.int .u8) _ 5 ?hg (N := 59) ?hd (xs := ([(wrap64 (224 + (wrap64 (Int.tdiv (wrap64 ((wrap64 ((wrap64 (rd l1 x7_1)) * 256)) + (wrap64 (rd l1 (wrap64 (x7_1 + 1)))))) 4096)))) % 256, (wrap64 (128 + (Int.tmod (wrap64 (Int.tdiv (wrap64 ((wrap64 ((wrap64 (rd l1 x7_1)) * 256)) + (wrap64 (rd l1 (wrap64 (x7_1 + 1)))))) 64)) 64))) % 256, (wrap64 (128 + (Int.tmod (wrap64 ((wrap64 ((wrap64 (rd l1 x7_1)) * 256)) + (wrap64 (rd l1 (wrap64 (x7_1 + 1)))))) 64))) % 256] : List Int)) (inner := [.int .u8 ((wrap64 (224 + (wrap64 (Int.tdiv (wrap64 ((wrap64 ((wrap64 (rd l1 x7_1)) * 256)) + (wrap64 (rd l1 (wrap64 (x7_1 + 1)))))) 4096)))) % 256), .int .u8 ((wrap64 (128 + (Int.tmod (wrap64 (Int.tdiv (wrap64 ((wrap64 ((wrap64 (rd l1 x7_1)) * 256)) + (wrap64 (rd l1 (wrap64 (x7_1 + 1)))))) 64)) 64))) % 256), .int .u8 ((wrap64 (128 + (Int.tmod (wrap64 ((wrap64 ((wrap64 (rd l1 x7_1)) * 256)) + (wrap64 (rd l1 (wrap64 (x7_1 + 1)))))) 64))) % 256)]) (ok := fun _ => True) (okp := fun _ => True) ?hr ?hp (fun _ hk => hk) trivial (Below.refl _ _) (Nat.le_refl _) (by simp) ?_; (case hd => rfl); (case hg => rfl); (case hr => first | (go_simp; done) | (go_simp; rfl)); (case hp => exact (Reps.one (show Kd.M (Kd.int .u8) _ _ _ ((wrap64 (224 + (wrap64 (Int.tdiv (wrap64 ((wrap64 ((wrap64 (rd l1 x7_1)) * 256)) + (wrap64 (rd l1 (wrap64 (x7_1 + 1)))))) 4096)))) % 256) [.int .u8 ((wrap64 (224 + (wrap64 (Int.tdiv (wrap64 ((wrap64 ((wrap64 (rd l1 x7_1)) * 256)) + (wrap64 (rd l1 (wrap64 (x7_1 + 1)))))) 4096)))) % 256)] from rfl) (Reps.one (show Kd.M (Kd.int .u8) _ _ _ ((wrap64 (128 + (Int.tmod (wrap64 (Int.tdiv (wrap64 ((wrap64 ((wrap64 (rd l1 x7_1)) * 256)) + (wrap64 (rd l1 (wrap64 (x7_1 + 1)))))) 64)) 64))) % 256) [.int .u8 ((wrap64 (128 + (Int.tmod (wrap64 (Int.tdiv (wrap64 ((wrap64 ((wrap64 (rd l1 x7_1)) * 256)) + (wrap64 (rd l1 (wrap64 (x7_1 + 1)))))) 64)) 64))) % 256)] from rfl) (Reps.one (show Kd.M (Kd.int .u8) _ _ _ ((wrap64 (128 + (Int.tmod (wrap64 ((wrap64 ((wrap64 (rd l1 x7_1)) * 256)) + (wrap64 (rd l1 (wrap64 (x7_1 + 1)))))) 64))) % 256) [.int .u8 ((wrap64 (128 + (Int.tmod (wrap64 ((wrap64 ((wrap64 (rd l1 x7_1)) * 256)) + (wrap64 (rd l1 (wrap64 (x7_1 + 1)))))) 64))) % 256)] from rfl) (Reps.none _ _))))); intro v1085 w26 ho27 hb hg_ hnew_; clear hg_ hnew_; (first | rw [← Ny1084.out] at ho27 | (simp only [Int.reduceToNat] at ho27; rw [← Ny1084.out] at ho27)); have n0_ := Aside0.mk (Kd.R_elder' (by (with_reducible repeat (first | apply Kd.R_alloc | apply Kd.R_drewN | apply Kd.R_drew)); exact HO_6.out) (Kd.R_base ho27) hb); have n1_ := Aside0.mk (Kd.R_lower (Kd.R_new' ho27 (Kd.R_lt (by (with_reducible repeat (first | apply Kd.R_alloc | apply Kd.R_drewN | apply Kd.R_drew)); exact HO_6.out))) (below_size (by repeat (first | (with_reducible first | exact HB.out | apply below_alloc | apply pw_below_drewN | apply below_drew1) | exact HB.out)))); have n2_ := Aside0.mk (below_step (by repeat (first | (with_reducible first | exact HB.out | apply below_alloc | apply pw_below_drewN | apply below_drew1) | exact HB.out)) hb); clear HO_6; clear HB; have HO_6 := n0_; have HO1086 := n1_; have HB := n2_; clear n0_ n1_ n2_; clear hb ho27; obtain ⟨Ao29, co29, eo29⟩ := Kd.R_slice HO1086.out; subst eo29) | ((with_reducible refine gate_builtin (b := .append) (xs := #[.tmp 45, .tmp 59]) rfl ?_); at_builtin; refine Kd.R_append_rows (Kd.int .u8) (w0 := w) w.heap.size rfl (.tmp 45) (.tmp 59) 22 5 (.int .u8 0) 1 rfl Tryz.underlying22 info5 rfl (by decide) (by omega) u6 x6_1 y1084 _ _ _ (fun k_ => some k_ ≠ (.slice Ao29 y1084.length co29 : Value).ownBlock) (fun _ => False) rfl rfl ?aO ?aR (fun _ _ h => h) (fun _ h => h.elim) ?aF ?aB ?aS ?aL ?_; (case aR => repeat (first | exact (Kd.R_reads' HO1086.out).2.2 | (with_reducible refine Kd.C_alloc ?_ _) | (with_reducible refine Kd.C_drewN ?_ _) | (with_reducible refine Kd.C_drew ?_))); (case aB => exact (by repeat (first | (with_reducible first | exact HB.out | apply below_alloc | apply pw_below_drewN | apply below_drew1) | exact HB.out))); (case aF => exact (fun k_ hk => Kd.fresh' (Kd.R_lt (by (with_reducible repeat (first | apply Kd.R_alloc | apply Kd.R_drewN | apply Kd.R_drew)); exact HO1086.out)) k_ hk)); (case aO => exact (by (with_reducible repeat (first | apply Kd.R_alloc | apply Kd.R_drewN | apply Kd.R_drew)); exact Kd.R_mono HO_6.out (fun _ hk => hk.2))); (case aS => exact (below_size (by repeat (first | (with_reducible first | exact HB.out | apply below_alloc | apply pw_below_drewN | apply below_drew1) | exact HB.out)))); (case aL => have := LMc25.out; omega); intro v1088 w28 ho hb hg hat; rw [← Ny1087.out] at ho; have n0_ := Aside0.mk (Kd.R_after (ok := (fun _ => True)) (by (with_reducible repeat (first | apply Kd.R_alloc | apply Kd.R_drewN | apply Kd.R_drew)); exact HO1086.out) hg hat); have n1_ := Aside0.mk (hb); have n2_ := Aside0.mk (ho); clear HO1086; clear HB; clear HO_6; have HO1086 := n0_; have HB := n1_; have HO1089 := n2_; clear n0_ n1_ n2_; clear ho hb hg hat)))
                                go_roundg kj12
                                case measure => have := HK1.out; have := HJ12.out; omega
                                case rel => exact ⟨(y1087), (wrap64 (x7_1 + 2)), (by first | rfl | (simp; done) | (simp [*]; done)), H', ⟨by have := HK1.out; have := HJ12.out; omega⟩, ⟨by (with_reducible repeat (first | apply Kd.R_alloc | apply Kd.R_drewN | apply Kd.R_drew)); exact Kd.R_mono HO1089.out (fun _ hk => trivial)⟩, ⟨by repeat (first | (with_reducible first | exact HB.out | apply below_alloc | apply pw_below_drewN | apply below_drew1) | exact HB.out)⟩⟩
                              · rw [if_neg c25] at H
                                exact absurd H (by simp)
                  · rw [if_neg c12] at H
                    exact absurd H (by simp)
                · rw [if_neg c11] at H
                  exact absurd H (by simp)
              · rw [if_neg c10] at H
                exact absurd H (by simp)
            · rw [if_neg c9] at H
              have c9b0 : decide (x7_1 < (l1.length : Int)) = false := decide_eq_false c9
              clear c9
              simp only [Option.some.injEq, Prod.mk.injEq] at H
              obtain ⟨rfl, rfl⟩ := H
              have hcv30 := own_string (P := Tryz.prog) Tryz.underlying22 Tryz.underlying5 Tryz.underlying9 (Kd.own_of_R HO_6.out)
              go_wp2
              repeat (go_quiet (fail); try go_wp2)
              go_ret2
              exact ⟨by first | rfl | (simp [errW_none, errW_some] <;> rfl) | (simp [*, errW_none, errW_some] <;> rfl), by repeat (first | (with_reducible first | exact HB.out | apply below_alloc | apply pw_below_drewN | apply below_drew1) | exact HB.out)⟩
    · rw [if_neg c7] at H
      have c7b0 : (a0 == 30) = false := beq_eq_false_iff_ne.mpr c7
      have c7b1 : (a0 != 30) = true := bne_iff_ne.mpr c7
      have HC31 := Aside0.mk H
      clear H
      go_enter Tryz.func156, Tryz.ntmps156
      go_upto_if 92 with (fail)
      repeat (go_quiet (fail); go_upto_if 92 with (fail))
      go_cut [92] (fun v92 wc => ∃ (kq : Nat) (x92_30 : Bool), v92 = .bool x92_30 ∧ Aside0 (chirographref06_Text.j2 kq a0 l1 x92_30 = some (r1, r2)) ∧ Aside0 (kq ≤ k) ∧ Aside0 (Below w.heap.size w wc))
      case first =>
        have H := HC31.out
        clear HC31
        by_cases c32 : a0 = 18
        · rw [if_pos c32] at H
          have c32b0 : (a0 == 18) = true := beq_iff_eq.mpr c32
          have c32b1 : (a0 != 18) = false := bne_eq_false_iff_eq.mpr c32
          clear c32
          (first | rw [c32b0] | (simp only [i64_w, i32_w]; rw [c32b0]) | skip)
          have H' := Aside0.mk H
          clear H
          go_wp2
          repeat (go_quiet (fail); try go_wp2)
          go_meet
          case rel => exact ⟨_, ((a0 == 18)), (by first | rfl | (simp; done) | (simp [*]; done)), H', ⟨by first | omega | exact Nat.le_refl _⟩, ⟨by repeat (first | (with_reducible first | exact HB.out | apply below_alloc | apply pw_below_drewN | apply below_drew1) | exact HB.out)⟩⟩
        · rw [if_neg c32] at H
          have c32b0 : (a0 == 18) = false := beq_eq_false_iff_ne.mpr c32
          have c32b1 : (a0 != 18) = true := bne_iff_ne.mpr c32
          (first | rw [c32b0] | (simp only [i64_w, i32_w]; rw [c32b0]) | skip)
          by_cases c33 : a0 = 19
          · rw [if_pos c33] at H
            have c33b0 : (a0 == 19) = true := beq_iff_eq.mpr c33
            have c33b1 : (a0 != 19) = false := bne_eq_false_iff_eq.mpr c33
            clear c33
            have H' := Aside0.mk H
            clear H
            go_wp2
            repeat (go_quiet (fail); try go_wp2)
            go_meet
            case rel => exact ⟨_, ((a0 == 19)), (by first | rfl | (simp; done) | (simp [*]; done)), H', ⟨by first | omega | exact Nat.le_refl _⟩, ⟨by repeat (first | (with_reducible first | exact HB.out | apply below_alloc | apply pw_below_drewN | apply below_drew1) | exact HB.out)⟩⟩
          · rw [if_neg c33] at H
            have c33b0 : (a0 == 19) = false := beq_eq_false_iff_ne.mpr c33
            have c33b1 : (a0 != 19) = true := bne_iff_ne.mpr c33
            by_cases c34 : a0 = 22
            · rw [if_pos c34] at H
              have c34b0 : (a0 == 22) = true := beq_iff_eq.mpr c34
              have c34b1 : (a0 != 22) = false := bne_eq_false_iff_eq.mpr c34
              clear c34
              have H' := Aside0.mk H
              clear H
              go_wp2
              repeat (go_quiet (fail); try go_wp2)
              go_meet
              case rel => exact ⟨_, ((a0 == 22)), (by first | rfl | (simp; done) | (simp [*]; done)), H', ⟨by first | omega | exact Nat.le_refl _⟩, ⟨by repeat (first | (with_reducible first | exact HB.out | apply below_alloc | apply pw_below_drewN | apply below_drew1) | exact HB.out)⟩⟩
            · rw [if_neg c34] at H
              have c34b0 : (a0 == 22) = false := beq_eq_false_iff_ne.mpr c34
              have c34b1 : (a0 != 22) = true := bne_iff_ne.mpr c34
              have H' := Aside0.mk H
              clear H
              go_wp2
              repeat (go_quiet (fail); try go_wp2)
              go_meet
              case rel => exact ⟨_, ((a0 == 26)), (by first | rfl | (simp; done) | (simp [*]; done)), H', ⟨by first | omega | exact Nat.le_refl _⟩, ⟨by repeat (first | (with_reducible first | exact HB.out | apply below_alloc | apply pw_below_drewN | apply below_drew1) | exact HB.out)⟩⟩
      case rest =>
        clear HC31
        try clear c1
        try clear p1
        try clear q1
        try clear hx1
        try clear c2
        try clear p2
        try clear c3
        try clear c3b0
        try clear c3b1
        try clear hcv3
        try clear c5
        try clear p6
        try clear hcv6
        try clear c7
        try clear c7b0
        try clear c7b1
        try clear c8
        try clear c8b0
        try clear c8b1
        try clear c9
        try clear c9b0
        try clear c10
        try clear c10b0
        try clear p10
        try clear q10
        try clear hx10
        try clear c11
        try clear c11b0
        try clear c12
        try clear c12b0
        try clear c14
        try clear c14b0
        try clear c15
        try clear c16
        try clear c16b0
        try clear c17
        try clear c19
        try clear c19b0
        try clear c20
        try clear c25
        try clear hcv30
        try clear c32
        try clear c32b0
        try clear c32b1
        try clear c33
        try clear c33b0
        try clear c33b1
        try clear c34
        try clear c34b0
        try clear c34b1
        try clear hx1073_0
        try clear hx1074_0
        try clear p1
        try clear p10
        try clear p1073
        try clear p1074
        try clear p2
        try clear p6
        try clear q1
        try clear q10
        try clear q1073
        try clear q1074
        obtain ⟨kq, x92_30, rfl, HA, HJ30, HB⟩ := hcut
        cases kq with
        | zero => exact absurd HA.out (by simp [chirographref06_Text.j2])
        | succ kj30 =>
          have H := HA.out
          clear HA
          simp only [chirographref06_Text.j2] at H
          by_cases c35 : x92_30 = true
          · subst c35
            have H1 : (chirographref06_Text.l1 kj30 a0 l1 0) = some (r1, r2) := by rw [if_pos rfl] at H; exact H
            clear H
            have H := H1
            clear H1
            have H' := Aside0.mk H
            clear H
            go_wp2
            repeat (go_quiet (fail); try go_wp2)
            go_loopg [9] kj30 (fun kq v9 w' => ∃ (x9_2 : Int), v9 = .int .i64 x9_2 ∧ Aside0 (chirographref06_Text.l1 kq a0 l1 x9_2 = some (r1, r2)) ∧ Aside0 (kq ≤ kj30) ∧ Aside0 (Below w.heap.size w w'))
            case atStart => exact ⟨(0), (by first | rfl | (simp; done) | (simp [*]; done)), H', ⟨Nat.le_refl _⟩, ⟨by repeat (first | (with_reducible first | exact HB.out | apply below_alloc | apply pw_below_drewN | apply below_drew1) | exact HB.out)⟩⟩
            case round =>
              clear H'
              try clear c1
              try clear p1
              try clear q1
              try clear hx1
              try clear c2
              try clear p2
              try clear c3
              try clear c3b0
              try clear c3b1
              try clear hcv3
              try clear c5
              try clear p6
              try clear hcv6
              try clear c7
              try clear c7b0
              try clear c7b1
              try clear c8
              try clear c8b0
              try clear c8b1
              try clear c9
              try clear c9b0
              try clear c10
              try clear c10b0
              try clear p10
              try clear q10
              try clear hx10
              try clear c11
              try clear c11b0
              try clear c12
              try clear c12b0
              try clear c14
              try clear c14b0
              try clear c15
              try clear c16
              try clear c16b0
              try clear c17
              try clear c19
              try clear c19b0
              try clear c20
              try clear c25
              try clear hcv30
              try clear c32
              try clear c32b0
              try clear c32b1
              try clear c33
              try clear c33b0
              try clear c33b1
              try clear c34
              try clear c34b0
              try clear c34b1
              try clear c35
              try clear hx1073_0
              try clear hx1074_0
              try clear p1
              try clear p10
              try clear p1073
              try clear p1074
              try clear p2
              try clear p6
              try clear q1
              try clear q10
              try clear q1073
              try clear q1074
              obtain ⟨x9_2, rfl, HA, HK2, HB⟩ := hrel
              cases gk with
              | zero => exact absurd HA.out (by simp [chirographref06_Text.l1])
              | succ k2 =>
                have H := HA.out
                clear HA
                simp only [chirographref06_Text.l1] at H
                by_cases c36 : x9_2 < (l1.length : Int)
                · rw [if_pos c36] at H
                  have c36b0 : decide (x9_2 < (l1.length : Int)) = true := decide_eq_true c36
                  clear c36
                  by_cases c37 : 0 ≤ x9_2
                  · rw [if_pos c37] at H
                    have c37b0 : decide (0 ≤ x9_2) = true := decide_eq_true c37
                    clear c37
                    have HC38 := Aside0.mk H
                    clear H
                    have p1090 : 0 ≤ (x9_2 : Int) := of_decide_eq_true (by first | (with_reducible assumption) | assumption)
                    have q1090 : x9_2 < (l1.length : Int) := of_decide_eq_true (by first | (with_reducible assumption) | assumption)
                    obtain ⟨ad1090, e1090, hx1090_0⟩ := Kd.at_int HR1.out x9_2 p1090 q1090
                    cases e1090
                    replace hx1090_0 := (HB.out.cell (World.block_lt_of_cell? w _ hx1090_0)).trans hx1090_0
                    replace p1090 := eq_true p1090
                    replace q1090 := eq_true q1090
                    go_upto_region 30 with (fail)
                    repeat (go_quiet (fail); go_upto_region 30 with (fail))
                    go_cut [11] (fun v11 wc => ∃ (kq : Nat) (x11_37 : Bool), v11 = .bool x11_37 ∧ Aside0 (chirographref06_Text.j4 kq a0 l1 x9_2 (rd l1 x9_2) x11_37 = some (r1, r2)) ∧ Aside0 (kq ≤ k2) ∧ Aside0 (Below w.heap.size w wc))
                    case first =>
                      have H := HC38.out
                      clear HC38
                      by_cases c39 : (rd l1 x9_2) ≥ 48
                      · rw [if_pos c39] at H
                        have c39b0 : decide (48 ≤ (rd l1 x9_2)) = true := decide_eq_true c39
                        clear c39
                        (first | rw [c39b0] | (simp only [i64_w, i32_w]; rw [c39b0]) | skip)
                        by_cases c40 : (rd l1 x9_2) ≤ 57
                        · rw [if_pos c40] at H
                          have c40b0 : decide ((rd l1 x9_2) ≤ 57) = true := decide_eq_true c40
                          clear c40
                          have H' := Aside0.mk H
                          clear H
                          go_wp2
                          repeat (go_quiet (fail); try go_wp2)
                          go_meet
                          case rel => exact ⟨_, (true), (by first | rfl | (simp; done) | (simp [*]; done)), H', ⟨by have := HJ30.out; have := HK2.out; first | omega | exact Nat.le_refl _⟩, ⟨by repeat (first | (with_reducible first | exact HB.out | apply below_alloc | apply pw_below_drewN | apply below_drew1) | exact HB.out)⟩⟩
                        · rw [if_neg c40] at H
                          have c40b0 : decide ((rd l1 x9_2) ≤ 57) = false := decide_eq_false c40
                          clear c40
                          have H' := Aside0.mk H
                          clear H
                          go_wp2
                          repeat (go_quiet (fail); try go_wp2)
                          go_meet
                          case rel => exact ⟨_, (((rd l1 x9_2) == 32)), (by first | rfl | (simp; done) | (simp [*]; done)), H', ⟨by have := HJ30.out; have := HK2.out; first | omega | exact Nat.le_refl _⟩, ⟨by repeat (first | (with_reducible first | exact HB.out | apply below_alloc | apply pw_below_drewN | apply below_drew1) | exact HB.out)⟩⟩
                      · rw [if_neg c39] at H
                        have c39b0 : decide (48 ≤ (rd l1 x9_2)) = false := decide_eq_false c39
                        clear c39
                        (first | rw [c39b0] | (simp only [i64_w, i32_w]; rw [c39b0]) | skip)
                        have H' := Aside0.mk H
                        clear H
                        go_wp2
                        repeat (go_quiet (fail); try go_wp2)
                        go_meet
                        case rel => exact ⟨_, (((rd l1 x9_2) == 32)), (by first | rfl | (simp; done) | (simp [*]; done)), H', ⟨by have := HJ30.out; have := HK2.out; first | omega | exact Nat.le_refl _⟩, ⟨by repeat (first | (with_reducible first | exact HB.out | apply below_alloc | apply pw_below_drewN | apply below_drew1) | exact HB.out)⟩⟩
                    case rest =>
                      clear HC38
                      try clear c1
                      try clear p1
                      try clear q1
                      try clear hx1
                      try clear c2
                      try clear p2
                      try clear c3
                      try clear c3b0
                      try clear c3b1
                      try clear hcv3
                      try clear c4
                      try clear c5
                      try clear p6
                      try clear hcv6
                      try clear c7
                      try clear c7b0
                      try clear c7b1
                      try clear c8
                      try clear c8b0
                      try clear c8b1
                      try clear c9
                      try clear c9b0
                      try clear c10
                      try clear c10b0
                      try clear p10
                      try clear q10
                      try clear hx10
                      try clear c11
                      try clear c11b0
                      try clear c12
                      try clear c12b0
                      try clear c14
                      try clear c14b0
                      try clear c15
                      try clear c16
                      try clear c16b0
                      try clear c17
                      try clear c19
                      try clear c19b0
                      try clear c20
                      try clear c25
                      try clear hcv30
                      try clear c32
                      try clear c32b0
                      try clear c32b1
                      try clear c33
                      try clear c33b0
                      try clear c33b1
                      try clear c34
                      try clear c34b0
                      try clear c34b1
                      try clear c35
                      try clear c36
                      try clear c36b0
                      try clear c37
                      try clear c37b0
                      try clear c39
                      try clear c39b0
                      try clear c40
                      try clear c40b0
                      try clear hx1073_0
                      try clear hx1074_0
                      try clear hx1090_0
                      try clear p1
                      try clear p10
                      try clear p1073
                      try clear p1074
                      try clear p1090
                      try clear p2
                      try clear p6
                      try clear q1
                      try clear q10
                      try clear q1073
                      try clear q1074
                      try clear q1090
                      obtain ⟨kq, x11_37, rfl, HA, HJ37, HB⟩ := hcut
                      cases kq with
                      | zero => exact absurd HA.out (by simp [chirographref06_Text.j4])
                      | succ kj37 =>
                        have H := HA.out
                        clear HA
                        simp only [chirographref06_Text.j4] at H
                        have HC41 := Aside0.mk H
                        clear H
                        go_upto_if 118 with (fail)
                        repeat (go_quiet (fail); go_upto_if 118 with (fail))
                        go_cut [11] (fun v11 wc => ∃ (kq : Nat) (x11_40 : Bool), v11 = .bool x11_40 ∧ Aside0 (chirographref06_Text.j5 kq a0 l1 x9_2 (rd l1 x9_2) x11_40 = some (r1, r2)) ∧ Aside0 (kq ≤ kj37) ∧ Aside0 (Below w.heap.size w wc))
                        case first =>
                          have H := HC41.out
                          clear HC41
                          by_cases c42 : a0 = 19
                          · rw [if_pos c42] at H
                            have c42b0 : (a0 == 19) = true := beq_iff_eq.mpr c42
                            have c42b1 : (a0 != 19) = false := bne_eq_false_iff_eq.mpr c42
                            clear c42
                            (first | rw [c42b0] | (simp only [i64_w, i32_w]; rw [c42b0]) | skip)
                            replace H := Option.bind_eq_some_iff.mp H
                            obtain ⟨t1091, A430, H⟩ := H
                            replace H : (chirographref06_Text.j5 kj37 a0 l1 x9_2 (rd l1 x9_2) t1091) = some (r1, r2) := H
                            have A43 := Aside0.mk A430
                            clear A430
                            have H' := Aside0.mk H
                            clear H
                            go_wp2_with (first | (go_at_call 209; (with_reducible refine (chirographref06_printable.calls kj37 (rd l1 x9_2) t1091 _ A43.out).mono ?_); rintro e w' ⟨rfl, ⟨nd, rfl⟩⟩; (try first | exact ⟨rfl, _, World.drewN_drewN _ _ _⟩ | exact ⟨rfl, _, Eq.trans (World.drewN_drewN _ _ _) (congrArg (World.drewN _) (Nat.add_assoc _ _ _))⟩)))
                            repeat (go_quiet (first | (go_at_call 209; (with_reducible refine (chirographref06_printable.calls kj37 (rd l1 x9_2) t1091 _ A43.out).mono ?_); rintro e w' ⟨rfl, ⟨nd, rfl⟩⟩; (try first | exact ⟨rfl, _, World.drewN_drewN _ _ _⟩ | exact ⟨rfl, _, Eq.trans (World.drewN_drewN _ _ _) (congrArg (World.drewN _) (Nat.add_assoc _ _ _))⟩))); try go_wp2_with (first | (go_at_call 209; (with_reducible refine (chirographref06_printable.calls kj37 (rd l1 x9_2) t1091 _ A43.out).mono ?_); rintro e w' ⟨rfl, ⟨nd, rfl⟩⟩; (try first | exact ⟨rfl, _, World.drewN_drewN _ _ _⟩ | exact ⟨rfl, _, Eq.trans (World.drewN_drewN _ _ _) (congrArg (World.drewN _) (Nat.add_assoc _ _ _))⟩))))
                            go_meet
                            case rel => exact ⟨_, (t1091), (by first | rfl | (simp; done) | (simp [*]; done)), H', ⟨by have := HJ30.out; have := HK2.out; have := HJ37.out; first | omega | exact Nat.le_refl _⟩, ⟨by repeat (first | (with_reducible first | exact HB.out | apply below_alloc | apply pw_below_drewN | apply below_drew1) | exact HB.out)⟩⟩
                          · rw [if_neg c42] at H
                            have c42b0 : (a0 == 19) = false := beq_eq_false_iff_ne.mpr c42
                            have c42b1 : (a0 != 19) = true := bne_iff_ne.mpr c42
                            (first | rw [c42b0] | (simp only [i64_w, i32_w]; rw [c42b0]) | skip)
                            have H' := Aside0.mk H
                            clear H
                            go_wp2
                            repeat (go_quiet (fail); try go_wp2)
                            go_meet
                            case rel => exact ⟨_, (x11_37), (by first | rfl | (simp; done) | (simp [*]; done)), H', ⟨by have := HJ30.out; have := HK2.out; have := HJ37.out; first | omega | exact Nat.le_refl _⟩, ⟨by repeat (first | (with_reducible first | exact HB.out | apply below_alloc | apply pw_below_drewN | apply below_drew1) | exact HB.out)⟩⟩
                        case rest =>
                          clear HC41
                          try clear c1
                          try clear p1
                          try clear q1
                          try clear hx1
                          try clear c2
                          try clear p2
                          try clear c3
                          try clear c3b0
                          try clear c3b1
                          try clear hcv3
                          try clear c4
                          try clear c5
                          try clear p6
                          try clear hcv6
                          try clear c7
                          try clear c7b0
                          try clear c7b1
                          try clear c8
                          try clear c8b0
                          try clear c8b1
                          try clear c9
                          try clear c9b0
                          try clear c10
                          try clear c10b0
                          try clear p10
                          try clear q10
                          try clear hx10
                          try clear c11
                          try clear c11b0
                          try clear c12
                          try clear c12b0
                          try clear c14
                          try clear c14b0
                          try clear c15
                          try clear c16
                          try clear c16b0
                          try clear c17
                          try clear c19
                          try clear c19b0
                          try clear c20
                          try clear c25
                          try clear hcv30
                          try clear c32
                          try clear c32b0
                          try clear c32b1
                          try clear c33
                          try clear c33b0
                          try clear c33b1
                          try clear c34
                          try clear c34b0
                          try clear c34b1
                          try clear c35
                          try clear c36
                          try clear c36b0
                          try clear c37
                          try clear c37b0
                          try clear c39
                          try clear c39b0
                          try clear c40
                          try clear c40b0
                          try clear c42
                          try clear c42b0
                          try clear c42b1
                          try clear hx1073_0
                          try clear hx1074_0
                          try clear hx1090_0
                          try clear p1
                          try clear p10
                          try clear p1073
                          try clear p1074
                          try clear p1090
                          try clear p2
                          try clear p6
                          try clear q1
                          try clear q10
                          try clear q1073
                          try clear q1074
                          try clear q1090
                          obtain ⟨kq, x11_40, rfl, HA, HJ40, HB⟩ := hcut
                          cases kq with
                          | zero => exact absurd HA.out (by simp [chirographref06_Text.j5])
                          | succ kj40 =>
                            have H := HA.out
                            clear HA
                            simp only [chirographref06_Text.j5] at H
                            have HC44 := Aside0.mk H
                            clear H
                            go_upto_if 122 with (fail)
                            repeat (go_quiet (fail); go_upto_if 122 with (fail))
                            go_cut [11] (fun v11 wc => ∃ (kq : Nat) (x11_43 : Bool), v11 = .bool x11_43 ∧ Aside0 (chirographref06_Text.j6 kq a0 l1 x9_2 (rd l1 x9_2) x11_43 = some (r1, r2)) ∧ Aside0 (kq ≤ kj40) ∧ Aside0 (Below w.heap.size w wc))
                            case first =>
                              have H := HC44.out
                              clear HC44
                              by_cases c45 : a0 = 22
                              · rw [if_pos c45] at H
                                have c45b0 : (a0 == 22) = true := beq_iff_eq.mpr c45
                                have c45b1 : (a0 != 22) = false := bne_eq_false_iff_eq.mpr c45
                                clear c45
                                (first | rw [c45b0] | (simp only [i64_w, i32_w]; rw [c45b0]) | skip)
                                have H' := Aside0.mk H
                                clear H
                                go_wp2
                                repeat (go_quiet (fail); try go_wp2)
                                go_meet
                                case rel => exact ⟨_, (decide ((rd l1 x9_2) < 128)), (by first | rfl | (simp; done) | (simp [*]; done)), H', ⟨by have := HJ30.out; have := HK2.out; have := HJ37.out; have := HJ40.out; first | omega | exact Nat.le_refl _⟩, ⟨by repeat (first | (with_reducible first | exact HB.out | apply below_alloc | apply pw_below_drewN | apply below_drew1) | exact HB.out)⟩⟩
                              · rw [if_neg c45] at H
                                have c45b0 : (a0 == 22) = false := beq_eq_false_iff_ne.mpr c45
                                have c45b1 : (a0 != 22) = true := bne_iff_ne.mpr c45
                                (first | rw [c45b0] | (simp only [i64_w, i32_w]; rw [c45b0]) | skip)
                                have H' := Aside0.mk H
                                clear H
                                go_wp2
                                repeat (go_quiet (fail); try go_wp2)
                                go_meet
                                case rel => exact ⟨_, (x11_40), (by first | rfl | (simp; done) | (simp [*]; done)), H', ⟨by have := HJ30.out; have := HK2.out; have := HJ37.out; have := HJ40.out; first | omega | exact Nat.le_refl _⟩, ⟨by repeat (first | (with_reducible first | exact HB.out | apply below_alloc | apply pw_below_drewN | apply below_drew1) | exact HB.out)⟩⟩
                            case rest =>
                              clear HC44
                              try clear c1
                              try clear p1
                              try clear q1
                              try clear hx1
                              try clear c2
                              try clear p2
                              try clear c3
                              try clear c3b0
                              try clear c3b1
                              try clear hcv3
                              try clear c4
                              try clear c5
                              try clear p6
                              try clear hcv6
                              try clear c7
                              try clear c7b0
                              try clear c7b1
                              try clear c8
                              try clear c8b0
                              try clear c8b1
                              try clear c9
                              try clear c9b0
                              try clear c10
                              try clear c10b0
                              try clear p10
                              try clear q10
                              try clear hx10
                              try clear c11
                              try clear c11b0
                              try clear c12
                              try clear c12b0
                              try clear c14
                              try clear c14b0
                              try clear c15
                              try clear c16
                              try clear c16b0
                              try clear c17
                              try clear c19
                              try clear c19b0
                              try clear c20
                              try clear c25
                              try clear hcv30
                              try clear c32
                              try clear c32b0
                              try clear c32b1
                              try clear c33
                              try clear c33b0
                              try clear c33b1
                              try clear c34
                              try clear c34b0
                              try clear c34b1
                              try clear c35
                              try clear c36
                              try clear c36b0
                              try clear c37
                              try clear c37b0
                              try clear c39
                              try clear c39b0
                              try clear c40
                              try clear c40b0
                              try clear c42
                              try clear c42b0
                              try clear c42b1
                              try clear c45
                              try clear c45b0
                              try clear c45b1
                              try clear hx1073_0
                              try clear hx1074_0
                              try clear hx1090_0
                              try clear p1
                              try clear p10
                              try clear p1073
                              try clear p1074
                              try clear p1090
                              try clear p2
                              try clear p6
                              try clear q1
                              try clear q10
                              try clear q1073
                              try clear q1074
                              try clear q1090
                              obtain ⟨kq, x11_43, rfl, HA, HJ43, HB⟩ := hcut
                              cases kq with
                              | zero => exact absurd HA.out (by simp [chirographref06_Text.j6])
                              | succ kj43 =>
                                have H := HA.out
                                clear HA
                                simp only [chirographref06_Text.j6] at H
                                by_cases c46 : a0 = 26
                                · rw [if_pos c46] at H
                                  have c46b0 : (a0 == 26) = true := beq_iff_eq.mpr c46
                                  have c46b1 : (a0 != 26) = false := bne_eq_false_iff_eq.mpr c46
                                  clear c46
                                  by_cases c47 : (rd l1 x9_2) ≥ 32
                                  · rw [if_pos c47] at H
                                    have c47b0 : decide (32 ≤ (rd l1 x9_2)) = true := decide_eq_true c47
                                    clear c47
                                    by_cases c48 : (rd l1 x9_2) ≤ 126
                                    · rw [if_pos c48] at H
                                      have c48b0 : decide ((rd l1 x9_2) ≤ 126) = true := decide_eq_true c48
                                      clear c48
                                      have H' := Aside0.mk H
                                      clear H
                                      go_wp2
                                      repeat (go_quiet (fail); try go_wp2)
                                      go_roundg kj43
                                      case measure => have := HJ30.out; have := HK2.out; have := HJ37.out; have := HJ40.out; have := HJ43.out; omega
                                      case rel => exact ⟨(wrap64 (x9_2 + 1)), (by first | rfl | (simp; done) | (simp [*]; done)), H', ⟨by have := HJ30.out; have := HK2.out; have := HJ37.out; have := HJ40.out; have := HJ43.out; omega⟩, ⟨by repeat (first | (with_reducible first | exact HB.out | apply below_alloc | apply pw_below_drewN | apply below_drew1) | exact HB.out)⟩⟩
                                    · rw [if_neg c48] at H
                                      have c48b0 : decide ((rd l1 x9_2) ≤ 126) = false := decide_eq_false c48
                                      clear c48
                                      simp only [Option.some.injEq, Prod.mk.injEq] at H
                                      obtain ⟨rfl, rfl⟩ := H
                                      go_wp2
                                      repeat (go_quiet (fail); try go_wp2)
                                      go_ret2
                                      exact ⟨by first | rfl | (simp [errW_none, errW_some] <;> rfl) | (simp [*, errW_none, errW_some] <;> rfl), by repeat (first | (with_reducible first | exact HB.out | apply below_alloc | apply pw_below_drewN | apply below_drew1) | exact HB.out)⟩
                                  · rw [if_neg c47] at H
                                    have c47b0 : decide (32 ≤ (rd l1 x9_2)) = false := decide_eq_false c47
                                    clear c47
                                    simp only [Option.some.injEq, Prod.mk.injEq] at H
                                    obtain ⟨rfl, rfl⟩ := H
                                    go_wp2
                                    repeat (go_quiet (fail); try go_wp2)
                                    go_ret2
                                    exact ⟨by first | rfl | (simp [errW_none, errW_some] <;> rfl) | (simp [*, errW_none, errW_some] <;> rfl), by repeat (first | (with_reducible first | exact HB.out | apply below_alloc | apply pw_below_drewN | apply below_drew1) | exact HB.out)⟩
                                · rw [if_neg c46] at H
                                  have c46b0 : (a0 == 26) = false := beq_eq_false_iff_ne.mpr c46
                                  have c46b1 : (a0 != 26) = true := bne_iff_ne.mpr c46
                                  by_cases c49 : x11_43 = true
                                  · subst c49
                                    have H1 : (chirographref06_Text.l1 kj43 a0 l1 (wrap64 (x9_2 + 1))) = some (r1, r2) := by rw [if_pos rfl] at H; exact H
                                    clear H
                                    have H := H1
                                    clear H1
                                    have H' := Aside0.mk H
                                    clear H
                                    go_wp2
                                    repeat (go_quiet (fail); try go_wp2)
                                    go_roundg kj43
                                    case measure => have := HJ30.out; have := HK2.out; have := HJ37.out; have := HJ40.out; have := HJ43.out; omega
                                    case rel => exact ⟨(wrap64 (x9_2 + 1)), (by first | rfl | (simp; done) | (simp [*]; done)), H', ⟨by have := HJ30.out; have := HK2.out; have := HJ37.out; have := HJ40.out; have := HJ43.out; omega⟩, ⟨by repeat (first | (with_reducible first | exact HB.out | apply below_alloc | apply pw_below_drewN | apply below_drew1) | exact HB.out)⟩⟩
                                  · replace c49 := Bool.eq_false_iff.mpr c49
                                    subst c49
                                    have H1 : (some ((⟨#[]⟩ : ByteArray), 60)) = some (r1, r2) := by rw [if_neg (show ¬ (false = true) by decide)] at H; exact H
                                    clear H
                                    have H := H1
                                    clear H1
                                    simp only [Option.some.injEq, Prod.mk.injEq] at H
                                    obtain ⟨rfl, rfl⟩ := H
                                    go_wp2
                                    repeat (go_quiet (fail); try go_wp2)
                                    go_ret2
                                    exact ⟨by first | rfl | (simp [errW_none, errW_some] <;> rfl) | (simp [*, errW_none, errW_some] <;> rfl), by repeat (first | (with_reducible first | exact HB.out | apply below_alloc | apply pw_below_drewN | apply below_drew1) | exact HB.out)⟩
                  · rw [if_neg c37] at H
                    exact absurd H (by simp)
                · rw [if_neg c36] at H
                  have c36b0 : decide (x9_2 < (l1.length : Int)) = false := decide_eq_false c36
                  clear c36
                  simp only [Option.some.injEq, Prod.mk.injEq] at H
                  obtain ⟨rfl, rfl⟩ := H
                  have hcv50 := Kd.C_string (P := Tryz.prog) (A := A1) (c := c1) Tryz.underlying22 Tryz.underlying5 Tryz.underlying9 (Kd.C_below HR1.out HB.out)
                  go_wp2
                  repeat (go_quiet (fail); try go_wp2)
                  go_ret2
                  exact ⟨by first | rfl | (simp [errW_none, errW_some] <;> rfl) | (simp [*, errW_none, errW_some] <;> rfl), by repeat (first | (with_reducible first | exact HB.out | apply below_alloc | apply pw_below_drewN | apply below_drew1) | exact HB.out)⟩
          · replace c35 := Bool.eq_false_iff.mpr c35
            subst c35
            have H1 : (some ((⟨#[]⟩ : ByteArray), 61)) = some (r1, r2) := by rw [if_neg (show ¬ (false = true) by decide)] at H; exact H
            clear H
            have H := H1
            clear H1
            simp only [Option.some.injEq, Prod.mk.injEq] at H
            obtain ⟨rfl, rfl⟩ := H
            go_wp2
            repeat (go_quiet (fail); try go_wp2)
            go_ret2
            exact ⟨by first | rfl | (simp [errW_none, errW_some] <;> rfl) | (simp [*, errW_none, errW_some] <;> rfl), by repeat (first | (with_reducible first | exact HB.out | apply below_alloc | apply pw_below_drewN | apply below_drew1) | exact HB.out)⟩
end Go.Proofs.YtkioddjjfifadaaGreatDoor.P
namespace Go.Proofs.YtkioddjjfifadaaGreatDoor.P
open Go.RowKit Go.Proofs.YtkioddjjfifadaaGreatDoorW.PrintWords Go.Proofs.YtkioddjjfifadaaGreatDoorW.PrintLast Go.Proofs.YtkioddjjfifadaaGreatDoorW.PrintMore
attribute [local go_sem] max2_int min2_int max_two min_two max_three min_three max_four min_four   -- for this text's walks alone
set_option linter.unusedVariables false
set_option linter.unusedSimpArgs false
def chirographref06_digits.f : Nat → Int → Option (ByteArray)
  | 0, _ => none
  | k + 1, a0 => if a0 < 0 then (if a0 ≤ (-10) then ((chirographref06_digits.f k (wrap64 (Int.tdiv a0 10))).bind fun t1550 => ((chirographref06_digits.f k (wrap64 (-(Int.tmod a0 10)))).bind fun t1551 => (if t1550.size + t1551.size ≤ 9223372036854775807 then (some (t1550 ++ t1551)) else (none)))) else ((chirographref06_digits.f k (wrap64 (-a0))).bind fun t1552 => (if 1 + t1552.size ≤ 9223372036854775807 then (some ((⟨#[45]⟩ : ByteArray) ++ t1552)) else (none)))) else (if a0 ≥ 10 then ((chirographref06_digits.f k (wrap64 (Int.tdiv a0 10))).bind fun t1553 => ((chirographref06_digits.f k (Int.tmod a0 10)).bind fun t1554 => (if t1553.size + t1554.size ≤ 9223372036854775807 then (some (t1553 ++ t1554)) else (none)))) else (some (strOfNums (([(wrap64 (48 + a0)) % 256] : List Int)))))
set_option maxHeartbeats 8000000 in
set_option maxRecDepth 100000 in
theorem chirographref06_digits.calls (k : Nat) : ∀ (a0 : Int) (r : ByteArray) (w : World) (h : chirographref06_digits.f k a0 = some r),
    Calls Tryz.prog 229 #[.int .i64 a0] w fun e w' => e = .returned (.string r) ∧ Below w.heap.size w w' := by
  induction k using Nat.strongRecOn with
  | _ k ih =>
  intro a0 r w h
  cases k with
  | zero => exact absurd h (by simp [chirographref06_digits.f])
  | succ k =>
  simp only [chirographref06_digits.f] at h
  have HB := Aside0.mk (Below.refl w.heap.size w)
  have H : (if a0 < 0 then (if a0 ≤ (-10) then ((chirographref06_digits.f k (wrap64 (Int.tdiv a0 10))).bind fun t1550 => ((chirographref06_digits.f k (wrap64 (-(Int.tmod a0 10)))).bind fun t1551 => (if t1550.size + t1551.size ≤ 9223372036854775807 then (some (t1550 ++ t1551)) else (none)))) else ((chirographref06_digits.f k (wrap64 (-a0))).bind fun t1552 => (if 1 + t1552.size ≤ 9223372036854775807 then (some ((⟨#[45]⟩ : ByteArray) ++ t1552)) else (none)))) else (if a0 ≥ 10 then ((chirographref06_digits.f k (wrap64 (Int.tdiv a0 10))).bind fun t1553 => ((chirographref06_digits.f k (Int.tmod a0 10)).bind fun t1554 => (if t1553.size + t1554.size ≤ 9223372036854775807 then (some (t1553 ++ t1554)) else (none)))) else (some (strOfNums (([(wrap64 (48 + a0)) % 256] : List Int)))))) = some r := h
  clear h
  by_cases c2 : a0 < 0
  · rw [if_pos c2] at H
    have c2b0 : decide (a0 < 0) = true := decide_eq_true c2
    clear c2
    by_cases c3 : a0 ≤ (-10)
    · rw [if_pos c3] at H
      have c3b0 : decide (a0 ≤ (-10)) = true := decide_eq_true c3
      clear c3
      replace H := Option.bind_eq_some_iff.mp H
      obtain ⟨t1550, A40, H⟩ := H
      replace H : ((chirographref06_digits.f k (wrap64 (-(Int.tmod a0 10)))).bind fun t1551 => (if t1550.size + t1551.size ≤ 9223372036854775807 then (some (t1550 ++ t1551)) else (none))) = some r := H
      have A4 := Aside0.mk A40
      clear A40
      replace H := Option.bind_eq_some_iff.mp H
      obtain ⟨t1551, A50, H⟩ := H
      replace H : (if t1550.size + t1551.size ≤ 9223372036854775807 then (some (t1550 ++ t1551)) else (none)) = some r := H
      have A5 := Aside0.mk A50
      clear A50
      by_cases c6 : t1550.size + t1551.size ≤ 9223372036854775807
      · rw [if_pos c6] at H
        have c6b0 := eq_true c6
        have c6b1 : decide (t1550.size + t1551.size ≤ 9223372036854775807) = true := decide_eq_true c6
        try have c6b2 : (9223372036854775807 < t1550.size + t1551.size) = False := eq_false (Nat.not_lt.2 c6)
        obtain rfl := Option.some.inj H
        go_enter Tryz.func229, Tryz.ntmps229
        go_wp2_with (first | ((with_reducible refine gate_callee (f := 229) rfl ?_); refine goesL_ (some 9) rfl rfl Tryz.func229 (by kernel_rfl) rfl #[.int .i64 (wrap64 (Int.tdiv a0 10))] rfl (by (try simp only [List.map_toArray, List.map_cons, List.map_nil]); first | done | rfl | (simp only [List.length_drop, List.length_take]; rfl)) ?_; (with_reducible refine (ih k (by omega) (wrap64 (Int.tdiv a0 10)) t1550 _ A4.out).mono ?_); rintro e w7 ⟨rfl, hb⟩; refine ⟨_, rfl, ?_⟩; have n0_ := Aside0.mk (below_step (by repeat (first | (with_reducible first | exact HB.out | apply below_alloc | apply pw_below_drewN | apply below_drew1) | exact HB.out)) hb); clear HB; have HB := n0_; clear n0_; (try clear hb); (try clear hb2); (try clear hk); (try clear hi)) | ((with_reducible refine gate_callee (f := 229) rfl ?_); refine goesL_ (some 13) rfl rfl Tryz.func229 (by kernel_rfl) rfl #[.int .i64 (wrap64 (-(Int.tmod a0 10)))] rfl (by (try simp only [List.map_toArray, List.map_cons, List.map_nil]); first | done | rfl | (simp only [List.length_drop, List.length_take]; rfl)) ?_; (with_reducible refine (ih k (by omega) (wrap64 (-(Int.tmod a0 10))) t1551 _ A5.out).mono ?_); rintro e w8 ⟨rfl, hb⟩; refine ⟨_, rfl, ?_⟩; have n0_ := Aside0.mk (below_step (by repeat (first | (with_reducible first | exact HB.out | apply below_alloc | apply pw_below_drewN | apply below_drew1) | exact HB.out)) hb); clear HB; have HB := n0_; clear n0_; (try clear hb); (try clear hb2); (try clear hk); (try clear hi)))
        go_ret
        exact ⟨by first | rfl | (simp [errW_none, errW_some] <;> rfl) | (simp [*, errW_none, errW_some] <;> rfl), by repeat (first | (with_reducible first | exact HB.out | apply below_alloc | apply pw_below_drewN | apply below_drew1) | exact HB.out)⟩
      · rw [if_neg c6] at H
        exact absurd H (by simp)
    · rw [if_neg c3] at H
      have c3b0 : decide (a0 ≤ (-10)) = false := decide_eq_false c3
      clear c3
      replace H := Option.bind_eq_some_iff.mp H
      obtain ⟨t1552, A90, H⟩ := H
      replace H : (if 1 + t1552.size ≤ 9223372036854775807 then (some ((⟨#[45]⟩ : ByteArray) ++ t1552)) else (none)) = some r := H
      have A9 := Aside0.mk A90
      clear A90
      by_cases c10 : 1 + t1552.size ≤ 9223372036854775807
      · rw [if_pos c10] at H
        have c10b0 := eq_true c10
        have c10b1 : decide (1 + t1552.size ≤ 9223372036854775807) = true := decide_eq_true c10
        try have c10b2 : (9223372036854775807 < 1 + t1552.size) = False := eq_false (Nat.not_lt.2 c10)
        obtain rfl := Option.some.inj H
        go_enter Tryz.func229, Tryz.ntmps229
        go_wp2_with (first | ((with_reducible refine gate_callee (f := 229) rfl ?_); refine goesL_ (some 17) rfl rfl Tryz.func229 (by kernel_rfl) rfl #[.int .i64 (wrap64 (-a0))] rfl (by (try simp only [List.map_toArray, List.map_cons, List.map_nil]); first | done | rfl | (simp only [List.length_drop, List.length_take]; rfl)) ?_; (with_reducible refine (ih k (by omega) (wrap64 (-a0)) t1552 _ A9.out).mono ?_); rintro e w11 ⟨rfl, hb⟩; refine ⟨_, rfl, ?_⟩; have n0_ := Aside0.mk (below_step (by repeat (first | (with_reducible first | exact HB.out | apply below_alloc | apply pw_below_drewN | apply below_drew1) | exact HB.out)) hb); clear HB; have HB := n0_; clear n0_; (try clear hb); (try clear hb2); (try clear hk); (try clear hi)))
        go_ret
        exact ⟨by first | rfl | (simp [errW_none, errW_some] <;> rfl) | (simp [*, errW_none, errW_some] <;> rfl), by repeat (first | (with_reducible first | exact HB.out | apply below_alloc | apply pw_below_drewN | apply below_drew1) | exact HB.out)⟩
      · rw [if_neg c10] at H
        exact absurd H (by simp)
  · rw [if_neg c2] at H
    have c2b0 : decide (a0 < 0) = false := decide_eq_false c2
    clear c2
    by_cases c12 : a0 ≥ 10
    · rw [if_pos c12] at H
      have c12b0 : decide (10 ≤ a0) = true := decide_eq_true c12
      clear c12
      replace H := Option.bind_eq_some_iff.mp H
      obtain ⟨t1553, A130, H⟩ := H
      replace H : ((chirographref06_digits.f k (Int.tmod a0 10)).bind fun t1554 => (if t1553.size + t1554.size ≤ 9223372036854775807 then (some (t1553 ++ t1554)) else (none))) = some r := H
      have A13 := Aside0.mk A130
      clear A130
      replace H := Option.bind_eq_some_iff.mp H
      obtain ⟨t1554, A140, H⟩ := H
      replace H : (if t1553.size + t1554.size ≤ 9223372036854775807 then (some (t1553 ++ t1554)) else (none)) = some r := H
      have A14 := Aside0.mk A140
      clear A140
      by_cases c15 : t1553.size + t1554.size ≤ 9223372036854775807
      · rw [if_pos c15] at H
        have c15b0 := eq_true c15
        have c15b1 : decide (t1553.size + t1554.size ≤ 9223372036854775807) = true := decide_eq_true c15
        try have c15b2 : (9223372036854775807 < t1553.size + t1554.size) = False := eq_false (Nat.not_lt.2 c15)
        obtain rfl := Option.some.inj H
        go_enter Tryz.func229, Tryz.ntmps229
        go_wp2_with (first | ((with_reducible refine gate_callee (f := 229) rfl ?_); refine goesL_ (some 23) rfl rfl Tryz.func229 (by kernel_rfl) rfl #[.int .i64 (wrap64 (Int.tdiv a0 10))] rfl (by (try simp only [List.map_toArray, List.map_cons, List.map_nil]); first | done | rfl | (simp only [List.length_drop, List.length_take]; rfl)) ?_; (with_reducible refine (ih k (by omega) (wrap64 (Int.tdiv a0 10)) t1553 _ A13.out).mono ?_); rintro e w16 ⟨rfl, hb⟩; refine ⟨_, rfl, ?_⟩; have n0_ := Aside0.mk (below_step (by repeat (first | (with_reducible first | exact HB.out | apply below_alloc | apply pw_below_drewN | apply below_drew1) | exact HB.out)) hb); clear HB; have HB := n0_; clear n0_; (try clear hb); (try clear hb2); (try clear hk); (try clear hi)) | ((with_reducible refine gate_callee (f := 229) rfl ?_); refine goesL_ (some 26) rfl rfl Tryz.func229 (by kernel_rfl) rfl #[.int .i64 (Int.tmod a0 10)] rfl (by (try simp only [List.map_toArray, List.map_cons, List.map_nil]); first | done | rfl | (simp only [List.length_drop, List.length_take]; rfl)) ?_; (with_reducible refine (ih k (by omega) (Int.tmod a0 10) t1554 _ A14.out).mono ?_); rintro e w17 ⟨rfl, hb⟩; refine ⟨_, rfl, ?_⟩; have n0_ := Aside0.mk (below_step (by repeat (first | (with_reducible first | exact HB.out | apply below_alloc | apply pw_below_drewN | apply below_drew1) | exact HB.out)) hb); clear HB; have HB := n0_; clear n0_; (try clear hb); (try clear hb2); (try clear hk); (try clear hi)))
        go_ret
        exact ⟨by first | rfl | (simp [errW_none, errW_some] <;> rfl) | (simp [*, errW_none, errW_some] <;> rfl), by repeat (first | (with_reducible first | exact HB.out | apply below_alloc | apply pw_below_drewN | apply below_drew1) | exact HB.out)⟩
      · rw [if_neg c15] at H
        exact absurd H (by simp)
    · rw [if_neg c12] at H
      have c12b0 : decide (10 ≤ a0) = false := decide_eq_false c12
      clear c12
      obtain ⟨y1555, hy1555⟩ : ∃ y_ : List Int, y_ = (([(wrap64 (48 + a0)) % 256] : List Int)) := ⟨_, rfl⟩
      replace H : (some (strOfNums y1555)) = some r := by first | (rw [hy1555]; with_reducible exact H) | (have H2_ := (Option.bind_some _ _).symm.trans H; rw [hy1555]; with_reducible exact H2_) | (have H2_ := (Option.bind_some _ _).symm.trans H; with_reducible exact H2_) | with_reducible exact H | (rw [hy1555]; exact H) | exact H
      have Ny1555 := Aside0.mk hy1555
      clear hy1555
      obtain rfl := Option.some.inj H
      go_enter Tryz.func229, Tryz.ntmps229
      go_wp2_with (first | ((with_reducible refine gate_dst (N := 31) rfl ?_); refine Kd.R_lit (Kd.int .u8) _ 5 ?hg (N := 31) ?hd (xs := ([(wrap64 (48 + a0)) % 256] : List Int)) (inner := [.int .u8 ((wrap64 (48 + a0)) % 256)]) (ok := fun _ => True) (okp := fun _ => True) ?hr ?hp (fun _ hk => hk) trivial (Below.refl _ _) (Nat.le_refl _) (by simp) ?_; (case hd => rfl); (case hg => rfl); (case hr => first | (go_simp; done) | (go_simp; rfl)); (case hp => exact (Reps.one (show Kd.M (Kd.int .u8) _ _ _ ((wrap64 (48 + a0)) % 256) [.int .u8 ((wrap64 (48 + a0)) % 256)] from rfl) (Reps.none _ _))); intro v1556 w18 ho19 hb hg_ hnew_; clear hg_ hnew_; (first | rw [← Ny1555.out] at ho19 | (simp only [Int.reduceToNat] at ho19; rw [← Ny1555.out] at ho19)); have n0_ := Aside0.mk (Kd.R_lower ho19 (below_size (by repeat (first | (with_reducible first | exact HB.out | apply below_alloc | apply pw_below_drewN | apply below_drew1) | exact HB.out)))); have n1_ := Aside0.mk (below_step (by repeat (first | (with_reducible first | exact HB.out | apply below_alloc | apply pw_below_drewN | apply below_drew1) | exact HB.out)) hb); clear HB; have HO1557 := n0_; have HB := n1_; clear n0_ n1_; clear hb ho19; have hcv20 := own_string (P := Tryz.prog) Tryz.underlying22 Tryz.underlying5 Tryz.underlying9 (Kd.own_of_R HO1557.out)))
      go_ret
      exact ⟨by first | rfl | (simp [errW_none, errW_some] <;> rfl) | (simp [*, errW_none, errW_some] <;> rfl), by repeat (first | (with_reducible first | exact HB.out | apply below_alloc | apply pw_below_drewN | apply below_drew1) | exact HB.out)⟩
end Go.Proofs.YtkioddjjfifadaaGreatDoor.P
