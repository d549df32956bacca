/- What the proof of NameBack needs of: Hb0, Hm0, Lt4, Shm, Hb1, Pxf152, Pxf149, Pxf84, Pxf41, Pxf31, Lb2. -/
import Derived.Lib.BytesEntry
import Derived.Lib.Bytealg
import Derived.Deep.MidRow
import Derived.Sort.Walk0
import Derived.Shelf.SlGeneric
import Derived.Shelf.SlLaysF
import Derived.Ground.SlsfProg
import Derived.Test.YtkioddjjfifadaaGreatDoorProg
import Derived.Shelf.SlSortCmp.NoneTotal
import Derived.Test.YtkioddjjfifadaaGreatDoorNk2
import Derived.Test.YtkioddjjfifadaaGreatDoorNk5
set_option linter.unusedVariables false
set_option linter.unusedSimpArgs false
set_option linter.unusedVariables false
namespace Go.Proofs.YtkioddjjfifadaaGreatDoor.P
open Go.RowKit Go.Proofs.YtkioddjjfifadaaGreatDoorW.PrintWords Go.Proofs.YtkioddjjfifadaaGreatDoorW.PrintLast Go.Proofs.YtkioddjjfifadaaGreatDoorW.PrintMore
theorem run_bytesSl {P : Program} {w : World} {A : Option Addr} {n c : Nat} {xs : List Int} (h : (Kd.int .u8).C w A n xs) : (Extern.Bytes.bytesOf (.slice A n c)).run P w = .ok ⟨(Lib.bytesOf xs).toArray⟩ w := by
  have hn : xs.length = n := h.1
  cases A with
  | none =>
    have : xs = [] := by
      rcases Nat.eq_zero_or_pos n with h0 | h0
      · exact List.eq_nil_of_length_eq_zero (hn.trans h0)
      obtain ⟨ad, e, _⟩ := h.2.2 h0
      cases e
    subst this
    rfl
  | some a =>
    have hr := Kd.reads_of_C (d := (0 : Int)) h
    have hl := Lib.run_loadBytesX (P := P) w xs a .empty (fun j x hj => by
      have hjl : j < xs.length := (List.getElem?_eq_some_iff.1 hj).1
      obtain ⟨ad, e, hc⟩ := hr.2.2 (by omega)
      cases e
      have h2 := hc j (by omega)
      rw [List.getD_eq_getElem?_getD, hj] at h2
      exact h2)
    rw [hn] at hl
    have he : (⟨ByteArray.empty.data ++ (Lib.bytesOf xs).toArray⟩ : ByteArray) = ⟨(Lib.bytesOf xs).toArray⟩ := by
      apply ByteArray.ext
      show (#[] : Array UInt8) ++ (Lib.bytesOf xs).toArray = (Lib.bytesOf xs).toArray
      simp
    rw [he] at hl
    exact hl
theorem run_compareSl {P : Program} {w : World} {A B : Option Addr} {n c m d : Nat} {xs ys : List Int} (h : (Kd.int .u8).C w A n xs) (h2 : (Kd.int .u8).C w B m ys) :
    (Extern.BytealgCompare.compare #[.slice A n c, .slice B m d]).run P w = .ok (.int .i64 (Lib.compareBytes (Lib.bytesOf xs) (Lib.bytesOf ys))) w := by
  change Sem.run P (do pure (goInt (Extern.BytealgCompare.cmp (← Extern.Bytes.bytesOf (.slice A n c)) (← Extern.Bytes.bytesOf (.slice B m d))))) w = _
  simp only [Sem.run_bind, run_bytesSl h, run_bytesSl h2, Sem.run_pure, Result.andThen]
  rw [Lib.cmp_eq]
  rfl
theorem bytes_Compare_calls (A B : Option Addr) (n c m d : Nat) (xs ys : List Int) (w : World) (h : (Kd.int .u8).C w A n xs) (h2 : (Kd.int .u8).C w B m ys) :
    Calls Tryz.prog 151 #[.slice A n c, .slice B m d] w fun e w' => e = .returned (.int .i64 (Lib.compareBytes (Lib.bytesOf xs) (Lib.bytesOf ys))) ∧ w' = w := by
  have h8 := @run_callFunc_extern Tryz.prog 202 _ Extern.BytealgCompare.compare Tryz.func202 (by kernel_rfl) (by kernel_rfl) (by kernel_rfl) (by kernel_rfl)
  have hr := run_compareSl (P := Tryz.prog) (c := c) (d := d) h h2
  clear h h2
  generalize Lib.compareBytes (Lib.bytesOf xs) (Lib.bytesOf ys) = R at *
  go_enter Tryz.func151, Tryz.ntmps151
  go_wp2
  go_ret
  exact ⟨rfl, rfl⟩
theorem long_calls (A : Option Addr) (n c : Nat) (w : World) : Calls Tryz.prog 148 #[.slice A n c] w fun e w' => e = .returned (.bool (decide (64 < (n : Int)))) ∧ w' = w := by
  go_enter Tryz.func148, Tryz.ntmps148
  go_wp2
  go_ret
  exact ⟨rfl, rfl⟩
def longL (l : List (List S64)) : Bool := l.any fun s => decide (64 < (s.length : Int))
def IdxPost (l : List (List S64)) (w : World) (e : Ending) (w' : World) : Prop := ∃ i : Int, e = .returned (.int .i64 i) ∧ decide (0 ≤ i) = longL l ∧ w' = w
theorem longL_take (l : List (List S64)) (j : Nat) (hj : j < l.length) : longL (l.take (j + 1)) = (longL (l.take j) || decide (64 < ((rd_L5 l (j : Int)).length : Int))) := by
  unfold longL
  rw [List.take_succ_eq_append_getElem hj, List.any_append]
  congr 1
  simp only [List.any_cons, List.any_nil, Bool.or_false]
  have : rd_L5 l (j : Int) = l[j] := by
    show l.getD (j : Int).toNat [] = l[j]
    rw [Int.toNat_natCast, List.getD_eq_getElem?_getD, List.getElem?_eq_getElem hj]; rfl
  rw [this]
set_option maxRecDepth 100000 in
set_option maxHeartbeats 4000000 in
theorem index_long (A0 : Option Addr) (c0 : Nat) (l0 : List (List S64)) (w : World) (hr0 : Kd.C (Kd.slice 64 k64) w A0 l0.length l0) (hl : l0.length < 4611686018427387904) :
    Calls Tryz.prog 198 #[.slice A0 l0.length c0, .func (.func 148) #[] #[]] w (IdxPost l0 w) := by
  have HR0 := Aside0.mk hr0
  have HL := Aside0.mk hl
  clear hr0 hl
  go_enter Tryz.func198, Tryz.ntmps198
  go_wp2
  go_loopg [8] (l0.length + 1) (fun kq v8 w' => ∃ (j : Nat), v8 = .int .i64 (j : Int) ∧ Aside0 (j ≤ l0.length ∧ l0.length < kq + j) ∧ Aside0 (longL (l0.take j) = false) ∧ w' = w)
  case atStart => exact ⟨0, rfl, ⟨⟨Nat.zero_le _, by omega⟩⟩, ⟨rfl⟩, rfl⟩
  case round =>
    obtain ⟨j, rfl, HJ, HF, rfl⟩ := hrel
    cases gk with
    | zero => exact absurd HJ.out (by omega)
    | succ g1 =>
      by_cases hj : j < l0.length
      rotate_left
      · have c1 : decide ((j : Int) < (l0.length : Int)) = false := decide_eq_false (by omega)
        go_wp2
        go_ret
        refine ⟨_, rfl, ?_, rfl⟩
        have := HF.out
        rw [List.take_of_length_le (by omega)] at this
        rw [this]
        rfl
      have c1 : decide ((j : Int) < (l0.length : Int)) = true := decide_eq_true (by omega)
      have p1 : ((0 : Int) ≤ (j : Int)) = True := eq_true (by omega)
      have q1 : ((j : Int) < (l0.length : Int)) = True := eq_true (by omega)
      obtain ⟨ad, A1, c1', rfl, hx, hl1, hC1⟩ := at_L5 HR0.out (j : Int) (by omega) (by omega)
      rw [Int.toNat_natCast] at hx
      have HS := Aside0.mk (longL_take l0 j hj)
      have hw3 : wrap64 ((j : Int) + 1) = ((j + 1 : Nat) : Int) := by unfold wrap64; have := HL.out; omega
      clear hl1 hC1
      obtain ⟨n1, hn1⟩ : ∃ n1, (rd_L5 l0 (j : Int)).length = n1 := ⟨_, rfl⟩
      rw [hn1] at hx
      have HN := Aside0.mk hn1
      clear hn1
      by_cases hb : 64 < (n1 : Int)
      rotate_left
      · have hd : decide (64 < (n1 : Int)) = false := decide_eq_false hb
        have HB : Aside0 (longL (l0.take (j + 1)) = false) := ⟨by rw [HS.out, HF.out, HN.out, hd]; rfl⟩
        have ARM : ∀ W : World, Calls Tryz.prog 148 #[.slice A1 n1 c1'] W fun e w' => e = .returned (.bool false) ∧ w' = W := fun W => hd ▸ long_calls A1 n1 c1' W
        clear hd hb
        go_wp2_with ((with_reducible refine (ARM _).mono ?_); rintro e w4 ⟨rfl, rfl⟩)
        go_roundg g1
        case measure => exact Nat.lt_succ_self _
        case rel => exact ⟨j + 1, congrArg (Value.int .i64) hw3, ⟨by have := HJ.out; omega⟩, HB, rfl⟩
      have hd : decide (64 < (n1 : Int)) = true := decide_eq_true hb
      have HB : Aside0 (longL (l0.take (j + 1)) = true) := ⟨by rw [HS.out, HF.out, HN.out, hd]; rfl⟩
      have ARM : ∀ W : World, Calls Tryz.prog 148 #[.slice A1 n1 c1'] W fun e w' => e = .returned (.bool true) ∧ w' = W := fun W => hd ▸ long_calls A1 n1 c1' W
      clear hd hb
      go_wp2_with ((with_reducible refine (ARM _).mono ?_); rintro e w4 ⟨rfl, rfl⟩)
      go_ret
      refine ⟨_, rfl, ?_, rfl⟩
      have h1 : longL l0 = true := by
        have := HB.out
        unfold longL at this ⊢
        rw [List.any_eq_true] at this ⊢
        obtain ⟨x, hx, hp⟩ := this
        exact ⟨x, List.mem_of_mem_take hx, hp⟩
      rw [h1]
      exact decide_eq_true (by omega)
def slices_ContainsFunc.f (l : List (List S64)) : Option Bool := if l.length < 4611686018427387904 then some (longL l) else none
theorem contains_long (A0 : Option Addr) (c0 : Nat) (l0 : List (List S64)) (r : Bool) (w : World) (hr0 : Kd.C (Kd.slice 64 k64) w A0 l0.length l0) (h : slices_ContainsFunc.f l0 = some r) :
    Calls Tryz.prog 147 #[.slice A0 l0.length c0, .func (.func 148) #[] #[]] w fun e w' => e = .returned (.bool r) ∧ w' = w := by
  unfold slices_ContainsFunc.f at h
  split at h
  case isFalse => cases h
  case isTrue hl =>
  have HR := Aside0.mk (Option.some.inj h)
  have HC := Aside0.mk hr0
  have HL := Aside0.mk hl
  clear h hl hr0
  go_enter Tryz.func147, Tryz.ntmps147
  go_wp2_with fail
  refine (index_long A0 c0 l0 _ HC.out HL.out).mono ?_
  rintro e w4 ⟨i, rfl, hi, rfl⟩
  rw [HR.out] at hi
  go_wp2_with fail
  go_ret
  exact ⟨by first | rfl | (rw [hi]), rfl⟩
end Go.Proofs.YtkioddjjfifadaaGreatDoor.P
namespace Go.Proofs.YtkioddjjfifadaaGreatDoor.P
open Go.RowKit Go.Proofs.YtkioddjjfifadaaGreatDoorW.PrintWords Go.Proofs.YtkioddjjfifadaaGreatDoorW.PrintLast Go.Proofs.YtkioddjjfifadaaGreatDoorW.PrintMore
def sortB (xs : List ByteArray) : List ByteArray := ((xs.map fun b => b.data.toList).mergeSort fun x y => decide (x ≤ y)).map fun l => ⟨l.toArray⟩
theorem sortB_len (xs : List ByteArray) : (sortB xs).length = xs.length := by simp [sortB]
def slices_Sort.f (xs : List ByteArray) : Option (List ByteArray) := if xs.length < 4611686018427387904 then some (sortB xs) else none
theorem sort_own (w0 : World) (v : Value) (xs r : List ByteArray) (w : World) (hR : Kd.string.R 9 w w0.heap.size (fun _ => True) v xs) (h0 : Below w0.heap.size w0 w) (h : slices_Sort.f xs = some r) :
    Calls Tryz.prog 161 #[v] w fun e w' => e = .returned (.tuple #[]) ∧ Kd.string.R 9 w' w0.heap.size (fun _ => True) v r ∧ Below w0.heap.size w0 w' := by
  unfold slices_Sort.f at h
  split at h
  case isFalse => cases h
  case isTrue hl =>
  obtain rfl := Option.some.inj h
  have ho := Kd.own_of_R hR
  rcases ho.2 with ⟨rfl, hn⟩ | ⟨g, cap, cur, rfl, hg, hh, hnc, hcm, hsz, htk⟩
  · have hx : xs = [] := List.eq_nil_of_length_eq_zero hn
    subst hx
    refine (Tryz.slices_Sort_string_none none 0 w).mono ?_
    rintro e w' ⟨rfl, rfl⟩
    have hnil : sortB [] = [] := List.eq_nil_of_length_eq_zero (sortB_len [])
    rw [hnil]
    exact ⟨rfl, hR, h0⟩
  have hcur : ∀ j, j < xs.length → cur[j]? = some (Value.string (xs[j]!)) := fun j hj => by
    have h1 : (cur.toList.take (xs.length * 1))[j]? = (encs Value.string xs)[j]? := by rw [htk]
    rw [List.getElem?_take_of_lt (by omega)] at h1
    rw [← Array.getElem?_toList, h1]
    simp [encs, List.getElem?_eq_getElem hj, getElem!_pos xs j hj]
  have hlt : g < w.heap.size := blk_lt hh
  have hH : Go.Sort.Holds Go.Proofs.encStr w g 0 (xs.map fun b => b.data.toList).toArray := fun j hj => by
    have hj' : j < xs.length := by simpa using hj
    refine ⟨?_, blk_frozen hh _⟩
    rw [Nat.zero_add]
    refine (blk_cell hh j).trans ?_
    rw [hcur j hj']
    simp [hj']
  refine (show Calls Tryz.prog 161 #[.slice (some ⟨g, 0, none⟩) xs.length cap] w _ from ?_)
  have hc := Tryz.slices_Sort_string g 0 cap (xs.map fun b => b.data.toList) w hH hlt (by simpa using hl)
  rw [List.length_map] at hc
  refine hc.mono ?_
  rintro e w' ⟨rfl, n, os, rfl⟩
  generalize hss : (((xs.map fun b => b.data.toList).mergeSort fun x y => decide (x ≤ y)) : List (List UInt8)) = ss
  have hsl : ss.length = xs.length := by rw [← hss]; simp
  have hsb : sortB xs = ss.map fun l => ⟨l.toArray⟩ := by rw [← hss]; rfl
  rw [hsb]
  have hgr : w.grownBy (Go.Sort.grow (Go.Sort.putRow Go.Proofs.encStr (Go.Sort.ahead w n) g 0 ss.toArray) os) (some g) := by
    refine ⟨rfl, rfl, rfl, ?_, fun k hk hne => ?_⟩
    · show w.heap.size ≤ ((Go.Sort.putRow Go.Proofs.encStr (Go.Sort.ahead w n) g 0 ss.toArray).heap ++ os).size
      rw [Array.size_append, Go.Sort.size_putRow]
      exact Nat.le_add_right _ _
    show ((Go.Sort.putRow Go.Proofs.encStr (Go.Sort.ahead w n) g 0 ss.toArray).heap ++ os)[k]? = _
    rw [Array.getElem?_append_left (by rw [Go.Sort.size_putRow]; exact hk)]
    show (w.heap.modify g _)[k]? = _
    rw [Array.getElem?_modify, if_neg (fun e => hne (by rw [e]))]
  refine ⟨rfl, Kd.R_of_own ⟨by simp [encs], Or.inr ⟨g, cap, Go.Sort.putCells Go.Proofs.encStr 0 ss.toArray cur, by rw [List.length_map, hsl], hg, ?_, by rw [List.length_map, hsl]; exact hnc, hcm, by simp [Go.Sort.putCells]; simpa using hsz, ?_⟩⟩ (fun _ _ => trivial), pw_below_grown h0 _ h0.size hgr (fun k hk => by injection hk with hk; omega)⟩
  · show ((Go.Sort.putRow Go.Proofs.encStr (Go.Sort.ahead w n) g 0 ss.toArray).heap ++ os)[g]? = _
    rw [Array.getElem?_append_left (by rw [Go.Sort.size_putRow]; exact hlt)]
    show (w.heap.modify g _)[g]? = _
    rw [Array.getElem?_modify, if_pos rfl, hh]
    rfl
  rw [List.length_map, Nat.mul_one]
  apply List.ext_getElem?
  intro j
  by_cases hj : j < ss.length
  rotate_left
  · rw [List.getElem?_eq_none (by rw [List.length_take]; omega), List.getElem?_eq_none (by simp [encs]; omega)]
  rw [List.getElem?_take_of_lt hj, Array.getElem?_toList]
  have hcl : j < cur.size := by omega
  simp [Go.Sort.putCells, hcl, hj, encs]
def strings_Join.f (xs : List ByteArray) (sep : ByteArray) : Option ByteArray :=
  if xs.length ≤ 140737488355328 ∧ (Lib.join (xs.map (·.data.toList)) sep.data.toList).length ≤ 140737488355328 then some ⟨(Lib.join (xs.map (·.data.toList)) sep.data.toList).toArray⟩ else none
theorem strings_Join.calls (A0 : Option Addr) (c0 : Nat) (l0 : List ByteArray) (a1 : ByteArray) (r : ByteArray) (w : World) (hr0 : Kd.C Kd.string w A0 l0.length l0) (hc0 : l0.length ≤ c0) (h : strings_Join.f l0 a1 = some r) :
    Calls Tryz.prog 88 #[.slice A0 l0.length c0, .string a1] w fun e w' => e = .returned (.string r) ∧ Below w.heap.size w w' := by
  unfold strings_Join.f at h
  split at h
  case isFalse => cases h
  case isTrue hl =>
  obtain rfl := Option.some.inj h
  cases l0 with
  | nil =>
    refine (Tryz.strings_Join_none A0 c0 a1 w).mono ?_
    rintro e w' ⟨rfl, rfl⟩
    exact ⟨rfl, Below.refl _ _⟩
  | cons x xs =>
    obtain ⟨ad, rfl, hcell⟩ := hr0.2.2 (by simp)
    have hc1 : ∀ (j : Nat) y, (x :: xs)[j]? = some y → w.cell? (ad.add j) = some (.string y) := fun j y hy => by
      obtain ⟨c, _, hK, hu⟩ := hcell j y hy
      have hK' : c = [Value.string y] := hK
      subst hK'
      have := hu 0 _ rfl
      simpa [Kd.string, Kd.scalar] using this
    obtain ⟨b, o, spot⟩ := ad
    have h0 := hc1 0 x rfl
    have hspot : spot = none := by simpa [Addr.add] using World.cell?_spot h0
    subst hspot
    refine (Tryz.strings_Join b o c0 (x :: xs) a1 w (fun j y hy => by have := hc1 j y hy; rwa [Go.Addr.add_mid] at this) (World.block_lt_of_cell? w _ h0) hl.1 hc0 hl.2).mono ?_
    rintro e w' ⟨rfl, hb⟩
    exact ⟨rfl, hb⟩
end Go.Proofs.YtkioddjjfifadaaGreatDoor.P
namespace Go.Proofs.YtkioddjjfifadaaGreatDoor.P
open Go.RowKit Go.Proofs.YtkioddjjfifadaaGreatDoorW.PrintWords
def un (y : List Int) : List UInt8 := (strOfNums y).data.toList
theorem ltL_un (a b : List Int) : ltL a b = decide (un a < un b) := by
  unfold ltL un
  rw [bytesLess_eq, Lib.toList_data, Lib.toList_data]
/-- Insert from the right. -/
def insR : List (List Int) → List Int → List (List Int)
  | [], x => [x]
  | a :: A, x => if ltL x a = true then insR A x ++ [a] else A.reverse ++ [a, x]
theorem getD_mid {α : Type} (A B : List α) (x d : α) (k : Nat) (h : k = A.length) : (A ++ x :: B).getD k d = x := by
  subst h
  rw [List.getD_eq_getElem?_getD, List.getElem?_append_right (Nat.le_refl _), Nat.sub_self]
  rfl
theorem set_mid {α : Type} (A B : List α) (x y : α) (k : Nat) (h : k = A.length) : (A ++ x :: B).set k y = A ++ y :: B := by
  subst h
  rw [List.set_append_right _ _ (Nat.le_refl _), Nat.sub_self]
  rfl
theorem bub_insR : ∀ (A : List (List Int)) (x : List Int) (B : List (List Int)), bub A.length (A.reverse ++ x :: B) = insR A x ++ B
  | [], x, B => rfl
  | a :: A, x, B => by
    have e1 : ((a :: A).reverse ++ x :: B).getD (A.length + 1) [] = x := getD_mid _ _ _ _ _ (by simp)
    have e2 : ((a :: A).reverse ++ x :: B).getD A.length [] = a := by
      rw [List.reverse_cons, List.append_assoc]
      exact getD_mid _ _ _ _ _ (by simp)
    have e3 : (((a :: A).reverse ++ x :: B).set (A.length + 1) a).set A.length x = A.reverse ++ x :: (a :: B) := by
      rw [set_mid _ _ _ _ _ (by simp), List.reverse_cons, List.append_assoc]
      exact set_mid _ _ _ _ _ (by simp)
    show bub (A.length + 1) _ = _
    rw [bub, e1, e2, e3]
    unfold insR
    by_cases h : ltL x a = true
    · rw [if_pos h, if_pos h, bub_insR A x (a :: B), List.append_assoc]
      rfl
    · rw [if_neg h, if_neg h, List.reverse_cons, List.append_assoc, List.append_assoc]
      rfl
theorem insL_insR (out : List (List Int)) (x : List Int) : insL out x = insR out.reverse x := by
  have := bub_insR out.reverse x []
  rw [List.length_reverse, List.reverse_reverse, List.append_nil] at this
  exact this
abbrev leU (a b : List Int) : Prop := un a ≤ un b
theorem insR_perm : ∀ (A : List (List Int)) (x : List Int), (insR A x).Perm (x :: A)
  | [], x => List.Perm.refl _
  | a :: A, x => by
    unfold insR
    split
    · refine (List.perm_append_comm).trans ?_
      exact ((insR_perm A x).cons a).trans (List.Perm.swap x a A)
    · have h1 : (A.reverse ++ [a, x]).Perm ([a, x] ++ A.reverse) := List.perm_append_comm
      refine h1.trans ?_
      refine (List.Perm.swap x a _).trans ?_
      exact ((List.reverse_perm A).cons a).cons x
theorem insR_sorted : ∀ (A : List (List Int)) (x : List Int), A.reverse.Pairwise leU → (insR A x).Pairwise leU
  | [], x, _ => List.pairwise_singleton _ _
  | a :: A, x, h => by
    rw [List.reverse_cons, List.pairwise_append] at h
    obtain ⟨h1, _, h3⟩ := h
    have h3' : ∀ u ∈ A.reverse, leU u a := fun u hu => h3 u hu a (List.mem_singleton.2 rfl)
    unfold insR
    split
    · rename_i hlt
      rw [ltL_un, decide_eq_true_eq] at hlt
      rw [List.pairwise_append]
      refine ⟨insR_sorted A x h1, List.pairwise_singleton _ _, fun u hu v hv => ?_⟩
      rw [List.mem_singleton.1 hv]
      have hm := (insR_perm A x).mem_iff.1 hu
      rcases List.mem_cons.1 hm with rfl | hm
      · exact List.le_of_lt hlt
      · exact h3' u (List.mem_reverse.2 hm)
    · rename_i hlt
      rw [ltL_un, decide_eq_true_eq, List.not_lt] at hlt
      rw [List.pairwise_append]
      refine ⟨h1, ?_, fun u hu v hv => ?_⟩
      · rw [List.pairwise_cons]
        exact ⟨fun v hv => by rw [List.mem_singleton.1 hv]; exact hlt, List.pairwise_singleton _ _⟩
      · rcases List.mem_cons.1 hv with rfl | hv
        · exact h3' u hu
        · rw [List.mem_singleton.1 hv]
          exact List.le_trans (h3' u hu) hlt
theorem foldl_ins (l : List (List Int)) : ∀ (out : List (List Int)), out.Pairwise leU → (l.foldl insL out).Pairwise leU ∧ (l.foldl insL out).Perm (out ++ l) := by
  induction l with
  | nil => intro out h; exact ⟨h, by rw [List.append_nil]; exact List.Perm.refl _⟩
  | cons x l ih =>
    intro out h
    have hs : (insL out x).Pairwise leU := by rw [insL_insR]; exact insR_sorted _ _ (by rw [List.reverse_reverse]; exact h)
    obtain ⟨h1, h2⟩ := ih (insL out x) hs
    refine ⟨h1, h2.trans ?_⟩
    have hp : (insL out x).Perm (x :: out) := by rw [insL_insR]; exact (insR_perm _ _).trans ((List.reverse_perm out).cons x)
    refine (hp.append_right l).trans ?_
    exact (List.perm_middle).symm
end Go.Proofs.YtkioddjjfifadaaGreatDoor.P
namespace Go.Proofs
open Go.Shelf
def Tryz.laysSF_ren : Go.Shelf.Ren := ⟨fun | 6 => 150 | 15 => 201 | 14 => 200 | 28 => 247 | 29 => 248 | 20 => 239 | 21 => 240 | 22 => 241 | 23 => 242 | 24 => 243 | 25 => 244 | 26 => 245 | 27 => 246 | 46 => 280 | 47 => 281 | 48 => 282 | 49 => 283 | 50 => 284 | 57 => 303 | n => n, fun | 22 => 67 | 24 => 22 | 25 => 241 | 3 => 3 | 39 => 245 | 0 => 0 | 53 => 323 | 55 => 278 | 4 => 4 | 46 => 355 | 45 => 354 | 50 => 359 | 5 => 5 | 9 => 9 | 66 => 398 | 70 => 402 | 76 => 416 | 77 => 195 | n => n, fun | n => n⟩
theorem Tryz.laysSF : Go.Proofs.SlLaysF.n6 Tryz.prog Tryz.laysSF_ren := {
  mixed := by kernel_rfl
  f6 := ⟨Tryz.f150.name, by decide, Tryz.func150.trans (congrArg some (by kernel_rfl))⟩
  f14 := ⟨Tryz.f200.name, by decide, Tryz.func200.trans (congrArg some (by kernel_rfl))⟩
  f15 := Tryz.func201.trans (congrArg some (by kernel_rfl))
  f20 := ⟨Tryz.f239.name, by decide, Tryz.func239.trans (congrArg some (by kernel_rfl))⟩
  f21 := ⟨Tryz.f240.name, by decide, Tryz.func240.trans (congrArg some (by kernel_rfl))⟩
  f22 := ⟨Tryz.f241.name, by decide, Tryz.func241.trans (congrArg some (by kernel_rfl))⟩
  f23 := ⟨Tryz.f242.name, by decide, Tryz.func242.trans (congrArg some (by kernel_rfl))⟩
  f24 := ⟨Tryz.f243.name, by decide, Tryz.func243.trans (congrArg some (by kernel_rfl))⟩
  f25 := ⟨Tryz.f244.name, by decide, Tryz.func244.trans (congrArg some (by kernel_rfl))⟩
  f26 := ⟨Tryz.f245.name, by decide, Tryz.func245.trans (congrArg some (by kernel_rfl))⟩
  f27 := ⟨Tryz.f246.name, by decide, Tryz.func246.trans (congrArg some (by kernel_rfl))⟩
  f28 := Tryz.func247.trans (congrArg some (by kernel_rfl))
  f29 := Tryz.func248.trans (congrArg some (by kernel_rfl))
  f46 := ⟨Tryz.f280.name, by decide, Tryz.func280.trans (congrArg some (by kernel_rfl))⟩
  f47 := Tryz.func281.trans (congrArg some (by kernel_rfl))
  f48 := Tryz.func282.trans (congrArg some (by kernel_rfl))
  f49 := ⟨Tryz.f283.name, by decide, Tryz.func283.trans (congrArg some (by kernel_rfl))⟩
  f50 := ⟨Tryz.f284.name, by decide, Tryz.func284.trans (congrArg some (by kernel_rfl))⟩
  f57 := ⟨Tryz.f303.name, by decide, Tryz.func303.trans (congrArg some (by kernel_rfl))⟩
  t0 := Tryz.underlying0
  a0 := Tryz.isAgg0
  z0 := Tryz.sizeOf0
  v0 := Tryz.zeroValue0
  t3 := Tryz.underlying3
  a3 := Tryz.isAgg3
  z3 := Tryz.sizeOf3
  v3 := Tryz.zeroValue3
  t4 := Tryz.underlying4
  a4 := Tryz.isAgg4
  z4 := Tryz.sizeOf4
  v4 := Tryz.zeroValue4
  t5 := Tryz.underlying5
  a5 := Tryz.isAgg5
  z5 := Tryz.sizeOf5
  v5 := Tryz.zeroValue5
  t9 := Tryz.underlying9
  a9 := Tryz.isAgg9
  z9 := Tryz.sizeOf9
  v9 := Tryz.zeroValue9
  t22 := Tryz.underlying67
  a22 := Tryz.isAgg67
  z22 := Tryz.sizeOf67
  v22 := Tryz.zeroValue67
  a24 := Tryz.isAgg22
  z24 := Tryz.sizeOf22
  t25 := Tryz.underlying241
  a25 := Tryz.isAgg241
  z25 := Tryz.sizeOf241
  v25 := Tryz.zeroValue241
  t39 := Tryz.underlying245
  a39 := Tryz.isAgg245
  z39 := Tryz.sizeOf245
  v39 := Tryz.zeroValue245
  t45 := Tryz.underlying354
  a45 := Tryz.isAgg354
  z45 := Tryz.sizeOf354
  v45 := Tryz.zeroValue354
  t46 := Tryz.underlying355
  a46 := Tryz.isAgg355
  z46 := Tryz.sizeOf355
  v46 := Tryz.zeroValue355
  t50 := Tryz.underlying359
  a50 := Tryz.isAgg359
  z50 := Tryz.sizeOf359
  v50 := Tryz.zeroValue359
  t53 := Tryz.underlying323
  a53 := Tryz.isAgg323
  z53 := Tryz.sizeOf323
  v53 := Tryz.zeroValue323
  t55 := Tryz.underlying278
  a55 := Tryz.isAgg278
  z55 := Tryz.sizeOf278
  v55 := Tryz.zeroValue278
  t66 := Tryz.underlying398
  a66 := Tryz.isAgg398
  z66 := Tryz.sizeOf398
  v66 := Tryz.zeroValue398
  t70 := Tryz.underlying402
  a70 := Tryz.isAgg402
  z70 := Tryz.sizeOf402
  v70 := Tryz.zeroValue402
  t76 := Tryz.underlying416
  a76 := Tryz.isAgg416
  z76 := Tryz.sizeOf416
  v76 := Tryz.zeroValue416
  t77 := Tryz.underlying195
  a77 := Tryz.isAgg195
  z77 := Tryz.sizeOf195
  v77 := Tryz.zeroValue195 }
end Go.Proofs
set_option linter.unusedVariables false
namespace Go.Proofs.YtkioddjjfifadaaGreatDoor.P
open Go.RowKit Go.Sort Go.Lib Go.Proofs.YtkioddjjfifadaaGreatDoorW.PrintWords Go.Proofs.YtkioddjjfifadaaGreatDoorW.PrintLast Go.Proofs.YtkioddjjfifadaaGreatDoorW.PrintMore
theorem cmp_lt : ∀ a b : List UInt8, decide (Lib.compareBytes a b < 0) = decide (a < b)
  | [], [] => by simp [Lib.compareBytes]
  | [], _ :: _ => by simp [Lib.compareBytes]
  | _ :: _, [] => by simp [Lib.compareBytes]
  | a :: as_, b :: bs => by
    have ih := cmp_lt as_ bs
    unfold Lib.compareBytes
    by_cases h1 : a < b
    · rw [if_pos h1]
      simp [List.cons_lt_cons_iff, h1]
    · rw [if_neg h1]
      by_cases h2 : b < a
      · rw [if_pos h2]
        have : a ≠ b := fun e => by subst e; exact UInt8.lt_irrefl _ h2
        simp [List.cons_lt_cons_iff, h1, this]
      · rw [if_neg h2]
        have : a = b := UInt8.le_antisymm (UInt8.not_lt.1 h2) (UInt8.not_lt.1 h1)
        rw [ih]
        simp [List.cons_lt_cons_iff, h1, this]
abbrev byteOk (y : List Int) : Bool := y.all isByte
theorem un_inj : ∀ {a b : List Int}, byteOk a = true → byteOk b = true → un a = un b → a = b := by
  intro a b ha hb h
  have key : ∀ y : List Int, byteOk y = true → (un y).map (fun (c : UInt8) => (c.toNat : Int)) = y := by
    intro y hy
    unfold un strOfNums
    simp only [List.map_map]
    refine (List.map_congr_left (g := id) fun x hx => ?_).trans (List.map_id _)
    have := List.all_eq_true.1 hy x hx
    simp only [isByte, Bool.and_eq_true, decide_eq_true_eq] at this
    show ((UInt8.ofNat x.toNat).toNat : Int) = x
    rw [UInt8.toNat_ofNat']
    omega
  rw [← key a ha, ← key b hb, h]
theorem sortedL_perm (xs : List (List Int)) : (sortedL xs).Pairwise leU ∧ (sortedL xs).Perm xs := by
  have := foldl_ins xs [] List.Pairwise.nil
  rwa [List.nil_append] at this
/-- What is sorted is sortedL. -/
theorem sortedL_only {xs ys : List (List Int)} (hb : ∀ y ∈ xs, byteOk y = true) (hp : ys.Perm xs) (hs : ys.Pairwise leU) : ys = sortedL xs := by
  obtain ⟨h1, h2⟩ := sortedL_perm xs
  refine List.Perm.eq_of_pairwise (le := leU) (fun a b ha hb' h3 h4 => ?_) hs h1 (hp.trans h2.symm)
  exact un_inj (hb a (hp.mem_iff.1 ha)) (hb b (h2.mem_iff.1 hb')) (List.le_antisymm h3 h4)
def slices_SortFunc.f (xs : List (List Int)) : Option (List (List Int)) := if (xs.all byteOk = true ∧ xs.length ≤ 1000000) then some (sortedL xs) else none
theorem swo_cmp {n : Nat} (X : Fin n → List Int) : Go.Sort.SWO (ltOf fun i j => Lib.compareBytes (un (X i)) (un (X j))) where
  irrefl x := by unfold ltOf; rw [cmp_lt]; simp
  trans x y z h1 h2 := by
    unfold ltOf at *
    rw [cmp_lt, decide_eq_true_eq] at *
    exact List.lt_trans h1 h2
  ntrans x y z h1 h2 := by
    unfold ltOf at *
    rw [cmp_lt, decide_eq_false_iff_not, List.not_lt] at *
    exact List.le_trans h2 h1
theorem sortfunc_len {xs ys : List (List Int)} (h : slices_SortFunc.f xs = some ys) : xs.length = ys.length := by
  unfold slices_SortFunc.f at h
  split at h
  rotate_left
  · cases h
  rw [← Option.some.inj h]
  exact (sortedL_perm xs).2.length_eq.symm
theorem slices_ContainsFunc.calls (A0 : Option Addr) (c0 : Nat) (l0 : List (List S64)) (r : Bool) (w : World) (hr0 : Kd.C (Kd.slice 64 k64) w A0 l0.length l0) (hc0 : l0.length ≤ c0) (h : slices_ContainsFunc.f l0 = some r) :
    Calls Tryz.prog 147 #[.slice A0 l0.length c0, .func (.func 148) #[] #[]] w fun e w' => e = .returned (.bool r) ∧ Below w.heap.size w w' :=
  (contains_long A0 c0 l0 r w hr0 h).mono fun e w' ⟨h1, h2⟩ => ⟨h1, h2 ▸ Below.refl _ _⟩
theorem grownBy_sortW {α : Type} [Inhabited α] (enc : α → Value) {w : World} {g n : Nat} {os : Array Obj} (d : Array α) : w.grownBy (sortWorld enc w g 0 n d os) (some g) := by
  refine ⟨rfl, rfl, rfl, ?_, fun k hk hne => ?_⟩
  · show w.heap.size ≤ ((Go.Sort.putRow enc (Go.Sort.ahead w n) g 0 d).heap ++ os).size
    rw [Array.size_append, Go.Sort.size_putRow]
    exact Nat.le_add_right _ _
  show ((Go.Sort.putRow enc (Go.Sort.ahead w n) g 0 d).heap ++ os)[k]? = _
  rw [Array.getElem?_append_left (by rw [Go.Sort.size_putRow]; exact hk)]
  show (w.heap.modify g _)[k]? = _
  rw [Array.getElem?_modify, if_neg (fun e => hne (by rw [e]))]
theorem ex_all {α : Type} (d : Array α) {n : Nat} (h : d.size = n) : (d.extract 0 n).toList = d.toList := by subst h; simp
theorem sortfunc_own (w0 : World) (v : Value) (xs r : List (List Int)) (ok : Nat → Prop) (w : World) (hR : (Kd.slice 5 (Kd.int .u8)).R 22 w w0.heap.size ok v xs) (h0 : Below w0.heap.size w0 w) (h : slices_SortFunc.f xs = some r) :
    Calls Tryz.prog 150 #[v, .func (.func 151) #[] #[]] w fun e w' => e = .returned (.tuple #[]) ∧ (Kd.slice 5 (Kd.int .u8)).R 22 w' w0.heap.size ok v r ∧ w.grownBy w' v.ownBlock ∧ Below w0.heap.size w0 w' := by
  unfold slices_SortFunc.f at h
  split at h
  case isFalse => cases h
  case isTrue hl =>
  obtain rfl := Option.some.inj h
  have hbk : ∀ y ∈ xs, byteOk y = true := List.all_eq_true.1 hl.1
  obtain ⟨hok, inner, ho, hrep⟩ := hR
  have hz1 : (Kd.slice 5 (Kd.int IntKind.u8)).sz = 1 := rfl
  rcases ho.2 with ⟨rfl, hn⟩ | ⟨g, cap, cur, rfl, hg, hh, hnc, hcm, hsz, htk⟩
  · have hx : xs = [] := List.eq_nil_of_length_eq_zero hn
    subst hx
    refine (AnyF.slices_SortFunc_none (P := Tryz.prog) (ρ := Tryz.laysSF_ren) { Tryz.laysSF with } none 0 (.func (.func 151) #[] #[]) w).mono ?_
    rintro e w' ⟨rfl, rfl⟩
    exact ⟨rfl, ⟨hok, inner, ho, hrep⟩, ⟨rfl, rfl, rfl, Nat.le_refl _, fun _ _ _ => rfl⟩, h0⟩
  have hlt : g < w.heap.size := blk_lt hh
  rw [hz1] at htk
  rcases Nat.eq_zero_or_pos xs.length with hz | hpos
  · have hx : xs = [] := List.eq_nil_of_length_eq_zero hz
    subst hx
    refine (AnyF.slices_SortFunc_none (P := Tryz.prog) (ρ := Tryz.laysSF_ren) { Tryz.laysSF with } (some ⟨g, 0, none⟩) cap (.func (.func 151) #[] #[]) w).mono ?_
    rintro e w' ⟨rfl, rfl⟩
    exact ⟨rfl, ⟨hok, inner, ho, hrep⟩, ⟨rfl, rfl, rfl, Nat.le_refl _, fun _ _ _ => rfl⟩, h0⟩
  haveI : Inhabited (Fin xs.length) := ⟨⟨0, hpos⟩⟩
  have hil : inner.length = xs.length := by have := ho.1; rw [hz1] at this; omega
  let enc : Fin xs.length → Value := fun i => inner.getD i.val undef
  let X : Fin xs.length → List Int := fun i => xs.getD i.val []
  have hM : ∀ i : Fin xs.length, ∃ A c, enc i = .slice A (X i).length c ∧ (Kd.int .u8).R 5 w w0.heap.size (fun k => ok k ∧ k ≠ g) (enc i) (X i) := fun i => by
    have hxi : xs[i.val]? = some (X i) := by
      show _ = some (xs.getD i.val [])
      rw [List.getD_eq_getElem?_getD, List.getElem?_eq_getElem i.isLt]; rfl
    obtain ⟨vi, hvi, hRi⟩ := hrep.2 i.val _ hxi
    have hv : vi = enc i := by
      have h1 : ((inner.drop (i.val * 1)).take 1) = [vi] := hvi
      rw [Nat.mul_one, List.drop_eq_getElem_cons (by omega)] at h1
      have h2 := congrArg List.head? h1
      rw [List.take_succ_cons] at h2
      have h3 : inner[i.val] = vi := Option.some.inj h2
      show vi = inner.getD i.val undef
      rw [List.getD_eq_getElem?_getD, List.getElem?_eq_getElem (by omega), ← h3]; rfl
    rw [hv] at hRi
    obtain ⟨A, c, hA⟩ := Kd.R_slice hRi
    exact ⟨A, c, hA, Kd.R_mono hRi (fun k hk => ⟨hk.1, fun e => hk.2 (by rw [e]; rfl)⟩)⟩
  have h1 : OneCell enc := fun i => by
    obtain ⟨A, c, hA, _⟩ := hM i
    rw [hA]; rfl
  let d : Array (Fin xs.length) := Array.ofFn id
  have hdz : d.size = xs.length := by simp [d]
  have hdj : ∀ j (hj : j < xs.length), d[j]! = ⟨j, hj⟩ := fun j hj => by
    rw [getElem!_pos d j (by omega)]
    simp [d]
  have hH : Go.Sort.Holds enc w g 0 d := fun j hj => by
    have hj' : j < xs.length := by omega
    refine ⟨?_, blk_frozen hh _⟩
    rw [Nat.zero_add, hdj j hj']
    refine (blk_cell hh j).trans ?_
    have h2 : (cur.toList.take (xs.length * 1))[j]? = inner[j]? := by rw [htk]
    rw [List.getElem?_take_of_lt (by omega)] at h2
    rw [← Array.getElem?_toList, h2]
    show _ = some (inner.getD j undef)
    rw [List.getD_eq_getElem?_getD, List.getElem?_eq_getElem (by omega)]; rfl
  have eg : ∀ args w, (callFunc 151 args).run Tryz.prog w = .ok (.enter 151 args) w := enters_of Tryz.func151 (by kernel_rfl) rfl
  have hcmp : CmpLays1 Tryz.prog 151 #[] enc (fun i j => Lib.compareBytes (un (X i)) (un (X j))) g 0 d.size w := fun m os dk hs x y => by
    obtain ⟨A, c, hA, hRA⟩ := hM x
    obtain ⟨B, c2, hB, hRB⟩ := hM y
    have gx := Kd.R_grown hRA (grownBy_sortW enc (g := g) (n := m) (os := os) dk) (fun k hk e => hk.2 (by injection e))
    have gy := Kd.R_grown hRB (grownBy_sortW enc (g := g) (n := m) (os := os) dk) (fun k hk e => hk.2 (by injection e))
    rw [hA] at gx
    rw [hB] at gy
    show Calls Tryz.prog 151 #[enc x, enc y] _ _
    rw [hA, hB]
    refine (bytes_Compare_calls A B (X x).length c (X y).length c2 (X x) (X y) _ (Kd.R_reads' gx).2.2 (Kd.R_reads' gy).2.2).mono ?_
    rintro e w' ⟨rfl, rfl⟩
    exact ⟨rfl, 0, #[], by rw [Go.Sort.grow_empty]; rfl⟩
  have hsort := Any.slices_SortFunc Tryz.laysSF enc h1 (fun i j => Lib.compareBytes (un (X i)) (un (X j))) (swo_cmp X) 151 #[] g 0 cap d w eg hcmp hH hlt (by omega)
  rw [hdz] at hsort
  refine Calls.mono hsort ?_
  rintro e w' ⟨rfl, d', n, os, hp, hs, rfl⟩
  have hgr := grownBy_sortW enc (w := w) (g := g) (n := n) (os := os) d'
  have hd'z : d'.size = xs.length := by rw [hp.1, hdz]
  have hys : (d'.toList.map X) = sortedL xs := by
    refine sortedL_only hbk ?_ ?_
    rotate_left
    · rw [List.pairwise_map]
      rw [List.pairwise_iff_getElem]
      intro i j hi hj hij
      have h3 := hs i j (Nat.zero_le _) hij (by rw [Array.length_toList] at hj; omega)
      unfold ltOf at h3
      rw [cmp_lt, decide_eq_false_iff_not, List.not_lt] at h3
      rw [Array.length_toList] at hi hj
      rw [getElem!_pos d' i hi, getElem!_pos d' j hj] at h3
      simpa using h3
    have h2 := hp.2.2
    have e1 : (d'.extract 0 xs.length).toList = d'.toList := ex_all d' hd'z
    have e2 : (d.extract 0 xs.length).toList = d.toList := ex_all d hdz
    rw [e1, e2] at h2
    refine (h2.map X).trans ?_
    have e3 : d.toList.map X = xs := by
      apply List.ext_getElem?
      intro j
      by_cases hj : j < xs.length
      rotate_left
      · rw [List.getElem?_eq_none (by rw [List.length_map, Array.length_toList]; omega), List.getElem?_eq_none (by omega)]
      rw [List.getElem?_map, List.getElem?_eq_getElem (by rw [Array.length_toList]; omega), List.getElem?_eq_getElem hj]
      simp [d, X, List.getD_eq_getElem?_getD, List.getElem?_eq_getElem hj]
    rw [e3]
  have hml : (d'.toList.map enc).length = xs.length := by rw [List.length_map, Array.length_toList]; exact hd'z
  have hyl : (sortedL xs).length = xs.length := (sortedL_perm xs).2.length_eq
  refine ⟨rfl, ⟨hok, d'.toList.map enc, ⟨by rw [hml, hyl, hz1, Nat.mul_one], Or.inr ⟨g, cap, Go.Sort.putCells enc 0 d' cur, ?_, hg, ?_, by rw [hyl]; omega, hcm, by simp [Go.Sort.putCells]; simpa using hsz, ?_⟩⟩, ?_⟩, hgr, pw_below_grown h0 _ h0.size hgr (fun k hk => by injection hk with hk; omega)⟩
  · rw [hyl]
  · show ((Go.Sort.putRow enc (Go.Sort.ahead w n) g 0 d').heap ++ os)[g]? = _
    rw [Array.getElem?_append_left (by rw [Go.Sort.size_putRow]; exact hlt)]
    show (w.heap.modify g _)[g]? = _
    rw [Array.getElem?_modify, if_pos rfl, hh]
    rfl
  · rw [hyl, hz1, Nat.mul_one]
    have hcz : xs.length ≤ cur.size := by have := hsz; rw [hz1] at this; omega
    apply List.ext_getElem?
    intro j
    by_cases hj : j < d'.size
    rotate_left
    · rw [List.getElem?_eq_none (by rw [List.length_take]; omega), List.getElem?_eq_none (by simp; omega)]
    rw [List.getElem?_take_of_lt (by omega), Array.getElem?_toList]
    have hcl : j < cur.size := by omega
    simp [Go.Sort.putCells, hcl, hj]
  rw [← hys]
  refine ⟨by simp [Kd.slice], fun j p hj => ?_⟩
  rw [List.getElem?_map] at hj
  obtain ⟨i, hi, rfl⟩ := Option.map_eq_some_iff.1 hj
  obtain ⟨A, c, hA, hRi⟩ := hM i
  refine ⟨enc i, ?_, Kd.R_mono (Kd.R_grown hRi hgr (fun k hk e => hk.2 (by injection e))) (fun k hk => ⟨hk.1, fun e => hk.2 (by rw [show (Value.slice (some (⟨g, 0, none⟩ : Addr)) xs.length cap).ownBlock = some g from rfl] at e; injection e)⟩)⟩
  have hjl : j < d'.toList.length := (List.getElem?_eq_some_iff.1 hi).1
  show ((d'.toList.map enc).drop (j * 1)).take 1 = [enc i]
  rw [Nat.mul_one, List.drop_eq_getElem_cons (by rw [List.length_map]; exact hjl), List.take_succ_cons, List.take_zero]
  have := (List.getElem?_eq_some_iff.1 hi).2
  rw [List.getElem_map, this]
end Go.Proofs.YtkioddjjfifadaaGreatDoor.P
namespace Go.Proofs.YtkioddjjfifadaaGreatDoor.P
open Go.RowKit Go.Proofs.YtkioddjjfifadaaGreatDoorW.PrintWords Go.Proofs.YtkioddjjfifadaaGreatDoorW.PrintLast Go.Proofs.YtkioddjjfifadaaGreatDoorW.PrintMore
attribute [local go_sem] max2_int min2_int max_two min_two max_three min_three max_four min_four   -- for this text's walks alone
set_option linter.unusedVariables false
set_option linter.unusedSimpArgs false
def name_about.f (k : Nat) (a0 : Int) (l1 : List (List Int)) : Option (List Int × Int) := (der_Put.f k 0 a0 true l1).bind fun bt307 => (if bt307.2 = 0 then (some (bt307.1, 0)) else (some (([] : List Int), bt307.2)))
set_option maxHeartbeats 8000000 in
set_option maxRecDepth 100000 in
theorem name_about.calls (k : Nat) (a0 : Int) (A1 : Option Addr) (c1 : Nat) (l1 : List (List Int)) (r1 : List Int) (r2 : Int) (w : World) (hr1 : Kd.C (Kd.slice 5 (Kd.int .u8)) w A1 l1.length l1) (hc1 : l1.length ≤ c1) (h : name_about.f k a0 l1 = some (r1, r2)) :
    Calls Tryz.prog 152 #[.int .i64 a0, .slice A1 l1.length c1] w fun e w' => ∃ v0_ ev_ : Value, e = .returned (.tuple #[v0_, ev_]) ∧ EV ev_ r2 ∧ Kd.R (Kd.int .u8) 5 w' w.heap.size (fun _ => True) v0_ r1 ∧ Below w.heap.size w w' := by
  have HR1 := Aside0.mk hr1
  have HC1 := Aside0.mk hc1
  clear hr1 hc1
  have HB := Aside0.mk (Below.refl w.heap.size w)
  have H : ((der_Put.f k 0 a0 true l1).bind fun bt307 => (if bt307.2 = 0 then (some (bt307.1, 0)) else (some (([] : List Int), bt307.2)))) = some (r1, r2) := h
  clear h
  replace H := Option.bind_eq_some_iff.mp H
  obtain ⟨⟨t307, t308⟩, A30, H⟩ := H
  replace H : (if t308 = 0 then (some (t307, 0)) else (some (([] : List Int), t308))) = some (r1, r2) := H
  have A3 := Aside0.mk A30
  clear A30
  by_cases c4 : t308 = 0
  rotate_left
  · rw [if_neg c4] at H
    have c4b0 : (t308 == 0) = false := beq_eq_false_iff_ne.mpr c4
    have c4b1 : (t308 != 0) = true := bne_iff_ne.mpr c4
    simp only [Option.some.injEq, Prod.mk.injEq] at H
    obtain ⟨rfl, rfl⟩ := H
    go_enter Tryz.func152, Tryz.ntmps152
    go_wp2_with (first | ((with_reducible refine gate_callee (f := 168) rfl ?_); refine goesL_ (some 11) rfl rfl Tryz.func168 (by kernel_rfl) rfl #[.int .i64 0, .int .i64 a0, .bool true, .slice A1 l1.length c1] rfl (by (try simp only [List.map_toArray, List.map_cons, List.map_nil]); first | done | rfl | (simp only [List.length_drop, List.length_take]; rfl)) ?_; (with_reducible refine (der_Put.calls k 0 a0 true _ _ l1 t307 t308 _ ?side1 ?side2 A3.out).mono ?_); (case side1 => exact Kd.C_u HR1.out); (case side2 => exact HC1.out); rintro e w6 ⟨v309, rfl, ho0, hb⟩; refine ⟨_, rfl, ?_⟩; have n0_ := Aside0.mk (Kd.R_lower ho0 (below_size (bU HB.out))); have n1_ := Aside0.mk (below_step (bU HB.out) hb); clear HB; have HO310 := n0_; have HB := n1_; clear n0_ n1_; (try clear hb); (try clear hb2); (try clear hk); (try clear hi); (try clear ho0)))
    go_ret2
    exact ⟨_, _, by first | rfl | (simp [errW_none, errW_some] <;> rfl) | (simp [*, errW_none, errW_some] <;> rfl), (by first | exact EV.nil | exact EV.f30 | exact EV.f5 | exact EV.f4 | exact EV.f1 | exact EV.low (by assumption) | exact HEV_.out | exact EV.part HEV_.out), by first | exact Kd.R_nil _ _ _ _ _ | exact Kd.N_nil _ _ _ _ _ | exact Kd.V_nil _ _ _ _ _ | exact Kd.Q_nil _ _ _ _ _ | exact Kd.S_nil _ _ _ _ _, bU HB.out⟩
  rw [if_pos c4] at H
  have c4b0 : (t308 == 0) = true := beq_iff_eq.mpr c4
  have c4b1 : (t308 != 0) = false := bne_eq_false_iff_eq.mpr c4
  clear c4
  simp only [Option.some.injEq, Prod.mk.injEq] at H
  obtain ⟨rfl, rfl⟩ := H
  go_enter Tryz.func152, Tryz.ntmps152
  go_wp2_with (first | ((with_reducible refine gate_callee (f := 168) rfl ?_); refine goesL_ (some 11) rfl rfl Tryz.func168 (by kernel_rfl) rfl #[.int .i64 0, .int .i64 a0, .bool true, .slice A1 l1.length c1] rfl (by (try simp only [List.map_toArray, List.map_cons, List.map_nil]); first | done | rfl | (simp only [List.length_drop, List.length_take]; rfl)) ?_; (with_reducible refine (der_Put.calls k 0 a0 true _ _ l1 t307 t308 _ ?side1 ?side2 A3.out).mono ?_); (case side1 => exact Kd.C_u HR1.out); (case side2 => exact HC1.out); rintro e w5 ⟨v309, rfl, ho0, hb⟩; refine ⟨_, rfl, ?_⟩; have n0_ := Aside0.mk (Kd.R_lower ho0 (below_size (bU HB.out))); have n1_ := Aside0.mk (below_step (bU HB.out) hb); clear HB; have HO310 := n0_; have HB := n1_; clear n0_ n1_; (try clear hb); (try clear hb2); (try clear hk); (try clear hi); (try clear ho0)))
  go_ret2
  exact ⟨_, _, by first | rfl | (simp [errW_none, errW_some] <;> rfl) | (simp [*, errW_none, errW_some] <;> rfl), (by first | exact EV.nil | exact EV.f30 | exact EV.f5 | exact EV.f4 | exact EV.f1 | exact EV.low (by assumption) | exact HEV_.out | exact EV.part HEV_.out), by (with_reducible repeat (first | apply Kd.R_alloc | apply Kd.R_drewN | apply Kd.R_drew)); exact HO310.out, bU HB.out⟩
end Go.Proofs.YtkioddjjfifadaaGreatDoor.P
namespace Go.Proofs.YtkioddjjfifadaaGreatDoor.P
open Go.RowKit Go.Proofs.YtkioddjjfifadaaGreatDoorW.PrintWords Go.Proofs.YtkioddjjfifadaaGreatDoorW.PrintLast Go.Proofs.YtkioddjjfifadaaGreatDoorW.PrintMore
attribute [local go_sem] max2_int min2_int max_two min_two max_three min_three max_four min_four   -- for this text's walks alone
set_option linter.unusedVariables false
set_option linter.unusedSimpArgs false
def name_lay.j0 : Nat → List Int → Bool → ByteArray → Int → List Int → Option (List Int × Int)
  | 0, _, _, _, _, _ => none
  | k + 1, x4, x26, x333000, x333001, x333002 => if x26 = true then (some (([] : List Int), 1)) else ((der_Put.f k 0 6 false (([x4] : List (List Int)))).bind fun bt340 => (if bt340.2 = 0 then ((der_Put.f k 0 x333001 false (([x333002] : List (List Int)))).bind fun bt347 => (if bt347.2 = 0 then ((name_about.f k 16 (([bt340.1, bt347.1] : List (List Int)))).bind fun bt354 => (some (bt354.1, bt354.2))) else (some (([] : List Int), bt347.2)))) else (some (([] : List Int), bt340.2))))
def name_lay.f (k : Nat) (a0_0 : ByteArray) (a0_1 : Int) (l0_2 : List Int) : Option (List Int × Int) := (der_PutOid.f k a0_0).bind fun bt333 => (if bt333.2 = 0 then (if a0_1 < 1 then (name_lay.j0 k bt333.1 true a0_0 a0_1 l0_2) else (name_lay.j0 k bt333.1 (decide (a0_1 > 268435455)) a0_0 a0_1 l0_2)) else (some (([] : List Int), bt333.2)))
set_option maxHeartbeats 8000000 in
set_option maxRecDepth 100000 in
theorem name_lay.calls (k : Nat) (a0_0 : ByteArray) (a0_1 : Int) (P0_2_ : Nat → Prop) (A0_2 : Option Addr) (c0_2 : Nat) (l0_2 : List Int) (r1 : List Int) (r2 : Int) (w : World) (hs0_2 : Kd.V (Kd.int .u8) 5 w w.heap.size (fun k_ => P0_2_ k_) (.slice A0_2 l0_2.length c0_2) l0_2) (h : name_lay.f k a0_0 a0_1 l0_2 = some (r1, r2)) :
    Calls Tryz.prog 149 #[.agg #[.string a0_0, .int .i64 a0_1, .slice A0_2 l0_2.length c0_2]] w fun e w' => ∃ v0_ ev_ : Value, e = .returned (.tuple #[v0_, ev_]) ∧ EV ev_ r2 ∧ Kd.R (Kd.int .u8) 5 w' w.heap.size (fun k_ => (w.heap.size ≤ k_)) v0_ r1 ∧ Below w.heap.size w w' := by
  have hu64 := Tryz.underlying64
  have HO0_2 := Aside0.mk (show Kd.V (Kd.int .u8) 5 w w.heap.size (fun k_ => (P0_2_ k_ ∨ w.heap.size ≤ k_)) (.slice A0_2 l0_2.length c0_2) l0_2 from Kd.V_mono hs0_2 (fun k_ hk => .inl hk))
  have HB := Aside0.mk (Below.refl w.heap.size w)
  have H : ((der_PutOid.f k a0_0).bind fun bt333 => (if bt333.2 = 0 then (if a0_1 < 1 then (name_lay.j0 k bt333.1 true a0_0 a0_1 l0_2) else (name_lay.j0 k bt333.1 (decide (a0_1 > 268435455)) a0_0 a0_1 l0_2)) else (some (([] : List Int), bt333.2)))) = some (r1, r2) := h
  clear h
  replace H := Option.bind_eq_some_iff.mp H
  obtain ⟨⟨t333, t334⟩, A20, H⟩ := H
  replace H : (if t334 = 0 then (if a0_1 < 1 then (name_lay.j0 k t333 true a0_0 a0_1 l0_2) else (name_lay.j0 k t333 (decide (a0_1 > 268435455)) a0_0 a0_1 l0_2)) else (some (([] : List Int), t334))) = some (r1, r2) := H
  have A2 := Aside0.mk A20
  clear A20
  by_cases c3 : t334 = 0
  rotate_left
  · rw [if_neg c3] at H
    have c3b0 : (t334 == 0) = false := beq_eq_false_iff_ne.mpr c3
    have c3b1 : (t334 != 0) = true := bne_iff_ne.mpr c3
    simp only [Option.some.injEq, Prod.mk.injEq] at H
    obtain ⟨rfl, rfl⟩ := H
    go_enter Tryz.func149, Tryz.ntmps149
    go_wp2_with (first | ((with_reducible refine gate_dst (N := 1) rfl ?_); refine box_event ?hg (N := 1) ?hd (cs := #[.string a0_0, .int .i64 a0_1, .slice A0_2 l0_2.length c0_2]) (t := 64) ?hr ?_; (case hd => rfl); (case hg => rfl); (case hr => first | (go_simp; done) | (go_simp; rfl)); intro gb332 hg w48 hbox hb; have n0_ := Aside0.mk (Kd.V_below (Kd.V_elderB (Kd.V_u HO0_2.out) gb332 (Nat.le_of_eq hg.symm)) hb); have n1_ := Aside0.mk (below_step (bU HB.out) hb); have n2_ := Aside0.mk (hbox); have n3_ := Aside0.mk ((by rw [hg]; exact (below_size (bU HB.out)) : w.heap.size ≤ gb332)); have n4_ := Aside0.mk ((by rw [hg]; exact (below_size (bU HB.out)) : w.heap.size ≤ gb332)); clear HO0_2; clear HB; have HO0_2 := n0_; have HB := n1_; have BK332 := n2_; have GW332 := n3_; have GE332 := n4_; clear n0_ n1_ n2_ n3_ n4_; clear hb hbox hg; have hcz49_0 : w48.cell? ⟨gb332, 0, none⟩ = some (.string a0_0) := (blk_cell BK332.out 0).trans rfl; have hcz49_1 : w48.cell? ⟨gb332, 1, none⟩ = some (.int .i64 a0_1) := (blk_cell BK332.out 1).trans rfl; have hcz49_2 : w48.cell? ⟨gb332, 2, none⟩ = some (.slice A0_2 l0_2.length c0_2) := (blk_cell BK332.out 2).trans rfl; have hfz49_0 := blk_frozen BK332.out 0; have hfz49_1 := blk_frozen BK332.out 1; have hfz49_2 := blk_frozen BK332.out 2) | ((with_reducible refine gate_callee (f := 199) rfl ?_); refine goesL_ (some 11) rfl rfl Tryz.func199 (by kernel_rfl) rfl #[.string a0_0] rfl (by (try simp only [List.map_toArray, List.map_cons, List.map_nil]); first | done | rfl | (simp only [List.length_drop, List.length_take]; rfl)) ?_; (with_reducible refine (der_PutOid.calls k a0_0 t333 t334 _ A2.out).mono ?_); rintro e w50 ⟨v335, rfl, ho0, hb⟩; refine ⟨_, rfl, ?_⟩; have n0_ := Aside0.mk (Kd.V_elder' (Kd.V_u HO0_2.out) (Kd.R_base ho0) hb); have n1_ := Aside0.mk (Kd.R_lower (Kd.R_newM (M := fun k_ => (w.heap.size ≤ k_)) ho0 (below_size (by repeat (first | (with_reducible first | exact HB.out | apply below_alloc | apply pw_below_drewN | apply below_drew1 | refine below_set ?_ GE332.out) | exact HB.out))) (fun k_ h_ => h_)) (below_size (by repeat (first | (with_reducible first | exact HB.out | apply below_alloc | apply pw_below_drewN | apply below_drew1 | refine below_set ?_ GE332.out) | exact HB.out)))); have n2_ := Aside0.mk (blk_below (g := gb332) (o := .cells #[.string a0_0, .int .i64 a0_1, .slice A0_2 l0_2.length c0_2] 64 (0, 0)) (by (with_reducible repeat (first | refine blk_drewN ?_ _ | refine blk_drew ?_ | refine blk_alloc ?_ _)); exact BK332.out) hb); have n3_ := Aside0.mk (below_step (by repeat (first | (with_reducible first | exact HB.out | apply below_alloc | apply pw_below_drewN | apply below_drew1 | refine below_set ?_ GE332.out) | exact HB.out)) hb); clear HO0_2; clear BK332; clear HB; have HO0_2 := n0_; have HO336 := n1_; have BK332 := n2_; have HB := n3_; clear n0_ n1_ n2_ n3_; (try clear hb); (try clear hb2); (try clear hk); (try clear hi); (try clear ho0)))
    go_ret2
    exact ⟨_, _, by first | rfl | (simp [errW_none, errW_some] <;> rfl) | (simp [*, errW_none, errW_some] <;> rfl), (by first | exact EV.nil | exact EV.f30 | exact EV.f5 | exact EV.f4 | exact EV.f1 | exact EV.low (by assumption) | exact HEV_.out | exact EV.part HEV_.out), by first | exact Kd.R_nil _ _ _ _ _ | exact Kd.N_nil _ _ _ _ _ | exact Kd.V_nil _ _ _ _ _ | exact Kd.Q_nil _ _ _ _ _ | exact Kd.S_nil _ _ _ _ _, by repeat (first | (with_reducible first | exact HB.out | apply below_alloc | apply pw_below_drewN | apply below_drew1 | refine below_set ?_ GE332.out) | exact HB.out)⟩
  rw [if_pos c3] at H
  have c3b0 : (t334 == 0) = true := beq_iff_eq.mpr c3
  have c3b1 : (t334 != 0) = false := bne_eq_false_iff_eq.mpr c3
  clear c3
  have HC4 := Aside0.mk H
  clear H
  go_enter Tryz.func149, Tryz.ntmps149
  go_upto_region 4 with (first | ((with_reducible refine gate_dst (N := 1) rfl ?_); refine box_event ?hg (N := 1) ?hd (cs := #[.string a0_0, .int .i64 a0_1, .slice A0_2 l0_2.length c0_2]) (t := 64) ?hr ?_; (case hd => rfl); (case hg => rfl); (case hr => first | (go_simp; done) | (go_simp; rfl)); intro gb332 hg w5 hbox hb; have n0_ := Aside0.mk (Kd.V_below (Kd.V_elderB (Kd.V_u HO0_2.out) gb332 (Nat.le_of_eq hg.symm)) hb); have n1_ := Aside0.mk (below_step (bU HB.out) hb); have n2_ := Aside0.mk (hbox); have n3_ := Aside0.mk ((by rw [hg]; exact (below_size (bU HB.out)) : w.heap.size ≤ gb332)); have n4_ := Aside0.mk ((by rw [hg]; exact (below_size (bU HB.out)) : w.heap.size ≤ gb332)); clear HO0_2; clear HB; have HO0_2 := n0_; have HB := n1_; have BK332 := n2_; have GW332 := n3_; have GE332 := n4_; clear n0_ n1_ n2_ n3_ n4_; clear hb hbox hg; have hcz6_0 : w5.cell? ⟨gb332, 0, none⟩ = some (.string a0_0) := (blk_cell BK332.out 0).trans rfl; have hcz6_1 : w5.cell? ⟨gb332, 1, none⟩ = some (.int .i64 a0_1) := (blk_cell BK332.out 1).trans rfl; have hcz6_2 : w5.cell? ⟨gb332, 2, none⟩ = some (.slice A0_2 l0_2.length c0_2) := (blk_cell BK332.out 2).trans rfl; have hfz6_0 := blk_frozen BK332.out 0; have hfz6_1 := blk_frozen BK332.out 1; have hfz6_2 := blk_frozen BK332.out 2) | ((with_reducible refine gate_callee (f := 199) rfl ?_); refine goesL_ (some 11) rfl rfl Tryz.func199 (by kernel_rfl) rfl #[.string a0_0] rfl (by (try simp only [List.map_toArray, List.map_cons, List.map_nil]); first | done | rfl | (simp only [List.length_drop, List.length_take]; rfl)) ?_; (with_reducible refine (der_PutOid.calls k a0_0 t333 t334 _ A2.out).mono ?_); rintro e w7 ⟨v335, rfl, ho0, hb⟩; refine ⟨_, rfl, ?_⟩; have n0_ := Aside0.mk (Kd.V_elder' (Kd.V_u HO0_2.out) (Kd.R_base ho0) hb); have n1_ := Aside0.mk (Kd.R_lower (Kd.R_newM (M := fun k_ => (w.heap.size ≤ k_)) ho0 (below_size (by repeat (first | (with_reducible first | exact HB.out | apply below_alloc | apply pw_below_drewN | apply below_drew1 | refine below_set ?_ GE332.out) | exact HB.out))) (fun k_ h_ => h_)) (below_size (by repeat (first | (with_reducible first | exact HB.out | apply below_alloc | apply pw_below_drewN | apply below_drew1 | refine below_set ?_ GE332.out) | exact HB.out)))); have n2_ := Aside0.mk (blk_below (g := gb332) (o := .cells #[.string a0_0, .int .i64 a0_1, .slice A0_2 l0_2.length c0_2] 64 (0, 0)) (by (with_reducible repeat (first | refine blk_drewN ?_ _ | refine blk_drew ?_ | refine blk_alloc ?_ _)); exact BK332.out) hb); have n3_ := Aside0.mk (below_step (by repeat (first | (with_reducible first | exact HB.out | apply below_alloc | apply pw_below_drewN | apply below_drew1 | refine below_set ?_ GE332.out) | exact HB.out)) hb); clear HO0_2; clear BK332; clear HB; have HO0_2 := n0_; have HO336 := n1_; have BK332 := n2_; have HB := n3_; clear n0_ n1_ n2_ n3_; (try clear hb); (try clear hb2); (try clear hk); (try clear hi); (try clear ho0)))
  (try simp only [Act.put, List.setIfInBounds_toArray, List.set_cons_zero, List.set_cons_succ])
  go_cut [26] (fun v26 wc => ∃ (kq : Nat) (x26_3 : Bool), v26 = .bool x26_3 ∧ Aside0 (name_lay.j0 kq t333 x26_3 a0_0 a0_1 l0_2 = some (r1, r2)) ∧ Aside0 (kq ≤ k) ∧ Aside0 (Kd.R (Kd.int .u8) 5 wc w.heap.size (fun k_ => (w.heap.size ≤ k_)) v335 t333) ∧ Aside0 (Kd.V (Kd.int .u8) 5 wc w.heap.size (fun k_ => (P0_2_ k_ ∨ w.heap.size ≤ k_) ∧ some k_ ≠ (v335 : Value).ownBlock ∧ k_ ≠ gb332) (.slice A0_2 l0_2.length c0_2) l0_2) ∧ Aside0 (wc.heap[gb332]? = some (.cells #[.string a0_0, .int .i64 a0_1, (.slice A0_2 l0_2.length c0_2)] 64 (0, 0))) ∧ Aside0 (Below w.heap.size w wc))
  case first =>
    have H := HC4.out
    clear HC4
    by_cases c8 : a0_1 < 1
    rotate_left
    · rw [if_neg c8] at H
      have c8b0 : decide (a0_1 < 1) = false := decide_eq_false c8
      clear c8
      (first | rw [c8b0] | (simp only [i64_w, i32_w]; rw [c8b0]) | skip)
      have H' := Aside0.mk H
      clear H
      have hcz10_0 : w7.cell? ⟨gb332, 0, none⟩ = some (.string a0_0) := (blk_cell BK332.out 0).trans rfl
      have hcz10_1 : w7.cell? ⟨gb332, 1, none⟩ = some (.int .i64 a0_1) := (blk_cell BK332.out 1).trans rfl
      have hcz10_2 : w7.cell? ⟨gb332, 2, none⟩ = some (.slice A0_2 l0_2.length c0_2) := (blk_cell BK332.out 2).trans rfl
      have hfz10_0 := blk_frozen BK332.out 0
      have hfz10_1 := blk_frozen BK332.out 1
      have hfz10_2 := blk_frozen BK332.out 2
      go_wp2
      go_meet
      case rel => exact ⟨_, (decide (a0_1 > 268435455)), (by first | rfl | (simp; done) | (simp [*]; done)), H', ⟨by first | omega | exact Nat.le_refl _⟩, ⟨Kd.R_u (Kd.R_mono HO336.out (fun _ hk => hk.1))⟩, ⟨Kd.V_u (Kd.V_mono HO0_2.out (fun _ hk => ⟨hk.1.1, ⟨hk.2, hk.1.2⟩⟩))⟩, ⟨by (with_reducible repeat (first | refine blk_drewN ?_ _ | refine blk_drew ?_ | refine blk_alloc ?_ _)); exact BK332.out⟩, ⟨by repeat (first | (with_reducible first | exact HB.out | apply below_alloc | apply pw_below_drewN | apply below_drew1 | refine below_set ?_ GE332.out) | exact HB.out)⟩⟩
    rw [if_pos c8] at H
    have c8b0 : decide (a0_1 < 1) = true := decide_eq_true c8
    clear c8
    (first | rw [c8b0] | (simp only [i64_w, i32_w]; rw [c8b0]) | skip)
    have H' := Aside0.mk H
    clear H
    have hcz9_0 : w7.cell? ⟨gb332, 0, none⟩ = some (.string a0_0) := (blk_cell BK332.out 0).trans rfl
    have hcz9_1 : w7.cell? ⟨gb332, 1, none⟩ = some (.int .i64 a0_1) := (blk_cell BK332.out 1).trans rfl
    have hcz9_2 : w7.cell? ⟨gb332, 2, none⟩ = some (.slice A0_2 l0_2.length c0_2) := (blk_cell BK332.out 2).trans rfl
    have hfz9_0 := blk_frozen BK332.out 0
    have hfz9_1 := blk_frozen BK332.out 1
    have hfz9_2 := blk_frozen BK332.out 2
    go_wp2
    go_meet
    case rel => exact ⟨_, (true), (by first | rfl | (simp; done) | (simp [*]; done)), H', ⟨by first | omega | exact Nat.le_refl _⟩, ⟨Kd.R_u (Kd.R_mono HO336.out (fun _ hk => hk.1))⟩, ⟨Kd.V_u (Kd.V_mono HO0_2.out (fun _ hk => ⟨hk.1.1, ⟨hk.2, hk.1.2⟩⟩))⟩, ⟨by (with_reducible repeat (first | refine blk_drewN ?_ _ | refine blk_drew ?_ | refine blk_alloc ?_ _)); exact BK332.out⟩, ⟨by repeat (first | (with_reducible first | exact HB.out | apply below_alloc | apply pw_below_drewN | apply below_drew1 | refine below_set ?_ GE332.out) | exact HB.out)⟩⟩
  clear HC4
  try clear c1
  try clear p2
  try clear c3
  try clear c3b0
  try clear c3b1
  try clear c8
  try clear c8b0
  try clear hcz10_0
  try clear hcz10_1
  try clear hcz10_2
  try clear hcz6_0
  try clear hcz6_1
  try clear hcz6_2
  try clear hcz9_0
  try clear hcz9_1
  try clear hcz9_2
  try clear hfz10_0
  try clear hfz10_1
  try clear hfz10_2
  try clear hfz6_0
  try clear hfz6_1
  try clear hfz6_2
  try clear hfz9_0
  try clear hfz9_1
  try clear hfz9_2
  obtain ⟨kq, x26_3, rfl, HA, HJ3, HO_4, HO_333002, BK332, HB⟩ := hcut
  cases kq with
  | zero => exact absurd HA.out (by simp [name_lay.j0])
  | succ kj3 =>
    have H := HA.out
    clear HA
    simp only [name_lay.j0] at H
    by_cases c11 : x26_3 = true
    · subst c11
      have H1 : (some (([] : List Int), 1)) = some (r1, r2) := by rw [if_pos rfl] at H; exact H
      clear H
      have H := H1
      clear H1
      simp only [Option.some.injEq, Prod.mk.injEq] at H
      obtain ⟨rfl, rfl⟩ := H
      go_wp2
      go_ret2
      exact ⟨_, _, by first | rfl | (simp [errW_none, errW_some] <;> rfl) | (simp [*, errW_none, errW_some] <;> rfl), (by first | exact EV.nil | exact EV.f30 | exact EV.f5 | exact EV.f4 | exact EV.f1 | exact EV.low (by assumption) | exact HEV_.out | exact EV.part HEV_.out), by first | exact Kd.R_nil _ _ _ _ _ | exact Kd.N_nil _ _ _ _ _ | exact Kd.V_nil _ _ _ _ _ | exact Kd.Q_nil _ _ _ _ _ | exact Kd.S_nil _ _ _ _ _, by repeat (first | (with_reducible first | exact HB.out | apply below_alloc | apply pw_below_drewN | apply below_drew1 | refine below_set ?_ GE332.out) | exact HB.out)⟩
    replace c11 := Bool.eq_false_iff.mpr c11
    subst c11
    have H1 : ((der_Put.f kj3 0 6 false (([t333] : List (List Int)))).bind fun bt340 => (if bt340.2 = 0 then ((der_Put.f kj3 0 a0_1 false (([l0_2] : List (List Int)))).bind fun bt347 => (if bt347.2 = 0 then ((name_about.f kj3 16 (([bt340.1, bt347.1] : List (List Int)))).bind fun bt354 => (some (bt354.1, bt354.2))) else (some (([] : List Int), bt347.2)))) else (some (([] : List Int), bt340.2)))) = some (r1, r2) := by rw [if_neg (show ¬ (false = true) by decide)] at H; exact H
    clear H
    have H := H1
    clear H1
    obtain ⟨y337, hy337⟩ : ∃ y_ : List (List Int), y_ = (([t333] : List (List Int))) := ⟨_, rfl⟩
    replace H : ((der_Put.f kj3 0 6 false y337).bind fun bt340 => (if bt340.2 = 0 then ((der_Put.f kj3 0 a0_1 false (([l0_2] : List (List Int)))).bind fun bt347 => (if bt347.2 = 0 then ((name_about.f kj3 16 (([bt340.1, bt347.1] : List (List Int)))).bind fun bt354 => (some (bt354.1, bt354.2))) else (some (([] : List Int), bt347.2)))) else (some (([] : List Int), bt340.2)))) = some (r1, r2) := by first | (rw [hy337]; with_reducible exact H) | (have H2_ := (Option.bind_some _ _).symm.trans H; rw [hy337]; with_reducible exact H2_) | (have H2_ := (Option.bind_some _ _).symm.trans H; with_reducible exact H2_) | with_reducible exact H | (rw [hy337]; exact H) | exact H
    have Ny337 := Aside0.mk hy337
    clear hy337
    replace H := Option.bind_eq_some_iff.mp H
    obtain ⟨⟨t340, t341⟩, A120, H⟩ := H
    replace H : (if t341 = 0 then ((der_Put.f kj3 0 a0_1 false (([l0_2] : List (List Int)))).bind fun bt347 => (if bt347.2 = 0 then ((name_about.f kj3 16 (([t340, bt347.1] : List (List Int)))).bind fun bt354 => (some (bt354.1, bt354.2))) else (some (([] : List Int), bt347.2)))) else (some (([] : List Int), t341))) = some (r1, r2) := H
    have A12 := Aside0.mk A120
    clear A120
    by_cases c13 : t341 = 0
    rotate_left
    · rw [if_neg c13] at H
      have c13b0 : (t341 == 0) = false := beq_eq_false_iff_ne.mpr c13
      have c13b1 : (t341 != 0) = true := bne_iff_ne.mpr c13
      simp only [Option.some.injEq, Prod.mk.injEq] at H
      obtain ⟨rfl, rfl⟩ := H
      obtain ⟨Ao43, co43, eo43⟩ := Kd.R_slice HO_4.out
      subst eo43
      go_wp2_with (first | ((with_reducible refine gate_dst (N := 30) rfl ?_); refine Kd.N_lit (Kd.slice 5 (Kd.int .u8)) _ 22 ?hg (N' := 30) ?hd (xs := ([t333] : List (List Int))) (inner := [.slice Ao43 t333.length co43]) (ok := (fun k_ => (P0_2_ k_ ∨ w.heap.size ≤ k_) ∧ k_ ≠ gb332)) (okp := (fun k_ => (P0_2_ k_ ∨ w.heap.size ≤ k_) ∧ k_ ≠ gb332)) ?hr ?hp (fun _ hk => hk) ((show ∀ k_, wc.heap.size ≤ k_ → (fun k_ => (P0_2_ k_ ∨ w.heap.size ≤ k_) ∧ k_ ≠ gb332) k_ from fun k_ hk => ⟨(.inr (Nat.le_trans (below_size (by repeat (first | (with_reducible first | exact HB.out | apply below_alloc | apply pw_below_drewN | apply below_drew1 | refine below_set ?_ GE332.out) | exact HB.out))) hk)), Kd.freshB (g := gb332) (o := .cells #[.string a0_0, .int .i64 a0_1, .slice A0_2 l0_2.length c0_2] 64 (0, 0)) (by (with_reducible repeat (first | refine blk_drewN ?_ _ | refine blk_drew ?_ | refine blk_alloc ?_ _)); exact BK332.out) k_ hk⟩) _ (Nat.le_refl _)) (Below.refl _ _) (Nat.le_refl _) (by simp) ?_; (case hd => rfl); (case hg => rfl); (case hr => first | (go_simp; done) | (go_simp; rfl)); (case hp => exact (Reps.one (show Kd.FK (Kd.slice 5 (Kd.int .u8)) _ _ t333 [.slice Ao43 t333.length co43] from (Kd.FK_slice_mk (Kd.R_reads' (Kd.R_mono (ok' := (fun k_ => (P0_2_ k_ ∨ w.heap.size ≤ k_) ∧ k_ ≠ gb332)) (Kd.R_types (HO_4.out) BK332.out (by decide)) (fun k_ hk => ⟨(.inr (hk.1)), hk.2⟩))).2.1 (Kd.R_F (Kd.R_mono (ok' := (fun k_ => (P0_2_ k_ ∨ w.heap.size ≤ k_) ∧ k_ ≠ gb332)) (Kd.R_types (HO_4.out) BK332.out (by decide)) (fun k_ hk => ⟨(.inr (hk.1)), hk.2⟩))))) (Reps.none _ _))); intro v338 w44 ho45 hb hg_ hnew_; clear hg_ hnew_; (first | rw [← Ny337.out] at ho45 | (simp only [Int.reduceToNat] at ho45; rw [← Ny337.out] at ho45)); have n0_ := Aside0.mk (Kd.V_elder' (Kd.V_u HO_333002.out) (Kd.N_base ho45) hb); have n1_ := Aside0.mk (Kd.N_lower ho45 (below_size (by repeat (first | (with_reducible first | exact HB.out | apply below_alloc | apply pw_below_drewN | apply below_drew1 | refine below_set ?_ GE332.out) | exact HB.out)))); have n2_ := Aside0.mk (blk_below (g := gb332) (o := .cells #[.string a0_0, .int .i64 a0_1, .slice A0_2 l0_2.length c0_2] 64 (0, 0)) (by (with_reducible repeat (first | refine blk_drewN ?_ _ | refine blk_drew ?_ | refine blk_alloc ?_ _)); exact BK332.out) hb); have n3_ := Aside0.mk (below_step (by repeat (first | (with_reducible first | exact HB.out | apply below_alloc | apply pw_below_drewN | apply below_drew1 | refine below_set ?_ GE332.out) | exact HB.out)) hb); clear HO_333002; clear BK332; clear HB; clear HO_4; have HO_333002 := n0_; have HO339 := n1_; have BK332 := n2_; have HB := n3_; clear n0_ n1_ n2_ n3_; clear hb ho45; obtain ⟨Ao46, co46, eo46⟩ := Kd.N_slice HO339.out; subst eo46) | ((with_reducible refine gate_callee (f := 168) rfl ?_); refine goesL_ (some 31) rfl rfl Tryz.func168 (by kernel_rfl) rfl #[.int .i64 0, .int .i64 6, .bool false, .slice Ao46 y337.length co46] rfl (by (try simp only [List.map_toArray, List.map_cons, List.map_nil]); first | done | rfl | (simp only [List.length_drop, List.length_take]; rfl)) ?_; (with_reducible refine (der_Put.calls kj3 0 6 false _ _ y337 t340 t341 _ ?side1 ?side2 A12.out).mono ?_); (case side1 => exact Kd.C_u (Kd.N_reads' HO339.out).2.2); (case side2 => exact (Kd.N_reads' HO339.out).2.1); rintro e w47 ⟨v342, rfl, ho0, hb⟩; refine ⟨_, rfl, ?_⟩; have n0_ := Aside0.mk (Kd.V_elder' (Kd.V_u HO_333002.out) (Kd.R_base ho0) hb); have n1_ := Aside0.mk (Kd.N_elder' (Kd.N_u HO339.out) (Kd.R_base ho0) hb); have n2_ := Aside0.mk (Kd.R_lower (Kd.R_newM (M := fun k_ => (w.heap.size ≤ k_)) ho0 (below_size (by repeat (first | (with_reducible first | exact HB.out | apply below_alloc | apply pw_below_drewN | apply below_drew1 | refine below_set ?_ GE332.out) | exact HB.out))) (fun k_ h_ => h_)) (below_size (by repeat (first | (with_reducible first | exact HB.out | apply below_alloc | apply pw_below_drewN | apply below_drew1 | refine below_set ?_ GE332.out) | exact HB.out)))); have n3_ := Aside0.mk (blk_below (g := gb332) (o := .cells #[.string a0_0, .int .i64 a0_1, .slice A0_2 l0_2.length c0_2] 64 (0, 0)) (by (with_reducible repeat (first | refine blk_drewN ?_ _ | refine blk_drew ?_ | refine blk_alloc ?_ _)); exact BK332.out) hb); have n4_ := Aside0.mk (below_step (by repeat (first | (with_reducible first | exact HB.out | apply below_alloc | apply pw_below_drewN | apply below_drew1 | refine below_set ?_ GE332.out) | exact HB.out)) hb); clear HO_333002; clear HO339; clear BK332; clear HB; have HO_333002 := n0_; have HO339 := n1_; have HO343 := n2_; have BK332 := n3_; have HB := n4_; clear n0_ n1_ n2_ n3_ n4_; (try clear hb); (try clear hb2); (try clear hk); (try clear hi); (try clear ho0)))
      go_ret2
      exact ⟨_, _, by first | rfl | (simp [errW_none, errW_some] <;> rfl) | (simp [*, errW_none, errW_some] <;> rfl), (by first | exact EV.nil | exact EV.f30 | exact EV.f5 | exact EV.f4 | exact EV.f1 | exact EV.low (by assumption) | exact HEV_.out | exact EV.part HEV_.out), by first | exact Kd.R_nil _ _ _ _ _ | exact Kd.N_nil _ _ _ _ _ | exact Kd.V_nil _ _ _ _ _ | exact Kd.Q_nil _ _ _ _ _ | exact Kd.S_nil _ _ _ _ _, by repeat (first | (with_reducible first | exact HB.out | apply below_alloc | apply pw_below_drewN | apply below_drew1 | refine below_set ?_ GE332.out) | exact HB.out)⟩
    rw [if_pos c13] at H
    have c13b0 : (t341 == 0) = true := beq_iff_eq.mpr c13
    have c13b1 : (t341 != 0) = false := bne_eq_false_iff_eq.mpr c13
    clear c13
    obtain ⟨y344, hy344⟩ : ∃ y_ : List (List Int), y_ = (([l0_2] : List (List Int))) := ⟨_, rfl⟩
    replace H : ((der_Put.f kj3 0 a0_1 false y344).bind fun bt347 => (if bt347.2 = 0 then ((name_about.f kj3 16 (([t340, bt347.1] : List (List Int)))).bind fun bt354 => (some (bt354.1, bt354.2))) else (some (([] : List Int), bt347.2)))) = some (r1, r2) := by first | (rw [hy344]; with_reducible exact H) | (have H2_ := (Option.bind_some _ _).symm.trans H; rw [hy344]; with_reducible exact H2_) | (have H2_ := (Option.bind_some _ _).symm.trans H; with_reducible exact H2_) | with_reducible exact H | (rw [hy344]; exact H) | exact H
    have Ny344 := Aside0.mk hy344
    clear hy344
    replace H := Option.bind_eq_some_iff.mp H
    obtain ⟨⟨t347, t348⟩, A140, H⟩ := H
    replace H : (if t348 = 0 then ((name_about.f kj3 16 (([t340, t347] : List (List Int)))).bind fun bt354 => (some (bt354.1, bt354.2))) else (some (([] : List Int), t348))) = some (r1, r2) := H
    have A14 := Aside0.mk A140
    clear A140
    by_cases c15 : t348 = 0
    rotate_left
    · rw [if_neg c15] at H
      have c15b0 : (t348 == 0) = false := beq_eq_false_iff_ne.mpr c15
      have c15b1 : (t348 != 0) = true := bne_iff_ne.mpr c15
      simp only [Option.some.injEq, Prod.mk.injEq] at H
      obtain ⟨rfl, rfl⟩ := H
      obtain ⟨Ao33, co33, eo33⟩ := Kd.R_slice HO_4.out
      subst eo33
      go_wp2_with (first | ((with_reducible refine gate_dst (N := 30) rfl ?_); refine Kd.N_lit (Kd.slice 5 (Kd.int .u8)) _ 22 ?hg (N' := 30) ?hd (xs := ([t333] : List (List Int))) (inner := [.slice Ao33 t333.length co33]) (ok := (fun k_ => (P0_2_ k_ ∨ w.heap.size ≤ k_) ∧ k_ ≠ gb332)) (okp := (fun k_ => (P0_2_ k_ ∨ w.heap.size ≤ k_) ∧ k_ ≠ gb332)) ?hr ?hp (fun _ hk => hk) ((show ∀ k_, wc.heap.size ≤ k_ → (fun k_ => (P0_2_ k_ ∨ w.heap.size ≤ k_) ∧ k_ ≠ gb332) k_ from fun k_ hk => ⟨(.inr (Nat.le_trans (below_size (by repeat (first | (with_reducible first | exact HB.out | apply below_alloc | apply pw_below_drewN | apply below_drew1 | refine below_set ?_ GE332.out) | exact HB.out))) hk)), Kd.freshB (g := gb332) (o := .cells #[.string a0_0, .int .i64 a0_1, .slice A0_2 l0_2.length c0_2] 64 (0, 0)) (by (with_reducible repeat (first | refine blk_drewN ?_ _ | refine blk_drew ?_ | refine blk_alloc ?_ _)); exact BK332.out) k_ hk⟩) _ (Nat.le_refl _)) (Below.refl _ _) (Nat.le_refl _) (by simp) ?_; (case hd => rfl); (case hg => rfl); (case hr => first | (go_simp; done) | (go_simp; rfl)); (case hp => exact (Reps.one (show Kd.FK (Kd.slice 5 (Kd.int .u8)) _ _ t333 [.slice Ao33 t333.length co33] from (Kd.FK_slice_mk (Kd.R_reads' (Kd.R_mono (ok' := (fun k_ => (P0_2_ k_ ∨ w.heap.size ≤ k_) ∧ k_ ≠ gb332)) (Kd.R_types (HO_4.out) BK332.out (by decide)) (fun k_ hk => ⟨(.inr (hk.1)), hk.2⟩))).2.1 (Kd.R_F (Kd.R_mono (ok' := (fun k_ => (P0_2_ k_ ∨ w.heap.size ≤ k_) ∧ k_ ≠ gb332)) (Kd.R_types (HO_4.out) BK332.out (by decide)) (fun k_ hk => ⟨(.inr (hk.1)), hk.2⟩))))) (Reps.none _ _))); intro v338 w34 ho35 hb hg_ hnew_; clear hg_ hnew_; (first | rw [← Ny337.out] at ho35 | (simp only [Int.reduceToNat] at ho35; rw [← Ny337.out] at ho35)); have n0_ := Aside0.mk (Kd.V_elder' (Kd.V_u HO_333002.out) (Kd.N_base ho35) hb); have n1_ := Aside0.mk (Kd.N_lower ho35 (below_size (by repeat (first | (with_reducible first | exact HB.out | apply below_alloc | apply pw_below_drewN | apply below_drew1 | refine below_set ?_ GE332.out) | exact HB.out)))); have n2_ := Aside0.mk (blk_below (g := gb332) (o := .cells #[.string a0_0, .int .i64 a0_1, .slice A0_2 l0_2.length c0_2] 64 (0, 0)) (by (with_reducible repeat (first | refine blk_drewN ?_ _ | refine blk_drew ?_ | refine blk_alloc ?_ _)); exact BK332.out) hb); have n3_ := Aside0.mk (below_step (by repeat (first | (with_reducible first | exact HB.out | apply below_alloc | apply pw_below_drewN | apply below_drew1 | refine below_set ?_ GE332.out) | exact HB.out)) hb); clear HO_333002; clear BK332; clear HB; clear HO_4; have HO_333002 := n0_; have HO339 := n1_; have BK332 := n2_; have HB := n3_; clear n0_ n1_ n2_ n3_; clear hb ho35; obtain ⟨Ao36, co36, eo36⟩ := Kd.N_slice HO339.out; subst eo36) | ((with_reducible refine gate_callee (f := 168) rfl ?_); refine goesL_ (some 31) rfl rfl Tryz.func168 (by kernel_rfl) rfl #[.int .i64 0, .int .i64 6, .bool false, .slice Ao36 y337.length co36] rfl (by (try simp only [List.map_toArray, List.map_cons, List.map_nil]); first | done | rfl | (simp only [List.length_drop, List.length_take]; rfl)) ?_; (with_reducible refine (der_Put.calls kj3 0 6 false _ _ y337 t340 t341 _ ?side1 ?side2 A12.out).mono ?_); (case side1 => exact Kd.C_u (Kd.N_reads' HO339.out).2.2); (case side2 => exact (Kd.N_reads' HO339.out).2.1); rintro e w37 ⟨v342, rfl, ho0, hb⟩; refine ⟨_, rfl, ?_⟩; have n0_ := Aside0.mk (Kd.V_elder' (Kd.V_u HO_333002.out) (Kd.R_base ho0) hb); have n1_ := Aside0.mk (Kd.N_elder' (Kd.N_u HO339.out) (Kd.R_base ho0) hb); have n2_ := Aside0.mk (Kd.R_lower (Kd.R_newM (M := fun k_ => (w.heap.size ≤ k_)) ho0 (below_size (by repeat (first | (with_reducible first | exact HB.out | apply below_alloc | apply pw_below_drewN | apply below_drew1 | refine below_set ?_ GE332.out) | exact HB.out))) (fun k_ h_ => h_)) (below_size (by repeat (first | (with_reducible first | exact HB.out | apply below_alloc | apply pw_below_drewN | apply below_drew1 | refine below_set ?_ GE332.out) | exact HB.out)))); have n3_ := Aside0.mk (blk_below (g := gb332) (o := .cells #[.string a0_0, .int .i64 a0_1, .slice A0_2 l0_2.length c0_2] 64 (0, 0)) (by (with_reducible repeat (first | refine blk_drewN ?_ _ | refine blk_drew ?_ | refine blk_alloc ?_ _)); exact BK332.out) hb); have n4_ := Aside0.mk (below_step (by repeat (first | (with_reducible first | exact HB.out | apply below_alloc | apply pw_below_drewN | apply below_drew1 | refine below_set ?_ GE332.out) | exact HB.out)) hb); clear HO_333002; clear HO339; clear BK332; clear HB; have HO_333002 := n0_; have HO339 := n1_; have HO343 := n2_; have BK332 := n3_; have HB := n4_; clear n0_ n1_ n2_ n3_ n4_; (try clear hb); (try clear hb2); (try clear hk); (try clear hi); (try clear ho0); have hcz38_0 : w37.cell? ⟨gb332, 0, none⟩ = some (.string a0_0) := (blk_cell BK332.out 0).trans rfl; have hcz38_1 : w37.cell? ⟨gb332, 1, none⟩ = some (.int .i64 a0_1) := (blk_cell BK332.out 1).trans rfl; have hcz38_2 : w37.cell? ⟨gb332, 2, none⟩ = some (.slice A0_2 l0_2.length c0_2) := (blk_cell BK332.out 2).trans rfl; have hfz38_0 := blk_frozen BK332.out 0; have hfz38_1 := blk_frozen BK332.out 1; have hfz38_2 := blk_frozen BK332.out 2) | ((with_reducible refine gate_dst (N := 44) rfl ?_); refine Kd.N_lit (Kd.slice 5 (Kd.int .u8)) _ 22 ?hg (N' := 44) ?hd (xs := ([l0_2] : List (List Int))) (inner := [.slice A0_2 l0_2.length c0_2]) (ok := (fun k_ => (P0_2_ k_ ∨ w.heap.size ≤ k_) ∧ some k_ ≠ (.slice Ao36 y337.length co36 : Value).ownBlock ∧ some k_ ≠ (v342 : Value).ownBlock ∧ k_ ≠ gb332)) (okp := (fun k_ => (P0_2_ k_ ∨ w.heap.size ≤ k_) ∧ some k_ ≠ (.slice Ao36 y337.length co36 : Value).ownBlock ∧ some k_ ≠ (v342 : Value).ownBlock ∧ k_ ≠ gb332)) ?hr ?hp (fun _ hk => hk) ((show ∀ k_, w37.heap.size ≤ k_ → (fun k_ => (P0_2_ k_ ∨ w.heap.size ≤ k_) ∧ some k_ ≠ (.slice Ao36 y337.length co36 : Value).ownBlock ∧ some k_ ≠ (v342 : Value).ownBlock ∧ k_ ≠ gb332) k_ from fun k_ hk => ⟨(.inr (Nat.le_trans (below_size (by repeat (first | (with_reducible first | exact HB.out | apply below_alloc | apply pw_below_drewN | apply below_drew1 | refine below_set ?_ GE332.out) | exact HB.out))) hk)), Kd.fresh' (Kd.N_lt (Kd.N_u HO339.out)) k_ hk, Kd.fresh' (Kd.R_lt (Kd.R_u HO343.out)) k_ hk, Kd.freshB (g := gb332) (o := .cells #[.string a0_0, .int .i64 a0_1, .slice A0_2 l0_2.length c0_2] 64 (0, 0)) (by (with_reducible repeat (first | refine blk_drewN ?_ _ | refine blk_drew ?_ | refine blk_alloc ?_ _)); exact BK332.out) k_ hk⟩) _ (Nat.le_refl _)) (Below.refl _ _) (Nat.le_refl _) (by simp) ?_; (case hd => rfl); (case hg => rfl); (case hr => first | (go_simp; done) | (go_simp; rfl)); (case hp => exact (Reps.one (show Kd.FK (Kd.slice 5 (Kd.int .u8)) _ _ l0_2 [.slice A0_2 l0_2.length c0_2] from (Kd.FK_slice_mk (Kd.V_reads' (Kd.V_mono (ok' := (fun k_ => (P0_2_ k_ ∨ w.heap.size ≤ k_) ∧ some k_ ≠ (.slice Ao36 y337.length co36 : Value).ownBlock ∧ some k_ ≠ (v342 : Value).ownBlock ∧ k_ ≠ gb332)) (HO_333002.out) (fun k_ hk => ⟨hk.1.1.1, ⟨hk.1.2, ⟨hk.2, hk.1.1.2.2⟩⟩⟩))).2.1 (Kd.V_F (Kd.V_mono (ok' := (fun k_ => (P0_2_ k_ ∨ w.heap.size ≤ k_) ∧ some k_ ≠ (.slice Ao36 y337.length co36 : Value).ownBlock ∧ some k_ ≠ (v342 : Value).ownBlock ∧ k_ ≠ gb332)) (HO_333002.out) (fun k_ hk => ⟨hk.1.1.1, ⟨hk.1.2, ⟨hk.2, hk.1.1.2.2⟩⟩⟩))))) (Reps.none _ _))); intro v345 w39 ho40 hb hg_ hnew_; clear hg_ hnew_; (first | rw [← Ny344.out] at ho40 | (simp only [Int.reduceToNat] at ho40; rw [← Ny344.out] at ho40)); have n0_ := Aside0.mk (Kd.V_elder' (Kd.V_u HO_333002.out) (Kd.N_base ho40) hb); have n1_ := Aside0.mk (Kd.N_elder' (Kd.N_u HO339.out) (Kd.N_base ho40) hb); have n2_ := Aside0.mk (Kd.R_below (Kd.R_u HO343.out) hb); have n3_ := Aside0.mk (Kd.N_lower ho40 (below_size (by repeat (first | (with_reducible first | exact HB.out | apply below_alloc | apply pw_below_drewN | apply below_drew1 | refine below_set ?_ GE332.out) | exact HB.out)))); have n4_ := Aside0.mk (blk_below (g := gb332) (o := .cells #[.string a0_0, .int .i64 a0_1, .slice A0_2 l0_2.length c0_2] 64 (0, 0)) (by (with_reducible repeat (first | refine blk_drewN ?_ _ | refine blk_drew ?_ | refine blk_alloc ?_ _)); exact BK332.out) hb); have n5_ := Aside0.mk (below_step (by repeat (first | (with_reducible first | exact HB.out | apply below_alloc | apply pw_below_drewN | apply below_drew1 | refine below_set ?_ GE332.out) | exact HB.out)) hb); clear HO_333002; clear HO339; clear HO343; clear BK332; clear HB; have HO_333002 := n0_; have HO339 := n1_; have HO343 := n2_; have HO346 := n3_; have BK332 := n4_; have HB := n5_; clear n0_ n1_ n2_ n3_ n4_ n5_; clear hb ho40; obtain ⟨Ao41, co41, eo41⟩ := Kd.N_slice HO346.out; subst eo41) | ((with_reducible refine gate_callee (f := 168) rfl ?_); refine goesL_ (some 45) rfl rfl Tryz.func168 (by kernel_rfl) rfl #[.int .i64 0, .int .i64 a0_1, .bool false, .slice Ao41 y344.length co41] rfl (by (try simp only [List.map_toArray, List.map_cons, List.map_nil]); first | done | rfl | (simp only [List.length_drop, List.length_take]; rfl)) ?_; (with_reducible refine (der_Put.calls kj3 0 a0_1 false _ _ y344 t347 t348 _ ?side1 ?side2 A14.out).mono ?_); (case side1 => exact Kd.C_u (Kd.N_reads' HO346.out).2.2); (case side2 => exact (Kd.N_reads' HO346.out).2.1); rintro e w42 ⟨v349, rfl, ho0, hb⟩; refine ⟨_, rfl, ?_⟩; have n0_ := Aside0.mk (Kd.V_elder' (Kd.V_u HO_333002.out) (Kd.R_base ho0) hb); have n1_ := Aside0.mk (Kd.N_elder' (Kd.N_u HO339.out) (Kd.R_base ho0) hb); have n2_ := Aside0.mk (Kd.R_elder' (Kd.R_u HO343.out) (Kd.R_base ho0) hb); have n3_ := Aside0.mk (Kd.N_elder' (Kd.N_u HO346.out) (Kd.R_base ho0) hb); have n4_ := Aside0.mk (Kd.R_lower (Kd.R_new' (Kd.R_newM (M := fun k_ => (w.heap.size ≤ k_)) ho0 (below_size (by repeat (first | (with_reducible first | exact HB.out | apply below_alloc | apply pw_below_drewN | apply below_drew1 | refine below_set ?_ GE332.out) | exact HB.out))) (fun k_ h_ => h_)) (Kd.R_lt (Kd.R_u HO343.out))) (below_size (by repeat (first | (with_reducible first | exact HB.out | apply below_alloc | apply pw_below_drewN | apply below_drew1 | refine below_set ?_ GE332.out) | exact HB.out)))); have n5_ := Aside0.mk (blk_below (g := gb332) (o := .cells #[.string a0_0, .int .i64 a0_1, .slice A0_2 l0_2.length c0_2] 64 (0, 0)) (by (with_reducible repeat (first | refine blk_drewN ?_ _ | refine blk_drew ?_ | refine blk_alloc ?_ _)); exact BK332.out) hb); have n6_ := Aside0.mk (below_step (by repeat (first | (with_reducible first | exact HB.out | apply below_alloc | apply pw_below_drewN | apply below_drew1 | refine below_set ?_ GE332.out) | exact HB.out)) hb); clear HO_333002; clear HO339; clear HO343; clear HO346; clear BK332; clear HB; have HO_333002 := n0_; have HO339 := n1_; have HO343 := n2_; have HO346 := n3_; have HO350 := n4_; have BK332 := n5_; have HB := n6_; clear n0_ n1_ n2_ n3_ n4_ n5_ n6_; (try clear hb); (try clear hb2); (try clear hk); (try clear hi); (try clear ho0)))
      go_ret2
      exact ⟨_, _, by first | rfl | (simp [errW_none, errW_some] <;> rfl) | (simp [*, errW_none, errW_some] <;> rfl), (by first | exact EV.nil | exact EV.f30 | exact EV.f5 | exact EV.f4 | exact EV.f1 | exact EV.low (by assumption) | exact HEV_.out | exact EV.part HEV_.out), by first | exact Kd.R_nil _ _ _ _ _ | exact Kd.N_nil _ _ _ _ _ | exact Kd.V_nil _ _ _ _ _ | exact Kd.Q_nil _ _ _ _ _ | exact Kd.S_nil _ _ _ _ _, by repeat (first | (with_reducible first | exact HB.out | apply below_alloc | apply pw_below_drewN | apply below_drew1 | refine below_set ?_ GE332.out) | exact HB.out)⟩
    rw [if_pos c15] at H
    have c15b0 : (t348 == 0) = true := beq_iff_eq.mpr c15
    have c15b1 : (t348 != 0) = false := bne_eq_false_iff_eq.mpr c15
    clear c15
    obtain ⟨y351, hy351⟩ : ∃ y_ : List (List Int), y_ = (([t340, t347] : List (List Int))) := ⟨_, rfl⟩
    replace H : ((name_about.f kj3 16 y351).bind fun bt354 => (some (bt354.1, bt354.2))) = some (r1, r2) := by first | (rw [hy351]; with_reducible exact H) | (have H2_ := (Option.bind_some _ _).symm.trans H; rw [hy351]; with_reducible exact H2_) | (have H2_ := (Option.bind_some _ _).symm.trans H; with_reducible exact H2_) | with_reducible exact H | (rw [hy351]; exact H) | exact H
    have Ny351 := Aside0.mk hy351
    clear hy351
    replace H := Option.bind_eq_some_iff.mp H
    obtain ⟨⟨t354, t355⟩, A160, H⟩ := H
    replace H : (some (t354, t355)) = some (r1, r2) := H
    have A16 := Aside0.mk A160
    clear A160
    simp only [Option.some.injEq, Prod.mk.injEq] at H
    obtain ⟨rfl, rfl⟩ := H
    obtain ⟨Ao17, co17, eo17⟩ := Kd.R_slice HO_4.out
    subst eo17
    go_wp2_with (first | ((with_reducible refine gate_dst (N := 30) rfl ?_); refine Kd.N_lit (Kd.slice 5 (Kd.int .u8)) _ 22 ?hg (N' := 30) ?hd (xs := ([t333] : List (List Int))) (inner := [.slice Ao17 t333.length co17]) (ok := (fun k_ => (P0_2_ k_ ∨ w.heap.size ≤ k_) ∧ k_ ≠ gb332)) (okp := (fun k_ => (P0_2_ k_ ∨ w.heap.size ≤ k_) ∧ k_ ≠ gb332)) ?hr ?hp (fun _ hk => hk) ((show ∀ k_, wc.heap.size ≤ k_ → (fun k_ => (P0_2_ k_ ∨ w.heap.size ≤ k_) ∧ k_ ≠ gb332) k_ from fun k_ hk => ⟨(.inr (Nat.le_trans (below_size (by repeat (first | (with_reducible first | exact HB.out | apply below_alloc | apply pw_below_drewN | apply below_drew1 | refine below_set ?_ GE332.out) | exact HB.out))) hk)), Kd.freshB (g := gb332) (o := .cells #[.string a0_0, .int .i64 a0_1, .slice A0_2 l0_2.length c0_2] 64 (0, 0)) (by (with_reducible repeat (first | refine blk_drewN ?_ _ | refine blk_drew ?_ | refine blk_alloc ?_ _)); exact BK332.out) k_ hk⟩) _ (Nat.le_refl _)) (Below.refl _ _) (Nat.le_refl _) (by simp) ?_; (case hd => rfl); (case hg => rfl); (case hr => first | (go_simp; done) | (go_simp; rfl)); (case hp => exact (Reps.one (show Kd.FK (Kd.slice 5 (Kd.int .u8)) _ _ t333 [.slice Ao17 t333.length co17] from (Kd.FK_slice_mk (Kd.R_reads' (Kd.R_mono (ok' := (fun k_ => (P0_2_ k_ ∨ w.heap.size ≤ k_) ∧ k_ ≠ gb332)) (Kd.R_types (HO_4.out) BK332.out (by decide)) (fun k_ hk => ⟨(.inr (hk.1)), hk.2⟩))).2.1 (Kd.R_F (Kd.R_mono (ok' := (fun k_ => (P0_2_ k_ ∨ w.heap.size ≤ k_) ∧ k_ ≠ gb332)) (Kd.R_types (HO_4.out) BK332.out (by decide)) (fun k_ hk => ⟨(.inr (hk.1)), hk.2⟩))))) (Reps.none _ _))); intro v338 w18 ho19 hb hg_ hnew_; clear hg_ hnew_; (first | rw [← Ny337.out] at ho19 | (simp only [Int.reduceToNat] at ho19; rw [← Ny337.out] at ho19)); have n0_ := Aside0.mk (Kd.V_elder' (Kd.V_u HO_333002.out) (Kd.N_base ho19) hb); have n1_ := Aside0.mk (Kd.N_lower ho19 (below_size (by repeat (first | (with_reducible first | exact HB.out | apply below_alloc | apply pw_below_drewN | apply below_drew1 | refine below_set ?_ GE332.out) | exact HB.out)))); have n2_ := Aside0.mk (blk_below (g := gb332) (o := .cells #[.string a0_0, .int .i64 a0_1, .slice A0_2 l0_2.length c0_2] 64 (0, 0)) (by (with_reducible repeat (first | refine blk_drewN ?_ _ | refine blk_drew ?_ | refine blk_alloc ?_ _)); exact BK332.out) hb); have n3_ := Aside0.mk (below_step (by repeat (first | (with_reducible first | exact HB.out | apply below_alloc | apply pw_below_drewN | apply below_drew1 | refine below_set ?_ GE332.out) | exact HB.out)) hb); clear HO_333002; clear BK332; clear HB; clear HO_4; have HO_333002 := n0_; have HO339 := n1_; have BK332 := n2_; have HB := n3_; clear n0_ n1_ n2_ n3_; clear hb ho19; obtain ⟨Ao20, co20, eo20⟩ := Kd.N_slice HO339.out; subst eo20) | ((with_reducible refine gate_callee (f := 168) rfl ?_); refine goesL_ (some 31) rfl rfl Tryz.func168 (by kernel_rfl) rfl #[.int .i64 0, .int .i64 6, .bool false, .slice Ao20 y337.length co20] rfl (by (try simp only [List.map_toArray, List.map_cons, List.map_nil]); first | done | rfl | (simp only [List.length_drop, List.length_take]; rfl)) ?_; (with_reducible refine (der_Put.calls kj3 0 6 false _ _ y337 t340 t341 _ ?side1 ?side2 A12.out).mono ?_); (case side1 => exact Kd.C_u (Kd.N_reads' HO339.out).2.2); (case side2 => exact (Kd.N_reads' HO339.out).2.1); rintro e w21 ⟨v342, rfl, ho0, hb⟩; refine ⟨_, rfl, ?_⟩; have n0_ := Aside0.mk (Kd.V_elder' (Kd.V_u HO_333002.out) (Kd.R_base ho0) hb); have n1_ := Aside0.mk (Kd.N_elder' (Kd.N_u HO339.out) (Kd.R_base ho0) hb); have n2_ := Aside0.mk (Kd.R_lower (Kd.R_newM (M := fun k_ => (w.heap.size ≤ k_)) ho0 (below_size (by repeat (first | (with_reducible first | exact HB.out | apply below_alloc | apply pw_below_drewN | apply below_drew1 | refine below_set ?_ GE332.out) | exact HB.out))) (fun k_ h_ => h_)) (below_size (by repeat (first | (with_reducible first | exact HB.out | apply below_alloc | apply pw_below_drewN | apply below_drew1 | refine below_set ?_ GE332.out) | exact HB.out)))); have n3_ := Aside0.mk (blk_below (g := gb332) (o := .cells #[.string a0_0, .int .i64 a0_1, .slice A0_2 l0_2.length c0_2] 64 (0, 0)) (by (with_reducible repeat (first | refine blk_drewN ?_ _ | refine blk_drew ?_ | refine blk_alloc ?_ _)); exact BK332.out) hb); have n4_ := Aside0.mk (below_step (by repeat (first | (with_reducible first | exact HB.out | apply below_alloc | apply pw_below_drewN | apply below_drew1 | refine below_set ?_ GE332.out) | exact HB.out)) hb); clear HO_333002; clear HO339; clear BK332; clear HB; have HO_333002 := n0_; have HO339 := n1_; have HO343 := n2_; have BK332 := n3_; have HB := n4_; clear n0_ n1_ n2_ n3_ n4_; (try clear hb); (try clear hb2); (try clear hk); (try clear hi); (try clear ho0); have hcz22_0 : w21.cell? ⟨gb332, 0, none⟩ = some (.string a0_0) := (blk_cell BK332.out 0).trans rfl; have hcz22_1 : w21.cell? ⟨gb332, 1, none⟩ = some (.int .i64 a0_1) := (blk_cell BK332.out 1).trans rfl; have hcz22_2 : w21.cell? ⟨gb332, 2, none⟩ = some (.slice A0_2 l0_2.length c0_2) := (blk_cell BK332.out 2).trans rfl; have hfz22_0 := blk_frozen BK332.out 0; have hfz22_1 := blk_frozen BK332.out 1; have hfz22_2 := blk_frozen BK332.out 2) | ((with_reducible refine gate_dst (N := 44) rfl ?_); refine Kd.N_lit (Kd.slice 5 (Kd.int .u8)) _ 22 ?hg (N' := 44) ?hd (xs := ([l0_2] : List (List Int))) (inner := [.slice A0_2 l0_2.length c0_2]) (ok := (fun k_ => (P0_2_ k_ ∨ w.heap.size ≤ k_) ∧ some k_ ≠ (.slice Ao20 y337.length co20 : Value).ownBlock ∧ some k_ ≠ (v342 : Value).ownBlock ∧ k_ ≠ gb332)) (okp := (fun k_ => (P0_2_ k_ ∨ w.heap.size ≤ k_) ∧ some k_ ≠ (.slice Ao20 y337.length co20 : Value).ownBlock ∧ some k_ ≠ (v342 : Value).ownBlock ∧ k_ ≠ gb332)) ?hr ?hp (fun _ hk => hk) ((show ∀ k_, w21.heap.size ≤ k_ → (fun k_ => (P0_2_ k_ ∨ w.heap.size ≤ k_) ∧ some k_ ≠ (.slice Ao20 y337.length co20 : Value).ownBlock ∧ some k_ ≠ (v342 : Value).ownBlock ∧ k_ ≠ gb332) k_ from fun k_ hk => ⟨(.inr (Nat.le_trans (below_size (by repeat (first | (with_reducible first | exact HB.out | apply below_alloc | apply pw_below_drewN | apply below_drew1 | refine below_set ?_ GE332.out) | exact HB.out))) hk)), Kd.fresh' (Kd.N_lt (Kd.N_u HO339.out)) k_ hk, Kd.fresh' (Kd.R_lt (Kd.R_u HO343.out)) k_ hk, Kd.freshB (g := gb332) (o := .cells #[.string a0_0, .int .i64 a0_1, .slice A0_2 l0_2.length c0_2] 64 (0, 0)) (by (with_reducible repeat (first | refine blk_drewN ?_ _ | refine blk_drew ?_ | refine blk_alloc ?_ _)); exact BK332.out) k_ hk⟩) _ (Nat.le_refl _)) (Below.refl _ _) (Nat.le_refl _) (by simp) ?_; (case hd => rfl); (case hg => rfl); (case hr => first | (go_simp; done) | (go_simp; rfl)); (case hp => exact (Reps.one (show Kd.FK (Kd.slice 5 (Kd.int .u8)) _ _ l0_2 [.slice A0_2 l0_2.length c0_2] from (Kd.FK_slice_mk (Kd.V_reads' (Kd.V_mono (ok' := (fun k_ => (P0_2_ k_ ∨ w.heap.size ≤ k_) ∧ some k_ ≠ (.slice Ao20 y337.length co20 : Value).ownBlock ∧ some k_ ≠ (v342 : Value).ownBlock ∧ k_ ≠ gb332)) (HO_333002.out) (fun k_ hk => ⟨hk.1.1.1, ⟨hk.1.2, ⟨hk.2, hk.1.1.2.2⟩⟩⟩))).2.1 (Kd.V_F (Kd.V_mono (ok' := (fun k_ => (P0_2_ k_ ∨ w.heap.size ≤ k_) ∧ some k_ ≠ (.slice Ao20 y337.length co20 : Value).ownBlock ∧ some k_ ≠ (v342 : Value).ownBlock ∧ k_ ≠ gb332)) (HO_333002.out) (fun k_ hk => ⟨hk.1.1.1, ⟨hk.1.2, ⟨hk.2, hk.1.1.2.2⟩⟩⟩))))) (Reps.none _ _))); intro v345 w23 ho24 hb hg_ hnew_; clear hg_ hnew_; (first | rw [← Ny344.out] at ho24 | (simp only [Int.reduceToNat] at ho24; rw [← Ny344.out] at ho24)); have n0_ := Aside0.mk (Kd.V_elder' (Kd.V_u HO_333002.out) (Kd.N_base ho24) hb); have n1_ := Aside0.mk (Kd.N_elder' (Kd.N_u HO339.out) (Kd.N_base ho24) hb); have n2_ := Aside0.mk (Kd.R_below (Kd.R_u HO343.out) hb); have n3_ := Aside0.mk (Kd.N_lower ho24 (below_size (by repeat (first | (with_reducible first | exact HB.out | apply below_alloc | apply pw_below_drewN | apply below_drew1 | refine below_set ?_ GE332.out) | exact HB.out)))); have n4_ := Aside0.mk (blk_below (g := gb332) (o := .cells #[.string a0_0, .int .i64 a0_1, .slice A0_2 l0_2.length c0_2] 64 (0, 0)) (by (with_reducible repeat (first | refine blk_drewN ?_ _ | refine blk_drew ?_ | refine blk_alloc ?_ _)); exact BK332.out) hb); have n5_ := Aside0.mk (below_step (by repeat (first | (with_reducible first | exact HB.out | apply below_alloc | apply pw_below_drewN | apply below_drew1 | refine below_set ?_ GE332.out) | exact HB.out)) hb); clear HO_333002; clear HO339; clear HO343; clear BK332; clear HB; have HO_333002 := n0_; have HO339 := n1_; have HO343 := n2_; have HO346 := n3_; have BK332 := n4_; have HB := n5_; clear n0_ n1_ n2_ n3_ n4_ n5_; clear hb ho24; obtain ⟨Ao25, co25, eo25⟩ := Kd.N_slice HO346.out; subst eo25) | ((with_reducible refine gate_callee (f := 168) rfl ?_); refine goesL_ (some 45) rfl rfl Tryz.func168 (by kernel_rfl) rfl #[.int .i64 0, .int .i64 a0_1, .bool false, .slice Ao25 y344.length co25] rfl (by (try simp only [List.map_toArray, List.map_cons, List.map_nil]); first | done | rfl | (simp only [List.length_drop, List.length_take]; rfl)) ?_; (with_reducible refine (der_Put.calls kj3 0 a0_1 false _ _ y344 t347 t348 _ ?side1 ?side2 A14.out).mono ?_); (case side1 => exact Kd.C_u (Kd.N_reads' HO346.out).2.2); (case side2 => exact (Kd.N_reads' HO346.out).2.1); rintro e w26 ⟨v349, rfl, ho0, hb⟩; refine ⟨_, rfl, ?_⟩; have n0_ := Aside0.mk (Kd.V_elder' (Kd.V_u HO_333002.out) (Kd.R_base ho0) hb); have n1_ := Aside0.mk (Kd.N_elder' (Kd.N_u HO339.out) (Kd.R_base ho0) hb); have n2_ := Aside0.mk (Kd.R_elder' (Kd.R_u HO343.out) (Kd.R_base ho0) hb); have n3_ := Aside0.mk (Kd.N_elder' (Kd.N_u HO346.out) (Kd.R_base ho0) hb); have n4_ := Aside0.mk (Kd.R_lower (Kd.R_new' (Kd.R_newM (M := fun k_ => (w.heap.size ≤ k_)) ho0 (below_size (by repeat (first | (with_reducible first | exact HB.out | apply below_alloc | apply pw_below_drewN | apply below_drew1 | refine below_set ?_ GE332.out) | exact HB.out))) (fun k_ h_ => h_)) (Kd.R_lt (Kd.R_u HO343.out))) (below_size (by repeat (first | (with_reducible first | exact HB.out | apply below_alloc | apply pw_below_drewN | apply below_drew1 | refine below_set ?_ GE332.out) | exact HB.out)))); have n5_ := Aside0.mk (blk_below (g := gb332) (o := .cells #[.string a0_0, .int .i64 a0_1, .slice A0_2 l0_2.length c0_2] 64 (0, 0)) (by (with_reducible repeat (first | refine blk_drewN ?_ _ | refine blk_drew ?_ | refine blk_alloc ?_ _)); exact BK332.out) hb); have n6_ := Aside0.mk (below_step (by repeat (first | (with_reducible first | exact HB.out | apply below_alloc | apply pw_below_drewN | apply below_drew1 | refine below_set ?_ GE332.out) | exact HB.out)) hb); clear HO_333002; clear HO339; clear HO343; clear HO346; clear BK332; clear HB; have HO_333002 := n0_; have HO339 := n1_; have HO343 := n2_; have HO346 := n3_; have HO350 := n4_; have BK332 := n5_; have HB := n6_; clear n0_ n1_ n2_ n3_ n4_ n5_ n6_; (try clear hb); (try clear hb2); (try clear hk); (try clear hi); (try clear ho0); obtain ⟨Ao27, co27, eo27⟩ := Kd.R_slice HO343.out; subst eo27; obtain ⟨Ao28, co28, eo28⟩ := Kd.R_slice HO350.out; subst eo28) | ((with_reducible refine gate_dst (N := 55) rfl ?_); refine Kd.N_lit (Kd.slice 5 (Kd.int .u8)) _ 22 ?hg (N' := 55) ?hd (xs := ([t340, t347] : List (List Int))) (inner := [.slice Ao27 t340.length co27, .slice Ao28 t347.length co28]) (ok := (fun k_ => (P0_2_ k_ ∨ w.heap.size ≤ k_) ∧ some k_ ≠ (.slice Ao20 y337.length co20 : Value).ownBlock ∧ some k_ ≠ (.slice Ao25 y344.length co25 : Value).ownBlock ∧ k_ ≠ gb332)) (okp := (fun k_ => (P0_2_ k_ ∨ w.heap.size ≤ k_) ∧ some k_ ≠ (.slice Ao20 y337.length co20 : Value).ownBlock ∧ some k_ ≠ (.slice Ao25 y344.length co25 : Value).ownBlock ∧ k_ ≠ gb332)) ?hr ?hp (fun _ hk => hk) ((show ∀ k_, w26.heap.size ≤ k_ → (fun k_ => (P0_2_ k_ ∨ w.heap.size ≤ k_) ∧ some k_ ≠ (.slice Ao20 y337.length co20 : Value).ownBlock ∧ some k_ ≠ (.slice Ao25 y344.length co25 : Value).ownBlock ∧ k_ ≠ gb332) k_ from fun k_ hk => ⟨(.inr (Nat.le_trans (below_size (by repeat (first | (with_reducible first | exact HB.out | apply below_alloc | apply pw_below_drewN | apply below_drew1 | refine below_set ?_ GE332.out) | exact HB.out))) hk)), Kd.fresh' (Kd.N_lt (Kd.N_u HO339.out)) k_ hk, Kd.fresh' (Kd.N_lt (Kd.N_u HO346.out)) k_ hk, Kd.freshB (g := gb332) (o := .cells #[.string a0_0, .int .i64 a0_1, .slice A0_2 l0_2.length c0_2] 64 (0, 0)) (by (with_reducible repeat (first | refine blk_drewN ?_ _ | refine blk_drew ?_ | refine blk_alloc ?_ _)); exact BK332.out) k_ hk⟩) _ (Nat.le_refl _)) (Below.refl _ _) (Nat.le_refl _) (by simp) ?_; (case hd => rfl); (case hg => rfl); (case hr => first | (go_simp; done) | (go_simp; rfl)); (case hp => exact (Reps.one (show Kd.FK (Kd.slice 5 (Kd.int .u8)) _ _ t340 [.slice Ao27 t340.length co27] from (Kd.FK_slice_mk (Kd.R_reads' (Kd.R_mono (ok' := (fun k_ => (P0_2_ k_ ∨ w.heap.size ≤ k_) ∧ some k_ ≠ (.slice Ao20 y337.length co20 : Value).ownBlock ∧ some k_ ≠ (.slice Ao25 y344.length co25 : Value).ownBlock ∧ k_ ≠ gb332)) (Kd.R_types (Kd.R_apart' (Kd.R_apart' (HO343.out) (Kd.N_typed HO339.out) (by decide)) (Kd.N_typed HO346.out) (by decide)) BK332.out (by decide)) (fun k_ hk => ⟨(.inr (hk.1.1.1.1.1)), ⟨hk.1.1.2, ⟨hk.1.2, hk.2⟩⟩⟩))).2.1 (Kd.R_F (Kd.R_mono (ok' := (fun k_ => (P0_2_ k_ ∨ w.heap.size ≤ k_) ∧ some k_ ≠ (.slice Ao20 y337.length co20 : Value).ownBlock ∧ some k_ ≠ (.slice Ao25 y344.length co25 : Value).ownBlock ∧ k_ ≠ gb332)) (Kd.R_types (Kd.R_apart' (Kd.R_apart' (HO343.out) (Kd.N_typed HO339.out) (by decide)) (Kd.N_typed HO346.out) (by decide)) BK332.out (by decide)) (fun k_ hk => ⟨(.inr (hk.1.1.1.1.1)), ⟨hk.1.1.2, ⟨hk.1.2, hk.2⟩⟩⟩))))) (Reps.one (show Kd.FK (Kd.slice 5 (Kd.int .u8)) _ _ t347 [.slice Ao28 t347.length co28] from (Kd.FK_slice_mk (Kd.R_reads' (Kd.R_mono (ok' := (fun k_ => (P0_2_ k_ ∨ w.heap.size ≤ k_) ∧ some k_ ≠ (.slice Ao20 y337.length co20 : Value).ownBlock ∧ some k_ ≠ (.slice Ao25 y344.length co25 : Value).ownBlock ∧ k_ ≠ gb332)) (Kd.R_types (Kd.R_apart' (Kd.R_apart' (HO350.out) (Kd.N_typed HO339.out) (by decide)) (Kd.N_typed HO346.out) (by decide)) BK332.out (by decide)) (fun k_ hk => ⟨(.inr (hk.1.1.1.1.1)), ⟨hk.1.1.2, ⟨hk.1.2, hk.2⟩⟩⟩))).2.1 (Kd.R_F (Kd.R_mono (ok' := (fun k_ => (P0_2_ k_ ∨ w.heap.size ≤ k_) ∧ some k_ ≠ (.slice Ao20 y337.length co20 : Value).ownBlock ∧ some k_ ≠ (.slice Ao25 y344.length co25 : Value).ownBlock ∧ k_ ≠ gb332)) (Kd.R_types (Kd.R_apart' (Kd.R_apart' (HO350.out) (Kd.N_typed HO339.out) (by decide)) (Kd.N_typed HO346.out) (by decide)) BK332.out (by decide)) (fun k_ hk => ⟨(.inr (hk.1.1.1.1.1)), ⟨hk.1.1.2, ⟨hk.1.2, hk.2⟩⟩⟩))))) (Reps.none _ _)))); intro v352 w29 ho30 hb hg_ hnew_; clear hg_ hnew_; (first | rw [← Ny351.out] at ho30 | (simp only [Int.reduceToNat] at ho30; rw [← Ny351.out] at ho30)); have n0_ := Aside0.mk (Kd.V_elder' (Kd.V_u HO_333002.out) (Kd.N_base ho30) hb); have n1_ := Aside0.mk (Kd.N_elder' (Kd.N_u HO339.out) (Kd.N_base ho30) hb); have n2_ := Aside0.mk (Kd.N_elder' (Kd.N_u HO346.out) (Kd.N_base ho30) hb); have n3_ := Aside0.mk (Kd.N_lower ho30 (below_size (by repeat (first | (with_reducible first | exact HB.out | apply below_alloc | apply pw_below_drewN | apply below_drew1 | refine below_set ?_ GE332.out) | exact HB.out)))); have n4_ := Aside0.mk (blk_below (g := gb332) (o := .cells #[.string a0_0, .int .i64 a0_1, .slice A0_2 l0_2.length c0_2] 64 (0, 0)) (by (with_reducible repeat (first | refine blk_drewN ?_ _ | refine blk_drew ?_ | refine blk_alloc ?_ _)); exact BK332.out) hb); have n5_ := Aside0.mk (below_step (by repeat (first | (with_reducible first | exact HB.out | apply below_alloc | apply pw_below_drewN | apply below_drew1 | refine below_set ?_ GE332.out) | exact HB.out)) hb); clear HO_333002; clear HO339; clear HO346; clear BK332; clear HB; clear HO343; clear HO350; have HO_333002 := n0_; have HO339 := n1_; have HO346 := n2_; have HO353 := n3_; have BK332 := n4_; have HB := n5_; clear n0_ n1_ n2_ n3_ n4_ n5_; clear hb ho30; obtain ⟨Ao31, co31, eo31⟩ := Kd.N_slice HO353.out; subst eo31) | ((with_reducible refine gate_callee (f := 152) rfl ?_); refine goesL_ (some 56) rfl rfl Tryz.func152 (by kernel_rfl) rfl #[.int .i64 16, .slice Ao31 y351.length co31] rfl (by (try simp only [List.map_toArray, List.map_cons, List.map_nil]); first | done | rfl | (simp only [List.length_drop, List.length_take]; rfl)) ?_; (with_reducible refine (name_about.calls kj3 16 _ _ y351 t354 t355 _ ?side1 ?side2 A16.out).mono ?_); (case side1 => exact Kd.C_u (Kd.N_reads' HO353.out).2.2); (case side2 => exact (Kd.N_reads' HO353.out).2.1); rintro e w32 ⟨v356, ev_, rfl, hev_, ho0, hb⟩; skip; have HEV_ := Aside0.mk hev_; clear hev_; refine ⟨_, rfl, ?_⟩; have n0_ := Aside0.mk (Kd.V_elder' (Kd.V_u HO_333002.out) (Kd.R_base ho0) hb); have n1_ := Aside0.mk (Kd.N_elder' (Kd.N_u HO339.out) (Kd.R_base ho0) hb); have n2_ := Aside0.mk (Kd.N_elder' (Kd.N_u HO346.out) (Kd.R_base ho0) hb); have n3_ := Aside0.mk (Kd.N_elder' (Kd.N_u HO353.out) (Kd.R_base ho0) hb); have n4_ := Aside0.mk (Kd.R_lower (Kd.R_newM (M := fun k_ => (w.heap.size ≤ k_)) ho0 (below_size (by repeat (first | (with_reducible first | exact HB.out | apply below_alloc | apply pw_below_drewN | apply below_drew1 | refine below_set ?_ GE332.out) | exact HB.out))) (fun k_ h_ => h_)) (below_size (by repeat (first | (with_reducible first | exact HB.out | apply below_alloc | apply pw_below_drewN | apply below_drew1 | refine below_set ?_ GE332.out) | exact HB.out)))); have n5_ := Aside0.mk (blk_below (g := gb332) (o := .cells #[.string a0_0, .int .i64 a0_1, .slice A0_2 l0_2.length c0_2] 64 (0, 0)) (by (with_reducible repeat (first | refine blk_drewN ?_ _ | refine blk_drew ?_ | refine blk_alloc ?_ _)); exact BK332.out) hb); have n6_ := Aside0.mk (below_step (by repeat (first | (with_reducible first | exact HB.out | apply below_alloc | apply pw_below_drewN | apply below_drew1 | refine below_set ?_ GE332.out) | exact HB.out)) hb); clear HO_333002; clear HO339; clear HO346; clear HO353; clear BK332; clear HB; have HO_333002 := n0_; have HO339 := n1_; have HO346 := n2_; have HO353 := n3_; have HO357 := n4_; have BK332 := n5_; have HB := n6_; clear n0_ n1_ n2_ n3_ n4_ n5_ n6_; (try clear hb); (try clear hb2); (try clear hk); (try clear hi); (try clear ho0)))
    go_ret2
    exact ⟨_, _, by first | rfl | (simp [errW_none, errW_some] <;> rfl) | (simp [*, errW_none, errW_some] <;> rfl), (by first | exact EV.nil | exact EV.f30 | exact EV.f5 | exact EV.f4 | exact EV.f1 | exact EV.low (by assumption) | exact HEV_.out | exact EV.part HEV_.out), by (with_reducible repeat (first | apply Kd.R_alloc | apply Kd.R_drewN | apply Kd.R_drew)); exact Kd.R_mono HO357.out (fun _ hk => hk.1), by repeat (first | (with_reducible first | exact HB.out | apply below_alloc | apply pw_below_drewN | apply below_drew1 | refine below_set ?_ GE332.out) | exact HB.out)⟩
end Go.Proofs.YtkioddjjfifadaaGreatDoor.P
namespace Go.Proofs.YtkioddjjfifadaaGreatDoor.P
open Go.RowKit Go.Proofs.YtkioddjjfifadaaGreatDoorW.PrintWords Go.Proofs.YtkioddjjfifadaaGreatDoorW.PrintLast Go.Proofs.YtkioddjjfifadaaGreatDoorW.PrintMore
attribute [local go_sem] max2_int min2_int max_two min_two max_three min_three max_four min_four   -- for this text's walks alone
set_option linter.unusedVariables false
set_option linter.unusedSimpArgs false
mutual
def name_build.j0 : Nat → List (List (S64)) → Bool → Option (List Int × Int)
  | 0, _, _ => none
  | k + 1, x0, x20 => if x20 = true then (some (([] : List Int), 4)) else (name_build.l0 k ([] : List (List Int)) x0 (x0.length : Int) 0)
def name_build.l0 : Nat → List (List Int) → List (List (S64)) → Int → Int → Option (List Int × Int)
  | 0, _, _, _, _ => none
  | k + 1, x4, x22, x23, x24 => if x24 < x23 then (if 0 ≤ x24 then (if x24 < (x22.length : Int) then (if ((rd_L5 x22 x24).length : Int) = 0 then (some (([] : List Int), 5)) else (name_build.l1 k x4 ([] : List (List Int)) x22 x23 x24 (rd_L5 x22 x24) ((rd_L5 x22 x24).length : Int) 0)) else (none)) else (none)) else ((name_about.f k 16 x4).bind fun bt361 => (some (bt361.1, bt361.2)))
def name_build.l1 : Nat → List (List Int) → List (List Int) → List (List (S64)) → Int → Int → List (S64) → Int → Int → Option (List Int × Int)
  | 0, _, _, _, _, _, _, _, _ => none
  | k + 1, x4, x7, x22, x23, x24, x36, x37, x38 => if x38 < x37 then (if 0 ≤ x38 then (if x38 < (x36.length : Int) then ((name_lay.f k ((rd_T64 x36 x38).f0) ((rd_T64 x36 x38).f1) ((rd_T64 x36 x38).f2)).bind fun bt368 => (if bt368.2 = 0 then (if x7.length < 5864062014805 then (name_build.l1 k x4 (x7 ++ [bt368.1]) x22 x23 x24 x36 x37 (wrap64 (x38 + 1))) else (none)) else (some (([] : List Int), bt368.2)))) else (none)) else (none)) else ((slices_SortFunc.f x7).bind fun y7 => ((name_about.f k 17 y7).bind fun bt375 => (if bt375.2 = 0 then (if x4.length < 5864062014805 then (name_build.l0 k (x4 ++ [bt375.1]) x22 x23 (wrap64 (x24 + 1))) else (none)) else (some (([] : List Int), bt375.2)))))
end
def name_build.f (k : Nat) (l0 : List (List (S64))) : Option (List Int × Int) := if (l0.length : Int) > 64 then (name_build.j0 k l0 true) else ((slices_ContainsFunc.f l0).bind fun t360 => (name_build.j0 k l0 t360))
set_option maxHeartbeats 8000000 in
set_option maxRecDepth 100000 in
theorem name_build.calls (k : Nat) (A0 : Option Addr) (c0 : Nat) (l0 : List (List (S64))) (r1 : List Int) (r2 : Int) (w : World) (hr0 : Kd.C (Kd.slice 64 k64) w A0 l0.length l0) (hc0 : l0.length ≤ c0) (h : name_build.f k l0 = some (r1, r2)) :
    Calls Tryz.prog 84 #[.slice A0 l0.length c0] w fun e w' => ∃ v0_ ev_ : Value, e = .returned (.tuple #[v0_, ev_]) ∧ EV ev_ r2 ∧ Kd.R (Kd.int .u8) 5 w' w.heap.size (fun _ => True) v0_ r1 ∧ Below w.heap.size w w' := by
  have hu64 := Tryz.underlying64
  have HR0 := Aside0.mk hr0
  have HC0 := Aside0.mk hc0
  clear hr0 hc0
  have HB := Aside0.mk (Below.refl w.heap.size w)
  have H : (if (l0.length : Int) > 64 then (name_build.j0 k l0 true) else ((slices_ContainsFunc.f l0).bind fun t360 => (name_build.j0 k l0 t360))) = some (r1, r2) := h
  clear h
  have HC2 := Aside0.mk H
  clear H
  go_enter Tryz.func84, Tryz.ntmps84
  go_upto_region 1 with (fail)
  go_cut [20] (fun v20 wc => ∃ (kq : Nat) (x20_1 : Bool), v20 = .bool x20_1 ∧ Aside0 (name_build.j0 kq l0 x20_1 = some (r1, r2)) ∧ Aside0 (kq ≤ k) ∧ Aside0 (Below w.heap.size w wc))
  case first =>
    have H := HC2.out
    clear HC2
    by_cases c3 : (l0.length : Int) > 64
    · rw [if_pos c3] at H
      have c3b0 : decide (64 < (l0.length : Int)) = true := decide_eq_true c3
      have c3b1 : decide (64 < l0.length) = true := decide_eq_true (by omega)
      clear c3
      (first | rw [c3b0] | (simp only [i64_w, i32_w]; rw [c3b0]) | skip)
      have H' := Aside0.mk H
      clear H
      go_wp2
      go_meet
      case rel => exact ⟨_, (true), (by first | rfl | (simp; done) | (simp [*]; done)), H', ⟨by first | omega | exact Nat.le_refl _⟩, ⟨bU HB.out⟩⟩
    rw [if_neg c3] at H
    have c3b0 : decide (64 < (l0.length : Int)) = false := decide_eq_false c3
    have c3b1 : decide (64 < l0.length) = false := decide_eq_false (by omega)
    clear c3
    (first | rw [c3b0] | (simp only [i64_w, i32_w]; rw [c3b0]) | skip)
    replace H := Option.bind_eq_some_iff.mp H
    obtain ⟨t360, A40, H⟩ := H
    replace H : (name_build.j0 k l0 t360) = some (r1, r2) := H
    have A4 := Aside0.mk A40
    clear A40
    have H' := Aside0.mk H
    clear H
    go_wp2_with (first | (go_at_call 147; (with_reducible refine (slices_ContainsFunc.calls _ _ l0 t360 _ ?side1 ?side2 A4.out).mono ?_); (case side1 => exact Kd.C_u (Kd.C_below HR0.out HB.out)); (case side2 => exact HC0.out); rintro e w5 ⟨rfl, hb⟩; have n0_ := Aside0.mk (below_step (bU HB.out) hb); replace HB := n0_; clear n0_; (try clear hb); (try clear hb2); (try clear hk); (try clear hi)))
    go_meet
    case rel => exact ⟨_, (t360), (by first | rfl | (simp; done) | (simp [*]; done)), H', ⟨by first | omega | exact Nat.le_refl _⟩, ⟨bU HB.out⟩⟩
  clear HC2
  try clear p2
  try clear c3
  try clear c3b0
  try clear c3b1
  obtain ⟨kq, x20_1, rfl, HA, HJ1, HB⟩ := hcut
  cases kq with
  | zero => exact absurd HA.out (by simp [name_build.j0])
  | succ kj1 =>
    have H := HA.out
    clear HA
    simp only [name_build.j0] at H
    by_cases c6 : x20_1 = true
    · subst c6
      have H1 : (some (([] : List Int), 4)) = some (r1, r2) := by rw [if_pos rfl] at H; exact H
      clear H
      have H := H1
      clear H1
      simp only [Option.some.injEq, Prod.mk.injEq] at H
      obtain ⟨rfl, rfl⟩ := H
      go_wp2
      go_ret2
      exact ⟨_, _, by first | rfl | (simp [errW_none, errW_some] <;> rfl) | (simp [*, errW_none, errW_some] <;> rfl), (by first | exact EV.nil | exact EV.f30 | exact EV.f5 | exact EV.f4 | exact EV.f1 | exact EV.low (by assumption) | exact EV.part EV.f5 | exact EV.part EV.f4 | exact EV.part EV.f30 | exact EV.part EV.f1 | exact HEV_.out | exact EV.part HEV_.out), by first | exact Kd.R_nil _ _ _ _ _ | exact Kd.N_nil _ _ _ _ _ | exact Kd.V_nil _ _ _ _ _ | exact Kd.Q_nil _ _ _ _ _ | exact Kd.S_nil _ _ _ _ _, bU HB.out⟩
    replace c6 := Bool.eq_false_iff.mpr c6
    subst c6
    have H1 : (name_build.l0 kj1 ([] : List (List Int)) l0 (l0.length : Int) 0) = some (r1, r2) := by rw [if_neg (show ¬ (false = true) by decide)] at H; exact H
    clear H
    have H := H1
    clear H1
    have H' := Aside0.mk H
    clear H
    go_wp2
    go_loopg [4, 24] kj1 (fun kq v4 v24 w' => ∃ (x4_2 : List (List Int)) (x24_2 : Int), v24 = .int .i64 x24_2 ∧ Aside0 (name_build.l0 kq x4_2 l0 (l0.length : Int) x24_2 = some (r1, r2)) ∧ Aside0 (kq ≤ kj1) ∧ Aside0 (Kd.S (Kd.slice 5 (Kd.int .u8)) 22 w' w.heap.size (fun _ => True) v4 x4_2) ∧ Aside0 (Below w.heap.size w w'))
    case atStart => exact ⟨(([] : List (List Int))), (0), (by first | rfl | (simp; done) | (simp [*]; done)), H', ⟨Nat.le_refl _⟩, ⟨by first | exact Kd.S_nil _ _ _ _ _ | exact Kd.N_nil _ _ _ _ _ | exact Kd.V_nil _ _ _ _ _ | exact Kd.Q_nil _ _ _ _ _ | exact Kd.R_nil _ _ _ _ _⟩, ⟨bU HB.out⟩⟩
    case round =>
      clear H'
      try clear p2
      try clear c3
      try clear c3b0
      try clear c3b1
      try clear c6
      try clear p2
      obtain ⟨x4_2, x24_2, rfl, HA, HK2, HO_4, HB⟩ := hrel
      cases gk with
      | zero => exact absurd HA.out (by simp [name_build.l0])
      | succ k2 =>
        have H := HA.out
        clear HA
        simp only [name_build.l0] at H
        by_cases c7 : x24_2 < (l0.length : Int)
        rotate_left
        · rw [if_neg c7] at H
          have c7b0 : decide (x24_2 < (l0.length : Int)) = false := decide_eq_false c7
          clear c7
          replace H := Option.bind_eq_some_iff.mp H
          obtain ⟨⟨t361, t362⟩, A410, H⟩ := H
          replace H : (some (t361, t362)) = some (r1, r2) := H
          have A41 := Aside0.mk A410
          clear A410
          simp only [Option.some.injEq, Prod.mk.injEq] at H
          obtain ⟨rfl, rfl⟩ := H
          obtain ⟨Ao42, co42, eo42⟩ := Kd.S_slice HO_4.out
          subst eo42
          go_wp2_with (first | ((with_reducible refine gate_callee (f := 152) rfl ?_); refine goesL_ (some 78) rfl rfl Tryz.func152 (by kernel_rfl) rfl #[.int .i64 16, .slice Ao42 x4_2.length co42] rfl (by (try simp only [List.map_toArray, List.map_cons, List.map_nil]); first | done | rfl | (simp only [List.length_drop, List.length_take]; rfl)) ?_; (with_reducible refine (name_about.calls k2 16 _ _ x4_2 t361 t362 _ ?side1 ?side2 A41.out).mono ?_); (case side1 => exact Kd.C_u (Kd.S_reads' HO_4.out).2.2); (case side2 => exact (Kd.S_reads' HO_4.out).2.1); rintro e w43 ⟨v363, ev_, rfl, hev_, ho0, hb⟩; skip; have HEV_ := Aside0.mk hev_; clear hev_; refine ⟨_, rfl, ?_⟩; have n0_ := Aside0.mk (Kd.S_elder' (Kd.S_u HO_4.out) (Kd.R_base ho0) hb); have n1_ := Aside0.mk (Kd.R_lower ho0 (below_size (bU HB.out))); have n2_ := Aside0.mk (below_step (bU HB.out) hb); clear HO_4; clear HB; have HO_4 := n0_; have HO364 := n1_; have HB := n2_; clear n0_ n1_ n2_; (try clear hb); (try clear hb2); (try clear hk); (try clear hi); (try clear ho0)))
          go_ret2
          exact ⟨_, _, by first | rfl | (simp [errW_none, errW_some] <;> rfl) | (simp [*, errW_none, errW_some] <;> rfl), (by first | exact EV.nil | exact EV.f30 | exact EV.f5 | exact EV.f4 | exact EV.f1 | exact EV.low (by assumption) | exact EV.part EV.f5 | exact EV.part EV.f4 | exact EV.part EV.f30 | exact EV.part EV.f1 | exact HEV_.out | exact EV.part HEV_.out), by (with_reducible repeat (first | apply Kd.R_alloc | apply Kd.R_drewN | apply Kd.R_drew)); exact HO364.out, bU HB.out⟩
        rw [if_pos c7] at H
        have c7b0 : decide (x24_2 < (l0.length : Int)) = true := decide_eq_true c7
        clear c7
        by_cases c8 : 0 ≤ x24_2
        rotate_left
        · rw [if_neg c8] at H
          exact absurd H (by simp)
        rw [if_pos c8] at H
        have c8b0 : decide (0 ≤ x24_2) = true := decide_eq_true c8
        clear c8
        by_cases c9 : x24_2 < (l0.length : Int)
        rotate_left
        · rw [if_neg c9] at H
          exact absurd H (by simp)
        rw [if_pos c9] at H
        have c9b0 : decide (x24_2 < (l0.length : Int)) = true := decide_eq_true c9
        clear c9
        by_cases c10 : ((rd_L5 l0 x24_2).length : Int) = 0
        · rw [if_pos c10] at H
          have c10b0 : (((rd_L5 l0 x24_2).length : Int) == 0) = true := beq_iff_eq.mpr c10
          have c10b1 : (((rd_L5 l0 x24_2).length : Int) != 0) = false := bne_eq_false_iff_eq.mpr c10
          clear c10
          simp only [Option.some.injEq, Prod.mk.injEq] at H
          obtain ⟨rfl, rfl⟩ := H
          have p365 : 0 ≤ (x24_2 : Int) := of_decide_eq_true (by first | (with_reducible assumption) | assumption)
          have q365 : x24_2 < (l0.length : Int) := of_decide_eq_true (by first | (with_reducible assumption) | assumption)
          obtain ⟨ad365, A365_0, c365_0, e365, hx365_0, hl365_0, hi365_0⟩ := at_L5 HR0.out x24_2 p365 q365
          cases e365
          replace hx365_0 := (HB.out.cell (World.block_lt_of_cell? w _ hx365_0)).trans hx365_0
          have HR365_0 := Aside0.mk hi365_0
          have HC365_0 := Aside0.mk hl365_0
          clear hi365_0 hl365_0
          replace p365 := eq_true p365
          replace q365 := eq_true q365
          go_wp2
          go_ret2
          exact ⟨_, _, by first | rfl | (simp [errW_none, errW_some] <;> rfl) | (simp [*, errW_none, errW_some] <;> rfl), (by first | exact EV.nil | exact EV.f30 | exact EV.f5 | exact EV.f4 | exact EV.f1 | exact EV.low (by assumption) | exact EV.part EV.f5 | exact EV.part EV.f4 | exact EV.part EV.f30 | exact EV.part EV.f1 | exact HEV_.out | exact EV.part HEV_.out), by first | exact Kd.R_nil _ _ _ _ _ | exact Kd.N_nil _ _ _ _ _ | exact Kd.V_nil _ _ _ _ _ | exact Kd.Q_nil _ _ _ _ _ | exact Kd.S_nil _ _ _ _ _, bU HB.out⟩
        rw [if_neg c10] at H
        have c10b0 : (((rd_L5 l0 x24_2).length : Int) == 0) = false := beq_eq_false_iff_ne.mpr c10
        have c10b1 : (((rd_L5 l0 x24_2).length : Int) != 0) = true := bne_iff_ne.mpr c10
        have c10b2 : ¬ ((rd_L5 l0 x24_2) = []) := fun h_ => c10 (by rw [h_]; rfl)
        have H' := Aside0.mk H
        clear H
        have p365 : 0 ≤ (x24_2 : Int) := of_decide_eq_true (by first | (with_reducible assumption) | assumption)
        have q365 : x24_2 < (l0.length : Int) := of_decide_eq_true (by first | (with_reducible assumption) | assumption)
        obtain ⟨ad365, A365_0, c365_0, e365, hx365_0, hl365_0, hi365_0⟩ := at_L5 HR0.out x24_2 p365 q365
        cases e365
        replace hx365_0 := (HB.out.cell (World.block_lt_of_cell? w _ hx365_0)).trans hx365_0
        have HR365_0 := Aside0.mk hi365_0
        have HC365_0 := Aside0.mk hl365_0
        clear hi365_0 hl365_0
        replace p365 := eq_true p365
        replace q365 := eq_true q365
        go_wp2
        go_loopg [7, 38] k2 (fun kq v7 v38 w' => ∃ (x7_3 : List (List Int)) (x38_3 : Int), v38 = .int .i64 x38_3 ∧ Aside0 (name_build.l1 kq x4_2 x7_3 l0 (l0.length : Int) x24_2 (rd_L5 l0 x24_2) ((rd_L5 l0 x24_2).length : Int) x38_3 = some (r1, r2)) ∧ Aside0 (kq ≤ k2) ∧ Aside0 (Kd.S (Kd.slice 5 (Kd.int .u8)) 22 w' w.heap.size (fun k_ => some k_ ≠ (v7 : Value).ownBlock) u4 x4_2) ∧ Aside0 (Kd.S (Kd.slice 5 (Kd.int .u8)) 22 w' w.heap.size (fun k_ => some k_ ≠ (u4 : Value).ownBlock) v7 x7_3) ∧ Aside0 (Below w.heap.size w w'))
        case atStart => exact ⟨(([] : List (List Int))), (0), (by first | rfl | (simp; done) | (simp [*]; done)), H', ⟨Nat.le_refl _⟩, ⟨Kd.S_u (Kd.S_mono HO_4.out (fun _ hk => (by simp [Value.ownBlock])))⟩, ⟨by first | exact Kd.S_nil _ _ _ _ _ | exact Kd.N_nil _ _ _ _ _ | exact Kd.V_nil _ _ _ _ _ | exact Kd.Q_nil _ _ _ _ _ | exact Kd.R_nil _ _ _ _ _⟩, ⟨bU HB.out⟩⟩
        case round =>
          clear H'
          try clear c1
          try clear p2
          try clear c3
          try clear c3b0
          try clear c3b1
          try clear p3
          try clear q3
          try clear hx3
          try clear c6
          try clear c7
          try clear c7b0
          try clear c8
          try clear c8b0
          try clear c9
          try clear c9b0
          try clear c10
          try clear c10b0
          try clear c10b1
          try clear c10b2
          try clear hx365_0
          try clear p2
          try clear p365
          try clear q365
          obtain ⟨x7_3, x38_3, rfl, HA, HK3, HO_4, HO_7, HB⟩ := hrel
          cases gk with
          | zero => exact absurd HA.out (by simp [name_build.l1])
          | succ k3 =>
            have H := HA.out
            clear HA
            simp only [name_build.l1] at H
            by_cases c11 : x38_3 < ((rd_L5 l0 x24_2).length : Int)
            rotate_left
            · rw [if_neg c11] at H
              have c11b0 : decide (x38_3 < ((rd_L5 l0 x24_2).length : Int)) = false := decide_eq_false c11
              clear c11
              replace H := Option.bind_eq_some_iff.mp H
              obtain ⟨y7, A290, H⟩ := H
              replace H : ((name_about.f k3 17 y7).bind fun bt375 => (if bt375.2 = 0 then (if x4_2.length < 5864062014805 then (name_build.l0 k3 (x4_2 ++ [bt375.1]) l0 (l0.length : Int) (wrap64 (x24_2 + 1))) else (none)) else (some (([] : List Int), bt375.2)))) = some (r1, r2) := H
              have A29 := Aside0.mk A290
              have YL := Aside0.mk (sortfunc_len A290)
              clear A290
              replace H := Option.bind_eq_some_iff.mp H
              obtain ⟨⟨t375, t376⟩, A300, H⟩ := H
              replace H : (if t376 = 0 then (if x4_2.length < 5864062014805 then (name_build.l0 k3 (x4_2 ++ [t375]) l0 (l0.length : Int) (wrap64 (x24_2 + 1))) else (none)) else (some (([] : List Int), t376))) = some (r1, r2) := H
              have A30 := Aside0.mk A300
              clear A300
              by_cases c31 : t376 = 0
              rotate_left
              · rw [if_neg c31] at H
                have c31b0 : (t376 == 0) = false := beq_eq_false_iff_ne.mpr c31
                have c31b1 : (t376 != 0) = true := bne_iff_ne.mpr c31
                simp only [Option.some.injEq, Prod.mk.injEq] at H
                obtain ⟨rfl, rfl⟩ := H
                obtain ⟨Ao38, co38, eo38⟩ := Kd.S_slice HO_7.out
                subst eo38
                go_wp2_with (first | ((with_reducible refine gate_callee (f := 150) rfl ?_); refine goesL_ (some 60) rfl rfl Tryz.func150 (by kernel_rfl) rfl #[.slice Ao38 x7_3.length co38, .func (.func 151) #[] #[]] rfl (by (try simp only [List.map_toArray, List.map_cons, List.map_nil]); first | done | rfl | (simp only [List.length_drop, List.length_take]; rfl)) ?_; (with_reducible refine (sortfunc_own w _ x7_3 y7 ?ok_ _ ?side1 ?side2 A29.out).mono ?_); (case side1 => exact (Kd.S_R (by (with_reducible repeat (first | apply Kd.S_alloc | apply Kd.S_drewN | apply Kd.S_drew)); exact HO_7.out))); (case side2 => exact (by repeat (first | (with_reducible first | exact HB.out | apply below_alloc | apply pw_below_drewN | apply below_drew1) | exact HB.out))); rintro e w39 ⟨rfl, hsr, hgr_, hb⟩; refine ⟨_, rfl, ?_⟩; have n0_ := Aside0.mk (Kd.S_grown (by (with_reducible repeat (first | apply Kd.S_alloc | apply Kd.S_drewN | apply Kd.S_drew)); exact HO_4.out) hgr_ (fun _ hk => hk)); have n1_ := Aside0.mk hsr; have n2_ := Aside0.mk hb; clear hsr hgr_; clear HO_4; clear HO_7; clear HB; have HO_4 := n0_; have HO_7 := n1_; have HB := n2_; clear n0_ n1_ n2_; (try clear hb); (try clear hb2); (try clear hk); (try clear hi)) | ((with_reducible refine gate_callee (f := 152) rfl ?_); refine goesL_ (some 63) rfl rfl Tryz.func152 (by kernel_rfl) rfl #[.int .i64 17, .slice Ao38 x7_3.length co38] rfl (by (try simp only [List.map_toArray, List.map_cons, List.map_nil]); first | done | rfl | (simp only [List.length_drop, List.length_take]; rfl)) ?_; (rw [YL.out]); (with_reducible refine (name_about.calls k3 17 _ _ y7 t375 t376 _ ?side1 ?side2 A30.out).mono ?_); (case side1 => repeat (first | exact (Kd.R_reads' HO_7.out).2.2 | (with_reducible refine Kd.C_alloc ?_ _) | (with_reducible refine Kd.C_drewN ?_ _) | (with_reducible refine Kd.C_drew ?_))); (case side2 => rw [← YL.out]; exact (Kd.R_reads' HO_7.out).2.1); rintro e w40 ⟨v377, ev_, rfl, hev_, ho0, hb⟩; obtain ⟨et_, eu_, rfl⟩ := EV.some_of hev_ c31b0; have HEV_ := Aside0.mk hev_; clear hev_; refine ⟨_, rfl, ?_⟩; have n0_ := Aside0.mk (Kd.S_elder' (by (with_reducible repeat (first | apply Kd.S_alloc | apply Kd.S_drewN | apply Kd.S_drew)); exact HO_4.out) (Kd.R_base ho0) hb); have n1_ := Aside0.mk (Kd.R_elder' (by (with_reducible repeat (first | apply Kd.R_alloc | apply Kd.R_drewN | apply Kd.R_drew)); exact HO_7.out) (Kd.R_base ho0) hb); have n2_ := Aside0.mk (Kd.R_lower ho0 (below_size (by repeat (first | (with_reducible first | exact HB.out | apply below_alloc | apply pw_below_drewN | apply below_drew1) | exact HB.out)))); have n3_ := Aside0.mk (below_step (by repeat (first | (with_reducible first | exact HB.out | apply below_alloc | apply pw_below_drewN | apply below_drew1) | exact HB.out)) hb); clear HO_4; clear HO_7; clear HB; have HO_4 := n0_; have HO_7 := n1_; have HO378 := n2_; have HB := n3_; clear n0_ n1_ n2_ n3_; (try clear hb); (try clear hb2); (try clear hk); (try clear hi); (try clear ho0)))
                go_ret2
                exact ⟨_, _, by first | rfl | (simp [errW_none, errW_some] <;> rfl) | (simp [*, errW_none, errW_some] <;> rfl), (by first | exact EV.nil | exact EV.f30 | exact EV.f5 | exact EV.f4 | exact EV.f1 | exact EV.low (by assumption) | exact EV.part EV.f5 | exact EV.part EV.f4 | exact EV.part EV.f30 | exact EV.part EV.f1 | exact HEV_.out | exact EV.part HEV_.out), by first | exact Kd.R_nil _ _ _ _ _ | exact Kd.N_nil _ _ _ _ _ | exact Kd.V_nil _ _ _ _ _ | exact Kd.Q_nil _ _ _ _ _ | exact Kd.S_nil _ _ _ _ _, bU HB.out⟩
              rw [if_pos c31] at H
              have c31b0 : (t376 == 0) = true := beq_iff_eq.mpr c31
              have c31b1 : (t376 != 0) = false := bne_eq_false_iff_eq.mpr c31
              clear c31
              by_cases c32 : x4_2.length < 5864062014805
              rotate_left
              · rw [if_neg c32] at H
                exact absurd H (by simp)
              rw [if_pos c32] at H
              have LMc32 := Aside0.mk c32
              clear c32
              obtain ⟨y379, hy379⟩ : ∃ y_ : List (List Int), y_ = (x4_2 ++ [t375]) := ⟨_, rfl⟩
              replace H : (name_build.l0 k3 y379 l0 (l0.length : Int) (wrap64 (x24_2 + 1))) = some (r1, r2) := by first | (rw [hy379]; with_reducible exact H) | (have H2_ := (Option.bind_some _ _).symm.trans H; rw [hy379]; with_reducible exact H2_) | (have H2_ := (Option.bind_some _ _).symm.trans H; with_reducible exact H2_) | with_reducible exact H | (rw [hy379]; exact H) | exact H
              have Ny379 := Aside0.mk hy379
              clear hy379
              have H' := Aside0.mk H
              clear H
              obtain ⟨Ao33, co33, eo33⟩ := Kd.S_slice HO_7.out
              subst eo33
              go_wp2_with (first | ((with_reducible refine gate_callee (f := 150) rfl ?_); refine goesL_ (some 60) rfl rfl Tryz.func150 (by kernel_rfl) rfl #[.slice Ao33 x7_3.length co33, .func (.func 151) #[] #[]] rfl (by (try simp only [List.map_toArray, List.map_cons, List.map_nil]); first | done | rfl | (simp only [List.length_drop, List.length_take]; rfl)) ?_; (with_reducible refine (sortfunc_own w _ x7_3 y7 ?ok_ _ ?side1 ?side2 A29.out).mono ?_); (case side1 => exact (Kd.S_R (by (with_reducible repeat (first | apply Kd.S_alloc | apply Kd.S_drewN | apply Kd.S_drew)); exact HO_7.out))); (case side2 => exact (by repeat (first | (with_reducible first | exact HB.out | apply below_alloc | apply pw_below_drewN | apply below_drew1) | exact HB.out))); rintro e w34 ⟨rfl, hsr, hgr_, hb⟩; refine ⟨_, rfl, ?_⟩; have n0_ := Aside0.mk (Kd.S_grown (by (with_reducible repeat (first | apply Kd.S_alloc | apply Kd.S_drewN | apply Kd.S_drew)); exact HO_4.out) hgr_ (fun _ hk => hk)); have n1_ := Aside0.mk hsr; have n2_ := Aside0.mk hb; clear hsr hgr_; clear HO_4; clear HO_7; clear HB; have HO_4 := n0_; have HO_7 := n1_; have HB := n2_; clear n0_ n1_ n2_; (try clear hb); (try clear hb2); (try clear hk); (try clear hi)) | ((with_reducible refine gate_callee (f := 152) rfl ?_); refine goesL_ (some 63) rfl rfl Tryz.func152 (by kernel_rfl) rfl #[.int .i64 17, .slice Ao33 x7_3.length co33] rfl (by (try simp only [List.map_toArray, List.map_cons, List.map_nil]); first | done | rfl | (simp only [List.length_drop, List.length_take]; rfl)) ?_; (rw [YL.out]); (with_reducible refine (name_about.calls k3 17 _ _ y7 t375 t376 _ ?side1 ?side2 A30.out).mono ?_); (case side1 => repeat (first | exact (Kd.R_reads' HO_7.out).2.2 | (with_reducible refine Kd.C_alloc ?_ _) | (with_reducible refine Kd.C_drewN ?_ _) | (with_reducible refine Kd.C_drew ?_))); (case side2 => rw [← YL.out]; exact (Kd.R_reads' HO_7.out).2.1); rintro e w35 ⟨v377, ev_, rfl, hev_, ho0, hb⟩; obtain rfl := EV.nil_of hev_ c31b0; have HEV_ := Aside0.mk hev_; clear hev_; refine ⟨_, rfl, ?_⟩; have n0_ := Aside0.mk (Kd.S_elder' (by (with_reducible repeat (first | apply Kd.S_alloc | apply Kd.S_drewN | apply Kd.S_drew)); exact HO_4.out) (Kd.R_base ho0) hb); have n1_ := Aside0.mk (Kd.R_elder' (by (with_reducible repeat (first | apply Kd.R_alloc | apply Kd.R_drewN | apply Kd.R_drew)); exact HO_7.out) (Kd.R_base ho0) hb); have n2_ := Aside0.mk (Kd.R_lower ho0 (below_size (by repeat (first | (with_reducible first | exact HB.out | apply below_alloc | apply pw_below_drewN | apply below_drew1) | exact HB.out)))); have n3_ := Aside0.mk (below_step (by repeat (first | (with_reducible first | exact HB.out | apply below_alloc | apply pw_below_drewN | apply below_drew1) | exact HB.out)) hb); clear HO_4; clear HO_7; clear HB; have HO_4 := n0_; have HO_7 := n1_; have HO378 := n2_; have HB := n3_; clear n0_ n1_ n2_ n3_; (try clear hb); (try clear hb2); (try clear hk); (try clear hi); (try clear ho0); obtain ⟨Ao37, co37, eo37⟩ := Kd.R_slice HO378.out; subst eo37) | ((with_reducible refine gate_builtin (b := .append) (xs := #[.tmp 72, .tmp 74]) rfl ?_); at_builtin; refine Kd.S_append (Kd.slice 5 (Kd.int .u8)) (w0 := w) w.heap.size rfl (.tmp 72) (.tmp 74) 67 22 (.slice none 0 0) 24 rfl Tryz.underlying67 info22 rfl (by decide) (by omega) u4 x4_2 t375 [.slice Ao37 t375.length co37] (fun k_ => some k_ ≠ (.slice Ao33 x7_3.length co33 : Value).ownBlock) (fun k_ => some k_ = (.slice Ao37 t375.length co37 : Value).ownBlock) rfl rfl ?aP (fun k_ hk_ => ((Kd.R_mono (ok' := fun k_ => ((fun k_ => some k_ ≠ (.slice Ao33 x7_3.length co33 : Value).ownBlock)) k_ ∧ some k_ ≠ (u4 : Value).ownBlock) (Kd.R_apart' (Kd.R_apart' (HO378.out) (Kd.R_typed HO_7.out) (by decide)) (Kd.S_typed HO_4.out) (by decide)) (fun k_ hk => ⟨hk.1.2, hk.2⟩))).1 k_ hk_.symm) ?aF ?aO ?aB ?aS ?aL ?_; (case aP => exact Kd.M_row (Kd.R_mono (Kd.R_tight rfl (Kd.R_mono (ok' := fun k_ => ((fun k_ => some k_ ≠ (.slice Ao33 x7_3.length co33 : Value).ownBlock)) k_ ∧ some k_ ≠ (u4 : Value).ownBlock) (Kd.R_apart' (Kd.R_apart' (HO378.out) (Kd.R_typed HO_7.out) (by decide)) (Kd.S_typed HO_4.out) (by decide)) (fun k_ hk => ⟨hk.1.2, hk.2⟩))) (fun _ h_ => h_))); (case aB => exact (by repeat (first | (with_reducible first | exact HB.out | apply below_alloc | apply pw_below_drewN | apply below_drew1) | exact HB.out))); (case aF => exact (fun k_ hk => Kd.fresh' (Kd.R_lt (by (with_reducible repeat (first | apply Kd.R_alloc | apply Kd.R_drewN | apply Kd.R_drew)); exact HO_7.out)) k_ hk)); (case aO => exact (by (with_reducible repeat (first | apply Kd.S_alloc | apply Kd.S_drewN | apply Kd.S_drew)); exact Kd.S_mono HO_4.out (fun k_ hk => ⟨hk.1, fun e_ => hk.2 e_⟩))); (case aS => exact (below_size (by repeat (first | (with_reducible first | exact HB.out | apply below_alloc | apply pw_below_drewN | apply below_drew1) | exact HB.out)))); (case aL => have := LMc32.out; omega); intro v380 w36 ho hb hg hat; rw [← Ny379.out] at ho; have n0_ := Aside0.mk (Kd.R_after (ok := (fun k_ => some k_ ≠ (.slice Ao37 t375.length co37 : Value).ownBlock)) (by (with_reducible repeat (first | apply Kd.R_alloc | apply Kd.R_drewN | apply Kd.R_drew)); exact Kd.R_mono HO_7.out (fun _ hk => ⟨hk.2, hk.1⟩)) hg hat); have n1_ := Aside0.mk (hb); have n2_ := Aside0.mk (ho); clear HO_7; clear HB; clear HO_4; clear HO378; have HO_7 := n0_; have HB := n1_; have HO381 := n2_; clear n0_ n1_ n2_; clear ho hb hg hat))
              go_roundg k3
              case measure => have := HJ1.out; have := HK2.out; have := HK3.out; omega
              case rel => exact ⟨(y379), (wrap64 (x24_2 + 1)), (by first | rfl | (simp; done) | (simp [*]; done)), H', ⟨by have := HJ1.out; have := HK2.out; have := HK3.out; omega⟩, ⟨Kd.S_u (Kd.S_mono HO381.out (fun _ hk => trivial))⟩, ⟨bU HB.out⟩⟩
            rw [if_pos c11] at H
            have c11b0 : decide (x38_3 < ((rd_L5 l0 x24_2).length : Int)) = true := decide_eq_true c11
            clear c11
            by_cases c12 : 0 ≤ x38_3
            rotate_left
            · rw [if_neg c12] at H
              exact absurd H (by simp)
            rw [if_pos c12] at H
            have c12b0 : decide (0 ≤ x38_3) = true := decide_eq_true c12
            clear c12
            by_cases c13 : x38_3 < ((rd_L5 l0 x24_2).length : Int)
            rotate_left
            · rw [if_neg c13] at H
              exact absurd H (by simp)
            rw [if_pos c13] at H
            have c13b0 : decide (x38_3 < ((rd_L5 l0 x24_2).length : Int)) = true := decide_eq_true c13
            clear c13
            replace H := Option.bind_eq_some_iff.mp H
            obtain ⟨⟨t368, t371⟩, A140, H⟩ := H
            replace H : (if t371 = 0 then (if x7_3.length < 5864062014805 then (name_build.l1 k3 x4_2 (x7_3 ++ [t368]) l0 (l0.length : Int) x24_2 (rd_L5 l0 x24_2) ((rd_L5 l0 x24_2).length : Int) (wrap64 (x38_3 + 1))) else (none)) else (some (([] : List Int), t371))) = some (r1, r2) := H
            have A14 := Aside0.mk A140
            clear A140
            by_cases c15 : t371 = 0
            rotate_left
            · rw [if_neg c15] at H
              have c15b0 : (t371 == 0) = false := beq_eq_false_iff_ne.mpr c15
              have c15b1 : (t371 != 0) = true := bne_iff_ne.mpr c15
              simp only [Option.some.injEq, Prod.mk.injEq] at H
              obtain ⟨rfl, rfl⟩ := H
              have p366 : 0 ≤ (x38_3 : Int) := of_decide_eq_true (by first | (with_reducible assumption) | assumption)
              have q366 : x38_3 < ((rd_L5 l0 x24_2).length : Int) := of_decide_eq_true (by first | (with_reducible assumption) | assumption)
              obtain ⟨ad366, A366_2, c366_2, e366, hx366_0, hx366_1, hx366_2, hl366_2, hi366_2⟩ := at_T64 HR365_0.out x38_3 p366 q366
              cases e366
              replace hx366_0 := (HB.out.cell (World.block_lt_of_cell? w _ hx366_0)).trans hx366_0
              replace hx366_1 := (HB.out.cell (World.block_lt_of_cell? w _ hx366_1)).trans hx366_1
              replace hx366_2 := (HB.out.cell (World.block_lt_of_cell? w _ hx366_2)).trans hx366_2
              have HR366_2 := Aside0.mk hi366_2
              have HC366_2 := Aside0.mk hl366_2
              clear hi366_2 hl366_2
              replace p366 := eq_true p366
              replace q366 := eq_true q366
              go_wp2_with (first | ((with_reducible refine gate_dst (N := 9) rfl ?_); refine box_event ?hg (N := 9) ?hd (cs := #[.string (⟨#[]⟩ : ByteArray), .int .i64 0, .slice none 0 0]) (t := 64) ?hr ?_; (case hd => rfl); (case hg => rfl); (case hr => first | (go_simp; done) | (go_simp; rfl)); intro gb367 hg w24 hbox hb; have n0_ := Aside0.mk (Kd.S_below (Kd.S_u HO_4.out) hb); have n1_ := Aside0.mk (Kd.S_below (Kd.S_u HO_7.out) hb); have n2_ := Aside0.mk (below_step (bU HB.out) hb); have n3_ := Aside0.mk (hbox); have n4_ := Aside0.mk ((by rw [hg]; exact (below_size (bU HB.out)) : w.heap.size ≤ gb367)); have n5_ := Aside0.mk ((by rw [hg]; exact (below_size (bU HB.out)) : w.heap.size ≤ gb367)); clear HO_4; clear HO_7; clear HB; have HO_4 := n0_; have HO_7 := n1_; have HB := n2_; have BK367 := n3_; have GW367 := n4_; have GE367 := n5_; clear n0_ n1_ n2_ n3_ n4_ n5_; clear hb hbox hg; have hcz25_0 : w24.cell? ⟨gb367, 0, none⟩ = some (.string (⟨#[]⟩ : ByteArray)) := (blk_cell BK367.out 0).trans rfl; have hcz25_1 : w24.cell? ⟨gb367, 1, none⟩ = some (.int .i64 0) := (blk_cell BK367.out 1).trans rfl; have hcz25_2 : w24.cell? ⟨gb367, 2, none⟩ = some (.slice none 0 0) := (blk_cell BK367.out 2).trans rfl; have hfz25_0 := blk_frozen BK367.out 0; have hfz25_1 := blk_frozen BK367.out 1; have hfz25_2 := blk_frozen BK367.out 2) | ((with_reducible refine gate_store (t := 64) (p := 9) rfl ?_); refine store_event (t := 64) (p := 9) (v := ?vo_w26) (w1 := (((w24.setCell ⟨gb367, 0, none⟩ (.string ((rd_T64 (rd_L5 l0 x24_2) x38_3).f0))).setCell ⟨gb367, 1, none⟩ (.int .i64 ((rd_T64 (rd_L5 l0 x24_2) x38_3).f1))).setCell ⟨gb367, 2, none⟩ (.slice A366_2 ((rd_T64 (rd_L5 l0 x24_2) x38_3).f2).length c366_2))) ?hg ?ho ?hn ?hr ?_; (case ho => rfl); (case hg => rfl); (case hn => rfl); (case hr => first | (go_simp; done) | (go_simp; rfl)); intro w26 hw; have n0_ : Aside0 (Kd.S (Kd.slice 5 (Kd.int .u8)) 22 w26 w.heap.size (fun k_ => some k_ ≠ (u7 : Value).ownBlock) u4 x4_2) := ⟨(by rw [hw]; exact (Kd.S_u (Kd.S_mono (Kd.S_far (p := ⟨gb367, 2, none⟩) (Kd.S_far (p := ⟨gb367, 1, none⟩) (Kd.S_far (p := ⟨gb367, 0, none⟩) (Kd.S_types HO_4.out BK367.out (by decide)) (fun _ hk => hk.2) (.string ((rd_T64 (rd_L5 l0 x24_2) x38_3).f0))) (fun _ hk => hk.2) (.int .i64 ((rd_T64 (rd_L5 l0 x24_2) x38_3).f1))) (fun _ hk => hk.2) (.slice A366_2 ((rd_T64 (rd_L5 l0 x24_2) x38_3).f2).length c366_2)) (fun _ hk => hk.1))))⟩; have n1_ : Aside0 (Kd.S (Kd.slice 5 (Kd.int .u8)) 22 w26 w.heap.size (fun k_ => some k_ ≠ (u4 : Value).ownBlock) u7 x7_3) := ⟨(by rw [hw]; exact (Kd.S_u (Kd.S_mono (Kd.S_far (p := ⟨gb367, 2, none⟩) (Kd.S_far (p := ⟨gb367, 1, none⟩) (Kd.S_far (p := ⟨gb367, 0, none⟩) (Kd.S_types HO_7.out BK367.out (by decide)) (fun _ hk => hk.2) (.string ((rd_T64 (rd_L5 l0 x24_2) x38_3).f0))) (fun _ hk => hk.2) (.int .i64 ((rd_T64 (rd_L5 l0 x24_2) x38_3).f1))) (fun _ hk => hk.2) (.slice A366_2 ((rd_T64 (rd_L5 l0 x24_2) x38_3).f2).length c366_2)) (fun _ hk => hk.1))))⟩; have n2_ : Aside0 (w26.heap[gb367]? = some (.cells #[.string ((rd_T64 (rd_L5 l0 x24_2) x38_3).f0), .int .i64 ((rd_T64 (rd_L5 l0 x24_2) x38_3).f1), .slice A366_2 ((rd_T64 (rd_L5 l0 x24_2) x38_3).f2).length c366_2] 64 (0, 0))) := ⟨(by rw [hw]; exact (by (with_reducible repeat (first | refine blk_drewN ?_ _ | refine blk_drew ?_ | refine blk_alloc ?_ _)); refine blk_put (cs := #[.string ((rd_T64 (rd_L5 l0 x24_2) x38_3).f0), .int .i64 ((rd_T64 (rd_L5 l0 x24_2) x38_3).f1), .slice none 0 0]) ?_ 2 _ rfl; (with_reducible repeat (first | refine blk_drewN ?_ _ | refine blk_drew ?_ | refine blk_alloc ?_ _)); refine blk_put (cs := #[.string ((rd_T64 (rd_L5 l0 x24_2) x38_3).f0), .int .i64 0, .slice none 0 0]) ?_ 1 _ rfl; (with_reducible repeat (first | refine blk_drewN ?_ _ | refine blk_drew ?_ | refine blk_alloc ?_ _)); refine blk_put (cs := #[.string (⟨#[]⟩ : ByteArray), .int .i64 0, .slice none 0 0]) ?_ 0 _ rfl; (with_reducible repeat (first | refine blk_drewN ?_ _ | refine blk_drew ?_ | refine blk_alloc ?_ _)); exact BK367.out))⟩; have n3_ : Aside0 (Below w.heap.size w w26) := ⟨(by rw [hw]; exact (by repeat (first | (with_reducible first | exact HB.out | apply below_alloc | apply pw_below_drewN | apply below_drew1 | refine below_set ?_ GE367.out) | exact HB.out)))⟩; clear hw; clear HO_4; clear HO_7; clear BK367; clear HB; have HO_4 := n0_; have HO_7 := n1_; have BK367 := n2_; have HB := n3_; clear n0_ n1_ n2_ n3_; have hcz27_0 : w26.cell? ⟨gb367, 0, none⟩ = some (.string ((rd_T64 (rd_L5 l0 x24_2) x38_3).f0)) := (blk_cell BK367.out 0).trans rfl; have hcz27_1 : w26.cell? ⟨gb367, 1, none⟩ = some (.int .i64 ((rd_T64 (rd_L5 l0 x24_2) x38_3).f1)) := (blk_cell BK367.out 1).trans rfl; have hcz27_2 : w26.cell? ⟨gb367, 2, none⟩ = some (.slice A366_2 ((rd_T64 (rd_L5 l0 x24_2) x38_3).f2).length c366_2) := (blk_cell BK367.out 2).trans rfl; have hfz27_0 := blk_frozen BK367.out 0; have hfz27_1 := blk_frozen BK367.out 1; have hfz27_2 := blk_frozen BK367.out 2) | ((with_reducible refine gate_callee (f := 149) rfl ?_); refine goesL_ (some 45) rfl rfl Tryz.func149 (by kernel_rfl) rfl #[.agg #[.string ((rd_T64 (rd_L5 l0 x24_2) x38_3).f0), .int .i64 ((rd_T64 (rd_L5 l0 x24_2) x38_3).f1), .slice A366_2 ((rd_T64 (rd_L5 l0 x24_2) x38_3).f2).length c366_2]] rfl (by (try simp only [List.map_toArray, List.map_cons, List.map_nil]); first | done | rfl | (simp only [List.length_drop, List.length_take]; rfl)) ?_; (with_reducible refine (name_lay.calls k3 ((rd_T64 (rd_L5 l0 x24_2) x38_3).f0) ((rd_T64 (rd_L5 l0 x24_2) x38_3).f1) (fun k_ => k_ < w.heap.size) _ _ ((rd_T64 (rd_L5 l0 x24_2) x38_3).f2) t368 t371 _ ?side1 A14.out).mono ?_); (case side1 => exact Kd.V_mk HC366_2.out (Kd.F_below (Kd.C_F (Kd.heap_int .u8) HR366_2.out) (by repeat (first | (with_reducible first | exact HB.out | apply below_alloc | apply pw_below_drewN | apply below_drew1 | refine below_set ?_ GE367.out) | exact HB.out)))); rintro e w28 ⟨v369, ev_, rfl, hev_, ho0, hb⟩; obtain ⟨et_, eu_, rfl⟩ := EV.some_of hev_ c15b0; have HEV_ := Aside0.mk hev_; clear hev_; refine ⟨_, rfl, ?_⟩; have n0_ := Aside0.mk (Kd.S_elder' (Kd.S_u HO_4.out) (Kd.R_base ho0) hb); have n1_ := Aside0.mk (Kd.S_elder' (Kd.S_u HO_7.out) (Kd.R_base ho0) hb); have n2_ := Aside0.mk (Kd.R_lower (Kd.R_mono (ok' := fun k_ => True) ho0 (fun _ hk_ => trivial)) (below_size (by repeat (first | (with_reducible first | exact HB.out | apply below_alloc | apply pw_below_drewN | apply below_drew1 | refine below_set ?_ GE367.out) | exact HB.out)))); have n3_ := Aside0.mk (blk_below (g := gb367) (o := .cells #[.string ((rd_T64 (rd_L5 l0 x24_2) x38_3).f0), .int .i64 ((rd_T64 (rd_L5 l0 x24_2) x38_3).f1), .slice A366_2 ((rd_T64 (rd_L5 l0 x24_2) x38_3).f2).length c366_2] 64 (0, 0)) (by (with_reducible repeat (first | refine blk_drewN ?_ _ | refine blk_drew ?_ | refine blk_alloc ?_ _)); exact BK367.out) hb); have n4_ := Aside0.mk (below_step (by repeat (first | (with_reducible first | exact HB.out | apply below_alloc | apply pw_below_drewN | apply below_drew1 | refine below_set ?_ GE367.out) | exact HB.out)) hb); clear HO_4; clear HO_7; clear BK367; clear HB; have HO_4 := n0_; have HO_7 := n1_; have HO370 := n2_; have BK367 := n3_; have HB := n4_; clear n0_ n1_ n2_ n3_ n4_; (try clear hb); (try clear hb2); (try clear hk); (try clear hi); (try clear ho0)))
              go_ret2
              exact ⟨_, _, by first | rfl | (simp [errW_none, errW_some] <;> rfl) | (simp [*, errW_none, errW_some] <;> rfl), (by first | exact EV.nil | exact EV.f30 | exact EV.f5 | exact EV.f4 | exact EV.f1 | exact EV.low (by assumption) | exact EV.part EV.f5 | exact EV.part EV.f4 | exact EV.part EV.f30 | exact EV.part EV.f1 | exact HEV_.out | exact EV.part HEV_.out), by first | exact Kd.R_nil _ _ _ _ _ | exact Kd.N_nil _ _ _ _ _ | exact Kd.V_nil _ _ _ _ _ | exact Kd.Q_nil _ _ _ _ _ | exact Kd.S_nil _ _ _ _ _, by repeat (first | (with_reducible first | exact HB.out | apply below_alloc | apply pw_below_drewN | apply below_drew1 | refine below_set ?_ GE367.out) | exact HB.out)⟩
            rw [if_pos c15] at H
            have c15b0 : (t371 == 0) = true := beq_iff_eq.mpr c15
            have c15b1 : (t371 != 0) = false := bne_eq_false_iff_eq.mpr c15
            clear c15
            by_cases c16 : x7_3.length < 5864062014805
            rotate_left
            · rw [if_neg c16] at H
              exact absurd H (by simp)
            rw [if_pos c16] at H
            have LMc16 := Aside0.mk c16
            clear c16
            obtain ⟨y372, hy372⟩ : ∃ y_ : List (List Int), y_ = (x7_3 ++ [t368]) := ⟨_, rfl⟩
            replace H : (name_build.l1 k3 x4_2 y372 l0 (l0.length : Int) x24_2 (rd_L5 l0 x24_2) ((rd_L5 l0 x24_2).length : Int) (wrap64 (x38_3 + 1))) = some (r1, r2) := by first | (rw [hy372]; with_reducible exact H) | (have H2_ := (Option.bind_some _ _).symm.trans H; rw [hy372]; with_reducible exact H2_) | (have H2_ := (Option.bind_some _ _).symm.trans H; with_reducible exact H2_) | with_reducible exact H | (rw [hy372]; exact H) | exact H
            have Ny372 := Aside0.mk hy372
            clear hy372
            have H' := Aside0.mk H
            clear H
            have p366 : 0 ≤ (x38_3 : Int) := of_decide_eq_true (by first | (with_reducible assumption) | assumption)
            have q366 : x38_3 < ((rd_L5 l0 x24_2).length : Int) := of_decide_eq_true (by first | (with_reducible assumption) | assumption)
            obtain ⟨ad366, A366_2, c366_2, e366, hx366_0, hx366_1, hx366_2, hl366_2, hi366_2⟩ := at_T64 HR365_0.out x38_3 p366 q366
            cases e366
            replace hx366_0 := (HB.out.cell (World.block_lt_of_cell? w _ hx366_0)).trans hx366_0
            replace hx366_1 := (HB.out.cell (World.block_lt_of_cell? w _ hx366_1)).trans hx366_1
            replace hx366_2 := (HB.out.cell (World.block_lt_of_cell? w _ hx366_2)).trans hx366_2
            have HR366_2 := Aside0.mk hi366_2
            have HC366_2 := Aside0.mk hl366_2
            clear hi366_2 hl366_2
            replace p366 := eq_true p366
            replace q366 := eq_true q366
            go_wp2_with (first | ((with_reducible refine gate_dst (N := 9) rfl ?_); refine box_event ?hg (N := 9) ?hd (cs := #[.string (⟨#[]⟩ : ByteArray), .int .i64 0, .slice none 0 0]) (t := 64) ?hr ?_; (case hd => rfl); (case hg => rfl); (case hr => first | (go_simp; done) | (go_simp; rfl)); intro gb367 hg w17 hbox hb; have n0_ := Aside0.mk (Kd.S_below (Kd.S_u HO_4.out) hb); have n1_ := Aside0.mk (Kd.S_below (Kd.S_u HO_7.out) hb); have n2_ := Aside0.mk (below_step (bU HB.out) hb); have n3_ := Aside0.mk (hbox); have n4_ := Aside0.mk ((by rw [hg]; exact (below_size (bU HB.out)) : w.heap.size ≤ gb367)); have n5_ := Aside0.mk ((by rw [hg]; exact (below_size (bU HB.out)) : w.heap.size ≤ gb367)); clear HO_4; clear HO_7; clear HB; have HO_4 := n0_; have HO_7 := n1_; have HB := n2_; have BK367 := n3_; have GW367 := n4_; have GE367 := n5_; clear n0_ n1_ n2_ n3_ n4_ n5_; clear hb hbox hg; have hcz18_0 : w17.cell? ⟨gb367, 0, none⟩ = some (.string (⟨#[]⟩ : ByteArray)) := (blk_cell BK367.out 0).trans rfl; have hcz18_1 : w17.cell? ⟨gb367, 1, none⟩ = some (.int .i64 0) := (blk_cell BK367.out 1).trans rfl; have hcz18_2 : w17.cell? ⟨gb367, 2, none⟩ = some (.slice none 0 0) := (blk_cell BK367.out 2).trans rfl; have hfz18_0 := blk_frozen BK367.out 0; have hfz18_1 := blk_frozen BK367.out 1; have hfz18_2 := blk_frozen BK367.out 2) | ((with_reducible refine gate_store (t := 64) (p := 9) rfl ?_); refine store_event (t := 64) (p := 9) (v := ?vo_w19) (w1 := (((w17.setCell ⟨gb367, 0, none⟩ (.string ((rd_T64 (rd_L5 l0 x24_2) x38_3).f0))).setCell ⟨gb367, 1, none⟩ (.int .i64 ((rd_T64 (rd_L5 l0 x24_2) x38_3).f1))).setCell ⟨gb367, 2, none⟩ (.slice A366_2 ((rd_T64 (rd_L5 l0 x24_2) x38_3).f2).length c366_2))) ?hg ?ho ?hn ?hr ?_; (case ho => rfl); (case hg => rfl); (case hn => rfl); (case hr => first | (go_simp; done) | (go_simp; rfl)); intro w19 hw; have n0_ : Aside0 (Kd.S (Kd.slice 5 (Kd.int .u8)) 22 w19 w.heap.size (fun k_ => some k_ ≠ (u7 : Value).ownBlock) u4 x4_2) := ⟨(by rw [hw]; exact (Kd.S_u (Kd.S_mono (Kd.S_far (p := ⟨gb367, 2, none⟩) (Kd.S_far (p := ⟨gb367, 1, none⟩) (Kd.S_far (p := ⟨gb367, 0, none⟩) (Kd.S_types HO_4.out BK367.out (by decide)) (fun _ hk => hk.2) (.string ((rd_T64 (rd_L5 l0 x24_2) x38_3).f0))) (fun _ hk => hk.2) (.int .i64 ((rd_T64 (rd_L5 l0 x24_2) x38_3).f1))) (fun _ hk => hk.2) (.slice A366_2 ((rd_T64 (rd_L5 l0 x24_2) x38_3).f2).length c366_2)) (fun _ hk => hk.1))))⟩; have n1_ : Aside0 (Kd.S (Kd.slice 5 (Kd.int .u8)) 22 w19 w.heap.size (fun k_ => some k_ ≠ (u4 : Value).ownBlock) u7 x7_3) := ⟨(by rw [hw]; exact (Kd.S_u (Kd.S_mono (Kd.S_far (p := ⟨gb367, 2, none⟩) (Kd.S_far (p := ⟨gb367, 1, none⟩) (Kd.S_far (p := ⟨gb367, 0, none⟩) (Kd.S_types HO_7.out BK367.out (by decide)) (fun _ hk => hk.2) (.string ((rd_T64 (rd_L5 l0 x24_2) x38_3).f0))) (fun _ hk => hk.2) (.int .i64 ((rd_T64 (rd_L5 l0 x24_2) x38_3).f1))) (fun _ hk => hk.2) (.slice A366_2 ((rd_T64 (rd_L5 l0 x24_2) x38_3).f2).length c366_2)) (fun _ hk => hk.1))))⟩; have n2_ : Aside0 (w19.heap[gb367]? = some (.cells #[.string ((rd_T64 (rd_L5 l0 x24_2) x38_3).f0), .int .i64 ((rd_T64 (rd_L5 l0 x24_2) x38_3).f1), .slice A366_2 ((rd_T64 (rd_L5 l0 x24_2) x38_3).f2).length c366_2] 64 (0, 0))) := ⟨(by rw [hw]; exact (by (with_reducible repeat (first | refine blk_drewN ?_ _ | refine blk_drew ?_ | refine blk_alloc ?_ _)); refine blk_put (cs := #[.string ((rd_T64 (rd_L5 l0 x24_2) x38_3).f0), .int .i64 ((rd_T64 (rd_L5 l0 x24_2) x38_3).f1), .slice none 0 0]) ?_ 2 _ rfl; (with_reducible repeat (first | refine blk_drewN ?_ _ | refine blk_drew ?_ | refine blk_alloc ?_ _)); refine blk_put (cs := #[.string ((rd_T64 (rd_L5 l0 x24_2) x38_3).f0), .int .i64 0, .slice none 0 0]) ?_ 1 _ rfl; (with_reducible repeat (first | refine blk_drewN ?_ _ | refine blk_drew ?_ | refine blk_alloc ?_ _)); refine blk_put (cs := #[.string (⟨#[]⟩ : ByteArray), .int .i64 0, .slice none 0 0]) ?_ 0 _ rfl; (with_reducible repeat (first | refine blk_drewN ?_ _ | refine blk_drew ?_ | refine blk_alloc ?_ _)); exact BK367.out))⟩; have n3_ : Aside0 (Below w.heap.size w w19) := ⟨(by rw [hw]; exact (by repeat (first | (with_reducible first | exact HB.out | apply below_alloc | apply pw_below_drewN | apply below_drew1 | refine below_set ?_ GE367.out) | exact HB.out)))⟩; clear hw; clear HO_4; clear HO_7; clear BK367; clear HB; have HO_4 := n0_; have HO_7 := n1_; have BK367 := n2_; have HB := n3_; clear n0_ n1_ n2_ n3_; have hcz20_0 : w19.cell? ⟨gb367, 0, none⟩ = some (.string ((rd_T64 (rd_L5 l0 x24_2) x38_3).f0)) := (blk_cell BK367.out 0).trans rfl; have hcz20_1 : w19.cell? ⟨gb367, 1, none⟩ = some (.int .i64 ((rd_T64 (rd_L5 l0 x24_2) x38_3).f1)) := (blk_cell BK367.out 1).trans rfl; have hcz20_2 : w19.cell? ⟨gb367, 2, none⟩ = some (.slice A366_2 ((rd_T64 (rd_L5 l0 x24_2) x38_3).f2).length c366_2) := (blk_cell BK367.out 2).trans rfl; have hfz20_0 := blk_frozen BK367.out 0; have hfz20_1 := blk_frozen BK367.out 1; have hfz20_2 := blk_frozen BK367.out 2) | ((with_reducible refine gate_callee (f := 149) rfl ?_); refine goesL_ (some 45) rfl rfl Tryz.func149 (by kernel_rfl) rfl #[.agg #[.string ((rd_T64 (rd_L5 l0 x24_2) x38_3).f0), .int .i64 ((rd_T64 (rd_L5 l0 x24_2) x38_3).f1), .slice A366_2 ((rd_T64 (rd_L5 l0 x24_2) x38_3).f2).length c366_2]] rfl (by (try simp only [List.map_toArray, List.map_cons, List.map_nil]); first | done | rfl | (simp only [List.length_drop, List.length_take]; rfl)) ?_; (with_reducible refine (name_lay.calls k3 ((rd_T64 (rd_L5 l0 x24_2) x38_3).f0) ((rd_T64 (rd_L5 l0 x24_2) x38_3).f1) (fun k_ => k_ < w.heap.size) _ _ ((rd_T64 (rd_L5 l0 x24_2) x38_3).f2) t368 t371 _ ?side1 A14.out).mono ?_); (case side1 => exact Kd.V_mk HC366_2.out (Kd.F_below (Kd.C_F (Kd.heap_int .u8) HR366_2.out) (by repeat (first | (with_reducible first | exact HB.out | apply below_alloc | apply pw_below_drewN | apply below_drew1 | refine below_set ?_ GE367.out) | exact HB.out)))); rintro e w21 ⟨v369, ev_, rfl, hev_, ho0, hb⟩; obtain rfl := EV.nil_of hev_ c15b0; have HEV_ := Aside0.mk hev_; clear hev_; refine ⟨_, rfl, ?_⟩; have n0_ := Aside0.mk (Kd.S_elder' (Kd.S_u HO_4.out) (Kd.R_base ho0) hb); have n1_ := Aside0.mk (Kd.S_elder' (Kd.S_u HO_7.out) (Kd.R_base ho0) hb); have n2_ := Aside0.mk (Kd.R_lower (Kd.R_mono (ok' := fun k_ => True) ho0 (fun _ hk_ => trivial)) (below_size (by repeat (first | (with_reducible first | exact HB.out | apply below_alloc | apply pw_below_drewN | apply below_drew1 | refine below_set ?_ GE367.out) | exact HB.out)))); have n3_ := Aside0.mk (blk_below (g := gb367) (o := .cells #[.string ((rd_T64 (rd_L5 l0 x24_2) x38_3).f0), .int .i64 ((rd_T64 (rd_L5 l0 x24_2) x38_3).f1), .slice A366_2 ((rd_T64 (rd_L5 l0 x24_2) x38_3).f2).length c366_2] 64 (0, 0)) (by (with_reducible repeat (first | refine blk_drewN ?_ _ | refine blk_drew ?_ | refine blk_alloc ?_ _)); exact BK367.out) hb); have n4_ := Aside0.mk (below_step (by repeat (first | (with_reducible first | exact HB.out | apply below_alloc | apply pw_below_drewN | apply below_drew1 | refine below_set ?_ GE367.out) | exact HB.out)) hb); clear HO_4; clear HO_7; clear BK367; clear HB; have HO_4 := n0_; have HO_7 := n1_; have HO370 := n2_; have BK367 := n3_; have HB := n4_; clear n0_ n1_ n2_ n3_ n4_; (try clear hb); (try clear hb2); (try clear hk); (try clear hi); (try clear ho0); obtain ⟨Ao23, co23, eo23⟩ := Kd.R_slice HO370.out; subst eo23) | ((with_reducible refine gate_builtin (b := .append) (xs := #[.tmp 54, .tmp 56]) rfl ?_); at_builtin; refine Kd.S_append (Kd.slice 5 (Kd.int .u8)) (w0 := w) w.heap.size rfl (.tmp 54) (.tmp 56) 67 22 (.slice none 0 0) 24 rfl Tryz.underlying67 info22 rfl (by decide) (by omega) u7 x7_3 t368 [.slice Ao23 t368.length co23] (fun k_ => some k_ ≠ (u4 : Value).ownBlock) (fun k_ => some k_ = (.slice Ao23 t368.length co23 : Value).ownBlock) rfl rfl ?aP (fun k_ hk_ => ((Kd.R_mono (ok' := fun k_ => ((fun k_ => some k_ ≠ (u4 : Value).ownBlock)) k_ ∧ some k_ ≠ (u7 : Value).ownBlock) (Kd.R_apart' (Kd.R_apart' (HO370.out) (Kd.S_typed HO_4.out) (by decide)) (Kd.S_typed HO_7.out) (by decide)) (fun k_ hk => ⟨hk.1.2, hk.2⟩))).1 k_ hk_.symm) ?aF ?aO ?aB ?aS ?aL ?_; (case aP => exact Kd.M_row (Kd.R_mono (Kd.R_tight rfl (Kd.R_mono (ok' := fun k_ => ((fun k_ => some k_ ≠ (u4 : Value).ownBlock)) k_ ∧ some k_ ≠ (u7 : Value).ownBlock) (Kd.R_apart' (Kd.R_apart' (HO370.out) (Kd.S_typed HO_4.out) (by decide)) (Kd.S_typed HO_7.out) (by decide)) (fun k_ hk => ⟨hk.1.2, hk.2⟩))) (fun _ h_ => h_))); (case aB => exact (by repeat (first | (with_reducible first | exact HB.out | apply below_alloc | apply pw_below_drewN | apply below_drew1 | refine below_set ?_ GE367.out) | exact HB.out))); (case aF => exact (fun k_ hk => Kd.fresh' (Kd.S_lt (Kd.S_u HO_4.out)) k_ hk)); (case aO => exact (Kd.S_u (Kd.S_mono HO_7.out (fun k_ hk => ⟨hk.1, fun e_ => hk.2 e_⟩)))); (case aS => exact (below_size (by repeat (first | (with_reducible first | exact HB.out | apply below_alloc | apply pw_below_drewN | apply below_drew1 | refine below_set ?_ GE367.out) | exact HB.out)))); (case aL => have := LMc16.out; omega); intro v373 w22 ho hb hg hat; rw [← Ny372.out] at ho; have n0_ := Aside0.mk (Kd.S_after (ok := (fun k_ => some k_ ≠ (.slice Ao23 t368.length co23 : Value).ownBlock)) (Kd.S_u (Kd.S_mono HO_4.out (fun _ hk => ⟨hk.2, hk.1⟩))) hg hat); have n1_ := Aside0.mk (blk_grown (g := gb367) (o := .cells #[.string ((rd_T64 (rd_L5 l0 x24_2) x38_3).f0), .int .i64 ((rd_T64 (rd_L5 l0 x24_2) x38_3).f1), .slice A366_2 ((rd_T64 (rd_L5 l0 x24_2) x38_3).f2).length c366_2] 64 (0, 0)) (by (with_reducible repeat (first | refine blk_drewN ?_ _ | refine blk_drew ?_ | refine blk_alloc ?_ _)); exact BK367.out) hg (Kd.S_ne HO_7.out BK367.out (by decide))); have n2_ := Aside0.mk (hb); have n3_ := Aside0.mk (ho); clear HO_4; clear BK367; clear HB; clear HO_7; clear HO370; have HO_4 := n0_; have BK367 := n1_; have HB := n2_; have HO374 := n3_; clear n0_ n1_ n2_ n3_; clear ho hb hg hat))
            go_roundg k3
            case measure => have := HJ1.out; have := HK2.out; have := HK3.out; omega
            case rel => exact ⟨(y372), (wrap64 (x38_3 + 1)), (by first | rfl | (simp; done) | (simp [*]; done)), H', ⟨by have := HJ1.out; have := HK2.out; have := HK3.out; omega⟩, ⟨Kd.S_u (Kd.S_mono HO_4.out (fun _ hk => hk.2))⟩, ⟨Kd.S_u HO374.out⟩, ⟨by repeat (first | (with_reducible first | exact HB.out | apply below_alloc | apply pw_below_drewN | apply below_drew1 | refine below_set ?_ GE367.out) | exact HB.out)⟩⟩
end Go.Proofs.YtkioddjjfifadaaGreatDoor.P
set_option linter.unusedVariables false
namespace Go.Proofs.YtkioddjjfifadaaGreatDoor.P
open Go.RowKit Go.Proofs.YtkioddjjfifadaaGreatDoorW.PrintWords Go.Proofs.YtkioddjjfifadaaGreatDoorW.PrintLast Go.Proofs.YtkioddjjfifadaaGreatDoorW.PrintMore
def name_Build.f (k : Nat) (l0 : List (List (S64))) : Option (List Int × Int) := name_build.f k l0
set_option maxRecDepth 100000 in
set_option maxHeartbeats 4000000 in
theorem name_Build.calls (k : Nat) (A0 : Option Addr) (c0 : Nat) (l0 : List (List (S64))) (r1 : List Int) (r2 : Int) (w : World) (hr0 : Kd.C (Kd.slice 64 k64) w A0 l0.length l0) (hc0 : l0.length ≤ c0) (h : name_Build.f k l0 = some (r1, r2)) (hD : Hd w) :
    Calls Tryz.prog 41 #[.slice A0 l0.length c0] w fun e w' => ∃ v0_ : Value, e = .returned (.tuple #[v0_, .int .i64 r2]) ∧ Kd.R (Kd.int .u8) 5 w' w.heap.size (fun _ => True) v0_ r1 ∧ Below w.heap.size w w' := by
  have HR0 := Aside0.mk hr0
  have HC0 := Aside0.mk hc0
  have HD := Aside0.mk hD
  have A2 := Aside0.mk (show name_build.f k l0 = some (r1, r2) from h)
  clear hr0 hc0 hD h
  go_enter Tryz.func41, Tryz.ntmps41
  go_wp2_with fail
  refine (name_build.calls k A0 c0 l0 r1 r2 _ HR0.out HC0.out A2.out).mono ?_
  rintro e w1 ⟨v, ev, rfl, hev, ho, hb⟩
  have HE := Aside0.mk hev
  have HO := Aside0.mk ho
  have HB := Aside0.mk hb
  have HD1 := Aside0.mk (HD.out.below hb)
  clear hev ho hb HD HR0
  go_wp2_with fail
  refine (name_number_ev HE.out _ HD1.out).mono ?_
  rintro e w2 ⟨rfl, hb⟩
  have HO2 := Aside0.mk (Kd.R_below HO.out hb)
  have HB2 := Aside0.mk (below_step HB.out hb)
  clear hb HO HB
  go_wp2_with fail
  go_ret2
  exact ⟨_, rfl, HO2.out, HB2.out⟩
end Go.Proofs.YtkioddjjfifadaaGreatDoor.P
namespace Go.Proofs.YtkioddjjfifadaaGreatDoor.P
open Go.RowKit Go.Proofs.YtkioddjjfifadaaGreatDoorW.PrintWords Go.Proofs.YtkioddjjfifadaaGreatDoorW.PrintLast Go.Proofs.YtkioddjjfifadaaGreatDoorW.PrintMore
attribute [local go_sem] max2_int min2_int max_two min_two max_three min_three max_four min_four   -- for this text's walks alone
set_option linter.unusedVariables false
set_option linter.unusedSimpArgs false
def chirographref01_SameBytes.l0 : Nat → List Int → List Int → Int → Option (Bool)
  | 0, _, _, _ => none
  | k + 1, x0, x1, x5 => if x5 < (x0.length : Int) then (if 0 ≤ x5 then (if x5 < (x1.length : Int) then (if (rd x0 x5) = (rd x1 x5) then (chirographref01_SameBytes.l0 k x0 x1 (wrap64 (x5 + 1))) else (some false)) else (none)) else (none)) else (some true)
def chirographref01_SameBytes.f (k : Nat) (l0 : List Int) (l1 : List Int) : Option (Bool) := if (l0.length : Int) = (l1.length : Int) then (chirographref01_SameBytes.l0 k l0 l1 0) else (some false)
set_option maxHeartbeats 8000000 in
set_option maxRecDepth 100000 in
theorem chirographref01_SameBytes.calls (k : Nat) (A0 : Option Addr) (c0 : Nat) (l0 : List Int) (A1 : Option Addr) (c1 : Nat) (l1 : List Int) (r : Bool) (w : World) (hr0 : Kd.C (Kd.int .u8) w A0 l0.length l0) (hc0 : l0.length ≤ c0) (hr1 : Kd.C (Kd.int .u8) w A1 l1.length l1) (hc1 : l1.length ≤ c1) (h : chirographref01_SameBytes.f k l0 l1 = some r) :
    Calls Tryz.prog 31 #[.slice A0 l0.length c0, .slice A1 l1.length c1] w fun e w' => e = .returned (.bool r) ∧ Drawn0 w w' := by
  have HR0 := Aside0.mk hr0
  have HC0 := Aside0.mk hc0
  clear hr0 hc0
  have HR1 := Aside0.mk hr1
  have HC1 := Aside0.mk hc1
  clear hr1 hc1
  have H : (if (l0.length : Int) = (l1.length : Int) then (chirographref01_SameBytes.l0 k l0 l1 0) else (some false)) = some r := h
  clear h
  by_cases c3 : (l0.length : Int) = (l1.length : Int)
  rotate_left
  · rw [if_neg c3] at H
    have c3b0 : ((l0.length : Int) == (l1.length : Int)) = false := beq_eq_false_iff_ne.mpr c3
    have c3b1 : ((l0.length : Int) != (l1.length : Int)) = true := bne_iff_ne.mpr c3
    have c3b2 : (l0.length == l1.length) = false := by first | simpa using c3 | (simp at c3 ⊢; omega)
    obtain rfl := Option.some.inj H
    go_enter Tryz.func31, Tryz.ntmps31
    go_wp2
    repeat (go_quiet (fail); try go_wp2)
    go_ret
    exact ⟨by first | rfl | (simp; done) | (simp [*]; done), by repeat (first | exact Drawn0.refl _ | apply Drawn0.step)⟩
  rw [if_pos c3] at H
  have c3b0 : ((l0.length : Int) == (l1.length : Int)) = true := beq_iff_eq.mpr c3
  have c3b1 : ((l0.length : Int) != (l1.length : Int)) = false := bne_eq_false_iff_eq.mpr c3
  have c3b2 : (l0.length == l1.length) = true := by first | simpa using c3 | (simp at c3 ⊢; omega)
  clear c3
  have H' := Aside0.mk H
  clear H
  go_enter Tryz.func31, Tryz.ntmps31
  go_wp2
  repeat (go_quiet (fail); try go_wp2)
  go_loopg [5] k (fun kq v5 w' => ∃ (x5_1 : Int), v5 = .int .i64 x5_1 ∧ Aside0 (chirographref01_SameBytes.l0 kq l0 l1 x5_1 = some r) ∧ Aside0 (kq ≤ k) ∧ Drawn0 w w')
  case atStart => exact ⟨(0), (by first | rfl | (simp; done) | (simp [*]; done)), H', ⟨Nat.le_refl _⟩, by repeat (first | exact Drawn0.refl _ | apply Drawn0.step)⟩
  case round =>
    clear H'
    try clear c1
    try clear p2
    try clear c3
    try clear c3b0
    try clear c3b1
    try clear c3b2
    obtain ⟨x5_1, rfl, HA, HK1, ⟨m1, rfl⟩⟩ := hrel
    cases gk with
    | zero => exact absurd HA.out (by simp [chirographref01_SameBytes.l0])
    | succ k1 =>
      have H := HA.out
      clear HA
      simp only [chirographref01_SameBytes.l0] at H
      by_cases c4 : x5_1 < (l0.length : Int)
      rotate_left
      · rw [if_neg c4] at H
        have c4b0 : decide (x5_1 < (l0.length : Int)) = false := decide_eq_false c4
        clear c4
        obtain rfl := Option.some.inj H
        go_wp2
        repeat (go_quiet (fail); try go_wp2)
        go_ret
        exact ⟨by first | rfl | (simp; done) | (simp [*]; done), by repeat (first | exact Drawn0.refl _ | apply Drawn0.step)⟩
      rw [if_pos c4] at H
      have c4b0 : decide (x5_1 < (l0.length : Int)) = true := decide_eq_true c4
      clear c4
      by_cases c5 : 0 ≤ x5_1
      rotate_left
      · rw [if_neg c5] at H
        exact absurd H (by simp)
      rw [if_pos c5] at H
      have c5b0 : decide (0 ≤ x5_1) = true := decide_eq_true c5
      clear c5
      by_cases c6 : x5_1 < (l1.length : Int)
      rotate_left
      · rw [if_neg c6] at H
        exact absurd H (by simp)
      rw [if_pos c6] at H
      have c6b0 : decide (x5_1 < (l1.length : Int)) = true := decide_eq_true c6
      clear c6
      by_cases c7 : (rd l0 x5_1) = (rd l1 x5_1)
      rotate_left
      · rw [if_neg c7] at H
        have c7b0 : ((rd l0 x5_1) == (rd l1 x5_1)) = false := beq_eq_false_iff_ne.mpr c7
        have c7b1 : ((rd l0 x5_1) != (rd l1 x5_1)) = true := bne_iff_ne.mpr c7
        obtain rfl := Option.some.inj H
        have p413 : 0 ≤ (x5_1 : Int) := of_decide_eq_true (by first | (with_reducible assumption) | assumption)
        have q413 : x5_1 < (l0.length : Int) := of_decide_eq_true (by first | (with_reducible assumption) | assumption)
        obtain ⟨ad413, e413, hx413_0⟩ := Kd.at_int HR0.out x5_1 p413 q413
        cases e413
        replace p413 := eq_true p413
        replace q413 := eq_true q413
        have p414 : 0 ≤ (x5_1 : Int) := of_decide_eq_true (by first | (with_reducible assumption) | assumption)
        have q414 : x5_1 < (l1.length : Int) := of_decide_eq_true (by first | (with_reducible assumption) | assumption)
        obtain ⟨ad414, e414, hx414_0⟩ := Kd.at_int HR1.out x5_1 p414 q414
        cases e414
        replace p414 := eq_true p414
        replace q414 := eq_true q414
        go_wp2
        repeat (go_quiet (fail); try go_wp2)
        go_ret
        exact ⟨by first | rfl | (simp; done) | (simp [*]; done), by repeat (first | exact Drawn0.refl _ | apply Drawn0.step)⟩
      rw [if_pos c7] at H
      have c7b0 : ((rd l0 x5_1) == (rd l1 x5_1)) = true := beq_iff_eq.mpr c7
      have c7b1 : ((rd l0 x5_1) != (rd l1 x5_1)) = false := bne_eq_false_iff_eq.mpr c7
      clear c7
      have H' := Aside0.mk H
      clear H
      have p413 : 0 ≤ (x5_1 : Int) := of_decide_eq_true (by first | (with_reducible assumption) | assumption)
      have q413 : x5_1 < (l0.length : Int) := of_decide_eq_true (by first | (with_reducible assumption) | assumption)
      obtain ⟨ad413, e413, hx413_0⟩ := Kd.at_int HR0.out x5_1 p413 q413
      cases e413
      replace p413 := eq_true p413
      replace q413 := eq_true q413
      have p414 : 0 ≤ (x5_1 : Int) := of_decide_eq_true (by first | (with_reducible assumption) | assumption)
      have q414 : x5_1 < (l1.length : Int) := of_decide_eq_true (by first | (with_reducible assumption) | assumption)
      obtain ⟨ad414, e414, hx414_0⟩ := Kd.at_int HR1.out x5_1 p414 q414
      cases e414
      replace p414 := eq_true p414
      replace q414 := eq_true q414
      go_wp2
      repeat (go_quiet (fail); try go_wp2)
      go_roundg k1
      case measure => have := HK1.out; omega
      case rel => exact ⟨(wrap64 (x5_1 + 1)), (by first | rfl | (simp; done) | (simp [*]; done)), H', ⟨by have := HK1.out; omega⟩, by repeat (first | exact Drawn0.refl _ | apply Drawn0.step)⟩
end Go.Proofs.YtkioddjjfifadaaGreatDoor.P
namespace Go.Proofs.YtkioddjjfifadaaGreatDoor.P
open Go.RowKit Go.Proofs.YtkioddjjfifadaaGreatDoorW.PrintWords
theorem putS_err (cons : Bool) (tag : Int) (l : List (List Int)) : (putS cons tag l).2 = 0 ∨ (putS cons tag l) = ([], 3) := by
  unfold putS
  cases sumS 0 l with
  | none => exact Or.inr rfl
  | some n => exact Or.inl rfl
theorem putS_res (cons : Bool) (tag : Int) (l : List (List Int)) : (if (putS cons tag l).2 = 0 then some ((putS cons tag l).1, (0 : Int)) else some (([] : List Int), (putS cons tag l).2)) = some (putS cons tag l) := by
  rcases putS_err cons tag l with h | h
  rotate_left
  · rw [h]
    exact if_neg (by decide)
  rw [if_pos h]
  congr 1
  exact Prod.ext rfl h.symm
/-- A part's bytes. -/
def layS (p : S64) : List Int × Int :=
  if (oidS p.f0).2 = 0 then (if p.f1 < 1 then ([], 1) else if p.f1 > 268435455 then ([], 1) else
    if (putS false 6 [(oidS p.f0).1]).2 = 0 then (if (putS false p.f1 [p.f2]).2 = 0 then putS true 16 [(putS false 6 [(oidS p.f0).1]).1, (putS false p.f1 [p.f2]).1] else ([], (putS false p.f1 [p.f2]).2)) else ([], (putS false 6 [(oidS p.f0).1]).2))
  else ([], (oidS p.f0).2)
theorem about_eq (k : Nat) (tag : Int) (l : List (List Int)) (hl : l.length ≤ 1000) (t0 : 1 ≤ tag) (t1 : tag ≤ 268435455) (hk : 3000 ≤ k) : name_about.f k tag l = some (putS true tag l) := by
  unfold name_about.f
  rw [der_put k tag true l (by omega) t0 t1 (by omega), Option.bind_some]
  exact putS_res true tag l
theorem lay_eq (k : Nat) (p : S64) (hp : p.f0.size ≤ 8192) (hk : 130000 ≤ k) : name_lay.f k p.f0 p.f1 p.f2 = some (layS p) := by
  obtain ⟨k1, rfl⟩ : ∃ k1, k = k1 + 1 := ⟨k - 1, by omega⟩
  unfold name_lay.f layS
  rw [der_oid _ p.f0 (by omega) (by omega), Option.bind_some]
  by_cases c0 : (oidS p.f0).2 = 0
  rotate_left
  · rw [if_neg c0, if_neg c0]
  rw [if_pos c0, if_pos c0]
  by_cases c1 : p.f1 < 1
  · rw [if_pos c1, if_pos c1, name_lay.j0, if_pos rfl]
  rw [if_neg c1, if_neg c1, name_lay.j0]
  by_cases c2 : p.f1 > 268435455
  · rw [decide_eq_true c2, if_pos rfl, if_pos c2]
  rw [decide_eq_false c2, if_neg (by decide), if_neg c2, der_put k1 6 false _ (by simp) (by decide) (by decide) (by simp only [List.length_cons, List.length_nil]; omega), Option.bind_some]
  by_cases c3 : (putS false 6 [(oidS p.f0).1]).2 = 0
  rotate_left
  · rw [if_neg c3, if_neg c3]
  rw [if_pos c3, if_pos c3, der_put k1 p.f1 false _ (by simp) (by omega) (by omega) (by simp only [List.length_cons, List.length_nil]; omega), Option.bind_some]
  by_cases c4 : (putS false p.f1 [p.f2]).2 = 0
  rotate_left
  · rw [if_neg c4, if_neg c4]
  rw [if_pos c4, if_pos c4, about_eq k1 16 _ (by simp) (by decide) (by decide) (by omega), Option.bind_some]
def BytesOk (x : List Int) : Prop := ∀ y ∈ x, 0 ≤ y ∧ y ≤ 255
theorem layS_bytes (p : S64) (h : BytesOk p.f2) : BytesOk (layS p).1 := by
  unfold layS
  repeat' split
  all_goals first
    | (intro y hy; cases hy; done)
    | skip
  refine putS_bytes true 16 _ (by decide) (fun x hx => ?_)
  simp only [List.mem_cons, List.not_mem_nil, or_false] at hx
  rcases hx with rfl | rfl
  rotate_left
  · exact putS_bytes false _ _ (by omega) (fun x hx => by obtain rfl := List.mem_singleton.1 hx; exact h)
  exact putS_bytes false 6 _ (by decide) (fun x hx => by obtain rfl := List.mem_singleton.1 hx; exact oidS_bytes _)
theorem byteOk_of {x : List Int} (h : BytesOk x) : byteOk x = true := List.all_eq_true.2 fun y hy => by
  have := h y hy
  simp only [isByte, Bool.and_eq_true, decide_eq_true_eq]
  exact this
/-- The parts of a set, laid. -/
def partsS : List S64 → List (List Int) → List (List Int) × Int
  | [], acc => (acc, 0)
  | p :: r, acc => if (layS p).2 = 0 then partsS r (acc ++ [(layS p).1]) else ([], (layS p).2)
def setS (s : List S64) : List Int × Int :=
  if (s.length : Int) = 0 then ([], 5) else if (partsS s []).2 = 0 then putS true 17 (sortedL (partsS s []).1) else ([], (partsS s []).2)
def setsS : List (List S64) → List (List Int) → List (List Int) × Int
  | [], acc => (acc, 0)
  | s :: r, acc => if (setS s).2 = 0 then setsS r (acc ++ [(setS s).1]) else ([], (setS s).2)
/-- A name's bytes. -/
def buildS (n : List (List S64)) : List Int × Int :=
  if (n.length : Int) > 64 then ([], 4) else if longL n = true then ([], 4) else if (setsS n []).2 = 0 then putS true 16 (setsS n []).1 else ([], (setsS n []).2)
theorem drop_64 (l : List S64) (i : Int) (h0 : 0 ≤ i) (h1 : i < (l.length : Int)) : l.drop i.toNat = rd_T64 l i :: l.drop (i + 1).toNat := by
  have e : (i + 1).toNat = i.toNat + 1 := by omega
  rw [e, List.drop_eq_getElem_cons (by omega)]
  congr 1
  unfold rd_T64
  rw [List.getD_eq_getElem?_getD, List.getElem?_eq_getElem (by omega), Option.getD_some]
theorem drop_L5 (l : List (List S64)) (i : Int) (h0 : 0 ≤ i) (h1 : i < (l.length : Int)) : l.drop i.toNat = rd_L5 l i :: l.drop (i + 1).toNat := by
  have e : (i + 1).toNat = i.toNat + 1 := by omega
  rw [e, List.drop_eq_getElem_cons (by omega)]
  congr 1
  unfold rd_L5
  rw [List.getD_eq_getElem?_getD, List.getElem?_eq_getElem (by omega), Option.getD_some]
theorem mem_64 (l : List S64) (i : Int) (h0 : 0 ≤ i) (h1 : i < (l.length : Int)) : rd_T64 l i ∈ l := List.mem_of_mem_drop (drop_64 l i h0 h1 ▸ List.mem_cons_self)
theorem mem_L5 (l : List (List S64)) (i : Int) (h0 : 0 ≤ i) (h1 : i < (l.length : Int)) : rd_L5 l i ∈ l := List.mem_of_mem_drop (drop_L5 l i h0 h1 ▸ List.mem_cons_self)
def NmP (p : S64) : Prop := p.f0.size ≤ 8192 ∧ BytesOk p.f2
theorem sorted_len (l : List (List Int)) : (sortedL l).length = l.length := (sortedL_perm l).2.length_eq
theorem sorted_ok {l : List (List Int)} (h : ∀ x ∈ l, BytesOk x) : ∀ x ∈ sortedL l, BytesOk x := fun x hx => h x ((sortedL_perm l).2.mem_iff.1 hx)
/-- name.build: the parts of a set. -/
theorem nb_l1 (n : List (List S64)) (x4 : List (List Int)) (hx4 : x4.length ≤ 64) (N i : Int) (hi0 : 0 ≤ i) (hi1 : i ≤ 64) (s : List S64) (hs : s.length ≤ 64) (hg : ∀ p ∈ s, NmP p) (r : List Int × Int) (K : Nat) (hK : 130000 ≤ K) : ∀ (m k : Nat) (j : Int) (acc : List (List Int)), 0 ≤ j → (s.length : Int) - j = m → m + 1 + K ≤ k → (acc.length : Int) ≤ j → (∀ x ∈ acc, BytesOk x) →
    ((partsS (s.drop j.toNat) acc).2 = 0 → (putS true 17 (sortedL (partsS (s.drop j.toNat) acc).1)).2 = 0 → ∀ k', K ≤ k' → name_build.l0 k' (x4 ++ [(putS true 17 (sortedL (partsS (s.drop j.toNat) acc).1)).1]) n N (i + 1) = some r) →
    name_build.l1 k x4 acc n N i s (s.length : Int) j = (if (partsS (s.drop j.toNat) acc).2 = 0 then (if (putS true 17 (sortedL (partsS (s.drop j.toNat) acc).1)).2 = 0 then some r else some ([], (putS true 17 (sortedL (partsS (s.drop j.toNat) acc).1)).2)) else some ([], (partsS (s.drop j.toNat) acc).2))
  | 0, k, j, acc, h0, hm, hk, ha, hb, hr => by
    obtain ⟨k1, rfl⟩ : ∃ k1, k = k1 + 1 := ⟨k - 1, by omega⟩
    rw [List.drop_eq_nil_of_le (by omega)] at hr ⊢
    rw [partsS] at hr ⊢
    have hr := hr rfl
    have hl := sorted_len acc
    rw [name_build.l1, if_neg (by omega), if_pos rfl]
    unfold slices_SortFunc.f
    rw [if_pos ⟨List.all_eq_true.2 fun x hx => byteOk_of (hb x hx), by omega⟩, Option.bind_some, about_eq k1 17 _ (by omega) (by decide) (by decide) (by omega), Option.bind_some]
    by_cases c : (putS true 17 (sortedL acc)).2 = 0
    · rw [if_pos c, if_pos c, if_pos (by omega), wb (by omega) (by omega)]
      exact hr c k1 (by omega)
    · rw [if_neg c, if_neg c]
  | m + 1, k, j, acc, h0, hm, hk, ha, hb, hr => by
    obtain ⟨k1, rfl⟩ : ∃ k1, k = k1 + 1 := ⟨k - 1, by omega⟩
    have hd := drop_64 s j h0 (by omega)
    rw [hd] at hr ⊢
    rw [partsS] at hr ⊢
    obtain ⟨p0, p1⟩ := hg _ (mem_64 s j h0 (by omega))
    rw [name_build.l1, if_pos (by omega), if_pos h0, if_pos (by omega), lay_eq k1 _ p0 (by omega), Option.bind_some]
    by_cases c : (layS (rd_T64 s j)).2 = 0
    · rw [if_pos c] at hr ⊢
      rw [if_pos c, if_pos (by omega), wb (by omega) (by omega)]
      exact nb_l1 n x4 hx4 N i hi0 hi1 s hs hg r K hK m k1 (j + 1) _ (by omega) (by omega) (by omega) (by rw [List.length_append]; simp only [List.length_cons, List.length_nil]; omega) (fun x hx => by
        rcases List.mem_append.1 hx with hx | hx
        · exact hb x hx
        · obtain rfl := List.mem_singleton.1 hx
          exact layS_bytes _ p1) hr
    · rw [if_neg c, if_neg c]
      rw [if_neg (show ¬ (layS (rd_T64 s j)).2 = 0 from c)]
set_option maxRecDepth 100000 in
theorem nb_l0 (n : List (List S64)) (hn : n.length ≤ 64) (hg : ∀ s ∈ n, s.length ≤ 64 ∧ ∀ p ∈ s, NmP p) : ∀ (m k : Nat) (i : Int) (acc : List (List Int)), 0 ≤ i → (n.length : Int) - i = m → 70 * m + 130010 ≤ k → (acc.length : Int) ≤ i →
    name_build.l0 k acc n (n.length : Int) i = some (if (setsS (n.drop i.toNat) acc).2 = 0 then putS true 16 (setsS (n.drop i.toNat) acc).1 else ([], (setsS (n.drop i.toNat) acc).2))
  | 0, k, i, acc, h0, hm, hk, ha => by
    obtain ⟨k1, rfl⟩ : ∃ k1, k = k1 + 1 := ⟨k - 1, by omega⟩
    rw [List.drop_eq_nil_of_le (by omega), setsS, name_build.l0, if_neg (by omega), about_eq k1 16 _ (by omega) (by decide) (by decide) (by omega), Option.bind_some, if_pos rfl]
  | m + 1, k, i, acc, h0, hm, hk, ha => by
    obtain ⟨k1, rfl⟩ : ∃ k1, k = k1 + 1 := ⟨k - 1, by omega⟩
    obtain ⟨s0, s1⟩ := hg _ (mem_L5 n i h0 (by omega))
    rw [drop_L5 n i h0 (by omega), setsS, name_build.l0, if_pos (by omega), if_pos h0, if_pos (by omega)]
    unfold setS
    by_cases c0 : ((rd_L5 n i).length : Int) = 0
    · rw [if_pos c0, if_pos c0]
      rfl
    · rw [if_neg c0, if_neg c0]
      obtain ⟨K, hKd⟩ : ∃ K, K = 70 * m + 130010 := ⟨_, rfl⟩
      have ih := fun (a : List Int) (k' : Nat) (hk' : K ≤ k') => nb_l0 n hn hg m k' (i + 1) (acc ++ [a]) (by omega) (by omega) (by omega) (by rw [List.length_append]; simp only [List.length_cons, List.length_nil]; omega)
      have h := nb_l1 n acc (by omega) (n.length : Int) i h0 (by omega) (rd_L5 n i) s0 s1 (if (setsS (n.drop (i + 1).toNat) (acc ++ [(putS true 17 (sortedL (partsS (rd_L5 n i) []).1)).1])).2 = 0 then putS true 16 (setsS (n.drop (i + 1).toNat) (acc ++ [(putS true 17 (sortedL (partsS (rd_L5 n i) []).1)).1])).1 else ([], (setsS (n.drop (i + 1).toNat) (acc ++ [(putS true 17 (sortedL (partsS (rd_L5 n i) []).1)).1])).2)) K (by omega) (rd_L5 n i).length k1 0 [] (Int.le_refl _) (by omega) (by omega) (Int.le_refl 0) (fun x hx => by cases hx)
      rw [show (0 : Int).toNat = 0 from rfl, List.drop_zero] at h
      rw [h (fun _ _ k' hk' => ih _ k' hk')]
      by_cases c1 : (partsS (rd_L5 n i) []).2 = 0
      · rw [if_pos c1, if_pos c1]
        by_cases c2 : (putS true 17 (sortedL (partsS (rd_L5 n i) []).1)).2 = 0
        · rw [if_pos c2, if_pos c2]
        · rw [if_neg c2, if_neg c2, if_neg c2]
      · rw [if_neg c1, if_neg c1, if_neg c1, if_neg c1]
theorem longL_false {n : List (List S64)} (h : longL n = false) : ∀ s ∈ n, s.length ≤ 64 := fun s hs => by
  have := List.any_eq_false.1 h s hs
  rw [decide_eq_true_eq] at this
  omega
/-- name.Build: what it lays. -/
theorem build_eq (k : Nat) (hk : 140000 ≤ k) (n : List (List S64)) (hl : n.length ≤ 200) (hg : ∀ s ∈ n, ∀ p ∈ s, NmP p) : name_Build.f k n = some (buildS n) := by
  obtain ⟨k1, rfl⟩ : ∃ k1, k = k1 + 1 := ⟨k - 1, by omega⟩
  unfold name_Build.f name_build.f buildS
  by_cases c0 : (n.length : Int) > 64
  · rw [if_pos c0, if_pos c0, name_build.j0, if_pos rfl]
  rw [if_neg c0, if_neg c0]
  unfold slices_ContainsFunc.f
  rw [if_pos (by omega), Option.bind_some, name_build.j0]
  by_cases c1 : longL n = true
  · rw [if_pos c1, if_pos c1]
  rw [if_neg c1, if_neg c1]
  have hlf := longL_false (by simpa using c1)
  have := nb_l0 n (by omega) (fun s hs => ⟨hlf s hs, hg s hs⟩) n.length k1 0 [] (Int.le_refl _) (by omega) (by omega) (by simp)
  rw [show (0 : Int).toNat = 0 from rfl, List.drop_zero] at this
  exact this
theorem sb_self (l : List Int) (hl : l.length ≤ 1000000000) : ∀ (m k : Nat) (i : Int), 0 ≤ i → (l.length : Int) - i = m → m + 1 ≤ k → chirographref01_SameBytes.l0 k l l i = some true
  | 0, k, i, h0, hm, hk => by
    obtain ⟨k1, rfl⟩ : ∃ k1, k = k1 + 1 := ⟨k - 1, by omega⟩
    rw [chirographref01_SameBytes.l0, if_neg (by omega)]
  | m + 1, k, i, h0, hm, hk => by
    obtain ⟨k1, rfl⟩ : ∃ k1, k = k1 + 1 := ⟨k - 1, by omega⟩
    rw [chirographref01_SameBytes.l0, if_pos (by omega), if_pos h0, if_pos (by omega), if_pos rfl, wb (by omega) (by omega)]
    exact sb_self l hl m k1 (i + 1) (by omega) (by omega) (by omega)
theorem sameb_self (k : Nat) (l : List Int) (hl : l.length ≤ 1000000000) (hk : l.length + 1 ≤ k) : chirographref01_SameBytes.f k l l = some true := by
  unfold chirographref01_SameBytes.f
  rw [if_pos rfl]
  exact sb_self l hl l.length k 0 (Int.le_refl _) (by omega) hk
theorem lenL_len (n : Int) : (lenL n).length ≤ 5 := by
  unfold lenL
  repeat' split
  all_goals simp
theorem putS_len (cons : Bool) (tag : Int) (l : List (List Int)) : (putS cons tag l).1.length ≤ 16777300 := by
  unfold putS
  cases e : sumS 0 l with
  | none => simp
  | some n =>
    obtain ⟨n0, n1⟩ := sumS_rng l 0 n (Int.le_refl _) (by decide) e
    have h1 := sumS_flat l 0 n e
    have h2 := hdL_len (if cons then 32 else 0) tag
    have h3 := lenL_len n
    show (hdL (if cons then 32 else 0) tag ++ lenL n ++ l.flatten).length ≤ _
    rw [List.length_append, List.length_append]
    omega
theorem buildS_len (n : List (List S64)) : (buildS n).1.length ≤ 16777300 := by
  unfold buildS
  repeat' split
  all_goals first
    | exact putS_len _ _ _
    | exact Nat.zero_le _
end Go.Proofs.YtkioddjjfifadaaGreatDoor.P
