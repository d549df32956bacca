/- The library in the printed form: tables, strings.IndexByte, strconv.Itoa, text.wide, utf8.AppendRune onto a row of the own. -/
import Derived.Test.YtkioddjjfifadaaGreatDoorPx0
import Derived.Test.YtkioddjjfifadaaGreatDoorShl
import Derived.Lib.AppendIntMem
/- The library's tables, as the walks ask for them; strings.IndexByte, strconv.Itoa in the printed form. -/
namespace Go.Proofs.YtkioddjjfifadaaGreatDoor.P
open Go.RowKit Go.Proofs.YtkioddjjfifadaaGreatDoorW.PrintWords Go.Proofs.YtkioddjjfifadaaGreatDoorW.PrintLast Go.Proofs.YtkioddjjfifadaaGreatDoorW.PrintMore
/-- The tables of internal/strconv and of unicode/utf8 hold what their initialisers say. -/
structure Tb (w : World) : Prop where
  pow : Lib.TabIs Tryz.prog w "internal/strconv.uint64pow10" .u64 Lib.pow10Tab
  utf : Lib.Utf8Tabs 2 3 w
  big : 7 ≤ w.heap.size
theorem Tb.below {w w1 : World} (h : Tb w) (hb : Below w.heap.size w w1) : Tb w1 := by
  refine ⟨?_, Go.Proofs.Utf8Tabs_below h.utf hb, Nat.le_trans h.big hb.size⟩
  have h0 := h.pow
  unfold Lib.TabIs World.var? at h0 ⊢
  rw [show Tryz.prog.globalNamed "internal/strconv.uint64pow10" = some 4 by kernel_rfl, Option.bind_some] at h0 ⊢
  rw [hb.block 4 (by have := h.big; omega)]
  exact h0
def strings_IndexByte.f (a0 : ByteArray) (a1 : Int) : Option Int := some (Lib.indexByte a0.data.toList a1.toNat.toUInt8)
theorem strings_IndexByte.calls (a0 : ByteArray) (a1 : Int) (r : Int) (w : World) (h : strings_IndexByte.f a0 a1 = some r) :
    Calls Tryz.prog 154 #[.string a0, .int .u8 a1] w fun e w' => e = .returned (.int .i64 r) ∧ Below w.heap.size w w' := by
  obtain rfl := Option.some.inj h
  refine (Tryz.strings_IndexByte a0 a1 w).mono ?_
  rintro e w' ⟨rfl, rfl⟩
  exact ⟨rfl, Below.refl _ _⟩
def strconv_Itoa.f (a0 : Int) : Option ByteArray := if -9223372036854775808 ≤ a0 ∧ a0 ≤ 9223372036854775807 then some ⟨(Lib.itoa a0).toArray⟩ else none
theorem strconv_Itoa.calls (a0 : Int) (r : ByteArray) (w : World) (h : strconv_Itoa.f a0 = some r) (hH : Tb w) :
    Calls Tryz.prog 160 #[.int .i64 a0] w fun e w' => e = .returned (.string r) ∧ Below w.heap.size w w' := by
  unfold strconv_Itoa.f at h
  split at h
  · rename_i hr
    obtain rfl := Option.some.inj h
    refine (Tryz.strconv_Itoa a0 hr.1 hr.2 w hH.pow).mono ?_
    rintro e w' ⟨rfl, k, os, rfl⟩
    exact ⟨rfl, Lib.below_grow _ w (Nat.le_refl _) k os⟩
  · cases h
end Go.Proofs.YtkioddjjfifadaaGreatDoor.P

/- text.wide in the printed form; utf8.AppendRune onto a row of the call's own. -/
namespace Go.Proofs.YtkioddjjfifadaaGreatDoor.P
open Go.RowKit Go.Proofs.YtkioddjjfifadaaGreatDoorW.PrintWords Go.Proofs.YtkioddjjfifadaaGreatDoorW.PrintLast Go.Proofs.YtkioddjjfifadaaGreatDoorW.PrintMore
theorem append_rune (w0 : World) (v : Value) (acc : List Int) (r : Int) (hr0 : -2147483648 ≤ r) (hr1 : r ≤ 2147483647) (w : World) (hR : (Kd.int .u8).R 5 w w0.heap.size (fun _ => True) v acc) (hl : acc.length + 4 ≤ 140737488355328) (h0 : Below w0.heap.size w0 w) :
    Calls Tryz.prog 249 #[v, .int .i32 r] w fun e w' => ∃ v', e = .returned v' ∧ (Kd.int .u8).R 5 w' w0.heap.size (fun _ => True) v' (acc ++ Lib.encodeRuneZ r) ∧ Below w0.heap.size w0 w' ∧ ∀ k o, w.heap[k]? = some o → some k ≠ v.ownBlock → w'.heap[k]? = some o := by
  have ho := Kd.own_of_R hR
  refine (Tryz.utf8_AppendRune_plain w0.heap.size v acc.length _ r hr0 hr1 w ho hl h0.size).mono ?_
  rintro e w' ⟨v', rfl, ho', o, hg⟩
  have hsz := h0.size
  refine ⟨v', rfl, Kd.R_of_own ?_ (fun _ _ => trivial), pw_below_grown (below_alloc h0 o) _ (Nat.le_trans hsz (by show w.heap.size ≤ (w.heap.push o).size; rw [Array.size_push]; omega)) hg (fun k hk => own_base ho k hk), fun k ob hk hne => blk_grown (blk_alloc hk o) hg hne⟩
  rw [List.length_append, encs_append]
  have : (Lib.runeCells r).length = (Lib.encodeRuneZ r).length := by simp [Lib.runeCells]
  rw [this] at ho'
  exact ho'
theorem make_bytes {P : Program} {ops : Array Oper} {rest : List Oper} {o : Oper} {a : Act} {Q : Exit → Act → World → Prop} {W : World} (w0 : World) {t : TypeId} {x y : Operand} (hgd : o.guard = none) (ho : o.op = .makeSlice t x y) (hx : a.eval x = .int .i64 0) (c : Nat) (hy : a.eval y = .int .i64 (c : Int))
    (ht : P.underlying t = some (.slice 5)) (hinfo : (P.info? 5).map (fun i => (i.zero, i.size, i.bytes)) = some (some (.int .u8 0), 1, 1)) (hc : c ≤ 140737488355328) (h0 : Below w0.heap.size w0 W)
    (h : ∀ v w1, (Kd.int .u8).R 5 w1 w0.heap.size (fun _ => True) v [] → Below w0.heap.size w0 w1 → wpList P ops Q rest (a.put o.dst v) w1) : wpList P ops Q (o :: rest) a W := by
  obtain ⟨i0, hi, hz0, hz1, hz2⟩ := info_parts hinfo
  obtain ⟨w1, hr, hown, hg⟩ := run_make_own (P := P) W w0.heap.size t 5 i0 _ 1 ht hi hz0 hz1 .i64 .i64 c (by rw [hz2]; omega) (by unfold maxLen; omega) h0.size
  refine wpList_plain hgd fun K hK => ?_
  unfold Oper.wp execOp
  simp only [ho, hx, hy, Sem.run_bind, hr, Result.andThen_ok, Sem.run_pure]
  exact hK _ _ (h _ _ (Kd.R_of_own hown (fun _ _ => trivial)) (pw_below_grown h0 none h0.size hg (fun k hk => by cases hk)))
theorem encodeRuneZ_len (r : Int) : (Lib.encodeRuneZ r).length ≤ 4 := by
  unfold Lib.encodeRuneZ
  split
  · simp
  · split
    · simp
    · split
      · simp
      · split <;> simp
def wideL : List Int → Option (List Int)
  | a :: b :: r => if 55296 ≤ a * 256 + b ∧ a * 256 + b < 57344 then none else (wideL r).map (Lib.encodeRuneZ (a * 256 + b) ++ ·)
  | _ => some []
def isByte (x : Int) : Bool := decide (0 ≤ x) && decide (x ≤ 255)
def text_wide.f (l : List Int) : Option (ByteArray × Int) :=
  if l.all isByte = true ∧ l.length ≤ 35184372088832 then (if l.length % 2 = 1 then some (⟨#[]⟩, 60) else (match wideL l with | none => some (⟨#[]⟩, 60) | some x => some (strOfNums x, 0))) else none
theorem drop_two (l : List Int) (i : Nat) (h : i + 1 < l.length) : l.drop i = rd l (i : Int) :: rd l ((i : Int) + 1) :: l.drop (i + 2) := by
  rw [List.drop_eq_getElem_cons (by omega), List.drop_eq_getElem_cons h]
  have e1 : rd l (i : Int) = l[i]'(by omega) := by
    show l.getD (i : Int).toNat 0 = _
    rw [Int.toNat_natCast, List.getD_eq_getElem?_getD, List.getElem?_eq_getElem (by omega)]
    rfl
  have e2 : rd l ((i : Int) + 1) = l[i + 1]'h := by
    show l.getD ((i : Int) + 1).toNat 0 = _
    rw [show ((i : Int) + 1).toNat = i + 1 by omega, List.getD_eq_getElem?_getD, List.getElem?_eq_getElem h]
    rfl
  rw [e1, e2]
theorem rd_byte (l : List Int) (h : l.all isByte = true) (i : Int) (h0 : 0 ≤ i) (h1 : i < (l.length : Int)) : 0 ≤ rd l i ∧ rd l i ≤ 255 := by
  have hm : rd l i ∈ l := by
    show l.getD i.toNat 0 ∈ l
    rw [List.getD_eq_getElem?_getD, List.getElem?_eq_getElem (by omega)]
    exact List.getElem_mem _
  have := List.all_eq_true.1 h _ hm
  simpa [isByte] using this
set_option maxRecDepth 100000 in
set_option maxHeartbeats 4000000 in
theorem text_wide.calls (A0 : Option Addr) (c0 : Nat) (l0 : List Int) (r1 : ByteArray) (r2 : Int) (w : World) (hr0 : Kd.C (Kd.int .u8) w A0 l0.length l0) (hc0 : l0.length ≤ c0) (h : text_wide.f l0 = some (r1, r2)) :
    Calls Tryz.prog 203 #[.slice A0 l0.length c0] w fun e w' => e = .returned (.tuple #[.string r1, .int .i64 r2]) ∧ Below w.heap.size w w' := by
  have HR0 := Aside0.mk hr0
  have HC0 := Aside0.mk hc0
  clear hr0 hc0
  unfold text_wide.f at h
  split at h
  case isFalse => cases h
  case isTrue hb =>
  obtain ⟨hbytes, hlen⟩ := hb
  have HBY := Aside0.mk hbytes
  have HLEN := Aside0.mk hlen
  clear hbytes hlen
  by_cases hodd : l0.length % 2 = 1
  · rw [if_pos hodd] at h
    simp only [Option.some.injEq, Prod.mk.injEq] at h
    obtain ⟨rfl, rfl⟩ := h
    have hm : ((l0.length : Int).tmod 2 != 0) = true := by
      rw [Int.tmod_eq_emod_of_nonneg (by omega)]
      exact bne_iff_ne.2 (by omega)
    go_enter Tryz.func203, Tryz.ntmps203
    go_wp2_with fail
    go_ret2
    exact ⟨rfl, Below.refl _ _⟩
  · rw [if_neg hodd] at h
    have hm : ((l0.length : Int).tmod 2 != 0) = false := by
      rw [Int.tmod_eq_emod_of_nonneg (by omega)]
      exact bne_eq_false_iff_eq.2 (by omega)
    go_enter Tryz.func203, Tryz.ntmps203
    have hw2 : wrap64 ((l0.length : Int) * 2) = ((l0.length * 2 : Nat) : Int) := by unfold wrap64; have := HLEN.out; omega
    have HB := Aside0.mk (Below.refl w.heap.size w)
    go_wp2_with ((with_reducible refine gate_dst (N := 14) rfl ?_); refine make_bytes w rfl rfl rfl (l0.length * 2) (congrArg (Value.int .i64) hw2) Tryz.underlying22 info5 (by have := HLEN.out; omega) HB.out ?_; intro v w1 hv hb; have HO := Aside0.mk hv; have HB1 := Aside0.mk hb; clear hv hb HB)
    clear hm hw2
    go_loopg [4, 5] (l0.length + 1) (fun kq v4 v5 w' => ∃ (i : Nat) (acc : List Int), v5 = .int .i64 (i : Int) ∧ Aside0 (i ≤ l0.length ∧ i % 2 = 0 ∧ l0.length < kq + i) ∧ Aside0 (wideL l0 = (wideL (l0.drop i)).map (acc ++ ·)) ∧ Aside0 (acc.length ≤ 2 * i) ∧
      Aside0 ((Kd.int .u8).R 5 w' w.heap.size (fun _ => True) v4 acc) ∧ Aside0 (Below w.heap.size w w'))
    case atStart => exact ⟨0, [], rfl, ⟨⟨Nat.zero_le _, rfl, by omega⟩⟩, ⟨by simp⟩, ⟨Nat.zero_le _⟩, HO, HB1⟩
    case round =>
      clear HO HB1
      obtain ⟨i, acc, rfl, HI, HW, HA, HO, HB⟩ := hrel
      cases gk with
      | zero => exact absurd HI.out (by omega)
      | succ g1 =>
        by_cases hi : i < l0.length
        · have hi1 : i + 1 < l0.length := by have := HI.out; omega
          have c1 : decide ((i : Int) < (l0.length : Int)) = true := decide_eq_true (by omega)
          have p1 : ((0 : Int) ≤ (i : Int)) = True := eq_true (by omega)
          have q1 : ((i : Int) < (l0.length : Int)) = True := eq_true (by omega)
          have hw1 : wrap64 ((i : Int) + 1) = (i : Int) + 1 := by unfold wrap64; have := HLEN.out; omega
          have p2 : ((0 : Int) ≤ (i : Int) + 1) = True := eq_true (by omega)
          have q2 : ((i : Int) + 1 < (l0.length : Int)) = True := eq_true (by omega)
          obtain ⟨ad, rfl, hx1⟩ := Kd.at_int HR0.out (i : Int) (by omega) (by omega)
          obtain ⟨ad', e', hx2⟩ := Kd.at_int HR0.out ((i : Int) + 1) (by omega) (by omega)
          cases e'
          replace hx1 := (HB.out.cell (World.block_lt_of_cell? w _ hx1)).trans hx1
          replace hx2 := (HB.out.cell (World.block_lt_of_cell? w _ hx2)).trans hx2
          rw [Int.toNat_natCast] at hx1
          rw [show ((i : Int) + 1).toNat = i + 1 by omega, Go.Addr.add_succ'] at hx2
          obtain ⟨a0, a1⟩ := rd_byte l0 HBY.out (i : Int) (by omega) (by omega)
          obtain ⟨b0, b1⟩ := rd_byte l0 HBY.out ((i : Int) + 1) (by omega) (by omega)
          have HD := Aside0.mk (drop_two l0 i hi1)
          generalize rd l0 (i : Int) = x at *
          generalize rd l0 ((i : Int) + 1) = y at *
          have hor : Go.bits .or .i32 (x * 256) y = x * 256 + y := bits_join .i32 31 (by decide) wraps_i32 8 (x * 256) y (by omega) (by omega) (by omega) b0 (by omega) (by omega)
          have HWD : Aside0 (wideL l0 = (if 55296 ≤ x * 256 + y ∧ x * 256 + y < 57344 then none else (wideL (l0.drop (i + 2))).map (Lib.encodeRuneZ (x * 256 + y) ++ ·)).map (acc ++ ·)) := ⟨by rw [HW.out, HD.out]; rfl⟩
          have hw3 : wrap64 ((i : Int) + 2) = ((i + 2 : Nat) : Int) := by unfold wrap64; have := HLEN.out; omega
          clear HW HD
          have hc0 : 0 ≤ x * 256 + y := by omega
          have hc1 : x * 256 + y ≤ 65535 := by omega
          generalize x * 256 + y = c at *
          by_cases hbad : 55296 ≤ c ∧ c < 57344
          · have d1 : decide (55296 ≤ c) = true := decide_eq_true hbad.1
            have d2 : decide (c < 57344) = true := decide_eq_true hbad.2
            have hwl : wideL l0 = none := by rw [HWD.out, if_pos hbad]; rfl
            rw [hwl] at h
            simp only [Option.some.injEq, Prod.mk.injEq] at h
            obtain ⟨rfl, rfl⟩ := h
            go_wp2_with fail
            go_region
            go_wp2_with fail
            go_ret2
            exact ⟨rfl, below_drew HB.out⟩
          by_cases hge : 55296 ≤ c
          · have d1 : decide (55296 ≤ c) = true := decide_eq_true hge
            have d2 : decide (c < 57344) = false := decide_eq_false (by omega)
            go_wp2_with fail
            go_region
            go_wp2_with fail
            refine (append_rune w u4 acc c (by omega) (by omega) _ (Kd.R_drew HO.out) (by have := HA.out; have := HI.out; have := HLEN.out; omega) (below_drew HB.out)).mono ?_
            rintro e w5 ⟨v5, rfl, hR5, hb5, -⟩
            have HO5 := Aside0.mk hR5
            have HB5 := Aside0.mk hb5
            clear hR5 hb5 HO HB hx1 hx2
            go_wp2_with fail
            go_roundg g1
            case measure => exact Nat.lt_succ_self _
            case rel => exact ⟨i + 2, acc ++ Lib.encodeRuneZ c, congrArg (Value.int .i64) hw3, ⟨by have := HI.out; omega⟩, ⟨by rw [HWD.out, if_neg hbad, Option.map_map]; congr 1; funext z; simp⟩, ⟨by rw [List.length_append]; have := encodeRuneZ_len c; have := HA.out; omega⟩, HO5, HB5⟩
          · have d1 : decide (55296 ≤ c) = false := decide_eq_false hge
            go_wp2_with fail
            go_region
            go_wp2_with fail
            refine (append_rune w u4 acc c (by omega) (by omega) _ (Kd.R_drew HO.out) (by have := HA.out; have := HI.out; have := HLEN.out; omega) (below_drew HB.out)).mono ?_
            rintro e w5 ⟨v5, rfl, hR5, hb5, -⟩
            have HO5 := Aside0.mk hR5
            have HB5 := Aside0.mk hb5
            clear hR5 hb5 HO HB hx1 hx2
            go_wp2_with fail
            go_roundg g1
            case measure => exact Nat.lt_succ_self _
            case rel => exact ⟨i + 2, acc ++ Lib.encodeRuneZ c, congrArg (Value.int .i64) hw3, ⟨by have := HI.out; omega⟩, ⟨by rw [HWD.out, if_neg hbad, Option.map_map]; congr 1; funext z; simp⟩, ⟨by rw [List.length_append]; have := encodeRuneZ_len c; have := HA.out; omega⟩, HO5, HB5⟩
        · have c1 : decide ((i : Int) < (l0.length : Int)) = false := decide_eq_false (by omega)
          have hie : i = l0.length := by have := HI.out; omega
          have hcv := own_string (P := Tryz.prog) Tryz.underlying22 Tryz.underlying5 Tryz.underlying9 (Kd.own_of_R HO.out)
          have hwl : wideL l0 = some acc := by rw [HW.out, hie, List.drop_length]; simp [wideL]
          rw [hwl] at h
          simp only [Option.some.injEq, Prod.mk.injEq] at h
          obtain ⟨rfl, rfl⟩ := h
          go_wp2_with fail
          go_ret2
          exact ⟨rfl, HB.out⟩
end Go.Proofs.YtkioddjjfifadaaGreatDoor.P
