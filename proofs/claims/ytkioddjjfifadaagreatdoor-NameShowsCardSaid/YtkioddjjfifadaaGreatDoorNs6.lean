/- What the proof of NameShows needs of: Lt1, Lt3, Pxf159, Hm0, Pxf93, Hm1, Pxf39, Lx0, Lv0, Lx1, Lv1, Pxf214, Pxf215, G0. -/
import Derived.Lib.ValidLaws
import Derived.Deep.MidRow
import Derived.Lib.ItoaLen
import Derived.Lib.SliceRun
import Derived.Test.YtkioddjjfifadaaGreatDoorNs2
import Derived.Test.YtkioddjjfifadaaGreatDoorNs4
import Derived.Test.YtkioddjjfifadaaGreatDoorNs5
set_option linter.unusedVariables false
set_option linter.unusedSimpArgs false
namespace Go.Proofs.YtkioddjjfifadaaGreatDoor.P
open Go.RowKit Go.Proofs.YtkioddjjfifadaaGreatDoorW.PrintWords
theorem w64' {n : Int} (h0 : -9223372036854775808 ≤ n) (h1 : n ≤ 9223372036854775807) : wrap64 n = n := by unfold wrap64; omega
theorem wh_step (k : Nat) (l : List Int) (i n v least x b : Int) (hx : x < i + n) (hx0 : 0 ≤ x) (hxl : x < (l.length : Int)) (hb : rd l x = b) (hb0 : 0 ≤ b) (hb1 : b ≤ 255) (hv0 : 0 ≤ v) (hv1 : v ≤ 1000000) (hi : i + n ≤ 1000000000) (hi0 : 0 ≤ i + n) (hlen : l.length ≤ 1000000000) :
    chirographref06_whole.l0 (k + 1) l i n v least x = if b < 128 then some 0 else if b ≥ 192 then some 0 else chirographref06_whole.l0 k l i n (v * 64 + b - 128) least (x + 1) := by
  have e1 : wrap64 (i + n) = i + n := w64' (by omega) (by omega)
  have e2 : wrap64 b = b := by unfold wrap64; omega
  have e3 : wrap64 (v * 64) = v * 64 := by unfold wrap64; omega
  have e4 : wrap64 (v * 64 + b) = v * 64 + b := by unfold wrap64; omega
  have e5 : wrap64 (v * 64 + b - 128) = v * 64 + b - 128 := by unfold wrap64; omega
  have e6 : wrap64 (x + 1) = x + 1 := by unfold wrap64; omega
  rw [chirographref06_whole.l0, e1, if_pos hx, if_pos hx0, if_pos hxl, hb, e2, e3, e4, e5, e6]
def fin (n v least : Int) : Option Int := if v < least then some 0 else if v > 1114111 then some 0 else if v ≥ 55296 then (if v ≤ 57343 then some 0 else some n) else some n
theorem wh_end (k : Nat) (l : List Int) (i n v least : Int) (hi : i + n ≤ 1000000000) (hi0 : 0 ≤ i + n) : chirographref06_whole.l0 (k + 1) l i n v least (i + n) = fin n v least := by
  have e1 : wrap64 (i + n) = i + n := w64' (by omega) (by omega)
  rw [chirographref06_whole.l0, e1, if_neg (by omega)]
  rfl
/-- What whole answers of n bytes that begin b0 b1 b2 b3. -/
def wholeN (n : Nat) (b0 b1 b2 b3 : Int) : Int :=
  if b0 < 128 then 1
  else if 192 ≤ b0 ∧ b0 < 224 then (if n < 2 ∨ b1 < 128 ∨ 192 ≤ b1 ∨ (b0 - 192) * 64 + b1 - 128 < 128 then 0 else 2)
  else if 224 ≤ b0 ∧ b0 < 240 then (if n < 3 ∨ b1 < 128 ∨ 192 ≤ b1 ∨ b2 < 128 ∨ 192 ≤ b2 ∨ ((b0 - 224) * 64 + b1 - 128) * 64 + b2 - 128 < 2048 ∨ (55296 ≤ ((b0 - 224) * 64 + b1 - 128) * 64 + b2 - 128 ∧ ((b0 - 224) * 64 + b1 - 128) * 64 + b2 - 128 ≤ 57343) then 0 else 3)
  else if 240 ≤ b0 ∧ b0 < 248 then (if n < 4 ∨ b1 < 128 ∨ 192 ≤ b1 ∨ b2 < 128 ∨ 192 ≤ b2 ∨ b3 < 128 ∨ 192 ≤ b3 ∨ (((b0 - 240) * 64 + b1 - 128) * 64 + b2 - 128) * 64 + b3 - 128 < 65536 ∨ 1114111 < (((b0 - 240) * 64 + b1 - 128) * 64 + b2 - 128) * 64 + b3 - 128 then 0 else 4)
  else 0
theorem wrap_ij (i : Nat) (j : Int) (hi : i ≤ 1000000) (hj0 : 0 ≤ j) (hj : j ≤ 10) : wrap64 ((i : Int) + j) = (i : Int) + j := w64' (by omega) (by omega)
theorem wrap_byte (b j : Int) (h0 : 0 ≤ b) (h1 : b ≤ 255) (hj0 : 0 ≤ j) (hj : j ≤ 255) : wrap64 (b - j) = b - j := w64' (by omega) (by omega)
theorem wrap_byte0 (b : Int) (h0 : 0 ≤ b) (h1 : b ≤ 255) : wrap64 b = b := w64' (by omega) (by omega)
/-- The loop of whole over one, two, three bytes more. -/
theorem wh_one (k : Nat) (l : List Int) (i : Nat) (n v least b1 : Int) (hn : n = 2) (hlen : (i : Int) + n ≤ l.length) (hl : l.length ≤ 1000000) (e1 : rd l ((i : Int) + 1) = b1) (s0 : 0 ≤ b1) (s1 : b1 ≤ 255) (hv0 : 0 ≤ v) (hv1 : v ≤ 255) :
    chirographref06_whole.l0 (k + 2) l (i : Int) n v least ((i : Int) + 1) = if b1 < 128 then some 0 else if b1 ≥ 192 then some 0 else fin n (v * 64 + b1 - 128) least := by
  subst hn
  rw [wh_step _ l i 2 v least ((i : Int) + 1) b1 (by omega) (by omega) (by omega) e1 s0 s1 hv0 (by omega) (by omega) (by omega) (by omega), show (i : Int) + 1 + 1 = (i : Int) + 2 by omega, wh_end _ l i 2 _ least (by omega) (by omega)]
theorem wh_two (k : Nat) (l : List Int) (i : Nat) (n v least b1 b2 : Int) (hn : n = 3) (hlen : (i : Int) + n ≤ l.length) (hl : l.length ≤ 1000000) (e1 : rd l ((i : Int) + 1) = b1) (s0 : 0 ≤ b1) (s1 : b1 ≤ 255) (e2 : rd l ((i : Int) + 2) = b2) (t0 : 0 ≤ b2) (t1 : b2 ≤ 255) (hv0 : 0 ≤ v) (hv1 : v ≤ 255) :
    chirographref06_whole.l0 (k + 3) l (i : Int) n v least ((i : Int) + 1) = if b1 < 128 then some 0 else if b1 ≥ 192 then some 0 else if b2 < 128 then some 0 else if b2 ≥ 192 then some 0 else fin n ((v * 64 + b1 - 128) * 64 + b2 - 128) least := by
  subst hn
  have E2 := Aside0.mk e2
  clear e2
  rw [wh_step _ l i 3 v least ((i : Int) + 1) b1 (by omega) (by omega) (by omega) e1 s0 s1 hv0 (by omega) (by omega) (by omega) (by omega), show (i : Int) + 1 + 1 = (i : Int) + 2 by omega]
  clear e1
  by_cases h1 : b1 < 128
  · rw [if_pos h1, if_pos h1]
  rw [if_neg h1, if_neg h1]
  by_cases h2 : b1 ≥ 192
  · rw [if_pos h2, if_pos h2]
  rw [if_neg h2, if_neg h2, wh_step _ l i 3 _ least ((i : Int) + 2) b2 (by omega) (by omega) (by omega) E2.out t0 t1 (by omega) (by omega) (by omega) (by omega) (by omega), show (i : Int) + 2 + 1 = (i : Int) + 3 by omega, wh_end _ l i 3 _ least (by omega) (by omega)]
theorem wh_three (k : Nat) (l : List Int) (i : Nat) (n v least b1 b2 b3 : Int) (hn : n = 4) (hlen : (i : Int) + n ≤ l.length) (hl : l.length ≤ 1000000) (e1 : rd l ((i : Int) + 1) = b1) (s0 : 0 ≤ b1) (s1 : b1 ≤ 255) (e2 : rd l ((i : Int) + 2) = b2) (t0 : 0 ≤ b2) (t1 : b2 ≤ 255) (e3 : rd l ((i : Int) + 3) = b3) (u0 : 0 ≤ b3) (u1 : b3 ≤ 255) (hv0 : 0 ≤ v) (hv1 : v ≤ 7) :
    chirographref06_whole.l0 (k + 4) l (i : Int) n v least ((i : Int) + 1) = if b1 < 128 then some 0 else if b1 ≥ 192 then some 0 else if b2 < 128 then some 0 else if b2 ≥ 192 then some 0 else if b3 < 128 then some 0 else if b3 ≥ 192 then some 0 else fin n (((v * 64 + b1 - 128) * 64 + b2 - 128) * 64 + b3 - 128) least := by
  subst hn
  have E2 := Aside0.mk e2
  have E3 := Aside0.mk e3
  clear e2 e3
  rw [wh_step _ l i 4 v least ((i : Int) + 1) b1 (by omega) (by omega) (by omega) e1 s0 s1 hv0 (by omega) (by omega) (by omega) (by omega), show (i : Int) + 1 + 1 = (i : Int) + 2 by omega]
  clear e1
  by_cases h1 : b1 < 128
  · rw [if_pos h1, if_pos h1]
  rw [if_neg h1, if_neg h1]
  by_cases h2 : b1 ≥ 192
  · rw [if_pos h2, if_pos h2]
  rw [if_neg h2, if_neg h2, wh_step _ l i 4 _ least ((i : Int) + 2) b2 (by omega) (by omega) (by omega) E2.out t0 t1 (by omega) (by omega) (by omega) (by omega) (by omega), show (i : Int) + 2 + 1 = (i : Int) + 3 by omega]
  by_cases h3 : b2 < 128
  · rw [if_pos h3, if_pos h3]
  rw [if_neg h3, if_neg h3]
  by_cases h4 : b2 ≥ 192
  · rw [if_pos h4, if_pos h4]
  rw [if_neg h4, if_neg h4, wh_step _ l i 4 _ least ((i : Int) + 3) b3 (by omega) (by omega) (by omega) E3.out u0 u1 (by omega) (by omega) (by omega) (by omega) (by omega), show (i : Int) + 3 + 1 = (i : Int) + 4 by omega, wh_end _ l i 4 _ least (by omega) (by omega)]
set_option maxHeartbeats 2000000 in
theorem whole_N (k : Nat) (l : List Int) (i : Nat) (hi : i < l.length) (hlen : l.length ≤ 1000000) (hb : l.all isByte = true) :
    chirographref06_whole.f (k + 10) l (i : Int) = some (wholeN (l.length - i) (rd l i) (rd l ((i : Int) + 1)) (rd l ((i : Int) + 2)) (rd l ((i : Int) + 3))) := by
  obtain ⟨p0, p1⟩ := rd_byte l hb (i : Int) (by omega) (by omega)
  have R1 : (i : Int) + 1 < l.length → 0 ≤ rd l ((i : Int) + 1) ∧ rd l ((i : Int) + 1) ≤ 255 := fun h => rd_byte l hb _ (by omega) h
  have R2 : (i : Int) + 2 < l.length → 0 ≤ rd l ((i : Int) + 2) ∧ rd l ((i : Int) + 2) ≤ 255 := fun h => rd_byte l hb _ (by omega) h
  have R3 : (i : Int) + 3 < l.length → 0 ≤ rd l ((i : Int) + 3) ∧ rd l ((i : Int) + 3) ≤ 255 := fun h => rd_byte l hb _ (by omega) h
  have q0 : (0 : Int) ≤ (i : Int) := by omega
  have q1 : (i : Int) < (l.length : Int) := by omega
  have w1 := wrap_ij i 1 (by omega) (by omega) (by omega)
  have w2 := wrap_ij i 2 (by omega) (by omega) (by omega)
  have w3 := wrap_ij i 3 (by omega) (by omega) (by omega)
  have w4 := wrap_ij i 4 (by omega) (by omega) (by omega)
  have W1 := Aside0.mk w1; have W2 := Aside0.mk w2; have W3 := Aside0.mk w3; have W4 := Aside0.mk w4
  have Q1 := Aside0.mk R1; have Q2 := Aside0.mk R2; have Q3 := Aside0.mk R3
  clear w1 w2 w3 w4 R1 R2 R3
  have E0 : Aside0 (∃ b, rd l (i : Int) = b) := ⟨_, rfl⟩
  have W0 := Aside0.mk (wrap_byte0 _ p0 p1)
  have V2 := Aside0.mk (wrap_byte _ 192 p0 p1 (by omega) (by omega))
  have V3 := Aside0.mk (wrap_byte _ 224 p0 p1 (by omega) (by omega))
  have V4 := Aside0.mk (wrap_byte _ 240 p0 p1 (by omega) (by omega))
  unfold chirographref06_whole.f
  rw [if_pos q0, if_pos q1, W0.out]
  clear W0 E0
  generalize hb0 : rd l (i : Int) = b0 at *
  generalize hb1 : rd l ((i : Int) + 1) = b1 at *
  generalize hb2 : rd l ((i : Int) + 2) = b2 at *
  generalize hb3 : rd l ((i : Int) + 3) = b3 at *
  have E1 := Aside0.mk hb1
  have E2 := Aside0.mk hb2
  have E3 := Aside0.mk hb3
  clear hb0 hb1 hb2 hb3 q0 q1 hb
  unfold wholeN
  by_cases c0 : b0 < 128
  · rw [if_pos c0, if_pos c0]
  rw [if_neg c0, if_neg c0]
  by_cases c1 : b0 ≥ 192
  rotate_left
  · rw [if_neg c1, if_neg (by omega), if_neg (by omega), if_neg (by omega), chirographref06_whole.j0, if_neg (by simp), if_neg (by omega), chirographref06_whole.j1, if_neg (by simp), if_neg (by omega)]
  rw [if_pos c1]
  by_cases c2 : b0 < 224
  · rw [if_pos ⟨c1, c2⟩, chirographref06_whole.j0, if_pos (decide_eq_true c2), V2.out, chirographref06_whole.j2, W2.out, W1.out]
    clear V2 V3 V4 W1 W2 W3 W4
    by_cases hn : (i : Int) + 2 > l.length
    · rw [if_pos hn, if_pos (Or.inl (by omega))]
    obtain ⟨s0, s1⟩ := Q1.out (by omega)
    rw [if_neg hn, wh_one (k + 6) l i 2 _ 128 b1 rfl (by omega) hlen E1.out s0 s1 (by omega) (by omega)]
    unfold fin
    clear E1 E2 E3 Q1 Q2 Q3
    repeat' split
    all_goals first | rfl | (exfalso; omega)
  rw [if_neg (by omega), chirographref06_whole.j0, if_neg (by simpa using c2)]
  by_cases c3 : b0 ≥ 224
  rotate_left
  · rw [if_neg c3, chirographref06_whole.j1, if_neg (by simp), if_neg (by omega), if_neg (by omega), if_neg (by omega)]
  rw [if_pos c3, chirographref06_whole.j1]
  by_cases c4 : b0 < 240
  · rw [if_pos (decide_eq_true c4), if_pos ⟨c3, c4⟩, V3.out, chirographref06_whole.j2, W3.out, W1.out]
    clear V2 V3 V4 W1 W2 W3 W4
    by_cases hn : (i : Int) + 3 > l.length
    · rw [if_pos hn, if_pos (Or.inl (by omega))]
    obtain ⟨s0, s1⟩ := Q1.out (by omega)
    obtain ⟨t0, t1⟩ := Q2.out (by omega)
    rw [if_neg hn, wh_two (k + 4) l i 3 _ 2048 b1 b2 rfl (by omega) hlen E1.out s0 s1 E2.out t0 t1 (by omega) (by omega)]
    unfold fin
    clear E1 E2 E3 Q1 Q2 Q3
    repeat' split
    all_goals first | rfl | (exfalso; omega)
  rw [if_neg (by simpa using c4), if_pos (show b0 ≥ 240 by omega), if_neg (show ¬ (224 ≤ b0 ∧ b0 < 240) by omega)]
  by_cases c5 : b0 < 248
  rotate_left
  · rw [if_neg c5, if_neg (by omega)]
  rw [if_pos c5, if_pos ⟨by omega, c5⟩, V4.out, chirographref06_whole.j2, W4.out, W1.out]
  clear V2 V3 V4 W1 W2 W3 W4
  by_cases hn : (i : Int) + 4 > l.length
  · rw [if_pos hn, if_pos (Or.inl (by omega))]
  obtain ⟨s0, s1⟩ := Q1.out (by omega)
  obtain ⟨t0, t1⟩ := Q2.out (by omega)
  obtain ⟨u0, u1⟩ := Q3.out (by omega)
  rw [if_neg hn, wh_three (k + 3) l i 4 _ 65536 b1 b2 b3 rfl (by omega) hlen E1.out s0 s1 E2.out t0 t1 E3.out u0 u1 (by omega) (by omega)]
  unfold fin
  clear E1 E2 E3 Q1 Q2 Q3
  repeat' split
  all_goals first | rfl | (exfalso; omega)
/-- No rune: the decoder's answer at what is no character. -/
def bad (D : Nat × Nat) : Prop := D.1 = 65533 ∧ D.2 = 1
instance (D : Nat × Nat) : Decidable (bad D) := by unfold bad; infer_instance
theorem bad_bad : bad (65533, 1) := ⟨rfl, rfl⟩
theorem not_bad {v n : Nat} (h : n ≠ 1) : ¬ bad (v, n) := fun hb => h hb.2
theorem wholeN_decode (n b0 b1 b2 b3 : Nat) (hn : 1 ≤ n) (h0 : b0 < 256) (h1 : b1 < 256) (h2 : b2 < 256) (h3 : b3 < 256) :
    wholeN n (b0 : Int) (b1 : Int) (b2 : Int) (b3 : Int) = if bad (Lib.decodeN n b0 b1 b2 b3) then 0 else (((Lib.decodeN n b0 b1 b2 b3).2 : Nat) : Int) := by
  unfold wholeN Lib.decodeN
  by_cases c0 : b0 < 128
  · rw [if_pos (show (b0 : Int) < 128 by omega), if_pos c0, if_neg (fun hb : bad (b0, 1) => by have := hb.1; simp at this; omega)]
    rfl
  rw [if_neg (show ¬ (b0 : Int) < 128 by omega), if_neg c0]
  by_cases c1 : 192 ≤ b0 ∧ b0 < 224
  · rw [if_pos (show (192 : Int) ≤ b0 ∧ (b0 : Int) < 224 by omega)]
    by_cases d1 : 1 < n ∧ b1 / 64 = 2
    rotate_left
    · rw [if_neg (show ¬ (b0 / 32 = 6 ∧ (1 < n ∧ b1 / 64 = 2)) from fun h => d1 h.2), if_neg (show ¬ (b0 / 16 = 14 ∧ (1 < n ∧ b1 / 64 = 2) ∧ (2 < n ∧ b2 / 64 = 2)) from fun h => d1 h.2.1), if_neg (show ¬ (b0 / 8 = 30 ∧ (1 < n ∧ b1 / 64 = 2) ∧ (2 < n ∧ b2 / 64 = 2) ∧ (3 < n ∧ b3 / 64 = 2)) from fun h => d1 h.2.1), if_pos bad_bad, if_pos (by omega)]
    rw [if_pos (show b0 / 32 = 6 ∧ (1 < n ∧ b1 / 64 = 2) from ⟨by omega, d1⟩)]
    by_cases d2 : b0 % 32 * 64 + b1 % 64 ≥ 128
    rotate_left
    · rw [if_neg d2, if_pos bad_bad, if_pos (by omega)]
    rw [if_pos d2, if_neg (not_bad (by omega)), if_neg (by omega)]
    rfl
  rw [if_neg (show ¬ ((192 : Int) ≤ b0 ∧ (b0 : Int) < 224) by omega), if_neg (show ¬ (b0 / 32 = 6 ∧ (1 < n ∧ b1 / 64 = 2)) from fun h => c1 (by omega))]
  by_cases c2 : 224 ≤ b0 ∧ b0 < 240
  · rw [if_pos (show (224 : Int) ≤ b0 ∧ (b0 : Int) < 240 by omega)]
    by_cases d1 : (1 < n ∧ b1 / 64 = 2) ∧ (2 < n ∧ b2 / 64 = 2)
    rotate_left
    · rw [if_neg (show ¬ (b0 / 16 = 14 ∧ (1 < n ∧ b1 / 64 = 2) ∧ (2 < n ∧ b2 / 64 = 2)) from fun h => d1 h.2), if_neg (show ¬ (b0 / 8 = 30 ∧ (1 < n ∧ b1 / 64 = 2) ∧ (2 < n ∧ b2 / 64 = 2) ∧ (3 < n ∧ b3 / 64 = 2)) from fun h => d1 ⟨h.2.1, h.2.2.1⟩), if_pos bad_bad, if_pos (by omega)]
    rw [if_pos (show b0 / 16 = 14 ∧ (1 < n ∧ b1 / 64 = 2) ∧ (2 < n ∧ b2 / 64 = 2) from ⟨by omega, d1⟩)]
    by_cases d2 : b0 % 16 * 4096 + b1 % 64 * 64 + b2 % 64 ≥ 2048 ∧ (b0 % 16 * 4096 + b1 % 64 * 64 + b2 % 64 < 55296 ∨ (57344 ≤ b0 % 16 * 4096 + b1 % 64 * 64 + b2 % 64 ∧ b0 % 16 * 4096 + b1 % 64 * 64 + b2 % 64 ≤ 1114111))
    rotate_left
    · rw [if_neg d2, if_pos bad_bad, if_pos (by omega)]
    rw [if_pos d2, if_neg (not_bad (by omega)), if_neg (by omega)]
    rfl
  rw [if_neg (show ¬ ((224 : Int) ≤ b0 ∧ (b0 : Int) < 240) by omega), if_neg (show ¬ (b0 / 16 = 14 ∧ (1 < n ∧ b1 / 64 = 2) ∧ (2 < n ∧ b2 / 64 = 2)) from fun h => c2 (by omega))]
  by_cases c3 : 240 ≤ b0 ∧ b0 < 248
  · rw [if_pos (show (240 : Int) ≤ b0 ∧ (b0 : Int) < 248 by omega)]
    by_cases d1 : (1 < n ∧ b1 / 64 = 2) ∧ (2 < n ∧ b2 / 64 = 2) ∧ (3 < n ∧ b3 / 64 = 2)
    rotate_left
    · rw [if_neg (show ¬ (b0 / 8 = 30 ∧ (1 < n ∧ b1 / 64 = 2) ∧ (2 < n ∧ b2 / 64 = 2) ∧ (3 < n ∧ b3 / 64 = 2)) from fun h => d1 h.2), if_pos bad_bad, if_pos (by omega)]
    rw [if_pos (show b0 / 8 = 30 ∧ (1 < n ∧ b1 / 64 = 2) ∧ (2 < n ∧ b2 / 64 = 2) ∧ (3 < n ∧ b3 / 64 = 2) from ⟨by omega, d1⟩)]
    by_cases d2 : b0 % 8 * 262144 + b1 % 64 * 4096 + b2 % 64 * 64 + b3 % 64 ≥ 65536 ∧ (b0 % 8 * 262144 + b1 % 64 * 4096 + b2 % 64 * 64 + b3 % 64 < 55296 ∨ (57344 ≤ b0 % 8 * 262144 + b1 % 64 * 4096 + b2 % 64 * 64 + b3 % 64 ∧ b0 % 8 * 262144 + b1 % 64 * 4096 + b2 % 64 * 64 + b3 % 64 ≤ 1114111))
    rotate_left
    · rw [if_neg d2, if_pos bad_bad, if_pos (by omega)]
    rw [if_pos d2, if_neg (not_bad (by omega)), if_neg (by omega)]
    rfl
  rw [if_neg (show ¬ ((240 : Int) ≤ b0 ∧ (b0 : Int) < 248) by omega), if_neg (show ¬ (b0 / 8 = 30 ∧ (1 < n ∧ b1 / 64 = 2) ∧ (2 < n ∧ b2 / 64 = 2) ∧ (3 < n ∧ b3 / 64 = 2)) from fun h => c3 (by omega)), if_pos bad_bad]
/-- The bytes of a row of numbers. -/
theorem sn_get (l : List Int) (hb : l.all isByte = true) (i : Nat) (h : i < l.length) : ((((strOfNums l).data.toList.getD i 0).toNat : Nat) : Int) = rd l (i : Int) := by
  have hr := rd_byte l hb (i : Int) (by omega) (by omega)
  have e1 : rd l (i : Int) = l[i]'h := by
    show l.getD (i : Int).toNat 0 = _
    rw [Int.toNat_natCast, List.getD_eq_getElem?_getD, List.getElem?_eq_getElem h]
    rfl
  rw [e1] at hr ⊢
  unfold strOfNums
  simp only [List.getD_eq_getElem?_getD, List.getElem?_map, List.getElem?_eq_getElem h, Option.map_some, Option.getD_some, UInt8.toNat_ofNat']
  omega
theorem sn_len (l : List Int) : (strOfNums l).data.toList.length = l.length := by
  unfold strOfNums
  simp
theorem sn_get' (l : List Int) (hb : l.all isByte = true) (i : Nat) : ((((strOfNums l).data.toList.getD i 0).toNat : Nat) : Int) = rd l (i : Int) := by
  by_cases h : i < l.length
  · exact sn_get l hb i h
  have e1 : rd l (i : Int) = 0 := by
    show l.getD (i : Int).toNat 0 = _
    rw [Int.toNat_natCast, List.getD_eq_getElem?_getD, List.getElem?_eq_none (by omega)]
    rfl
  rw [e1, List.getD_eq_getElem?_getD, List.getElem?_eq_none (by rw [sn_len]; omega)]
  rfl
theorem wholeN_le (n : Nat) (b0 b1 b2 b3 : Int) : 0 ≤ wholeN n b0 b1 b2 b3 ∧ wholeN n b0 b1 b2 b3 ≤ 4 := by
  unfold wholeN
  repeat' split
  all_goals omega
theorem utf8_loop (l : List Int) (hb : l.all isByte = true) (hlen : l.length ≤ 1000000) : ∀ (k i : Nat), i ≤ l.length + 3 → l.length - i < k →
    chirographref06_utf8.l0 (k + 10) l (i : Int) = some (Lib.validD ((strOfNums l).data.toList.drop i))
  | 0, _, _, h => absurd h (Nat.not_lt_zero _)
  | k + 1, i, hi, hk => by
    show chirographref06_utf8.l0 (k + 10 + 1) l (i : Int) = _
    rw [chirographref06_utf8.l0]
    by_cases hlt : i < l.length
    · rw [if_pos (by omega), whole_N k l i hlt hlen hb]
      have hne : (strOfNums l).data.toList.drop i ≠ [] := fun h => by
        have := congrArg List.length h
        rw [List.length_drop, sn_len] at this
        simp at this
        omega
      have hD : Lib.decodeL ((strOfNums l).data.toList.drop i) = Lib.decodeN (l.length - i) ((strOfNums l).data.toList.getD i 0).toNat ((strOfNums l).data.toList.getD (i + 1) 0).toNat ((strOfNums l).data.toList.getD (i + 2) 0).toNat ((strOfNums l).data.toList.getD (i + 3) 0).toNat := by
        rw [Lib.decodeL_N, List.length_drop, sn_len]
        simp only [List.getD_eq_getElem?_getD, List.getElem?_drop, Nat.add_zero]
      have hW := wholeN_decode (l.length - i) ((strOfNums l).data.toList.getD i 0).toNat ((strOfNums l).data.toList.getD (i + 1) 0).toNat ((strOfNums l).data.toList.getD (i + 2) 0).toNat ((strOfNums l).data.toList.getD (i + 3) 0).toNat (by omega) (UInt8.toNat_lt _) (UInt8.toNat_lt _) (UInt8.toNat_lt _) (UInt8.toNat_lt _)
      rw [← hD, sn_get' l hb, sn_get' l hb, sn_get' l hb, sn_get' l hb] at hW
      have hle := wholeN_le (l.length - i) (rd l i) (rd l ((i : Int) + 1)) (rd l ((i : Int) + 2)) (rd l ((i : Int) + 3))
      have hW' : wholeN (l.length - i) (rd l i) (rd l ((i : Int) + 1)) (rd l ((i : Int) + 2)) (rd l ((i : Int) + 3)) = if bad (Lib.decodeL ((strOfNums l).data.toList.drop i)) then 0 else (((Lib.decodeL ((strOfNums l).data.toList.drop i)).2 : Nat) : Int) := hW
      clear hD hW
      generalize wholeN (l.length - i) (rd l i) (rd l ((i : Int) + 1)) (rd l ((i : Int) + 2)) (rd l ((i : Int) + 3)) = t at *
      rw [Lib.validD_step _ hne]
      have hw1 := Lib.decodeL_width ((strOfNums l).data.toList.drop i)
      simp only [Option.bind_some]
      by_cases hbad : bad (Lib.decodeL ((strOfNums l).data.toList.drop i))
      · rw [if_pos hbad] at hW'
        have hb2 : (Lib.decodeL ((strOfNums l).data.toList.drop i)).1 = 65533 ∧ (Lib.decodeL ((strOfNums l).data.toList.drop i)).2 = 1 := hbad
        rw [if_pos hW', if_pos hb2]
      · rw [if_neg hbad] at hW'
        have hb2 : ¬ ((Lib.decodeL ((strOfNums l).data.toList.drop i)).1 = 65533 ∧ (Lib.decodeL ((strOfNums l).data.toList.drop i)).2 = 1) := hbad
        rw [if_neg (by omega), if_neg hb2, List.drop_drop]
        clear hb2 hbad
        generalize (Lib.decodeL ((strOfNums l).data.toList.drop i)).2 = m at *
        subst hW'
        rw [show wrap64 ((i : Int) + (m : Int)) = ((i + m : Nat) : Int) from (w64' (by omega) (by omega)).trans (by omega)]
        exact utf8_loop l hb hlen k (i + m) (by omega) (by omega)
    · rw [if_neg (by omega), List.drop_eq_nil_of_le (by rw [sn_len]; omega), Lib.validD_nil]
theorem utf8_eq (l : List Int) (hb : l.all isByte = true) (hlen : l.length ≤ 1000000) (k : Nat) (hk : l.length + 20 < k) : chirographref06_utf8.f k l = some (Lib.validD (strOfNums l).data.toList) := by
  obtain ⟨k', rfl⟩ : ∃ k', k = k' + 10 := ⟨k - 10, by omega⟩
  unfold chirographref06_utf8.f
  exact (utf8_loop l hb hlen k' 0 (by omega) (by omega)).trans (by rw [List.drop_zero])
end Go.Proofs.YtkioddjjfifadaaGreatDoor.P
namespace Go.Proofs.YtkioddjjfifadaaGreatDoor.P
open Go.RowKit Go.Proofs.YtkioddjjfifadaaGreatDoorW.PrintWords
theorem fits_18 : ∀ b : Fin 256, text_fits.f 18 ((b.val : Nat) : Int) = some (decide (48 ≤ b.val ∧ b.val ≤ 57 ∨ b.val = 32)) := by decide +kernel
theorem fits_22 : ∀ b : Fin 256, text_fits.f 22 ((b.val : Nat) : Int) = some (decide (b.val < 128)) := by decide +kernel
theorem fits_26 : ∀ b : Fin 256, text_fits.f 26 ((b.val : Nat) : Int) = some (decide (32 ≤ b.val ∧ b.val ≤ 126)) := by decide +kernel
theorem fits_19 : ∀ b : Fin 256, chirographref06_printable.f 20 ((b.val : Nat) : Int) = text_fits.f 19 ((b.val : Nat) : Int) := by decide +kernel
theorem printable_fits (k : Nat) (c : Int) (t : Bool) (h0 : 0 ≤ c) (h1 : c ≤ 255) (hk : 20 ≤ k) (h : text_fits.f 19 c = some t) : chirographref06_printable.f k c = some t := by
  obtain ⟨n, rfl⟩ : ∃ n : Nat, c = (n : Int) := ⟨c.toNat, by omega⟩
  have := fits_19 ⟨n, by omega⟩
  rw [h] at this
  exact at_rounds (g := fun k => chirographref06_printable.f k (n : Int)) (fun k => chirographref06_printable.mono _ k) hk this
theorem l1_step (k : Nat) (a : Int) (l : List Int) (i : Nat) (c : Int) (t : Bool) (hi : i < l.length) (hl : l.length ≤ 1000000) (hc : rd l (i : Int) = c) (h0 : 0 ≤ c) (h1 : c ≤ 255) (ha : a = 18 ∨ a = 19 ∨ a = 22 ∨ a = 26) (ht : text_fits.f a c = some t) :
    chirographref06_Text.l1 (k + 30) a l (i : Int) = if t = true then chirographref06_Text.l1 (k + 26) a l ((i + 1 : Nat) : Int) else some ((⟨#[]⟩ : ByteArray), 60) := by
  have E1 : Aside0 (wrap64 ((i : Int) + 1) = ((i + 1 : Nat) : Int)) := ⟨(w64' (by omega) (by omega)).trans (by omega)⟩
  obtain ⟨n, hn⟩ : ∃ n : Nat, c = (n : Int) := ⟨c.toNat, by omega⟩
  have hj4 : chirographref06_Text.l1 (k + 30) a l (i : Int) = chirographref06_Text.j4 (k + 29) a l (i : Int) c (decide (48 ≤ n ∧ n ≤ 57 ∨ n = 32)) := by
    show chirographref06_Text.l1 (k + 29 + 1) a l (i : Int) = _
    rw [chirographref06_Text.l1, if_pos (by omega), if_pos (by omega), hc]
    by_cases c1 : c ≥ 48
    rotate_left
    · rw [if_neg c1]
      have : (c == 32) = decide (48 ≤ n ∧ n ≤ 57 ∨ n = 32) := by
        rw [Bool.eq_iff_iff]
        simp only [beq_iff_eq, decide_eq_true_eq]
        omega
      rw [this]
    rw [if_pos c1]
    by_cases c2 : c ≤ 57
    · rw [if_pos c2, decide_eq_true (by omega)]
    rw [if_neg c2]
    have : (c == 32) = decide (48 ≤ n ∧ n ≤ 57 ∨ n = 32) := by
      rw [Bool.eq_iff_iff]
      simp only [beq_iff_eq, decide_eq_true_eq]
      omega
    rw [this]
  rw [hj4]
  show chirographref06_Text.j4 (k + 28 + 1) a l (i : Int) c _ = _
  rw [chirographref06_Text.j4]
  have hj5 : ∀ x, chirographref06_Text.j5 (k + 28) a l (i : Int) c x = chirographref06_Text.j6 (k + 27) a l (i : Int) c (if a = 22 then decide (c < 128) else x) := by
    intro x
    show chirographref06_Text.j5 (k + 27 + 1) a l (i : Int) c x = _
    rw [chirographref06_Text.j5]
    split <;> rfl
  have hj6 : ∀ x, chirographref06_Text.j6 (k + 27) a l (i : Int) c x = if (if a = 26 then decide (32 ≤ c ∧ c ≤ 126) else x) = true then chirographref06_Text.l1 (k + 26) a l ((i + 1 : Nat) : Int) else some ((⟨#[]⟩ : ByteArray), 60) := by
    intro x
    show chirographref06_Text.j6 (k + 26 + 1) a l (i : Int) c x = _
    rw [chirographref06_Text.j6, E1.out]
    by_cases h26 : a = 26
    rotate_left
    · rw [if_neg h26, if_neg h26]
    rw [if_pos h26, if_pos h26]
    by_cases g1 : c ≥ 32
    rotate_left
    · rw [if_neg g1, if_neg (by simp; omega)]
    rw [if_pos g1]
    by_cases g2 : c ≤ 126
    rotate_left
    · rw [if_neg g2, if_neg (by simp; omega)]
    rw [if_pos g2, if_pos (decide_eq_true ⟨g1, g2⟩)]
  rcases ha with rfl | rfl | rfl | rfl
  · rw [if_neg (show ¬ (18 : Int) = 19 by decide), hj5, hj6, if_neg (show ¬ (18 : Int) = 26 by decide), if_neg (show ¬ (18 : Int) = 22 by decide)]
    have := fits_18 ⟨n, by omega⟩
    rw [hn] at ht
    rw [ht] at this
    rw [Option.some.inj this]
  · rw [if_pos rfl, printable_fits _ c t h0 h1 (by omega) ht, Option.bind_some, hj5, hj6, if_neg (show ¬ (19 : Int) = 26 by decide), if_neg (show ¬ (19 : Int) = 22 by decide)]
  rotate_left
  · rw [if_neg (show ¬ (26 : Int) = 19 by decide), hj5, hj6, if_pos (show (26 : Int) = 26 by rfl)]
    have := fits_26 ⟨n, by omega⟩
    rw [hn] at ht
    rw [ht] at this
    have e : t = decide (32 ≤ c ∧ c ≤ 126) := by
      rw [Option.some.inj this, Bool.eq_iff_iff]
      simp only [decide_eq_true_eq]
      omega
    rw [e]
  rw [if_neg (show ¬ (22 : Int) = 19 by decide), hj5, hj6, if_neg (show ¬ (22 : Int) = 26 by decide), if_pos (show (22 : Int) = 22 by rfl)]
  have := fits_22 ⟨n, by omega⟩
  rw [hn] at ht
  rw [ht] at this
  have e : t = decide (c < 128) := by
    rw [Option.some.inj this, Bool.eq_iff_iff]
    simp only [decide_eq_true_eq]
    omega
  rw [e]
theorem l1_end (k : Nat) (a : Int) (l : List Int) (i : Nat) (hi : ¬ i < l.length) : chirographref06_Text.l1 (k + 1) a l (i : Int) = some (strOfNums l, 0) := by
  rw [chirographref06_Text.l1, if_neg (by omega)]
theorem l1_loop (a : Int) (l : List Int) (hb : l.all isByte = true) (hl : l.length ≤ 1000000) (ha : a = 18 ∨ a = 19 ∨ a = 22 ∨ a = 26) : ∀ (k i K : Nat), l.length - i < k → 4 * (l.length - i) + 30 ≤ K → i ≤ l.length → ∀ r, text_Text.l0 k a l l (l.length : Int) (i : Int) = some r → chirographref06_Text.l1 K a l (i : Int) = some r
  | 0, _, _, h, _, _, _, _ => absurd h (Nat.not_lt_zero _)
  | k + 1, i, K, h, hK, hil, r, hr => by
    rw [text_Text.l0] at hr
    by_cases hi : i < l.length
    · rw [if_pos (by omega), if_pos (by omega), if_pos (by omega)] at hr
      obtain ⟨p0, p1⟩ := rd_byte l hb (i : Int) (by omega) (by omega)
      obtain ⟨t, ht, hr⟩ := Option.bind_eq_some_iff.mp hr
      obtain ⟨K', rfl⟩ : ∃ K', K = K' + 30 := ⟨K - 30, by omega⟩
      rw [l1_step K' a l i _ t hi hl rfl p0 p1 ha ht]
      cases t with
      | true =>
        rw [if_pos rfl] at hr ⊢
        rw [show wrap64 ((i : Int) + 1) = ((i + 1 : Nat) : Int) from (w64' (by omega) (by omega)).trans (by omega)] at hr
        exact l1_loop a l hb hl ha k (i + 1) (K' + 26) (by omega) (by omega) (by omega) r hr
      | false =>
        rw [if_neg (by simp)] at hr ⊢
        exact hr
    · rw [if_neg (by omega)] at hr
      obtain ⟨K', rfl⟩ : ∃ K', K = K' + 1 := ⟨K - 1, by omega⟩
      rw [l1_end K' a l i hi]
      exact hr
theorem bmp_j1 (k : Nat) (l acc : List Int) (i : Nat) (v : Int) (b : Bool) (hi : i + 2 ≤ 1000000) (hv0 : 0 ≤ v) (hv1 : v ≤ 65535) (hb : b = decide (55296 ≤ v ∧ v ≤ 57343)) (ha : acc.length + 3 < 140737488355328) :
    chirographref06_Text.j1 (k + 1) l acc (i : Int) v b = if b = true then some ((⟨#[]⟩ : ByteArray), 60) else chirographref06_Text.l0 k l (acc ++ Lib.encodeRuneZ v) ((i + 2 : Nat) : Int) := by
  have E2 : Aside0 (wrap64 ((i : Int) + 2) = ((i + 2 : Nat) : Int)) := ⟨(w64' (by omega) (by omega)).trans (by omega)⟩
  rw [chirographref06_Text.j1]
  cases b with
  | true => rw [if_pos rfl, if_pos rfl]
  | false =>
    have hns : ¬ (55296 ≤ v ∧ v ≤ 57343) := by simpa using hb.symm
    rw [if_neg (show ¬ false = true by simp), if_neg (show ¬ false = true by simp), E2.out]
    by_cases c1 : v < 128
    · rw [if_pos c1, if_pos (by omega), Lib.encodeRuneZ_one hv0 (by omega), show v % 256 = v by omega]
    rw [if_neg c1]
    by_cases c2 : v < 2048
    · have e1 : wrap64 (192 + wrap64 (v.tdiv 64)) % 256 = 192 + v / 64 := by
        rw [Int.tdiv_eq_ediv_of_nonneg hv0, w64' (n := v / 64) (by omega) (by omega), w64' (by omega) (by omega)]
        omega
      have e2 : wrap64 (128 + v.tmod 64) % 256 = 128 + v % 64 := by
        rw [Int.tmod_eq_emod_of_nonneg hv0, w64' (by omega) (by omega)]
        omega
      rw [if_pos c2, e1, e2, Option.bind_some, if_pos (by simp only [List.length_cons, List.length_nil]; omega), Lib.encodeRuneZ_two (by omega) (by omega)]
    have e1 : wrap64 (224 + wrap64 (v.tdiv 4096)) % 256 = 224 + v / 4096 := by
      rw [Int.tdiv_eq_ediv_of_nonneg hv0, w64' (n := v / 4096) (by omega) (by omega), w64' (by omega) (by omega)]
      omega
    have e2 : wrap64 (128 + (wrap64 (v.tdiv 64)).tmod 64) % 256 = 128 + v / 64 % 64 := by
      rw [Int.tdiv_eq_ediv_of_nonneg hv0, w64' (n := v / 64) (by omega) (by omega), Int.tmod_eq_emod_of_nonneg (by omega), w64' (by omega) (by omega)]
      omega
    have e3 : wrap64 (128 + v.tmod 64) % 256 = 128 + v % 64 := by
      rw [Int.tmod_eq_emod_of_nonneg hv0, w64' (by omega) (by omega)]
      omega
    rw [if_neg c2, e1, e2, e3, Option.bind_some, if_pos (by simp only [List.length_cons, List.length_nil]; omega), Lib.encodeRuneZ_three (by omega)]
theorem bmp_loop (l : List Int) (hb : l.all isByte = true) (hl : l.length ≤ 900000) (heven : l.length % 2 = 0) : ∀ (m i k : Nat) (acc : List Int), i % 2 = 0 → i ≤ l.length → l.length - i ≤ 2 * m → 2 * m + 1 ≤ k → acc.length ≤ 2 * i →
    chirographref06_Text.l0 k l acc (i : Int) = (match wideL (l.drop i) with | none => some ((⟨#[]⟩ : ByteArray), 60) | some x => some (strOfNums (acc ++ x), 0)) := by
  have fin : ∀ (i k : Nat) (acc : List Int), ¬ i < l.length → 1 ≤ k → chirographref06_Text.l0 k l acc (i : Int) = (match wideL (l.drop i) with | none => some ((⟨#[]⟩ : ByteArray), 60) | some x => some (strOfNums (acc ++ x), 0)) := by
    intro i k acc hi hk
    obtain ⟨k', rfl⟩ : ∃ k', k = k' + 1 := ⟨k - 1, by omega⟩
    rw [chirographref06_Text.l0, if_neg (by omega), List.drop_eq_nil_of_le (by omega)]
    simp [wideL]
  intro m
  induction m with
  | zero =>
    intro i k acc h1 h2 h3 h4 h5
    exact fin i k acc (by omega) (by omega)
  | succ m ih =>
    intro i k acc h1 h2 h3 h4 h5
    by_cases hi : i < l.length
    rotate_left
    · exact fin i k acc hi (by omega)
    have hi1 : i + 1 < l.length := by omega
    obtain ⟨k', rfl⟩ : ∃ k', k = k' + 2 := ⟨k - 2, by omega⟩
    obtain ⟨a0, a1⟩ := rd_byte l hb (i : Int) (by omega) (by omega)
    obtain ⟨b0, b1⟩ := rd_byte l hb ((i : Int) + 1) (by omega) (by omega)
    have E1 : Aside0 (wrap64 ((i : Int) + 1) = (i : Int) + 1) := ⟨w64' (by omega) (by omega)⟩
    rw [drop_two l i hi1, wideL]
    show chirographref06_Text.l0 (k' + 1 + 1) l acc (i : Int) = _
    rw [chirographref06_Text.l0, if_pos (by omega), if_pos (by omega), E1.out]
    rw [if_pos (by omega), if_pos (by omega)]
    generalize rd l (i : Int) = x at *
    generalize rd l ((i : Int) + 1) = y at *
    rw [w64' (n := x) (by omega) (by omega), w64' (n := y) (by omega) (by omega), w64' (n := x * 256) (by omega) (by omega), w64' (n := x * 256 + y) (by omega) (by omega)]
    have hv : ∀ b, b = decide (55296 ≤ x * 256 + y ∧ x * 256 + y ≤ 57343) → chirographref06_Text.j1 (k' + 1) l acc (i : Int) (x * 256 + y) b = (match (if 55296 ≤ x * 256 + y ∧ x * 256 + y < 57344 then none else (wideL (l.drop (i + 2))).map (Lib.encodeRuneZ (x * 256 + y) ++ ·)) with | none => some ((⟨#[]⟩ : ByteArray), 60) | some x => some (strOfNums (acc ++ x), 0)) := by
      intro b hbb
      rw [bmp_j1 k' l acc i _ b (by omega) (by omega) (by omega) hbb (by omega)]
      by_cases hs : 55296 ≤ x * 256 + y ∧ x * 256 + y ≤ 57343
      · rw [if_pos (hbb.trans (decide_eq_true hs)), if_pos (by omega)]
      have hbf : b = false := hbb.trans (decide_eq_false hs)
      have hel := (Lib.encodeRuneZ_length (x * 256 + y)).2
      rw [if_neg (by rw [hbf]; simp), if_neg (show ¬ (55296 ≤ x * 256 + y ∧ x * 256 + y < 57344) from fun h => hs ⟨h.1, by omega⟩), ih (i + 2) k' _ (by omega) (by omega) (by omega) (by omega) (by rw [List.length_append]; omega)]
      cases wideL (l.drop (i + 2)) with
      | none => rfl
      | some z => simp only [Option.map_some, List.append_assoc]
    by_cases c1 : x * 256 + y ≥ 55296
    rotate_left
    · rw [if_neg c1]
      exact hv _ (by symm; rw [decide_eq_false_iff_not]; omega)
    rw [if_pos c1]
    exact hv _ (by rw [Bool.eq_iff_iff]; simp only [decide_eq_true_eq]; omega)
theorem text_eq (a : Int) (l : List Int) (hb : l.all isByte = true) (hl : l.length ≤ 900000) (k K : Nat) (hk : l.length + 1 < k) (hK : 4 * l.length + 40 ≤ K) (r : ByteArray × Int) (h : text_Text.f k a l = some r) : chirographref06_Text.f K a l = some r := by
  unfold text_Text.f at h
  unfold chirographref06_Text.f
  by_cases h30 : a = 30
  · subst h30
    rw [if_pos rfl] at h
    rw [if_neg (show ¬ (30 : Int) = 12 by decide), if_pos (show (30 : Int) = 30 by rfl)]
    unfold text_wide.f at h
    rw [if_pos ⟨hb, by omega⟩] at h
    by_cases hodd : l.length % 2 = 1
    · rw [if_pos hodd, Option.bind_some] at h
      rw [if_pos (by omega)]
      exact h
    rw [if_neg hodd] at h
    rw [if_neg (by omega), show (0 : Int) = ((0 : Nat) : Int) from rfl, bmp_loop l hb hl (by omega) (l.length) 0 K [] rfl (Nat.zero_le _) (by omega) (by omega) (Nat.le_refl _), List.drop_zero]
    rw [← h]
    cases wideL l with
    | none => rfl
    | some x => rfl
  rw [if_neg h30] at h
  by_cases h12 : a = 12
  · rw [if_pos h12] at h ⊢
    unfold utf8_Valid.f at h
    rw [if_pos ⟨hb, by omega⟩, Option.bind_some] at h
    rw [utf8_eq l hb (by omega) K (by omega), Option.bind_some]
    exact h
  rw [if_neg h12] at h ⊢
  rw [if_neg h30]
  obtain ⟨k', rfl⟩ : ∃ k', k = k' + 1 := ⟨k - 1, by omega⟩
  obtain ⟨K', rfl⟩ : ∃ K', K = K' + 1 := ⟨K - 1, by omega⟩
  have key : ∀ b, (b = true → a = 18 ∨ a = 19 ∨ a = 22 ∨ a = 26) → text_Text.j0 (k' + 1) a l b = some r → chirographref06_Text.j2 (K' + 1) a l b = some r := by
    intro b hba hr
    rw [text_Text.j0] at hr
    rw [chirographref06_Text.j2]
    cases b with
    | false => exact hr
    | true =>
      rw [if_pos rfl] at hr ⊢
      exact l1_loop a l hb (by omega) (hba rfl) k' 0 K' (by omega) (by omega) (Nat.zero_le _) r hr
  by_cases h18 : a = 18
  · rw [if_pos h18] at h ⊢
    exact key _ (fun _ => Or.inl h18) h
  rw [if_neg h18] at h ⊢
  by_cases h19 : a = 19
  · rw [if_pos h19] at h ⊢
    exact key _ (fun _ => Or.inr (Or.inl h19)) h
  rw [if_neg h19] at h ⊢
  by_cases h22 : a = 22
  · rw [if_pos h22] at h ⊢
    exact key _ (fun _ => Or.inr (Or.inr (Or.inl h22))) h
  rw [if_neg h22] at h ⊢
  exact key _ (fun e => Or.inr (Or.inr (Or.inr (by simpa using e)))) h
end Go.Proofs.YtkioddjjfifadaaGreatDoor.P
namespace Go.Proofs.YtkioddjjfifadaaGreatDoor.P
open Go.RowKit Go.Proofs.YtkioddjjfifadaaGreatDoorW.PrintWords Go.Proofs.YtkioddjjfifadaaGreatDoorW.PrintLast Go.Proofs.YtkioddjjfifadaaGreatDoorW.PrintMore
attribute [local go_sem] max2_int min2_int max_two min_two max_three min_three max_four min_four   -- for this text's walks alone
set_option linter.unusedVariables false
set_option linter.unusedSimpArgs false
def text_Key.f (k : Nat) (a0 : Int) (l1 : List Int) : Option (ByteArray) := (text_Text.f k a0 l1).bind fun bt666 => (if bt666.2 = 0 then ((text_Fold.f bt666.1).bind fun t668 => (if 1 + t668.size ≤ 9223372036854775807 then (some ((⟨#[61]⟩ : ByteArray) ++ t668)) else (none))) else ((strconv_Itoa.f a0).bind fun t669 => (if 1 + t669.size ≤ 9223372036854775807 then (if ((⟨#[35]⟩ : ByteArray) ++ t669).size + 1 ≤ 9223372036854775807 then (if (((⟨#[35]⟩ : ByteArray) ++ t669) ++ (⟨#[58]⟩ : ByteArray)).size + (strOfNums l1).size ≤ 9223372036854775807 then (some ((((⟨#[35]⟩ : ByteArray) ++ t669) ++ (⟨#[58]⟩ : ByteArray)) ++ (strOfNums l1))) else (none)) else (none)) else (none))))
def text_Key.T3 : Bool × List (List Nat × List Nat) := (true, [([], []), ([0], [0]), ([1], [1]), ([2], [2]), ([], []), ([4], [4]), ([3, 5], [3, 5]), ([6, 1, 0, 1, 2, 3, 4, 5, 6], [6])])
def text_Key.B3 : List Nat := [0, 1, 3, 7, 0, 16, 63, 127]
theorem text_Key.tab3 : rtab .any (opsOf Tryz.f159 3) = text_Key.T3 := by kernel_rfl
theorem text_Key.bits3 : waitsOk text_Key.T3.2 text_Key.B3 = true := by kernel_rfl
set_option maxHeartbeats 8000000 in
set_option maxRecDepth 100000 in
theorem text_Key.calls (k : Nat) (a0 : Int) (A1 : Option Addr) (c1 : Nat) (l1 : List Int) (r : ByteArray) (w : World) (hr1 : Kd.C (Kd.int .u8) w A1 l1.length l1) (hc1 : l1.length ≤ c1) (h : text_Key.f k a0 l1 = some r) (hH : Tb w) :
    Calls Tryz.prog 159 #[.int .i64 a0, .slice A1 l1.length c1] w fun e w' => e = .returned (.string r) ∧ Below w.heap.size w w' := by
  have HR1 := Aside0.mk hr1
  have HC1 := Aside0.mk hc1
  clear hr1 hc1
  have HB := Aside0.mk (Below.refl w.heap.size w)
  have HHd := Aside0.mk hH
  clear hH
  have H : ((text_Text.f k a0 l1).bind fun bt666 => (if bt666.2 = 0 then ((text_Fold.f bt666.1).bind fun t668 => (if 1 + t668.size ≤ 9223372036854775807 then (some ((⟨#[61]⟩ : ByteArray) ++ t668)) else (none))) else ((strconv_Itoa.f a0).bind fun t669 => (if 1 + t669.size ≤ 9223372036854775807 then (if ((⟨#[35]⟩ : ByteArray) ++ t669).size + 1 ≤ 9223372036854775807 then (if (((⟨#[35]⟩ : ByteArray) ++ t669) ++ (⟨#[58]⟩ : ByteArray)).size + (strOfNums l1).size ≤ 9223372036854775807 then (some ((((⟨#[35]⟩ : ByteArray) ++ t669) ++ (⟨#[58]⟩ : ByteArray)) ++ (strOfNums l1))) else (none)) else (none)) else (none))))) = some r := h
  clear h
  replace H := Option.bind_eq_some_iff.mp H
  obtain ⟨⟨t666, t667⟩, A30, H⟩ := H
  replace H : (if t667 = 0 then ((text_Fold.f t666).bind fun t668 => (if 1 + t668.size ≤ 9223372036854775807 then (some ((⟨#[61]⟩ : ByteArray) ++ t668)) else (none))) else ((strconv_Itoa.f a0).bind fun t669 => (if 1 + t669.size ≤ 9223372036854775807 then (if ((⟨#[35]⟩ : ByteArray) ++ t669).size + 1 ≤ 9223372036854775807 then (if (((⟨#[35]⟩ : ByteArray) ++ t669) ++ (⟨#[58]⟩ : ByteArray)).size + (strOfNums l1).size ≤ 9223372036854775807 then (some ((((⟨#[35]⟩ : ByteArray) ++ t669) ++ (⟨#[58]⟩ : ByteArray)) ++ (strOfNums l1))) else (none)) else (none)) else (none)))) = some r := H
  have A3 := Aside0.mk A30
  clear A30
  by_cases c4 : t667 = 0
  · rw [if_pos c4] at H
    have c4b0 : (t667 == 0) = true := beq_iff_eq.mpr c4
    have c4b1 : (t667 != 0) = false := bne_eq_false_iff_eq.mpr c4
    clear c4
    replace H := Option.bind_eq_some_iff.mp H
    obtain ⟨t668, A50, H⟩ := H
    replace H : (if 1 + t668.size ≤ 9223372036854775807 then (some ((⟨#[61]⟩ : ByteArray) ++ t668)) else (none)) = some r := H
    have A5 := Aside0.mk A50
    clear A50
    by_cases c6 : 1 + t668.size ≤ 9223372036854775807
    rotate_left
    · rw [if_neg c6] at H
      exact absurd H (by simp)
    rw [if_pos c6] at H
    have c6b0 := eq_true c6
    have c6b1 : decide (1 + t668.size ≤ 9223372036854775807) = true := decide_eq_true c6
    try have c6b2 : (9223372036854775807 < 1 + t668.size) = False := eq_false (Nat.not_lt.2 c6)
    obtain rfl := Option.some.inj H
    go_enter Tryz.func159, Tryz.ntmps159
    go_wp2_with (first | ((with_reducible refine gate_callee (f := 153) rfl ?_); refine goesL_ (some 10) rfl rfl Tryz.func153 (by kernel_rfl) rfl #[.int .i64 a0, .slice A1 l1.length c1] rfl (by (try simp only [List.map_toArray, List.map_cons, List.map_nil]); first | done | rfl | (simp only [List.length_drop, List.length_take]; rfl)) ?_; (with_reducible refine (text_Text.calls k a0 _ _ l1 t666 t667 _ ?side1 ?side2 A3.out (Tb.below HHd.out (by repeat (first | (with_reducible first | exact HB.out | apply below_alloc | apply pw_below_drewN | apply below_drew1) | exact HB.out)))).mono ?_); (case side1 => repeat (first | exact HR1.out | (with_reducible refine Kd.C_alloc ?_ _) | (with_reducible refine Kd.C_drewN ?_ _) | (with_reducible refine Kd.C_drew ?_))); (case side2 => exact HC1.out); rintro e w7 ⟨rfl, hb⟩; refine ⟨_, rfl, ?_⟩; have n0_ := Aside0.mk (below_step (by repeat (first | (with_reducible first | exact HB.out | apply below_alloc | apply pw_below_drewN | apply below_drew1) | exact HB.out)) hb); clear HB; have HB := n0_; clear n0_; (try clear hb); (try clear hb2); (try clear hk); (try clear hi)) | ((with_reducible refine gate_callee (f := 211) rfl ?_); refine goesL_ (some 23) rfl rfl Tryz.func211 (by kernel_rfl) rfl #[.string t666] rfl (by (try simp only [List.map_toArray, List.map_cons, List.map_nil]); first | done | rfl | (simp only [List.length_drop, List.length_take]; rfl)) ?_; (with_reducible refine (text_Fold.calls t666 t668 _ A5.out (Tb.below HHd.out (by repeat (first | (with_reducible first | exact HB.out | apply below_alloc | apply pw_below_drewN | apply below_drew1) | exact HB.out)))).mono ?_); rintro e w8 ⟨rfl, hb⟩; refine ⟨_, rfl, ?_⟩; have n0_ := Aside0.mk (below_step (by repeat (first | (with_reducible first | exact HB.out | apply below_alloc | apply pw_below_drewN | apply below_drew1) | exact HB.out)) hb); clear HB; have HB := n0_; clear n0_; (try clear hb); (try clear hb2); (try clear hk); (try clear hi)))
    go_ret
    exact ⟨by first | rfl | (simp [errW_none, errW_some] <;> rfl) | (simp [*, errW_none, errW_some] <;> rfl), by repeat (first | (with_reducible first | exact HB.out | apply below_alloc | apply pw_below_drewN | apply below_drew1) | exact HB.out)⟩
  rw [if_neg c4] at H
  have c4b0 : (t667 == 0) = false := beq_eq_false_iff_ne.mpr c4
  have c4b1 : (t667 != 0) = true := bne_iff_ne.mpr c4
  replace H := Option.bind_eq_some_iff.mp H
  obtain ⟨t669, A90, H⟩ := H
  replace H : (if 1 + t669.size ≤ 9223372036854775807 then (if ((⟨#[35]⟩ : ByteArray) ++ t669).size + 1 ≤ 9223372036854775807 then (if (((⟨#[35]⟩ : ByteArray) ++ t669) ++ (⟨#[58]⟩ : ByteArray)).size + (strOfNums l1).size ≤ 9223372036854775807 then (some ((((⟨#[35]⟩ : ByteArray) ++ t669) ++ (⟨#[58]⟩ : ByteArray)) ++ (strOfNums l1))) else (none)) else (none)) else (none)) = some r := H
  have A9 := Aside0.mk A90
  clear A90
  by_cases c10 : 1 + t669.size ≤ 9223372036854775807
  rotate_left
  · rw [if_neg c10] at H
    exact absurd H (by simp)
  rw [if_pos c10] at H
  have c10b0 := eq_true c10
  have c10b1 : decide (1 + t669.size ≤ 9223372036854775807) = true := decide_eq_true c10
  try have c10b2 : (9223372036854775807 < 1 + t669.size) = False := eq_false (Nat.not_lt.2 c10)
  by_cases c11 : ((⟨#[35]⟩ : ByteArray) ++ t669).size + 1 ≤ 9223372036854775807
  rotate_left
  · rw [if_neg c11] at H
    exact absurd H (by simp)
  rw [if_pos c11] at H
  have c11b0 := eq_true c11
  have c11b1 : decide (((⟨#[35]⟩ : ByteArray) ++ t669).size + 1 ≤ 9223372036854775807) = true := decide_eq_true c11
  try have c11b2 : (9223372036854775807 < ((⟨#[35]⟩ : ByteArray) ++ t669).size + 1) = False := eq_false (Nat.not_lt.2 c11)
  by_cases c12 : (((⟨#[35]⟩ : ByteArray) ++ t669) ++ (⟨#[58]⟩ : ByteArray)).size + (strOfNums l1).size ≤ 9223372036854775807
  rotate_left
  · rw [if_neg c12] at H
    exact absurd H (by simp)
  rw [if_pos c12] at H
  have c12b0 := eq_true c12
  have c12b1 : decide ((((⟨#[35]⟩ : ByteArray) ++ t669) ++ (⟨#[58]⟩ : ByteArray)).size + (strOfNums l1).size ≤ 9223372036854775807) = true := decide_eq_true c12
  try have c12b2 : (9223372036854775807 < (((⟨#[35]⟩ : ByteArray) ++ t669) ++ (⟨#[58]⟩ : ByteArray)).size + (strOfNums l1).size) = False := eq_false (Nat.not_lt.2 c12)
  have z1 : ((⟨#[35]⟩ : ByteArray) ++ t669).size = 1 + t669.size := by rw [ByteArray.size_append]; rfl
  have z2 : (⟨#[58]⟩ : ByteArray).size = 1 := rfl
  have y1 : (9223372036854775807 < 1 + t669.size + 1) = False := eq_false (by rw [z1] at c11; omega)
  have y2 : (9223372036854775807 < 1 + t669.size + 1 + (strOfNums l1).size) = False := eq_false (by rw [ByteArray.size_append, z1, z2] at c12; omega)
  clear z1 z2
  obtain rfl := Option.some.inj H
  go_enter Tryz.func159, Tryz.ntmps159
  try go_wp2_with (first | ((with_reducible refine gate_callee (f := 153) rfl ?_); refine goesL_ (some 10) rfl rfl Tryz.func153 (by kernel_rfl) rfl #[.int .i64 a0, .slice A1 l1.length c1] rfl (by (try simp only [List.map_toArray, List.map_cons, List.map_nil]); first | done | rfl | (simp only [List.length_drop, List.length_take]; rfl)) ?_; (with_reducible refine (text_Text.calls k a0 _ _ l1 t666 t667 _ ?side1 ?side2 A3.out (Tb.below HHd.out (by repeat (first | (with_reducible first | exact HB.out | apply below_alloc | apply pw_below_drewN | apply below_drew1) | exact HB.out)))).mono ?_); (case side1 => repeat (first | exact HR1.out | (with_reducible refine Kd.C_alloc ?_ _) | (with_reducible refine Kd.C_drewN ?_ _) | (with_reducible refine Kd.C_drew ?_))); (case side2 => exact HC1.out); rintro e w13 ⟨rfl, hb⟩; refine ⟨_, rfl, ?_⟩; have n0_ := Aside0.mk (below_step (by repeat (first | (with_reducible first | exact HB.out | apply below_alloc | apply pw_below_drewN | apply below_drew1) | exact HB.out)) hb); clear HB; have HB := n0_; clear n0_; (try clear hb); (try clear hb2); (try clear hk); (try clear hi)))
  have n0_ := Aside0.mk (below_drew1 HB.out)
  clear HB
  have HB := n0_
  clear n0_
  refine start_ (n := 8) (S := fun w' => (Kd.int .u8).C w' A1 l1.length l1) (ds := []) #[false, false, false, false, false, false, false, false] (by kernel_rfl) rfl rfl (Kd.C_below HR1.out HB.out) (fun hHeld => ?_); refine with_tabW text_Key.tab3 text_Key.bits3 (fun HT_ HW_ => ?_)
  generalize w13.drew = w14 at HB hHeld ⊢
  refine pure_ (i := 0) (N := some 15) (v := ?_) (a' := ?_) #[true, false, false, false, false, false, false, false] rfl rfl (any_of HT_.out (by kernel_rfl)) (fun _ _ _ h => h) (Or.inl ⟨by rfl, ?_⟩) ?_ ?_; rotate_left; (intro w'; go_simp; with_reducible rfl); rotate_left; (simp only [Act.put, List.setIfInBounds_toArray, List.set_cons_zero, List.set_cons_succ, i64_w, i32_w]; rfl)
  refine pure_ (i := 4) (N := some 19) (v := ?_) (a' := ?_) #[true, false, false, false, true, false, false, false] rfl rfl (any_of HT_.out (by kernel_rfl)) (fun _ _ _ h => h) (Or.inl ⟨by rfl, ?_⟩) ?_ ?_; rotate_left; (intro w'; go_simp; with_reducible rfl); rotate_left; (simp only [Act.put, List.setIfInBounds_toArray, List.set_cons_zero, List.set_cons_succ, i64_w, i32_w]; rfl)
  refine take_ (i := 5) (N := some 20) (v := .string (strOfNums l1)) (a' := ?_) #[true, false, false, false, true, true, false, false] rfl rfl (take_ofW HT_.out HW_.out (by kernel_rfl)) (fun _ _ _ h => h) (Or.inl ⟨by rfl, ?_⟩) hHeld ?_ ?_
  · intro w' hw'
    have hcv := Kd.C_string (P := Tryz.prog) (A := A1) (c := c1) Tryz.underlying22 Tryz.underlying5 Tryz.underlying9 hw'
    go_simp
  rotate_left
  · simp only [Act.put, List.setIfInBounds_toArray, List.set_cons_zero, List.set_cons_succ, i64_w, i32_w]
    rfl
  refine one_ (i := 1) (N := some 16) #[true, true, false, false, true, true, false, false] rfl rfl (one_of HT_.out (by kernel_rfl)) (by decide) (fun K hK => ?_)
  refine goes_ Tryz.func160 (by kernel_rfl) rfl #[.int .i64 a0] (by rfl) rfl rfl (by (try simp only [List.map_toArray, List.map_cons, List.map_nil]); first | done | rfl | (simp only [List.length_drop, List.length_take]; rfl)) ?_
  with_reducible refine (strconv_Itoa.calls a0 t669 _ A9.out (Tb.below HHd.out (by repeat (first | (with_reducible first | exact HB.out | apply below_alloc | apply pw_below_drewN | apply below_drew1) | exact HB.out)))).mono ?_
  rintro e w15 ⟨rfl, hb⟩
  refine ⟨_, rfl, ?_⟩
  have n0_ := Aside0.mk (below_step (by repeat (first | (with_reducible first | exact HB.out | apply below_alloc | apply pw_below_drewN | apply below_drew1) | exact HB.out)) hb)
  clear HB
  have HB := n0_
  clear n0_
  (try clear hb)
  (try clear hb2)
  (try clear hk)
  (try clear hi)
  have hcv16 := Kd.C_string (P := Tryz.prog) (A := A1) (c := c1) Tryz.underlying22 Tryz.underlying5 Tryz.underlying9 (Kd.C_below HR1.out HB.out)
  refine hK.out _ _ (Kd.C_below HR1.out HB.out) (fun hHeld => ?_)
  clear hK K
  refine norm_ (a' := ?_) ?_ ?_; rotate_left; (show Act.put _ (some 16) _ = _; simp only [Act.put, List.setIfInBounds_toArray, List.set_cons_zero, List.set_cons_succ, i64_w, i32_w]; rfl)
  refine pure_ (i := 2) (N := some 17) (v := ?_) (a' := ?_) #[true, true, true, false, true, true, false, false] rfl rfl (any_of HT_.out (by kernel_rfl)) (fun _ _ _ h => h) (Or.inl ⟨by rfl, ?_⟩) ?_ ?_; rotate_left; (intro w'; go_simp; with_reducible rfl); rotate_left; (simp only [Act.put, List.setIfInBounds_toArray, List.set_cons_zero, List.set_cons_succ, i64_w, i32_w]; rfl)
  refine pure_ (i := 3) (N := some 18) (v := ?_) (a' := ?_) #[true, true, true, true, true, true, false, false] rfl rfl (any_of HT_.out (by kernel_rfl)) (fun _ _ _ h => h) (Or.inl ⟨by rfl, ?_⟩) ?_ ?_; rotate_left; (intro w'; go_simp; with_reducible rfl); rotate_left; (simp only [Act.put, List.setIfInBounds_toArray, List.set_cons_zero, List.set_cons_succ, i64_w, i32_w]; rfl)
  refine pure_ (i := 6) (N := some 21) (v := ?_) (a' := ?_) #[true, true, true, true, true, true, true, false] rfl rfl (any_of HT_.out (by kernel_rfl)) (fun _ _ _ h => h) (Or.inl ⟨by rfl, ?_⟩) ?_ ?_; rotate_left; (intro w'; go_simp; with_reducible rfl); rotate_left; (simp only [Act.put, List.setIfInBounds_toArray, List.set_cons_zero, List.set_cons_succ, i64_w, i32_w]; rfl)
  refine pure_ (i := 7) (N := some 4) (v := ?_) (a' := ?_) #[true, true, true, true, true, true, true, true] rfl rfl (any_of HT_.out (by kernel_rfl)) (fun _ _ _ h => h) (Or.inl ⟨by rfl, ?_⟩) ?_ ?_; rotate_left; (intro w'; go_simp; with_reducible rfl); rotate_left; (simp only [Act.put, List.setIfInBounds_toArray, List.set_cons_zero, List.set_cons_succ, i64_w, i32_w]; rfl)
  refine done_ (done_of HT_.out (by kernel_rfl)) ?_
  try go_wp2
  go_ret
  exact ⟨by first | rfl | (simp [errW_none, errW_some] <;> rfl) | (simp [*, errW_none, errW_some] <;> rfl), by repeat (first | (with_reducible first | exact HB.out | apply below_alloc | apply pw_below_drewN | apply below_drew1) | exact HB.out)⟩
end Go.Proofs.YtkioddjjfifadaaGreatDoor.P
namespace Go.Proofs.YtkioddjjfifadaaGreatDoor.P
open Go.RowKit Go.Proofs.YtkioddjjfifadaaGreatDoorW.PrintWords Go.Proofs.YtkioddjjfifadaaGreatDoorW.PrintLast Go.Proofs.YtkioddjjfifadaaGreatDoorW.PrintMore
def sortB (xs : List ByteArray) : List ByteArray := ((xs.map fun b => b.data.toList).mergeSort fun x y => decide (x ≤ y)).map fun l => ⟨l.toArray⟩
theorem sortB_len (xs : List ByteArray) : (sortB xs).length = xs.length := by simp [sortB]
def slices_Sort.f (xs : List ByteArray) : Option (List ByteArray) := if xs.length < 4611686018427387904 then some (sortB xs) else none
theorem sort_own (w0 : World) (v : Value) (xs r : List ByteArray) (w : World) (hR : Kd.string.R 9 w w0.heap.size (fun _ => True) v xs) (h0 : Below w0.heap.size w0 w) (h : slices_Sort.f xs = some r) :
    Calls Tryz.prog 161 #[v] w fun e w' => e = .returned (.tuple #[]) ∧ Kd.string.R 9 w' w0.heap.size (fun _ => True) v r ∧ Below w0.heap.size w0 w' := by
  unfold slices_Sort.f at h
  split at h
  case isFalse => cases h
  case isTrue hl =>
  obtain rfl := Option.some.inj h
  have ho := Kd.own_of_R hR
  rcases ho.2 with ⟨rfl, hn⟩ | ⟨g, cap, cur, rfl, hg, hh, hnc, hcm, hsz, htk⟩
  · have hx : xs = [] := List.eq_nil_of_length_eq_zero hn
    subst hx
    refine (Tryz.slices_Sort_string_none none 0 w).mono ?_
    rintro e w' ⟨rfl, rfl⟩
    have hnil : sortB [] = [] := List.eq_nil_of_length_eq_zero (sortB_len [])
    rw [hnil]
    exact ⟨rfl, hR, h0⟩
  have hcur : ∀ j, j < xs.length → cur[j]? = some (Value.string (xs[j]!)) := fun j hj => by
    have h1 : (cur.toList.take (xs.length * 1))[j]? = (encs Value.string xs)[j]? := by rw [htk]
    rw [List.getElem?_take_of_lt (by omega)] at h1
    rw [← Array.getElem?_toList, h1]
    simp [encs, List.getElem?_eq_getElem hj, getElem!_pos xs j hj]
  have hlt : g < w.heap.size := blk_lt hh
  have hH : Go.Sort.Holds Go.Proofs.encStr w g 0 (xs.map fun b => b.data.toList).toArray := fun j hj => by
    have hj' : j < xs.length := by simpa using hj
    refine ⟨?_, blk_frozen hh _⟩
    rw [Nat.zero_add]
    refine (blk_cell hh j).trans ?_
    rw [hcur j hj']
    simp [hj']
  refine (show Calls Tryz.prog 161 #[.slice (some ⟨g, 0, none⟩) xs.length cap] w _ from ?_)
  have hc := Tryz.slices_Sort_string g 0 cap (xs.map fun b => b.data.toList) w hH hlt (by simpa using hl)
  rw [List.length_map] at hc
  refine hc.mono ?_
  rintro e w' ⟨rfl, n, os, rfl⟩
  generalize hss : (((xs.map fun b => b.data.toList).mergeSort fun x y => decide (x ≤ y)) : List (List UInt8)) = ss
  have hsl : ss.length = xs.length := by rw [← hss]; simp
  have hsb : sortB xs = ss.map fun l => ⟨l.toArray⟩ := by rw [← hss]; rfl
  rw [hsb]
  have hgr : w.grownBy (Go.Sort.grow (Go.Sort.putRow Go.Proofs.encStr (Go.Sort.ahead w n) g 0 ss.toArray) os) (some g) := by
    refine ⟨rfl, rfl, rfl, ?_, fun k hk hne => ?_⟩
    · show w.heap.size ≤ ((Go.Sort.putRow Go.Proofs.encStr (Go.Sort.ahead w n) g 0 ss.toArray).heap ++ os).size
      rw [Array.size_append, Go.Sort.size_putRow]
      exact Nat.le_add_right _ _
    show ((Go.Sort.putRow Go.Proofs.encStr (Go.Sort.ahead w n) g 0 ss.toArray).heap ++ os)[k]? = _
    rw [Array.getElem?_append_left (by rw [Go.Sort.size_putRow]; exact hk)]
    show (w.heap.modify g _)[k]? = _
    rw [Array.getElem?_modify, if_neg (fun e => hne (by rw [e]))]
  refine ⟨rfl, Kd.R_of_own ⟨by simp [encs], Or.inr ⟨g, cap, Go.Sort.putCells Go.Proofs.encStr 0 ss.toArray cur, by rw [List.length_map, hsl], hg, ?_, by rw [List.length_map, hsl]; exact hnc, hcm, by simp [Go.Sort.putCells]; simpa using hsz, ?_⟩⟩ (fun _ _ => trivial), pw_below_grown h0 _ h0.size hgr (fun k hk => by injection hk with hk; omega)⟩
  · show ((Go.Sort.putRow Go.Proofs.encStr (Go.Sort.ahead w n) g 0 ss.toArray).heap ++ os)[g]? = _
    rw [Array.getElem?_append_left (by rw [Go.Sort.size_putRow]; exact hlt)]
    show (w.heap.modify g _)[g]? = _
    rw [Array.getElem?_modify, if_pos rfl, hh]
    rfl
  rw [List.length_map, Nat.mul_one]
  apply List.ext_getElem?
  intro j
  by_cases hj : j < ss.length
  rotate_left
  · rw [List.getElem?_eq_none (by rw [List.length_take]; omega), List.getElem?_eq_none (by simp [encs]; omega)]
  rw [List.getElem?_take_of_lt hj, Array.getElem?_toList]
  have hcl : j < cur.size := by omega
  simp [Go.Sort.putCells, hcl, hj, encs]
def strings_Join.f (xs : List ByteArray) (sep : ByteArray) : Option ByteArray :=
  if xs.length ≤ 140737488355328 ∧ (Lib.join (xs.map (·.data.toList)) sep.data.toList).length ≤ 140737488355328 then some ⟨(Lib.join (xs.map (·.data.toList)) sep.data.toList).toArray⟩ else none
theorem strings_Join.calls (A0 : Option Addr) (c0 : Nat) (l0 : List ByteArray) (a1 : ByteArray) (r : ByteArray) (w : World) (hr0 : Kd.C Kd.string w A0 l0.length l0) (hc0 : l0.length ≤ c0) (h : strings_Join.f l0 a1 = some r) :
    Calls Tryz.prog 88 #[.slice A0 l0.length c0, .string a1] w fun e w' => e = .returned (.string r) ∧ Below w.heap.size w w' := by
  unfold strings_Join.f at h
  split at h
  case isFalse => cases h
  case isTrue hl =>
  obtain rfl := Option.some.inj h
  cases l0 with
  | nil =>
    refine (Tryz.strings_Join_none A0 c0 a1 w).mono ?_
    rintro e w' ⟨rfl, rfl⟩
    exact ⟨rfl, Below.refl _ _⟩
  | cons x xs =>
    obtain ⟨ad, rfl, hcell⟩ := hr0.2.2 (by simp)
    have hc1 : ∀ (j : Nat) y, (x :: xs)[j]? = some y → w.cell? (ad.add j) = some (.string y) := fun j y hy => by
      obtain ⟨c, _, hK, hu⟩ := hcell j y hy
      have hK' : c = [Value.string y] := hK
      subst hK'
      have := hu 0 _ rfl
      simpa [Kd.string, Kd.scalar] using this
    obtain ⟨b, o, spot⟩ := ad
    have h0 := hc1 0 x rfl
    have hspot : spot = none := by simpa [Addr.add] using World.cell?_spot h0
    subst hspot
    refine (Tryz.strings_Join b o c0 (x :: xs) a1 w (fun j y hy => by have := hc1 j y hy; rwa [Go.Addr.add_mid] at this) (World.block_lt_of_cell? w _ h0) hl.1 hc0 hl.2).mono ?_
    rintro e w' ⟨rfl, hb⟩
    exact ⟨rfl, hb⟩
end Go.Proofs.YtkioddjjfifadaaGreatDoor.P
namespace Go.Proofs.YtkioddjjfifadaaGreatDoor.P
open Go.RowKit Go.Proofs.YtkioddjjfifadaaGreatDoorW.PrintWords Go.Proofs.YtkioddjjfifadaaGreatDoorW.PrintLast Go.Proofs.YtkioddjjfifadaaGreatDoorW.PrintMore
attribute [local go_sem] max2_int min2_int max_two min_two max_three min_three max_four min_four   -- for this text's walks alone
set_option linter.unusedVariables false
set_option linter.unusedSimpArgs false
def name_mark.l0 : Nat → List ByteArray → List (S64) → Int → Int → Option (ByteArray)
  | 0, _, _, _, _ => none
  | k + 1, x3, x7, x8, x9 => if x9 < x8 then (if 0 ≤ x9 then (if x9 < (x7.length : Int) then ((text_Key.f k ((rd_T64 x7 x9).f1) ((rd_T64 x7 x9).f2)).bind fun t788 => (if ((rd_T64 x7 x9).f0).size + 1 ≤ 9223372036854775807 then ((strconv_Itoa.f (t788.size : Int)).bind fun t789 => (if (((rd_T64 x7 x9).f0) ++ (⟨#[61]⟩ : ByteArray)).size + t789.size ≤ 9223372036854775807 then (if ((((rd_T64 x7 x9).f0) ++ (⟨#[61]⟩ : ByteArray)) ++ t789).size + 1 ≤ 9223372036854775807 then (if (((((rd_T64 x7 x9).f0) ++ (⟨#[61]⟩ : ByteArray)) ++ t789) ++ (⟨#[58]⟩ : ByteArray)).size + t788.size ≤ 9223372036854775807 then (if ((((((rd_T64 x7 x9).f0) ++ (⟨#[61]⟩ : ByteArray)) ++ t789) ++ (⟨#[58]⟩ : ByteArray)) ++ t788).size + 1 ≤ 9223372036854775807 then (if x3.length < 8796093022208 then (name_mark.l0 k (x3 ++ [((((((rd_T64 x7 x9).f0) ++ (⟨#[61]⟩ : ByteArray)) ++ t789) ++ (⟨#[58]⟩ : ByteArray)) ++ t788) ++ (⟨#[59]⟩ : ByteArray)]) x7 x8 (wrap64 (x9 + 1))) else (none)) else (none)) else (none)) else (none)) else (none))) else (none))) else (none)) else (none)) else ((slices_Sort.f x3).bind fun y3 => ((strings_Join.f y3 (⟨#[]⟩ : ByteArray)).bind fun t793 => (if t793.size + 1 ≤ 9223372036854775807 then (some (t793 ++ (⟨#[47]⟩ : ByteArray))) else (none))))
def name_mark.f (k : Nat) (l0 : List (S64)) : Option (ByteArray) := name_mark.l0 k ([] : List ByteArray) l0 (l0.length : Int) 0
def name_mark.T6 : Bool × List (List Nat × List Nat) := (true, [([], []), ([], []), ([1], [1]), ([2], [2]), ([], []), ([4], [4]), ([5], [5]), ([3, 6], [3, 6]), ([7], [7]), ([], []), ([8, 9], [8, 9]), ([10], [10]), ([11], [11]), ([0, 12, 6], [0, 12]), ([13, 13, 0, 1, 2, 3, 4, 5, 6, 7, 8, 9, 10, 11, 12, 13], [0, 13])])
def name_mark.B6 : List Nat := [0, 0, 2, 6, 0, 16, 48, 126, 254, 0, 1022, 2046, 4094, 8191, 16383]
theorem name_mark.tab6 : rtab .any (opsOf Tryz.f93 6) = name_mark.T6 := by kernel_rfl
theorem name_mark.bits6 : waitsOk name_mark.T6.2 name_mark.B6 = true := by kernel_rfl
set_option maxHeartbeats 8000000 in
set_option maxRecDepth 100000 in
theorem name_mark.calls (k : Nat) (A0 : Option Addr) (c0 : Nat) (l0 : List (S64)) (r : ByteArray) (w : World) (hr0 : Kd.C k64 w A0 l0.length l0) (hc0 : l0.length ≤ c0) (h : name_mark.f k l0 = some r) (hH : Tb w) :
    Calls Tryz.prog 93 #[.slice A0 l0.length c0] w fun e w' => e = .returned (.string r) ∧ Below w.heap.size w w' := by
  have hu64 := Tryz.underlying64
  have HR0 := Aside0.mk hr0
  have HC0 := Aside0.mk hc0
  clear hr0 hc0
  have HB := Aside0.mk (Below.refl w.heap.size w)
  have HHd := Aside0.mk hH
  clear hH
  have H : (name_mark.l0 k ([] : List ByteArray) l0 (l0.length : Int) 0) = some r := h
  clear h
  have H' := Aside0.mk H
  clear H
  go_enter Tryz.func93, Tryz.ntmps93
  go_wp2
  go_loopg [3, 9] k (fun kq v3 v9 w' => ∃ (x3_1 : List ByteArray) (x9_1 : Int), v9 = .int .i64 x9_1 ∧ Aside0 (name_mark.l0 kq x3_1 l0 (l0.length : Int) x9_1 = some r) ∧ Aside0 (kq ≤ k) ∧ Aside0 (Kd.R Kd.string 9 w' w.heap.size (fun _ => True) v3 x3_1) ∧ Aside0 (Below w.heap.size w w'))
  case atStart => exact ⟨(([] : List ByteArray)), (0), (by first | rfl | (simp; done) | (simp [*]; done)), H', ⟨Nat.le_refl _⟩, ⟨by first | exact Kd.R_nil _ _ _ _ _ | exact Kd.N_nil _ _ _ _ _ | exact Kd.V_nil _ _ _ _ _ | exact Kd.Q_nil _ _ _ _ _ | exact Kd.S_nil _ _ _ _ _⟩, ⟨by repeat (first | (with_reducible first | exact HB.out | apply below_alloc | apply pw_below_drewN | apply below_drew1) | exact HB.out)⟩⟩
  case round =>
    clear H'
    obtain ⟨x3_1, x9_1, rfl, HA, HK1, HO_3, HB⟩ := hrel
    cases gk with
    | zero => exact absurd HA.out (by simp [name_mark.l0])
    | succ k1 =>
      have H := HA.out
      clear HA
      simp only [name_mark.l0] at H
      by_cases c2 : x9_1 < (l0.length : Int)
      rotate_left
      · rw [if_neg c2] at H
        have c2b0 : decide (x9_1 < (l0.length : Int)) = false := decide_eq_false c2
        clear c2
        replace H := Option.bind_eq_some_iff.mp H
        obtain ⟨y3, A190, H⟩ := H
        replace H : ((strings_Join.f y3 (⟨#[]⟩ : ByteArray)).bind fun t793 => (if t793.size + 1 ≤ 9223372036854775807 then (some (t793 ++ (⟨#[47]⟩ : ByteArray))) else (none))) = some r := H
        have A19 := Aside0.mk A190
        have hylen : x3_1.length = y3.length := by
          have h1 := A190
          unfold slices_Sort.f at h1
          split at h1
          rotate_left
          · cases h1
          rw [← Option.some.inj h1, sortB_len]
        have YL := Aside0.mk hylen
        clear hylen
        clear A190
        replace H := Option.bind_eq_some_iff.mp H
        obtain ⟨t793, A200, H⟩ := H
        replace H : (if t793.size + 1 ≤ 9223372036854775807 then (some (t793 ++ (⟨#[47]⟩ : ByteArray))) else (none)) = some r := H
        have A20 := Aside0.mk A200
        clear A200
        by_cases c21 : t793.size + 1 ≤ 9223372036854775807
        rotate_left
        · rw [if_neg c21] at H
          exact absurd H (by simp)
        rw [if_pos c21] at H
        have c21b0 := eq_true c21
        have c21b1 : decide (t793.size + 1 ≤ 9223372036854775807) = true := decide_eq_true c21
        try have c21b2 : (9223372036854775807 < t793.size + 1) = False := eq_false (Nat.not_lt.2 c21)
        obtain rfl := Option.some.inj H
        obtain ⟨Ao22, co22, eo22⟩ := Kd.R_slice HO_3.out
        subst eo22
        go_wp2_with (first | ((with_reducible refine gate_callee (f := 161) rfl ?_); refine goesL_ (some 34) rfl rfl Tryz.func161 (by kernel_rfl) rfl #[.slice Ao22 x3_1.length co22] rfl (by (try simp only [List.map_toArray, List.map_cons, List.map_nil]); first | done | rfl | (simp only [List.length_drop, List.length_take]; rfl)) ?_; (with_reducible refine (sort_own w _ x3_1 y3 _ ?side1 ?side2 A19.out).mono ?_); (case side1 => exact (by (with_reducible repeat (first | apply Kd.R_alloc | apply Kd.R_drewN | apply Kd.R_drew)); exact HO_3.out)); (case side2 => exact (by repeat (first | (with_reducible first | exact HB.out | apply below_alloc | apply pw_below_drewN | apply below_drew1) | exact HB.out))); rintro e w23 ⟨rfl, hsr, hb⟩; refine ⟨_, rfl, ?_⟩; have n0_ := Aside0.mk hsr; have n1_ := Aside0.mk hb; clear hsr; clear HO_3; clear HB; have HO_3 := n0_; have HB := n1_; clear n0_ n1_; (try clear hb); (try clear hb2); (try clear hk); (try clear hi)) | ((with_reducible refine gate_callee (f := 88) rfl ?_); refine goesL_ (some 36) rfl rfl Tryz.func88 (by kernel_rfl) rfl #[.slice Ao22 x3_1.length co22, .string (⟨#[]⟩ : ByteArray)] rfl (by (try simp only [List.map_toArray, List.map_cons, List.map_nil]); first | done | rfl | (simp only [List.length_drop, List.length_take]; rfl)) ?_; (rw [YL.out]); (with_reducible refine (strings_Join.calls _ _ y3 (⟨#[]⟩ : ByteArray) t793 _ ?side1 ?side2 A20.out).mono ?_); (case side1 => repeat (first | exact (Kd.R_reads' HO_3.out).2.2 | (with_reducible refine Kd.C_alloc ?_ _) | (with_reducible refine Kd.C_drewN ?_ _) | (with_reducible refine Kd.C_drew ?_))); (case side2 => exact (Kd.R_reads' HO_3.out).2.1); rintro e w24 ⟨rfl, hb⟩; refine ⟨_, rfl, ?_⟩; have n0_ := Aside0.mk (Kd.R_below (by (with_reducible repeat (first | apply Kd.R_alloc | apply Kd.R_drewN | apply Kd.R_drew)); exact HO_3.out) hb); have n1_ := Aside0.mk (below_step (by repeat (first | (with_reducible first | exact HB.out | apply below_alloc | apply pw_below_drewN | apply below_drew1) | exact HB.out)) hb); clear HO_3; clear HB; have HO_3 := n0_; have HB := n1_; clear n0_ n1_; (try clear hb); (try clear hb2); (try clear hk); (try clear hi)))
        have hrd := Kd.R_reads' HO_3.out
        have hj := strings_Join.calls Ao22 co22 y3 (⟨#[]⟩ : ByteArray) t793 _ hrd.2.2 (YL.out ▸ hrd.2.1) A20.out
        rw [← YL.out] at hj
        refine hj.mono ?_
        rintro e w24 ⟨rfl, hb⟩
        have HB2 := Aside0.mk (below_step HB.out hb)
        clear hb hj hrd
        go_wp2_with fail
        go_ret
        exact ⟨rfl, HB2.out⟩
      rw [if_pos c2] at H
      have c2b0 : decide (x9_1 < (l0.length : Int)) = true := decide_eq_true c2
      clear c2
      by_cases c3 : 0 ≤ x9_1
      rotate_left
      · rw [if_neg c3] at H
        exact absurd H (by simp)
      rw [if_pos c3] at H
      have c3b0 : decide (0 ≤ x9_1) = true := decide_eq_true c3
      clear c3
      by_cases c4 : x9_1 < (l0.length : Int)
      rotate_left
      · rw [if_neg c4] at H
        exact absurd H (by simp)
      rw [if_pos c4] at H
      have c4b0 : decide (x9_1 < (l0.length : Int)) = true := decide_eq_true c4
      clear c4
      replace H := Option.bind_eq_some_iff.mp H
      obtain ⟨t788, A50, H⟩ := H
      replace H : (if ((rd_T64 l0 x9_1).f0).size + 1 ≤ 9223372036854775807 then ((strconv_Itoa.f (t788.size : Int)).bind fun t789 => (if (((rd_T64 l0 x9_1).f0) ++ (⟨#[61]⟩ : ByteArray)).size + t789.size ≤ 9223372036854775807 then (if ((((rd_T64 l0 x9_1).f0) ++ (⟨#[61]⟩ : ByteArray)) ++ t789).size + 1 ≤ 9223372036854775807 then (if (((((rd_T64 l0 x9_1).f0) ++ (⟨#[61]⟩ : ByteArray)) ++ t789) ++ (⟨#[58]⟩ : ByteArray)).size + t788.size ≤ 9223372036854775807 then (if ((((((rd_T64 l0 x9_1).f0) ++ (⟨#[61]⟩ : ByteArray)) ++ t789) ++ (⟨#[58]⟩ : ByteArray)) ++ t788).size + 1 ≤ 9223372036854775807 then (if x3_1.length < 8796093022208 then (name_mark.l0 k1 (x3_1 ++ [((((((rd_T64 l0 x9_1).f0) ++ (⟨#[61]⟩ : ByteArray)) ++ t789) ++ (⟨#[58]⟩ : ByteArray)) ++ t788) ++ (⟨#[59]⟩ : ByteArray)]) l0 (l0.length : Int) (wrap64 (x9_1 + 1))) else (none)) else (none)) else (none)) else (none)) else (none))) else (none)) = some r := H
      have A5 := Aside0.mk A50
      clear A50
      by_cases c6 : ((rd_T64 l0 x9_1).f0).size + 1 ≤ 9223372036854775807
      rotate_left
      · rw [if_neg c6] at H
        exact absurd H (by simp)
      rw [if_pos c6] at H
      have c6b0 := eq_true c6
      have c6b1 : decide (((rd_T64 l0 x9_1).f0).size + 1 ≤ 9223372036854775807) = true := decide_eq_true c6
      try have c6b2 : (9223372036854775807 < ((rd_T64 l0 x9_1).f0).size + 1) = False := eq_false (Nat.not_lt.2 c6)
      replace H := Option.bind_eq_some_iff.mp H
      obtain ⟨t789, A70, H⟩ := H
      replace H : (if (((rd_T64 l0 x9_1).f0) ++ (⟨#[61]⟩ : ByteArray)).size + t789.size ≤ 9223372036854775807 then (if ((((rd_T64 l0 x9_1).f0) ++ (⟨#[61]⟩ : ByteArray)) ++ t789).size + 1 ≤ 9223372036854775807 then (if (((((rd_T64 l0 x9_1).f0) ++ (⟨#[61]⟩ : ByteArray)) ++ t789) ++ (⟨#[58]⟩ : ByteArray)).size + t788.size ≤ 9223372036854775807 then (if ((((((rd_T64 l0 x9_1).f0) ++ (⟨#[61]⟩ : ByteArray)) ++ t789) ++ (⟨#[58]⟩ : ByteArray)) ++ t788).size + 1 ≤ 9223372036854775807 then (if x3_1.length < 8796093022208 then (name_mark.l0 k1 (x3_1 ++ [((((((rd_T64 l0 x9_1).f0) ++ (⟨#[61]⟩ : ByteArray)) ++ t789) ++ (⟨#[58]⟩ : ByteArray)) ++ t788) ++ (⟨#[59]⟩ : ByteArray)]) l0 (l0.length : Int) (wrap64 (x9_1 + 1))) else (none)) else (none)) else (none)) else (none)) else (none)) = some r := H
      have A7 := Aside0.mk A70
      clear A70
      by_cases c8 : (((rd_T64 l0 x9_1).f0) ++ (⟨#[61]⟩ : ByteArray)).size + t789.size ≤ 9223372036854775807
      rotate_left
      · rw [if_neg c8] at H
        exact absurd H (by simp)
      rw [if_pos c8] at H
      have c8b0 := eq_true c8
      have c8b1 : decide ((((rd_T64 l0 x9_1).f0) ++ (⟨#[61]⟩ : ByteArray)).size + t789.size ≤ 9223372036854775807) = true := decide_eq_true c8
      try have c8b2 : (9223372036854775807 < (((rd_T64 l0 x9_1).f0) ++ (⟨#[61]⟩ : ByteArray)).size + t789.size) = False := eq_false (Nat.not_lt.2 c8)
      by_cases c9 : ((((rd_T64 l0 x9_1).f0) ++ (⟨#[61]⟩ : ByteArray)) ++ t789).size + 1 ≤ 9223372036854775807
      rotate_left
      · rw [if_neg c9] at H
        exact absurd H (by simp)
      rw [if_pos c9] at H
      have c9b0 := eq_true c9
      have c9b1 : decide (((((rd_T64 l0 x9_1).f0) ++ (⟨#[61]⟩ : ByteArray)) ++ t789).size + 1 ≤ 9223372036854775807) = true := decide_eq_true c9
      try have c9b2 : (9223372036854775807 < ((((rd_T64 l0 x9_1).f0) ++ (⟨#[61]⟩ : ByteArray)) ++ t789).size + 1) = False := eq_false (Nat.not_lt.2 c9)
      by_cases c10 : (((((rd_T64 l0 x9_1).f0) ++ (⟨#[61]⟩ : ByteArray)) ++ t789) ++ (⟨#[58]⟩ : ByteArray)).size + t788.size ≤ 9223372036854775807
      rotate_left
      · rw [if_neg c10] at H
        exact absurd H (by simp)
      rw [if_pos c10] at H
      have c10b0 := eq_true c10
      have c10b1 : decide ((((((rd_T64 l0 x9_1).f0) ++ (⟨#[61]⟩ : ByteArray)) ++ t789) ++ (⟨#[58]⟩ : ByteArray)).size + t788.size ≤ 9223372036854775807) = true := decide_eq_true c10
      try have c10b2 : (9223372036854775807 < (((((rd_T64 l0 x9_1).f0) ++ (⟨#[61]⟩ : ByteArray)) ++ t789) ++ (⟨#[58]⟩ : ByteArray)).size + t788.size) = False := eq_false (Nat.not_lt.2 c10)
      by_cases c11 : ((((((rd_T64 l0 x9_1).f0) ++ (⟨#[61]⟩ : ByteArray)) ++ t789) ++ (⟨#[58]⟩ : ByteArray)) ++ t788).size + 1 ≤ 9223372036854775807
      rotate_left
      · rw [if_neg c11] at H
        exact absurd H (by simp)
      rw [if_pos c11] at H
      have c11b0 := eq_true c11
      have c11b1 : decide (((((((rd_T64 l0 x9_1).f0) ++ (⟨#[61]⟩ : ByteArray)) ++ t789) ++ (⟨#[58]⟩ : ByteArray)) ++ t788).size + 1 ≤ 9223372036854775807) = true := decide_eq_true c11
      try have c11b2 : (9223372036854775807 < ((((((rd_T64 l0 x9_1).f0) ++ (⟨#[61]⟩ : ByteArray)) ++ t789) ++ (⟨#[58]⟩ : ByteArray)) ++ t788).size + 1) = False := eq_false (Nat.not_lt.2 c11)
      by_cases c12 : x3_1.length < 8796093022208
      rotate_left
      · rw [if_neg c12] at H
        exact absurd H (by simp)
      rw [if_pos c12] at H
      have LMc12 := Aside0.mk c12
      clear c12
      obtain ⟨y790, hy790⟩ : ∃ y_ : List ByteArray, y_ = (x3_1 ++ [((((((rd_T64 l0 x9_1).f0) ++ (⟨#[61]⟩ : ByteArray)) ++ t789) ++ (⟨#[58]⟩ : ByteArray)) ++ t788) ++ (⟨#[59]⟩ : ByteArray)]) := ⟨_, rfl⟩
      replace H : (name_mark.l0 k1 y790 l0 (l0.length : Int) (wrap64 (x9_1 + 1))) = some r := by first | (rw [hy790]; with_reducible exact H) | (have H2_ := (Option.bind_some _ _).symm.trans H; rw [hy790]; with_reducible exact H2_) | (have H2_ := (Option.bind_some _ _).symm.trans H; with_reducible exact H2_) | with_reducible exact H | (rw [hy790]; exact H) | exact H
      have Ny790 := Aside0.mk hy790
      clear hy790
      have H' := Aside0.mk H
      clear H
      have p786 : 0 ≤ (x9_1 : Int) := of_decide_eq_true (by first | (with_reducible assumption) | assumption)
      have q786 : x9_1 < (l0.length : Int) := of_decide_eq_true (by first | (with_reducible assumption) | assumption)
      obtain ⟨ad786, A786_2, c786_2, e786, hx786_0, hx786_1, hx786_2, hl786_2, hi786_2⟩ := at_T64 HR0.out x9_1 p786 q786
      cases e786
      replace hx786_0 := (HB.out.cell (World.block_lt_of_cell? w _ hx786_0)).trans hx786_0
      replace hx786_1 := (HB.out.cell (World.block_lt_of_cell? w _ hx786_1)).trans hx786_1
      replace hx786_2 := (HB.out.cell (World.block_lt_of_cell? w _ hx786_2)).trans hx786_2
      have HR786_2 := Aside0.mk hi786_2
      have HC786_2 := Aside0.mk hl786_2
      clear hi786_2 hl786_2
      have ZZ61 : (⟨#[61]⟩ : ByteArray).size = 1 := rfl
      have ZZ58 : (⟨#[58]⟩ : ByteArray).size = 1 := rfl
      have ZZ59 : (⟨#[59]⟩ : ByteArray).size = 1 := rfl
      have YY1 : (9223372036854775807 < ((rd_T64 l0 x9_1).f0).size + 1 + t789.size) = False := eq_false (by have h_ := c8; simp only [ByteArray.size_append, ZZ61, ZZ58, ZZ59] at h_; omega)
      have YY2 : (9223372036854775807 < ((rd_T64 l0 x9_1).f0).size + 1 + t789.size + 1) = False := eq_false (by have h_ := c9; simp only [ByteArray.size_append, ZZ61, ZZ58, ZZ59] at h_; omega)
      have YY3 : (9223372036854775807 < ((rd_T64 l0 x9_1).f0).size + 1 + t789.size + 1 + t788.size) = False := eq_false (by have h_ := c10; simp only [ByteArray.size_append, ZZ61, ZZ58, ZZ59] at h_; omega)
      have YY4 : (9223372036854775807 < ((rd_T64 l0 x9_1).f0).size + 1 + t789.size + 1 + t788.size + 1) = False := eq_false (by have h_ := c11; simp only [ByteArray.size_append, ZZ61, ZZ58, ZZ59] at h_; omega)
      replace p786 := eq_true p786
      replace q786 := eq_true q786
      try go_wp2_with (first | ((with_reducible refine gate_dst (N := 5) rfl ?_); refine box_event ?hg (N := 5) ?hd (cs := #[.string (⟨#[]⟩ : ByteArray), .int .i64 0, .slice none 0 0]) (t := 64) ?hr ?_; (case hd => rfl); (case hg => rfl); (case hr => first | (go_simp; done) | (go_simp; rfl)); intro gb787 hg w13 hbox hb; have n0_ := Aside0.mk (Kd.R_below (by (with_reducible repeat (first | apply Kd.R_alloc | apply Kd.R_drewN | apply Kd.R_drew)); exact HO_3.out) hb); have n1_ := Aside0.mk (below_step (by repeat (first | (with_reducible first | exact HB.out | apply below_alloc | apply pw_below_drewN | apply below_drew1) | exact HB.out)) hb); have n2_ := Aside0.mk (hbox); have n3_ := Aside0.mk ((by rw [hg]; exact (below_size (by repeat (first | (with_reducible first | exact HB.out | apply below_alloc | apply pw_below_drewN | apply below_drew1) | exact HB.out))) : w.heap.size ≤ gb787)); have n4_ := Aside0.mk ((by rw [hg]; exact (below_size (by repeat (first | (with_reducible first | exact HB.out | apply below_alloc | apply pw_below_drewN | apply below_drew1) | exact HB.out))) : w.heap.size ≤ gb787)); clear HO_3; clear HB; have HO_3 := n0_; have HB := n1_; have BK787 := n2_; have GW787 := n3_; have GE787 := n4_; clear n0_ n1_ n2_ n3_ n4_; clear hb hbox hg; have hcz14_0 : w13.cell? ⟨gb787, 0, none⟩ = some (.string (⟨#[]⟩ : ByteArray)) := (blk_cell BK787.out 0).trans rfl; have hcz14_1 : w13.cell? ⟨gb787, 1, none⟩ = some (.int .i64 0) := (blk_cell BK787.out 1).trans rfl; have hcz14_2 : w13.cell? ⟨gb787, 2, none⟩ = some (.slice none 0 0) := (blk_cell BK787.out 2).trans rfl; have hfz14_0 := blk_frozen BK787.out 0; have hfz14_1 := blk_frozen BK787.out 1; have hfz14_2 := blk_frozen BK787.out 2) | ((with_reducible refine gate_callee (f := 159) rfl ?_); refine goesL_ (some 17) rfl rfl Tryz.func159 (by kernel_rfl) rfl #[.int .i64 ((rd_T64 l0 x9_1).f1), .slice A786_2 ((rd_T64 l0 x9_1).f2).length c786_2] rfl (by (try simp only [List.map_toArray, List.map_cons, List.map_nil]); first | done | rfl | (simp only [List.length_drop, List.length_take]; rfl)) ?_; (with_reducible refine (text_Key.calls k1 ((rd_T64 l0 x9_1).f1) _ _ ((rd_T64 l0 x9_1).f2) t788 _ ?side1 ?side2 A5.out (Tb.below HHd.out (by repeat (first | (with_reducible first | exact HB.out | apply below_alloc | apply pw_below_drewN | apply below_drew1 | refine below_set ?_ GE787.out) | exact HB.out)))).mono ?_); (case side1 => exact Kd.C_below HR786_2.out (by repeat (first | (with_reducible first | exact HB.out | apply below_alloc | apply pw_below_drewN | apply below_drew1 | refine below_set ?_ GE787.out) | exact HB.out))); (case side2 => exact HC786_2.out); rintro e w15 ⟨rfl, hb⟩; refine ⟨_, rfl, ?_⟩; have n0_ := Aside0.mk (Kd.R_below (by (with_reducible repeat (first | apply Kd.R_alloc | apply Kd.R_drewN | apply Kd.R_drew)); exact (Kd.R_mono (Kd.R_far (p := ⟨gb787, 2, none⟩) (Kd.R_far (p := ⟨gb787, 1, none⟩) (Kd.R_far (p := ⟨gb787, 0, none⟩) (Kd.R_types HO_3.out BK787.out (by decide)) (fun _ hk => hk.2) (.string ((rd_T64 l0 x9_1).f0))) (fun _ hk => hk.2) (.int .i64 ((rd_T64 l0 x9_1).f1))) (fun _ hk => hk.2) (.slice A786_2 ((rd_T64 l0 x9_1).f2).length c786_2)) (fun _ h_ => h_.1))) hb); have n1_ := Aside0.mk (blk_below (g := gb787) (o := .cells #[.string ((rd_T64 l0 x9_1).f0), .int .i64 ((rd_T64 l0 x9_1).f1), .slice A786_2 ((rd_T64 l0 x9_1).f2).length c786_2] 64 (0, 0)) (by (with_reducible repeat (first | refine blk_drewN ?_ _ | refine blk_drew ?_ | refine blk_alloc ?_ _)); refine blk_put (cs := #[.string ((rd_T64 l0 x9_1).f0), .int .i64 ((rd_T64 l0 x9_1).f1), .slice none 0 0]) ?_ 2 _ rfl; (with_reducible repeat (first | refine blk_drewN ?_ _ | refine blk_drew ?_ | refine blk_alloc ?_ _)); refine blk_put (cs := #[.string ((rd_T64 l0 x9_1).f0), .int .i64 0, .slice none 0 0]) ?_ 1 _ rfl; (with_reducible repeat (first | refine blk_drewN ?_ _ | refine blk_drew ?_ | refine blk_alloc ?_ _)); refine blk_put (cs := #[.string (⟨#[]⟩ : ByteArray), .int .i64 0, .slice none 0 0]) ?_ 0 _ rfl; (with_reducible repeat (first | refine blk_drewN ?_ _ | refine blk_drew ?_ | refine blk_alloc ?_ _)); exact BK787.out) hb); have n2_ := Aside0.mk (below_step (by repeat (first | (with_reducible first | exact HB.out | apply below_alloc | apply pw_below_drewN | apply below_drew1 | refine below_set ?_ GE787.out) | exact HB.out)) hb); clear HO_3; clear BK787; clear HB; have HO_3 := n0_; have BK787 := n1_; have HB := n2_; clear n0_ n1_ n2_; (try clear hb); (try clear hb2); (try clear hk); (try clear hi)))
      have n0_ := Aside0.mk (Kd.R_drew HO_3.out)
      have n1_ := Aside0.mk (blk_drew BK787.out)
      have n2_ := Aside0.mk (below_drew1 HB.out)
      clear HO_3
      clear BK787
      clear HB
      have HO_3 := n0_
      have BK787 := n1_
      have HB := n2_
      clear n0_ n1_ n2_
      refine start_ (n := 15) (S := fun w' => w'.cell? ⟨gb787, 0, none⟩ = some (.string ((rd_T64 l0 x9_1).f0)) ∧ w'.cell? ⟨gb787, 1, none⟩ = some (.int .i64 ((rd_T64 l0 x9_1).f1)) ∧ w'.cell? ⟨gb787, 2, none⟩ = some (.slice A786_2 ((rd_T64 l0 x9_1).f2).length c786_2)) (ds := []) #[false, false, false, false, false, false, false, false, false, false, false, false, false, false, false] (by kernel_rfl) rfl rfl ⟨(blk_cell BK787.out 0).trans rfl, (blk_cell BK787.out 1).trans rfl, (blk_cell BK787.out 2).trans rfl⟩ (fun hHeld => ?_); refine with_tabW name_mark.tab6 name_mark.bits6 (fun HT_ HW_ => ?_)
      generalize w15.drew = w16 at HO_3 BK787 HB hHeld ⊢
      refine pure_ (i := 0) (N := some 18) (v := ?_) (a' := ?_) #[true, false, false, false, false, false, false, false, false, false, false, false, false, false, false] rfl rfl (any_of HT_.out (by kernel_rfl)) (fun _ _ _ h => h) (Or.inl ⟨by rfl, ?_⟩) ?_ ?_; rotate_left; (intro w'; go_simp; with_reducible rfl); rotate_left; (simp only [Act.put, List.setIfInBounds_toArray, List.set_cons_zero, List.set_cons_succ, i64_w, i32_w]; rfl)
      refine pure_ (i := 1) (N := some 19) (v := ?_) (a' := ?_) #[true, true, false, false, false, false, false, false, false, false, false, false, false, false, false] rfl rfl (any_of HT_.out (by kernel_rfl)) (fun _ _ _ h => h) (Or.inl ⟨by rfl, ?_⟩) ?_ ?_; rotate_left; (intro w'; go_simp; with_reducible rfl); rotate_left; (simp only [Act.put, List.setIfInBounds_toArray, List.set_cons_zero, List.set_cons_succ, i64_w, i32_w]; rfl)
      refine pure_ (i := 4) (N := some 22) (v := ?_) (a' := ?_) #[true, true, false, false, true, false, false, false, false, false, false, false, false, false, false] rfl rfl (any_of HT_.out (by kernel_rfl)) (fun _ _ _ h => h) (Or.inl ⟨by rfl, ?_⟩) ?_ ?_; rotate_left; (intro w'; go_simp; with_reducible rfl); rotate_left; (simp only [Act.put, List.setIfInBounds_toArray, List.set_cons_zero, List.set_cons_succ, i64_w, i32_w]; rfl)
      refine pure_ (i := 5) (N := some 23) (v := ?_) (a' := ?_) #[true, true, false, false, true, true, false, false, false, false, false, false, false, false, false] rfl rfl (any_of HT_.out (by kernel_rfl)) (fun _ _ _ h => h) (Or.inl ⟨by rfl, ?_⟩) ?_ ?_; rotate_left; (intro w'; go_simp; with_reducible rfl); rotate_left; (simp only [Act.put, List.setIfInBounds_toArray, List.set_cons_zero, List.set_cons_succ, i64_w, i32_w]; rfl)
      refine pure_ (i := 9) (N := some 27) (v := ?_) (a' := ?_) #[true, true, false, false, true, true, false, false, false, true, false, false, false, false, false] rfl rfl (any_of HT_.out (by kernel_rfl)) (fun _ _ _ h => h) (Or.inl ⟨by rfl, ?_⟩) ?_ ?_; rotate_left; (intro w'; go_simp; with_reducible rfl); rotate_left; (simp only [Act.put, List.setIfInBounds_toArray, List.set_cons_zero, List.set_cons_succ, i64_w, i32_w]; rfl)
      refine take_ (i := 2) (N := some 20) (v := ?_) (a' := ?_) #[true, true, true, false, true, true, false, false, false, true, false, false, false, false, false] rfl rfl (take_ofW HT_.out HW_.out (by kernel_rfl)) (fun _ _ _ h => h) (Or.inl ⟨by rfl, ?_⟩) hHeld ?_ ?_; rotate_left; (rintro w' ⟨s0, s1, s2⟩; go_simp; with_reducible rfl); rotate_left; (simp only [Act.put, List.setIfInBounds_toArray, List.set_cons_zero, List.set_cons_succ, i64_w, i32_w]; rfl)
      refine pure_ (i := 3) (N := some 21) (v := ?_) (a' := ?_) #[true, true, true, true, true, true, false, false, false, true, false, false, false, false, false] rfl rfl (any_of HT_.out (by kernel_rfl)) (fun _ _ _ h => h) (Or.inl ⟨by rfl, ?_⟩) ?_ ?_; rotate_left; (intro w'; go_simp; with_reducible rfl); rotate_left; (simp only [Act.put, List.setIfInBounds_toArray, List.set_cons_zero, List.set_cons_succ, i64_w, i32_w]; rfl)
      refine one_ (i := 6) (N := some 24) #[true, true, true, true, true, true, true, false, false, true, false, false, false, false, false] rfl rfl (one_of HT_.out (by kernel_rfl)) (by decide) (fun K hK => ?_)
      refine goes_ Tryz.func160 (by kernel_rfl) rfl #[.int .i64 (t788.size : Int)] (by rfl) rfl rfl (by (try simp only [List.map_toArray, List.map_cons, List.map_nil]); first | done | rfl | (simp only [List.length_drop, List.length_take]; rfl)) ?_
      with_reducible refine (strconv_Itoa.calls (t788.size : Int) t789 _ A7.out (Tb.below HHd.out (by repeat (first | (with_reducible first | exact HB.out | apply below_alloc | apply pw_below_drewN | apply below_drew1 | refine below_set ?_ GE787.out) | exact HB.out)))).mono ?_
      rintro e w17 ⟨rfl, hb⟩
      refine ⟨_, rfl, ?_⟩
      have n0_ := Aside0.mk (Kd.R_below (by (with_reducible repeat (first | apply Kd.R_alloc | apply Kd.R_drewN | apply Kd.R_drew)); exact HO_3.out) hb)
      have n1_ := Aside0.mk (blk_below (g := gb787) (o := .cells #[.string ((rd_T64 l0 x9_1).f0), .int .i64 ((rd_T64 l0 x9_1).f1), .slice A786_2 ((rd_T64 l0 x9_1).f2).length c786_2] 64 (0, 0)) (by (with_reducible repeat (first | refine blk_drewN ?_ _ | refine blk_drew ?_ | refine blk_alloc ?_ _)); exact BK787.out) hb)
      have n2_ := Aside0.mk (below_step (by repeat (first | (with_reducible first | exact HB.out | apply below_alloc | apply pw_below_drewN | apply below_drew1 | refine below_set ?_ GE787.out) | exact HB.out)) hb)
      clear HO_3
      clear BK787
      clear HB
      have HO_3 := n0_
      have BK787 := n1_
      have HB := n2_
      clear n0_ n1_ n2_
      (try clear hb)
      (try clear hb2)
      (try clear hk)
      (try clear hi)
      refine hK.out _ _ ⟨(blk_cell BK787.out 0).trans rfl, (blk_cell BK787.out 1).trans rfl, (blk_cell BK787.out 2).trans rfl⟩ (fun hHeld => ?_)
      clear hK K
      refine norm_ (a' := ?_) ?_ ?_; rotate_left; (show Act.put _ (some 24) _ = _; simp only [Act.put, List.setIfInBounds_toArray, List.set_cons_zero, List.set_cons_succ, i64_w, i32_w]; rfl)
      refine pure_ (i := 7) (N := some 25) (v := ?_) (a' := ?_) #[true, true, true, true, true, true, true, true, false, true, false, false, false, false, false] rfl rfl (any_of HT_.out (by kernel_rfl)) (fun _ _ _ h => h) (Or.inl ⟨by rfl, ?_⟩) ?_ ?_; rotate_left; (intro w'; go_simp; with_reducible rfl); rotate_left; (simp only [Act.put, List.setIfInBounds_toArray, List.set_cons_zero, List.set_cons_succ, i64_w, i32_w]; rfl)
      refine pure_ (i := 8) (N := some 26) (v := ?_) (a' := ?_) #[true, true, true, true, true, true, true, true, true, true, false, false, false, false, false] rfl rfl (any_of HT_.out (by kernel_rfl)) (fun _ _ _ h => h) (Or.inl ⟨by rfl, ?_⟩) ?_ ?_; rotate_left; (intro w'; go_simp; with_reducible rfl); rotate_left; (simp only [Act.put, List.setIfInBounds_toArray, List.set_cons_zero, List.set_cons_succ, i64_w, i32_w]; rfl)
      refine pure_ (i := 10) (N := some 28) (v := ?_) (a' := ?_) #[true, true, true, true, true, true, true, true, true, true, true, false, false, false, false] rfl rfl (any_of HT_.out (by kernel_rfl)) (fun _ _ _ h => h) (Or.inl ⟨by rfl, ?_⟩) ?_ ?_; rotate_left; (intro w'; go_simp; with_reducible rfl); rotate_left; (simp only [Act.put, List.setIfInBounds_toArray, List.set_cons_zero, List.set_cons_succ, i64_w, i32_w]; rfl)
      refine pure_ (i := 11) (N := some 29) (v := ?_) (a' := ?_) #[true, true, true, true, true, true, true, true, true, true, true, true, false, false, false] rfl rfl (any_of HT_.out (by kernel_rfl)) (fun _ _ _ h => h) (Or.inl ⟨by rfl, ?_⟩) ?_ ?_; rotate_left; (intro w'; go_simp; with_reducible rfl); rotate_left; (simp only [Act.put, List.setIfInBounds_toArray, List.set_cons_zero, List.set_cons_succ, i64_w, i32_w]; rfl)
      refine one_ (i := 12) (N := some 30) #[true, true, true, true, true, true, true, true, true, true, true, true, true, false, false] rfl rfl (one_of HT_.out (by kernel_rfl)) (by decide) (fun K hK => ?_)
      refine value_ (w1 := ?_) (v := ?_) (by rfl) rfl ?_ ?_
      rotate_left 2
      · go_simp
        constructor
        rotate_left
        · rfl
        rfl
      refine hK.out _ _ ⟨(blk_cell (blk_alloc BK787.out _) 0).trans rfl, (blk_cell (blk_alloc BK787.out _) 1).trans rfl, (blk_cell (blk_alloc BK787.out _) 2).trans rfl⟩ (fun hHeld => ?_)
      clear hK K
      refine norm_ (a' := ?_) ?_ ?_; rotate_left; (show Act.put _ (some 30) _ = _; simp only [Act.put, List.setIfInBounds_toArray, List.set_cons_zero, List.set_cons_succ, i64_w, i32_w]; rfl)
      refine one_ (i := 13) (N := some 31) #[true, true, true, true, true, true, true, true, true, true, true, true, true, true, false] rfl rfl (one_of HT_.out (by kernel_rfl)) (by decide) (fun K hK => ?_)
      refine Kd.R_append_step Kd.string (w0 := w) w.heap.size (by rfl) (.tmp 18) (.tmp 30) 102 9 (.string ⟨#[]⟩) 16 rfl Tryz.underlying102 info9 rfl (by decide) (by omega) u3 x3_1 (((((((rd_T64 l0 x9_1).f0) ++ (⟨#[61]⟩ : ByteArray)) ++ t789) ++ (⟨#[58]⟩ : ByteArray)) ++ t788) ++ (⟨#[59]⟩ : ByteArray)) [.string (((((((rd_T64 l0 x9_1).f0) ++ (⟨#[61]⟩ : ByteArray)) ++ t789) ++ (⟨#[58]⟩ : ByteArray)) ++ t788) ++ (⟨#[59]⟩ : ByteArray))] (fun _ => True) (fun _ => False) rfl rfl ?aP (fun _ hk => hk.elim) ?aF ?aO ?aB ?aS ?aL ?_
      (case aP => exact rfl)
      (case aB => exact (by repeat (first | (with_reducible first | exact HB.out | apply below_alloc | apply pw_below_drewN | apply below_drew1 | refine below_set ?_ GE787.out) | exact HB.out)))
      (case aF => exact (fun _ _ => trivial))
      (case aO => exact (by (with_reducible repeat (first | apply Kd.R_alloc | apply Kd.R_drewN | apply Kd.R_drew)); exact HO_3.out))
      (case aS => exact (below_size (by repeat (first | (with_reducible first | exact HB.out | apply below_alloc | apply pw_below_drewN | apply below_drew1 | refine below_set ?_ GE787.out) | exact HB.out))))
      (case aL => have := LMc12.out; omega)
      intro v791 w18 ho hb hg hat
      rw [← Ny790.out] at ho
      have n0_ := Aside0.mk (blk_grown (g := gb787) (o := .cells #[.string ((rd_T64 l0 x9_1).f0), .int .i64 ((rd_T64 l0 x9_1).f1), .slice A786_2 ((rd_T64 l0 x9_1).f2).length c786_2] 64 (0, 0)) (by (with_reducible repeat (first | refine blk_drewN ?_ _ | refine blk_drew ?_ | refine blk_alloc ?_ _)); exact BK787.out) hg (Kd.R_ne HO_3.out BK787.out (by decide)))
      have n1_ := Aside0.mk (hb)
      have n2_ := Aside0.mk (ho)
      clear BK787
      clear HB
      clear HO_3
      have BK787 := n0_
      have HB := n1_
      have HO792 := n2_
      clear n0_ n1_ n2_
      clear ho hb hg hat
      refine hK.out _ _ ⟨(blk_cell BK787.out 0).trans rfl, (blk_cell BK787.out 1).trans rfl, (blk_cell BK787.out 2).trans rfl⟩ (fun hHeld => ?_)
      clear hK K
      refine norm_ (a' := ?_) ?_ ?_; rotate_left; (show Act.put _ (some 31) _ = _; simp only [Act.put, List.setIfInBounds_toArray, List.set_cons_zero, List.set_cons_succ, i64_w, i32_w]; rfl)
      refine pure_ (i := 14) (N := some 3) (v := ?_) (a' := ?_) #[true, true, true, true, true, true, true, true, true, true, true, true, true, true, true] rfl rfl (any_of HT_.out (by kernel_rfl)) (fun _ _ _ h => h) (Or.inl ⟨by rfl, ?_⟩) ?_ ?_; rotate_left; (intro w'; go_simp; with_reducible rfl); rotate_left; (simp only [Act.put, List.setIfInBounds_toArray, List.set_cons_zero, List.set_cons_succ, i64_w, i32_w]; rfl)
      refine done_ (done_of HT_.out (by kernel_rfl)) ?_
      try go_wp2
      go_roundg k1
      case measure => have := HK1.out; omega
      case rel => exact ⟨(y790), (wrap64 (x9_1 + 1)), (by first | rfl | (simp; done) | (simp [*]; done)), H', ⟨by have := HK1.out; omega⟩, ⟨by (with_reducible repeat (first | apply Kd.R_alloc | apply Kd.R_drewN | apply Kd.R_drew)); exact HO792.out⟩, ⟨by repeat (first | (with_reducible first | exact HB.out | apply below_alloc | apply pw_below_drewN | apply below_drew1 | refine below_set ?_ GE787.out) | exact HB.out)⟩⟩
end Go.Proofs.YtkioddjjfifadaaGreatDoor.P
namespace Go.Proofs.YtkioddjjfifadaaGreatDoor.P
open Go.RowKit Go.Proofs.YtkioddjjfifadaaGreatDoorW.PrintWords Go.Proofs.YtkioddjjfifadaaGreatDoorW.PrintLast Go.Proofs.YtkioddjjfifadaaGreatDoorW.PrintMore
theorem write_string (B b : Nat) (bs : List Value) (s : ByteArray) (w : World) (h : Lib.IsBuilder 157 5 B b bs w) (hlen : bs.length + s.size ≤ 140737488355328) (hBw : B ≤ w.heap.size) :
    Calls Tryz.prog 92 #[.pointer (some ⟨b, 0, none⟩), .string s] w fun e w' => e = .returned (.tuple #[.int .i64 s.size, .nilIface]) ∧ (Lib.BuilderAt 157 5 B b (.pointer (some ⟨b, 0, none⟩)) (bs ++ Lib.strCells s) w' ∧ Below B w w') :=
  Go.Proofs.Any.Builder_WriteString (ρ := Tryz.lays156_ren) { Tryz.lays156 with } Tryz.Builder_Extra_156 B b bs s w h hlen hBw
theorem isBuilder_below {B b : Nat} {bs : List Value} {w w1 : World} (h : Lib.IsBuilder 157 5 B b bs w) (hb : Below w.heap.size w w1) : Lib.IsBuilder 157 5 B b bs w1 := by
  have key : ∀ p, Lib.BuilderAt 157 5 B b p bs w → Lib.BuilderAt 157 5 B b p bs w1 := by
    rintro p ⟨hB, v, hk, ho, hne⟩
    exact ⟨hB, v, (hb.block b (blk_lt hk)).trans hk, own_move ho (fun k hk => hb.block k (own_lt ho k hk)), hne⟩
  rcases h with h | h
  rotate_left
  · exact Or.inr (key _ h)
  exact Or.inl (key _ h)
def keyL (k : Nat) : List (List S64) → Option (List UInt8)
  | [] => some []
  | s :: r => (name_mark.f k s).bind fun m => (keyL k r).bind fun t => some (m.data.toList ++ t)
def name_Key.f (k : Nat) (n : List (List S64)) : Option ByteArray := (keyL k n).bind fun r => if r.length ≤ 140737488355328 ∧ n.length ≤ 1000000 then some ⟨r.toArray⟩ else none
set_option maxHeartbeats 4000000 in
theorem name_Key.calls (k : Nat) (A0 : Option Addr) (c0 : Nat) (l0 : List (List S64)) (r : ByteArray) (w : World) (hr0 : Kd.C (Kd.slice 64 k64) w A0 l0.length l0) (hc0 : l0.length ≤ c0) (h : name_Key.f k l0 = some r) (hH : Tb w) :
    Calls Tryz.prog 48 #[.slice A0 l0.length c0] w fun e w' => e = .returned (.string r) ∧ Below w.heap.size w w' := by
  unfold name_Key.f at h
  obtain ⟨R, hkey, h⟩ := Option.bind_eq_some_iff.mp h
  split at h
  case isFalse => cases h
  case isTrue hl =>
  obtain rfl := Option.some.inj h
  have HR0 := Aside0.mk hr0
  have HC0 := Aside0.mk hc0
  have HT := Aside0.mk hH
  have HL := Aside0.mk hl
  have HKEY := Aside0.mk hkey
  have HI := Aside0.mk (Lib.fresh_isBuilder 157 5 w)
  have HB := Aside0.mk (below_alloc (Below.refl w.heap.size w) (.cells #[.pointer none, .slice none 0 0] 157))
  clear hr0 hc0 hH hl hkey h
  go_enter Tryz.func48, Tryz.ntmps48
  go_wp2_with fail
  go_loopg [8] (l0.length + 1) (fun kq v8 w' => ∃ (j : Nat) (acc q : List UInt8), v8 = .int .i64 (j : Int) ∧ Aside0 (j ≤ l0.length ∧ l0.length < kq + j) ∧ Aside0 (keyL k (l0.drop j) = some q) ∧ Aside0 (acc ++ q = R) ∧
    Aside0 (Lib.IsBuilder 157 5 w.heap.size w.heap.size (Lib.byteCells acc) w') ∧ Aside0 (Below w.heap.size w w'))
  case atStart => exact ⟨0, [], R, rfl, ⟨⟨Nat.zero_le _, by omega⟩⟩, ⟨HKEY.out⟩, ⟨rfl⟩, HI, HB⟩
  case round =>
    clear HI HB HKEY
    obtain ⟨j, acc, q, rfl, HJ, HQ, HE, HI, HB⟩ := hrel
    cases gk with
    | zero => exact absurd HJ.out (by omega)
    | succ g1 =>
      by_cases hj : j < l0.length
      rotate_left
      · have c1 : decide ((j : Int) < (l0.length : Int)) = false := decide_eq_false (by omega)
        have he : l0.drop j = [] := List.drop_eq_nil_of_le (by omega)
        have hq := HQ.out
        rw [he, keyL] at hq
        have hq2 : [] = q := Option.some.inj hq
        have hacc : acc = R := by rw [← HE.out, ← hq2, List.append_nil]
        clear hq hq2 he
        go_wp2_with fail
        refine (Tryz.Builder_String_any w.heap.size w.heap.size acc _ HI.out HB.out.size).mono ?_
        rintro e w2 ⟨rfl, hb2⟩
        have HB2 := Aside0.mk (HB.out.trans hb2)
        clear hb2
        go_wp2_with fail
        go_ret
        exact ⟨by first | rfl | (rw [hacc]; rfl), HB2.out⟩
      have c1 : decide ((j : Int) < (l0.length : Int)) = true := decide_eq_true (by omega)
      have p1 : ((0 : Int) ≤ (j : Int)) = True := eq_true (by omega)
      have q1 : ((j : Int) < (l0.length : Int)) = True := eq_true (by omega)
      obtain ⟨ad, A1, c1', rfl, hx, hl1, hC1⟩ := at_L5 HR0.out (j : Int) (by omega) (by omega)
      replace hx := (HB.out.cell (World.block_lt_of_cell? w _ hx)).trans hx
      rw [Int.toNat_natCast] at hx
      have hd : l0.drop j = rd_L5 l0 (j : Int) :: l0.drop (j + 1) := by
        rw [List.drop_eq_getElem_cons hj]
        show _ = l0.getD (j : Int).toNat [] :: _
        rw [Int.toNat_natCast, List.getD_eq_getElem?_getD, List.getElem?_eq_getElem hj]
        rfl
      have hq := HQ.out
      rw [hd, keyL] at hq
      obtain ⟨m, hm, hq⟩ := Option.bind_eq_some_iff.mp hq
      obtain ⟨t, ht, hq⟩ := Option.bind_eq_some_iff.mp hq
      have hq' : m.data.toList ++ t = q := Option.some.inj hq
      have HM := Aside0.mk hm
      have HTL := Aside0.mk ht
      have hw3 : wrap64 ((j : Int) + 1) = ((j + 1 : Nat) : Int) := by unfold wrap64; have := HL.out; omega
      have HLEN : Aside0 (acc.length + m.size ≤ 140737488355328) := ⟨by
        have h1 := congrArg List.length HE.out
        rw [← hq'] at h1
        simp only [List.length_append, Array.length_toList] at h1
        have h2 : m.data.size = m.size := rfl
        have := HL.out.1
        omega⟩
      have HE2 : Aside0 ((acc ++ m.data.toList) ++ t = R) := ⟨by rw [List.append_assoc, hq']; exact HE.out⟩
      have HC1 := Aside0.mk hC1
      have HL1 := Aside0.mk hl1
      clear hd hq hm ht hq' HQ HE hC1 hl1
      generalize rd_L5 l0 (j : Int) = s at *
      go_wp2_with fail
      refine (name_mark.calls k A1 c1' s m _ (Kd.C_below HC1.out HB.out) HL1.out HM.out (HT.out.below HB.out)).mono ?_
      rintro e w1 ⟨rfl, hb1⟩
      have HI1 := Aside0.mk (isBuilder_below HI.out hb1)
      have HB1 := Aside0.mk (below_step HB.out hb1)
      clear hb1 HI HB hx
      go_wp2_with fail
      refine (write_string w.heap.size w.heap.size _ m _ HI1.out (by rw [Lib.byteCells_length]; exact HLEN.out) HB1.out.size).mono ?_
      rintro e w2 ⟨rfl, hI2, hb2⟩
      have HB2 := Aside0.mk (HB1.out.trans hb2)
      have HI2 : Aside0 (Lib.IsBuilder 157 5 w.heap.size w.heap.size (Lib.byteCells (acc ++ m.data.toList)) w2) := ⟨by
        rw [Lib.byteCells_append]
        exact Or.inr hI2⟩
      clear hI2 hb2 HI1 HB1
      go_wp2_with fail
      go_roundg g1
      case measure => exact Nat.lt_succ_self _
      case rel => exact ⟨j + 1, acc ++ m.data.toList, t, congrArg (Value.int .i64) hw3, ⟨by have := HJ.out; omega⟩, HTL, HE2, HI2, HB2⟩
def name_Same.f (k : Nat) (a b : List (List S64)) : Option Bool := (name_Key.f k a).bind fun x => (name_Key.f k b).bind fun y => some (x.toList == y.toList)
theorem name_Same.calls (k : Nat) (A0 : Option Addr) (c0 : Nat) (l0 : List (List S64)) (A1 : Option Addr) (c1 : Nat) (l1 : List (List S64)) (r : Bool) (w : World) (hr0 : Kd.C (Kd.slice 64 k64) w A0 l0.length l0) (hc0 : l0.length ≤ c0) (hr1 : Kd.C (Kd.slice 64 k64) w A1 l1.length l1) (hc1 : l1.length ≤ c1) (h : name_Same.f k l0 l1 = some r) (hH : Tb w) :
    Calls Tryz.prog 45 #[.slice A0 l0.length c0, .slice A1 l1.length c1] w fun e w' => e = .returned (.bool r) ∧ Below w.heap.size w w' := by
  unfold name_Same.f at h
  obtain ⟨x, hx, h⟩ := Option.bind_eq_some_iff.mp h
  obtain ⟨y, hy, h⟩ := Option.bind_eq_some_iff.mp h
  obtain rfl := Option.some.inj h
  have HR1 := Aside0.mk hr1
  have HC1 := Aside0.mk hc1
  have HX := Aside0.mk hx
  have HY := Aside0.mk hy
  have HT := Aside0.mk hH
  have HR0 := Aside0.mk hr0
  have HC0 := Aside0.mk hc0
  clear hr0 hc0 hr1 hc1 hx hy hH h
  go_enter Tryz.func45, Tryz.ntmps45
  go_wp2_with fail
  refine (name_Key.calls k A0 c0 l0 x _ HR0.out HC0.out HX.out HT.out).mono ?_
  rintro e w1 ⟨rfl, h1⟩
  have HB1 := Aside0.mk h1
  clear h1
  go_wp2_with fail
  refine (name_Key.calls k A1 c1 l1 y _ (Kd.C_below HR1.out HB1.out) HC1.out HY.out (HT.out.below HB1.out)).mono ?_
  rintro e w2 ⟨rfl, h2⟩
  have HB2 := Aside0.mk (below_step HB1.out h2)
  clear h2
  go_wp2_with fail
  go_ret
  exact ⟨by first | rfl | (simp; done) | trace_state, HB2.out⟩
end Go.Proofs.YtkioddjjfifadaaGreatDoor.P
namespace Go.Proofs.YtkioddjjfifadaaGreatDoor.P
open Go.RowKit Go.Proofs.YtkioddjjfifadaaGreatDoorW.PrintWords Go.Proofs.YtkioddjjfifadaaGreatDoorW.PrintLast Go.Proofs.YtkioddjjfifadaaGreatDoorW.PrintMore
attribute [local go_sem] max2_int min2_int max_two min_two max_three min_three max_four min_four   -- for this text's walks alone
set_option linter.unusedVariables false
set_option linter.unusedSimpArgs false
mutual
def chirographref07_Huge.l0 : Nat → List (List (S64)) → Int → Int → Int → Option (Bool)
  | 0, _, _, _, _ => none
  | k + 1, x0, x1, x5, x6 => if x6 < (x0.length : Int) then (if 0 ≤ x6 then (if ((rd_L5 x0 x6).length : Int) > 200 then (some true) else (chirographref07_Huge.l1 k x0 x1 x5 x6 0)) else (none)) else (some false)
def chirographref07_Huge.l1 : Nat → List (List (S64)) → Int → Int → Int → Int → Option (Bool)
  | 0, _, _, _, _, _ => none
  | k + 1, x0, x1, x5, x6, x7 => if 0 ≤ x6 then (if x6 < (x0.length : Int) then (if x7 < ((rd_L5 x0 x6).length : Int) then (if 0 ≤ x7 then (if (((rd_T64 (rd_L5 x0 x6) x7).f2).length : Int) > (wrap64 (x1 - x5)) then (some true) else (if (((rd_T64 (rd_L5 x0 x6) x7).f0).size : Int) > (wrap64 (x1 - (wrap64 (x5 + (((rd_T64 (rd_L5 x0 x6) x7).f2).length : Int))))) then (some true) else (chirographref07_Huge.l1 k x0 x1 (wrap64 ((wrap64 (x5 + (((rd_T64 (rd_L5 x0 x6) x7).f2).length : Int))) + (((rd_T64 (rd_L5 x0 x6) x7).f0).size : Int))) x6 (wrap64 (x7 + 1))))) else (none)) else (chirographref07_Huge.l0 k x0 x1 x5 (wrap64 (x6 + 1)))) else (none)) else (none)
end
def chirographref07_Huge.f (k : Nat) (l0 : List (List (S64))) (a1 : Int) : Option (Bool) := if (l0.length : Int) > 200 then (some true) else (chirographref07_Huge.l0 k l0 a1 0 0)
set_option maxHeartbeats 8000000 in
set_option maxRecDepth 100000 in
theorem chirographref07_Huge.calls (k : Nat) (A0 : Option Addr) (c0 : Nat) (l0 : List (List (S64))) (a1 : Int) (r : Bool) (w : World) (hr0 : Kd.C (Kd.slice 64 k64) w A0 l0.length l0) (hc0 : l0.length ≤ c0) (h : chirographref07_Huge.f k l0 a1 = some r) :
    Calls Tryz.prog 39 #[.slice A0 l0.length c0, .int .i64 a1] w fun e w' => e = .returned (.bool r) ∧ Drawn0 w w' := by
  have HR0 := Aside0.mk hr0
  have HC0 := Aside0.mk hc0
  clear hr0 hc0
  have H : (if (l0.length : Int) > 200 then (some true) else (chirographref07_Huge.l0 k l0 a1 0 0)) = some r := h
  clear h
  by_cases c3 : (l0.length : Int) > 200
  · rw [if_pos c3] at H
    have c3b0 : decide (200 < (l0.length : Int)) = true := decide_eq_true c3
    have c3b1 : decide (200 < l0.length) = true := decide_eq_true (by omega)
    clear c3
    obtain rfl := Option.some.inj H
    go_enter Tryz.func39, Tryz.ntmps39
    go_wp2
    go_ret
    exact ⟨by first | rfl | (simp; done) | (simp [*]; done), by repeat (first | exact Drawn0.refl _ | apply Drawn0.step)⟩
  rw [if_neg c3] at H
  have c3b0 : decide (200 < (l0.length : Int)) = false := decide_eq_false c3
  have c3b1 : decide (200 < l0.length) = false := decide_eq_false (by omega)
  clear c3
  have H' := Aside0.mk H
  clear H
  go_enter Tryz.func39, Tryz.ntmps39
  go_wp2
  go_loopg [5, 6] k (fun kq v5 v6 w' => ∃ (x5_1 : Int) (x6_1 : Int), v5 = .int .i64 x5_1 ∧ v6 = .int .i64 x6_1 ∧ Aside0 (chirographref07_Huge.l0 kq l0 a1 x5_1 x6_1 = some r) ∧ Aside0 (kq ≤ k) ∧ Drawn0 w w')
  case atStart => exact ⟨(0), (0), (by first | rfl | (simp; done) | (simp [*]; done)), (by first | rfl | (simp; done) | (simp [*]; done)), H', ⟨Nat.le_refl _⟩, by repeat (first | exact Drawn0.refl _ | apply Drawn0.step)⟩
  case round =>
    clear H'
    try clear p2
    try clear c3
    try clear c3b0
    try clear c3b1
    obtain ⟨x5_1, x6_1, rfl, rfl, HA, HK1, ⟨m1, rfl⟩⟩ := hrel
    cases gk with
    | zero => exact absurd HA.out (by simp [chirographref07_Huge.l0])
    | succ k1 =>
      have H := HA.out
      clear HA
      simp only [chirographref07_Huge.l0] at H
      by_cases c4 : x6_1 < (l0.length : Int)
      rotate_left
      · rw [if_neg c4] at H
        have c4b0 : decide (x6_1 < (l0.length : Int)) = false := decide_eq_false c4
        clear c4
        obtain rfl := Option.some.inj H
        go_wp2
        go_ret
        exact ⟨by first | rfl | (simp; done) | (simp [*]; done), by repeat (first | exact Drawn0.refl _ | apply Drawn0.step)⟩
      rw [if_pos c4] at H
      have c4b0 : decide (x6_1 < (l0.length : Int)) = true := decide_eq_true c4
      clear c4
      by_cases c5 : 0 ≤ x6_1
      rotate_left
      · rw [if_neg c5] at H
        exact absurd H (by simp)
      rw [if_pos c5] at H
      have c5b0 : decide (0 ≤ x6_1) = true := decide_eq_true c5
      clear c5
      by_cases c6 : ((rd_L5 l0 x6_1).length : Int) > 200
      · rw [if_pos c6] at H
        have c6b0 : decide (200 < ((rd_L5 l0 x6_1).length : Int)) = true := decide_eq_true c6
        have c6b1 : decide (200 < (rd_L5 l0 x6_1).length) = true := decide_eq_true (by omega)
        clear c6
        obtain rfl := Option.some.inj H
        have p961 : 0 ≤ (x6_1 : Int) := of_decide_eq_true (by first | (with_reducible assumption) | assumption)
        have q961 : x6_1 < (l0.length : Int) := of_decide_eq_true (by first | (with_reducible assumption) | assumption)
        obtain ⟨ad961, A961_0, c961_0, e961, hx961_0, hl961_0, hi961_0⟩ := at_L5 HR0.out x6_1 p961 q961
        cases e961
        have HR961_0 := Aside0.mk hi961_0
        have HC961_0 := Aside0.mk hl961_0
        clear hi961_0 hl961_0
        replace p961 := eq_true p961
        replace q961 := eq_true q961
        go_wp2
        go_ret
        exact ⟨by first | rfl | (simp; done) | (simp [*]; done), by repeat (first | exact Drawn0.refl _ | apply Drawn0.step)⟩
      rw [if_neg c6] at H
      have c6b0 : decide (200 < ((rd_L5 l0 x6_1).length : Int)) = false := decide_eq_false c6
      have c6b1 : decide (200 < (rd_L5 l0 x6_1).length) = false := decide_eq_false (by omega)
      clear c6
      have H' := Aside0.mk H
      clear H
      have p961 : 0 ≤ (x6_1 : Int) := of_decide_eq_true (by first | (with_reducible assumption) | assumption)
      have q961 : x6_1 < (l0.length : Int) := of_decide_eq_true (by first | (with_reducible assumption) | assumption)
      obtain ⟨ad961, A961_0, c961_0, e961, hx961_0, hl961_0, hi961_0⟩ := at_L5 HR0.out x6_1 p961 q961
      cases e961
      have HR961_0 := Aside0.mk hi961_0
      have HC961_0 := Aside0.mk hl961_0
      clear hi961_0 hl961_0
      replace p961 := eq_true p961
      replace q961 := eq_true q961
      go_wp2
      go_loopg [5, 7] k1 (fun kq v5 v7 w' => ∃ (x5_2 : Int) (x7_2 : Int), v5 = .int .i64 x5_2 ∧ v7 = .int .i64 x7_2 ∧ Aside0 (chirographref07_Huge.l1 kq l0 a1 x5_2 x6_1 x7_2 = some r) ∧ Aside0 (kq ≤ k1) ∧ Drawn0 w w')
      case atStart => exact ⟨(x5_1), (0), (by first | rfl | (simp; done) | (simp [*]; done)), (by first | rfl | (simp; done) | (simp [*]; done)), H', ⟨Nat.le_refl _⟩, by repeat (first | exact Drawn0.refl _ | apply Drawn0.step)⟩
      case round =>
        clear H'
        try clear p2
        try clear c3
        try clear c3b0
        try clear c3b1
        try clear c4
        try clear c4b0
        try clear c5
        try clear c5b0
        try clear c6
        try clear c6b0
        try clear c6b1
        try clear hx961_0
        try clear p2
        try clear p961
        try clear q961
        obtain ⟨x5_2, x7_2, rfl, rfl, HA, HK2, ⟨m2, rfl⟩⟩ := hrel
        cases gk with
        | zero => exact absurd HA.out (by simp [chirographref07_Huge.l1])
        | succ k2 =>
          have H := HA.out
          clear HA
          simp only [chirographref07_Huge.l1] at H
          by_cases c7 : 0 ≤ x6_1
          rotate_left
          · rw [if_neg c7] at H
            exact absurd H (by simp)
          rw [if_pos c7] at H
          have c7b0 : decide (0 ≤ x6_1) = true := decide_eq_true c7
          clear c7
          by_cases c8 : x6_1 < (l0.length : Int)
          rotate_left
          · rw [if_neg c8] at H
            exact absurd H (by simp)
          rw [if_pos c8] at H
          have c8b0 : decide (x6_1 < (l0.length : Int)) = true := decide_eq_true c8
          clear c8
          by_cases c9 : x7_2 < ((rd_L5 l0 x6_1).length : Int)
          rotate_left
          · rw [if_neg c9] at H
            have c9b0 : decide (x7_2 < ((rd_L5 l0 x6_1).length : Int)) = false := decide_eq_false c9
            clear c9
            have H' := Aside0.mk H
            clear H
            have p962 : 0 ≤ (x6_1 : Int) := of_decide_eq_true (by first | (with_reducible assumption) | assumption)
            have q962 : x6_1 < (l0.length : Int) := of_decide_eq_true (by first | (with_reducible assumption) | assumption)
            obtain ⟨ad962, A962_0, c962_0, e962, hx962_0, hl962_0, hi962_0⟩ := at_L5 HR0.out x6_1 p962 q962
            obtain rfl : ad961 = ad962 := (by injection e962)
            have HR962_0 := Aside0.mk hi962_0
            have HC962_0 := Aside0.mk hl962_0
            clear hi962_0 hl962_0
            replace p962 := eq_true p962
            replace q962 := eq_true q962
            go_wp2
            go_roundg k2
            case measure => have := HK1.out; have := HK2.out; omega
            case rel => exact ⟨(x5_2), (wrap64 (x6_1 + 1)), (by first | rfl | (simp; done) | (simp [*]; done)), (by first | rfl | (simp; done) | (simp [*]; done)), H', ⟨by have := HK1.out; have := HK2.out; omega⟩, by repeat (first | exact Drawn0.refl _ | apply Drawn0.step)⟩
          rw [if_pos c9] at H
          have c9b0 : decide (x7_2 < ((rd_L5 l0 x6_1).length : Int)) = true := decide_eq_true c9
          clear c9
          by_cases c10 : 0 ≤ x7_2
          rotate_left
          · rw [if_neg c10] at H
            exact absurd H (by simp)
          rw [if_pos c10] at H
          have c10b0 : decide (0 ≤ x7_2) = true := decide_eq_true c10
          clear c10
          by_cases c11 : (((rd_T64 (rd_L5 l0 x6_1) x7_2).f2).length : Int) > (wrap64 (a1 - x5_2))
          · rw [if_pos c11] at H
            have c11b0 : decide ((wrap64 (a1 - x5_2)) < (((rd_T64 (rd_L5 l0 x6_1) x7_2).f2).length : Int)) = true := decide_eq_true c11
            clear c11
            obtain rfl := Option.some.inj H
            have p962 : 0 ≤ (x6_1 : Int) := of_decide_eq_true (by first | (with_reducible assumption) | assumption)
            have q962 : x6_1 < (l0.length : Int) := of_decide_eq_true (by first | (with_reducible assumption) | assumption)
            obtain ⟨ad962, A962_0, c962_0, e962, hx962_0, hl962_0, hi962_0⟩ := at_L5 HR0.out x6_1 p962 q962
            obtain rfl : ad961 = ad962 := (by injection e962)
            have HR962_0 := Aside0.mk hi962_0
            have HC962_0 := Aside0.mk hl962_0
            clear hi962_0 hl962_0
            replace p962 := eq_true p962
            replace q962 := eq_true q962
            have p963 : 0 ≤ (x6_1 : Int) := of_decide_eq_true (by first | (with_reducible assumption) | assumption)
            have q963 : x6_1 < (l0.length : Int) := of_decide_eq_true (by first | (with_reducible assumption) | assumption)
            obtain ⟨ad963, A963_0, c963_0, e963, hx963_0, hl963_0, hi963_0⟩ := at_L5 HR0.out x6_1 p963 q963
            obtain rfl : ad961 = ad963 := (by injection e963)
            have HR963_0 := Aside0.mk hi963_0
            have HC963_0 := Aside0.mk hl963_0
            clear hi963_0 hl963_0
            replace p963 := eq_true p963
            replace q963 := eq_true q963
            have ea_ := Option.some.inj (hx962_0.symm.trans hx963_0)
            injection ea_ with ea_ en_ ec_
            subst ea_
            subst ec_
            clear en_
            have p964 : 0 ≤ (x7_2 : Int) := of_decide_eq_true (by first | (with_reducible assumption) | assumption)
            have q964 : x7_2 < ((rd_L5 l0 x6_1).length : Int) := of_decide_eq_true (by first | (with_reducible assumption) | assumption)
            obtain ⟨ad964, A964_2, c964_2, e964, hx964_0, hx964_1, hx964_2, hl964_2, hi964_2⟩ := at_T64 HR963_0.out x7_2 p964 q964
            cases e964
            have HR964_2 := Aside0.mk hi964_2
            have HC964_2 := Aside0.mk hl964_2
            clear hi964_2 hl964_2
            replace p964 := eq_true p964
            replace q964 := eq_true q964
            go_wp2
            go_ret
            exact ⟨by first | rfl | (simp; done) | (simp [*]; done), by repeat (first | exact Drawn0.refl _ | apply Drawn0.step)⟩
          rw [if_neg c11] at H
          have c11b0 : decide ((wrap64 (a1 - x5_2)) < (((rd_T64 (rd_L5 l0 x6_1) x7_2).f2).length : Int)) = false := decide_eq_false c11
          clear c11
          by_cases c12 : (((rd_T64 (rd_L5 l0 x6_1) x7_2).f0).size : Int) > (wrap64 (a1 - (wrap64 (x5_2 + (((rd_T64 (rd_L5 l0 x6_1) x7_2).f2).length : Int)))))
          · rw [if_pos c12] at H
            have c12b0 : decide ((wrap64 (a1 - (wrap64 (x5_2 + (((rd_T64 (rd_L5 l0 x6_1) x7_2).f2).length : Int))))) < (((rd_T64 (rd_L5 l0 x6_1) x7_2).f0).size : Int)) = true := decide_eq_true c12
            clear c12
            obtain rfl := Option.some.inj H
            have p962 : 0 ≤ (x6_1 : Int) := of_decide_eq_true (by first | (with_reducible assumption) | assumption)
            have q962 : x6_1 < (l0.length : Int) := of_decide_eq_true (by first | (with_reducible assumption) | assumption)
            obtain ⟨ad962, A962_0, c962_0, e962, hx962_0, hl962_0, hi962_0⟩ := at_L5 HR0.out x6_1 p962 q962
            obtain rfl : ad961 = ad962 := (by injection e962)
            have HR962_0 := Aside0.mk hi962_0
            have HC962_0 := Aside0.mk hl962_0
            clear hi962_0 hl962_0
            replace p962 := eq_true p962
            replace q962 := eq_true q962
            have p963 : 0 ≤ (x6_1 : Int) := of_decide_eq_true (by first | (with_reducible assumption) | assumption)
            have q963 : x6_1 < (l0.length : Int) := of_decide_eq_true (by first | (with_reducible assumption) | assumption)
            obtain ⟨ad963, A963_0, c963_0, e963, hx963_0, hl963_0, hi963_0⟩ := at_L5 HR0.out x6_1 p963 q963
            obtain rfl : ad961 = ad963 := (by injection e963)
            have HR963_0 := Aside0.mk hi963_0
            have HC963_0 := Aside0.mk hl963_0
            clear hi963_0 hl963_0
            replace p963 := eq_true p963
            replace q963 := eq_true q963
            have ea_ := Option.some.inj (hx962_0.symm.trans hx963_0)
            injection ea_ with ea_ en_ ec_
            subst ea_
            subst ec_
            clear en_
            have p964 : 0 ≤ (x7_2 : Int) := of_decide_eq_true (by first | (with_reducible assumption) | assumption)
            have q964 : x7_2 < ((rd_L5 l0 x6_1).length : Int) := of_decide_eq_true (by first | (with_reducible assumption) | assumption)
            obtain ⟨ad964, A964_2, c964_2, e964, hx964_0, hx964_1, hx964_2, hl964_2, hi964_2⟩ := at_T64 HR963_0.out x7_2 p964 q964
            cases e964
            have HR964_2 := Aside0.mk hi964_2
            have HC964_2 := Aside0.mk hl964_2
            clear hi964_2 hl964_2
            replace p964 := eq_true p964
            replace q964 := eq_true q964
            have p965 : 0 ≤ (x6_1 : Int) := of_decide_eq_true (by first | (with_reducible assumption) | assumption)
            have q965 : x6_1 < (l0.length : Int) := of_decide_eq_true (by first | (with_reducible assumption) | assumption)
            obtain ⟨ad965, A965_0, c965_0, e965, hx965_0, hl965_0, hi965_0⟩ := at_L5 HR0.out x6_1 p965 q965
            obtain rfl : ad961 = ad965 := (by injection e965)
            have HR965_0 := Aside0.mk hi965_0
            have HC965_0 := Aside0.mk hl965_0
            clear hi965_0 hl965_0
            replace p965 := eq_true p965
            replace q965 := eq_true q965
            have ea_ := Option.some.inj (hx962_0.symm.trans hx965_0)
            injection ea_ with ea_ en_ ec_
            subst ea_
            subst ec_
            clear en_
            have p966 : 0 ≤ (x7_2 : Int) := of_decide_eq_true (by first | (with_reducible assumption) | assumption)
            have q966 : x7_2 < ((rd_L5 l0 x6_1).length : Int) := of_decide_eq_true (by first | (with_reducible assumption) | assumption)
            obtain ⟨ad966, A966_2, c966_2, e966, hx966_0, hx966_1, hx966_2, hl966_2, hi966_2⟩ := at_T64 HR965_0.out x7_2 p966 q966
            cases e966
            have HR966_2 := Aside0.mk hi966_2
            have HC966_2 := Aside0.mk hl966_2
            clear hi966_2 hl966_2
            replace p966 := eq_true p966
            replace q966 := eq_true q966
            have p967 : 0 ≤ (x6_1 : Int) := of_decide_eq_true (by first | (with_reducible assumption) | assumption)
            have q967 : x6_1 < (l0.length : Int) := of_decide_eq_true (by first | (with_reducible assumption) | assumption)
            obtain ⟨ad967, A967_0, c967_0, e967, hx967_0, hl967_0, hi967_0⟩ := at_L5 HR0.out x6_1 p967 q967
            obtain rfl : ad961 = ad967 := (by injection e967)
            have HR967_0 := Aside0.mk hi967_0
            have HC967_0 := Aside0.mk hl967_0
            clear hi967_0 hl967_0
            replace p967 := eq_true p967
            replace q967 := eq_true q967
            have ea_ := Option.some.inj (hx962_0.symm.trans hx967_0)
            injection ea_ with ea_ en_ ec_
            subst ea_
            subst ec_
            clear en_
            have p968 : 0 ≤ (x7_2 : Int) := of_decide_eq_true (by first | (with_reducible assumption) | assumption)
            have q968 : x7_2 < ((rd_L5 l0 x6_1).length : Int) := of_decide_eq_true (by first | (with_reducible assumption) | assumption)
            obtain ⟨ad968, A968_2, c968_2, e968, hx968_0, hx968_1, hx968_2, hl968_2, hi968_2⟩ := at_T64 HR967_0.out x7_2 p968 q968
            cases e968
            have HR968_2 := Aside0.mk hi968_2
            have HC968_2 := Aside0.mk hl968_2
            clear hi968_2 hl968_2
            replace p968 := eq_true p968
            replace q968 := eq_true q968
            go_wp2
            go_ret
            exact ⟨by first | rfl | (simp; done) | (simp [*]; done), by repeat (first | exact Drawn0.refl _ | apply Drawn0.step)⟩
          rw [if_neg c12] at H
          have c12b0 : decide ((wrap64 (a1 - (wrap64 (x5_2 + (((rd_T64 (rd_L5 l0 x6_1) x7_2).f2).length : Int))))) < (((rd_T64 (rd_L5 l0 x6_1) x7_2).f0).size : Int)) = false := decide_eq_false c12
          clear c12
          have H' := Aside0.mk H
          clear H
          have p962 : 0 ≤ (x6_1 : Int) := of_decide_eq_true (by first | (with_reducible assumption) | assumption)
          have q962 : x6_1 < (l0.length : Int) := of_decide_eq_true (by first | (with_reducible assumption) | assumption)
          obtain ⟨ad962, A962_0, c962_0, e962, hx962_0, hl962_0, hi962_0⟩ := at_L5 HR0.out x6_1 p962 q962
          obtain rfl : ad961 = ad962 := (by injection e962)
          have HR962_0 := Aside0.mk hi962_0
          have HC962_0 := Aside0.mk hl962_0
          clear hi962_0 hl962_0
          replace p962 := eq_true p962
          replace q962 := eq_true q962
          have p963 : 0 ≤ (x6_1 : Int) := of_decide_eq_true (by first | (with_reducible assumption) | assumption)
          have q963 : x6_1 < (l0.length : Int) := of_decide_eq_true (by first | (with_reducible assumption) | assumption)
          obtain ⟨ad963, A963_0, c963_0, e963, hx963_0, hl963_0, hi963_0⟩ := at_L5 HR0.out x6_1 p963 q963
          obtain rfl : ad961 = ad963 := (by injection e963)
          have HR963_0 := Aside0.mk hi963_0
          have HC963_0 := Aside0.mk hl963_0
          clear hi963_0 hl963_0
          replace p963 := eq_true p963
          replace q963 := eq_true q963
          have ea_ := Option.some.inj (hx962_0.symm.trans hx963_0)
          injection ea_ with ea_ en_ ec_
          subst ea_
          subst ec_
          clear en_
          have p964 : 0 ≤ (x7_2 : Int) := of_decide_eq_true (by first | (with_reducible assumption) | assumption)
          have q964 : x7_2 < ((rd_L5 l0 x6_1).length : Int) := of_decide_eq_true (by first | (with_reducible assumption) | assumption)
          obtain ⟨ad964, A964_2, c964_2, e964, hx964_0, hx964_1, hx964_2, hl964_2, hi964_2⟩ := at_T64 HR963_0.out x7_2 p964 q964
          cases e964
          have HR964_2 := Aside0.mk hi964_2
          have HC964_2 := Aside0.mk hl964_2
          clear hi964_2 hl964_2
          replace p964 := eq_true p964
          replace q964 := eq_true q964
          have p965 : 0 ≤ (x6_1 : Int) := of_decide_eq_true (by first | (with_reducible assumption) | assumption)
          have q965 : x6_1 < (l0.length : Int) := of_decide_eq_true (by first | (with_reducible assumption) | assumption)
          obtain ⟨ad965, A965_0, c965_0, e965, hx965_0, hl965_0, hi965_0⟩ := at_L5 HR0.out x6_1 p965 q965
          obtain rfl : ad961 = ad965 := (by injection e965)
          have HR965_0 := Aside0.mk hi965_0
          have HC965_0 := Aside0.mk hl965_0
          clear hi965_0 hl965_0
          replace p965 := eq_true p965
          replace q965 := eq_true q965
          have ea_ := Option.some.inj (hx962_0.symm.trans hx965_0)
          injection ea_ with ea_ en_ ec_
          subst ea_
          subst ec_
          clear en_
          have p966 : 0 ≤ (x7_2 : Int) := of_decide_eq_true (by first | (with_reducible assumption) | assumption)
          have q966 : x7_2 < ((rd_L5 l0 x6_1).length : Int) := of_decide_eq_true (by first | (with_reducible assumption) | assumption)
          obtain ⟨ad966, A966_2, c966_2, e966, hx966_0, hx966_1, hx966_2, hl966_2, hi966_2⟩ := at_T64 HR965_0.out x7_2 p966 q966
          cases e966
          have HR966_2 := Aside0.mk hi966_2
          have HC966_2 := Aside0.mk hl966_2
          clear hi966_2 hl966_2
          replace p966 := eq_true p966
          replace q966 := eq_true q966
          have p967 : 0 ≤ (x6_1 : Int) := of_decide_eq_true (by first | (with_reducible assumption) | assumption)
          have q967 : x6_1 < (l0.length : Int) := of_decide_eq_true (by first | (with_reducible assumption) | assumption)
          obtain ⟨ad967, A967_0, c967_0, e967, hx967_0, hl967_0, hi967_0⟩ := at_L5 HR0.out x6_1 p967 q967
          obtain rfl : ad961 = ad967 := (by injection e967)
          have HR967_0 := Aside0.mk hi967_0
          have HC967_0 := Aside0.mk hl967_0
          clear hi967_0 hl967_0
          replace p967 := eq_true p967
          replace q967 := eq_true q967
          have ea_ := Option.some.inj (hx962_0.symm.trans hx967_0)
          injection ea_ with ea_ en_ ec_
          subst ea_
          subst ec_
          clear en_
          have p968 : 0 ≤ (x7_2 : Int) := of_decide_eq_true (by first | (with_reducible assumption) | assumption)
          have q968 : x7_2 < ((rd_L5 l0 x6_1).length : Int) := of_decide_eq_true (by first | (with_reducible assumption) | assumption)
          obtain ⟨ad968, A968_2, c968_2, e968, hx968_0, hx968_1, hx968_2, hl968_2, hi968_2⟩ := at_T64 HR967_0.out x7_2 p968 q968
          cases e968
          have HR968_2 := Aside0.mk hi968_2
          have HC968_2 := Aside0.mk hl968_2
          clear hi968_2 hl968_2
          replace p968 := eq_true p968
          replace q968 := eq_true q968
          have p969 : 0 ≤ (x6_1 : Int) := of_decide_eq_true (by first | (with_reducible assumption) | assumption)
          have q969 : x6_1 < (l0.length : Int) := of_decide_eq_true (by first | (with_reducible assumption) | assumption)
          obtain ⟨ad969, A969_0, c969_0, e969, hx969_0, hl969_0, hi969_0⟩ := at_L5 HR0.out x6_1 p969 q969
          obtain rfl : ad961 = ad969 := (by injection e969)
          have HR969_0 := Aside0.mk hi969_0
          have HC969_0 := Aside0.mk hl969_0
          clear hi969_0 hl969_0
          replace p969 := eq_true p969
          replace q969 := eq_true q969
          have ea_ := Option.some.inj (hx962_0.symm.trans hx969_0)
          injection ea_ with ea_ en_ ec_
          subst ea_
          subst ec_
          clear en_
          have p970 : 0 ≤ (x7_2 : Int) := of_decide_eq_true (by first | (with_reducible assumption) | assumption)
          have q970 : x7_2 < ((rd_L5 l0 x6_1).length : Int) := of_decide_eq_true (by first | (with_reducible assumption) | assumption)
          obtain ⟨ad970, A970_2, c970_2, e970, hx970_0, hx970_1, hx970_2, hl970_2, hi970_2⟩ := at_T64 HR969_0.out x7_2 p970 q970
          cases e970
          have HR970_2 := Aside0.mk hi970_2
          have HC970_2 := Aside0.mk hl970_2
          clear hi970_2 hl970_2
          replace p970 := eq_true p970
          replace q970 := eq_true q970
          go_wp2
          go_roundg k2
          case measure => have := HK1.out; have := HK2.out; omega
          case rel => exact ⟨(wrap64 ((wrap64 (x5_2 + (((rd_T64 (rd_L5 l0 x6_1) x7_2).f2).length : Int))) + (((rd_T64 (rd_L5 l0 x6_1) x7_2).f0).size : Int))), (wrap64 (x7_2 + 1)), (by first | rfl | (simp; done) | (simp [*]; done)), (by first | rfl | (simp; done) | (simp [*]; done)), H', ⟨by have := HK1.out; have := HK2.out; omega⟩, by repeat (first | exact Drawn0.refl _ | apply Drawn0.step)⟩
end Go.Proofs.YtkioddjjfifadaaGreatDoor.P
namespace Go.Proofs.YtkioddjjfifadaaGreatDoor.P
open Go.RowKit Go.Proofs.YtkioddjjfifadaaGreatDoorW.PrintWords Go.Proofs.YtkioddjjfifadaaGreatDoorW.PrintLast Go.Proofs.YtkioddjjfifadaaGreatDoorW.PrintMore
theorem strOfNums_size (l : List Int) : (strOfNums l).size = l.length := by
  unfold strOfNums
  simp [ByteArray.size]
theorem wrap_up' {n : Nat} {i : Int} (hn : n ≤ 4611686018427387904) (h0 : 0 ≤ i) (h1 : i < n) : wrap64 (i + 1) = i + 1 := by unfold wrap64; omega
theorem fits_total (a b : Int) : ∃ r, text_fits.f a b = some r := by
  unfold text_fits.f strings_IndexByte.f
  simp only [Option.bind_some]
  repeat' split
  all_goals exact ⟨_, rfl⟩
theorem wideL_len : ∀ (l r : List Int), wideL l = some r → r.length ≤ 2 * l.length
  | [], r, h => by
    obtain rfl := Option.some.inj h
    simp
  | [_], r, h => by
    obtain rfl := Option.some.inj h
    simp
  | a :: b :: l, r, h => by
    rw [wideL] at h
    split at h
    · cases h
    · obtain ⟨t, ht, rfl⟩ := Option.map_eq_some_iff.1 h
      have := wideL_len l t ht
      have := encodeRuneZ_len (a * 256 + b)
      simp only [List.length_append, List.length_cons]
      omega
theorem text_loop (a : Int) (l : List Int) (hl : l.length ≤ 1000000) : ∀ (k : Nat) (i : Int), 0 ≤ i → (l.length : Int) - i < k → 0 < k → ∃ r, text_Text.l0 k a l l (l.length : Int) i = some r ∧ r.1.size ≤ l.length
  | 0, i, _, _, h3 => by omega
  | k + 1, i, h0, h2, _ => by
    rw [text_Text.l0]
    by_cases hi : i < (l.length : Int)
    · rw [if_pos hi, if_pos h0, if_pos hi]
      obtain ⟨r, hr⟩ := fits_total a (rd l i)
      rw [hr, Option.bind_some]
      split
      · rw [wrap_up' (n := l.length) (by omega) h0 hi]
        exact text_loop a l hl k (i + 1) (by omega) (by omega) (by omega)
      · exact ⟨_, rfl, Nat.zero_le _⟩
    · rw [if_neg hi]
      exact ⟨_, rfl, by rw [strOfNums_size]; exact Nat.le_refl _⟩
theorem text_total (k : Nat) (a : Int) (l : List Int) (hb : l.all isByte = true) (hl : l.length ≤ 1000000) (hk : l.length + 1 < k) : ∃ r, text_Text.f k a l = some r ∧ r.1.size ≤ 2 * l.length := by
  unfold text_Text.f
  split
  · unfold text_wide.f
    rw [if_pos ⟨hb, by omega⟩]
    split
    · exact ⟨_, rfl, Nat.zero_le _⟩
    cases hw : wideL l with
    | none => exact ⟨_, rfl, Nat.zero_le _⟩
    | some x => exact ⟨_, rfl, by show (strOfNums x).size ≤ _; rw [strOfNums_size]; exact wideL_len l x hw⟩
  split
  · unfold utf8_Valid.f
    rw [if_pos ⟨hb, by omega⟩, Option.bind_some]
    split
    rotate_left
    · exact ⟨_, rfl, Nat.zero_le _⟩
    exact ⟨_, rfl, by show (strOfNums l).size ≤ _; rw [strOfNums_size]; omega⟩
  obtain ⟨k1, rfl⟩ : ∃ k1, k = k1 + 1 := ⟨k - 1, by omega⟩
  have hj : ∀ b, ∃ r, text_Text.j0 (k1 + 1) a l b = some r ∧ r.1.size ≤ 2 * l.length := fun b => by
    rw [text_Text.j0]
    split
    · obtain ⟨r, h1, h2⟩ := text_loop a l hl k1 0 (by omega) (by omega) (by omega)
      exact ⟨r, h1, by omega⟩
    · exact ⟨_, rfl, Nat.zero_le _⟩
  repeat' split
  all_goals exact hj _
end Go.Proofs.YtkioddjjfifadaaGreatDoor.P
namespace Go.Proofs.YtkioddjjfifadaaGreatDoor.P
open Go.RowKit Go.Proofs.YtkioddjjfifadaaGreatDoorW.PrintWords
theorem sn_append (a b : List Int) : strOfNums (a ++ b) = strOfNums a ++ strOfNums b := by
  unfold strOfNums
  rw [ba_mk_append, List.map_append]
theorem sn_size (a : List Int) : (strOfNums a).size = a.length := strOfNums_size a
theorem and15 (c : Int) (h0 : 0 ≤ c) (h1 : c ≤ 255) : Go.bits .and .u8 c 15 = c % 16 := by
  obtain ⟨n, rfl⟩ : ∃ n : Nat, c = (n : Int) := ⟨c.toNat, by omega⟩
  have hn : n < 256 := by omega
  have key : ∀ m : Fin 256, Go.bits .and .u8 (m.val : Int) 15 = (m.val : Int) % 16 := by decide +kernel
  exact key ⟨n, hn⟩
abbrev hexS : ByteArray := ⟨#[48, 49, 50, 51, 52, 53, 54, 55, 56, 57, 97, 98, 99, 100, 101, 102]⟩
/-- The digits of a byte. -/
def twoB (c : Int) : List Int := [bt hexS (c / 16), bt hexS (c % 16)]
theorem two_eq (c : Int) (h0 : 0 ≤ c) (h1 : c ≤ 255) : chirographref07_two.f c = some (strOfNums (twoB c)) := by
  have e1 : Int.tdiv c 16 % 256 = c / 16 := by rw [Int.tdiv_eq_ediv_of_nonneg h0]; omega
  have e2 : Int.tmod c 16 = c % 16 := Int.tmod_eq_emod_of_nonneg h0
  unfold chirographref07_two.f
  rw [e1, e2, if_pos (by omega), if_pos (by omega), if_pos (by omega), if_pos (by omega)]
  rfl
def special (c : Int) : Bool := c == 34 || c == 43 || c == 44 || c == 59 || c == 60 || c == 62 || c == 61 || c == 92
theorem special_idx (c : Int) (h0 : 0 ≤ c) (h1 : c ≤ 255) : decide (Lib.indexByte (⟨#[34, 43, 44, 59, 60, 62, 61, 92]⟩ : ByteArray).data.toList c.toNat.toUInt8 ≥ 0) = special c := by
  obtain ⟨n, rfl⟩ : ∃ n : Nat, c = (n : Int) := ⟨c.toNat, by omega⟩
  have hn : n < 256 := by omega
  have key : ∀ m : Fin 256, decide (Lib.indexByte (⟨#[34, 43, 44, 59, 60, 62, 61, 92]⟩ : ByteArray).data.toList (m.val : Int).toNat.toUInt8 ≥ 0) = special (m.val : Int) := by decide +kernel
  exact key ⟨n, hn⟩
/-- What a character is shown as. -/
def esc (s : ByteArray) (i : Int) : List Int :=
  if bt s i < 32 ∨ bt s i = 127 then 92 :: twoB (bt s i)
  else if special (bt s i) = true ∨ (bt s i = 35 ∧ i = 0) ∨ (bt s i = 32 ∧ (i = 0 ∨ i = (s.size : Int) - 1)) then [92, bt s i] else [bt s i]
theorem esc_len (s : ByteArray) (i : Int) : (esc s i).length ≤ 3 := by
  unfold esc twoB
  repeat' split
  all_goals simp
/-- From i on, so many. -/
def escs (s : ByteArray) (i : Int) : Nat → List Int
  | 0 => []
  | n + 1 => esc s i ++ escs s (i + 1) n
theorem escs_len (s : ByteArray) : ∀ (n : Nat) (i : Int), (escs s i n).length ≤ 3 * n
  | 0, _ => by simp [escs]
  | n + 1, i => by
    have := escs_len s n (i + 1)
    have := esc_len s i
    rw [escs, List.length_append]
    omega
theorem nv_l1 (s : ByteArray) (hs : s.size ≤ 1099511627776) : ∀ (n k : Nat) (i : Int) (acc : List Int), 0 ≤ i → (s.size : Int) - i = n → 3 * n < k → acc.length + 3 * n < 140737488355328 →
    name_value.l1 k s acc (s.size : Int) i = some (strOfNums (acc ++ escs s i n))
  | 0, k, i, acc, h0, hn, hk, ha => by
    obtain ⟨k1, rfl⟩ : ∃ k1, k = k1 + 1 := ⟨k - 1, by omega⟩
    rw [name_value.l1, if_neg (by omega), escs, List.append_nil]
  | n + 1, k, i, acc, h0, hn, hk, ha => by
    obtain ⟨k1, rfl⟩ : ∃ k1, k = k1 + 3 := ⟨k - 3, by omega⟩
    have ih := fun (k : Nat) (e : List Int) (hk : 3 * n < k) (he : e = esc s i) => nv_l1 s hs n k (i + 1) (acc ++ e) (by omega) (by omega) hk (by rw [List.length_append, he]; have := esc_len s i; omega)
    have hw : wrap64 (i + 1) = i + 1 := w64'' (by omega) (by omega)
    have hw1 : wrap64 ((s.size : Int) - 1) = (s.size : Int) - 1 := w64'' (by omega) (by omega)
    obtain ⟨b0, b1⟩ := bt_rng s i
    have h15 := and15 (bt s i) b0 b1
    have hsp := special_idx (bt s i) b0 b1
    rw [name_value.l1, if_pos (by omega), if_pos h0, if_pos (by omega)]
    have hj2 : ∀ b : Bool, b = decide (bt s i < 32 ∨ bt s i = 127) → name_value.j2 (k1 + 2) s acc i (bt s i) (s.size : Int) i b = some (strOfNums (acc ++ escs s i (n + 1))) := by
      intro b hb
      rw [name_value.j2]
      by_cases hc : bt s i < 32 ∨ bt s i = 127
      · have hb' : b = true := by rw [hb]; exact decide_eq_true hc
        have he : esc s i = 92 :: twoB (bt s i) := by unfold esc; rw [if_pos hc]
        subst hb'
        rw [if_pos rfl, h15, if_pos (by omega), if_pos (by omega), if_pos (by omega), if_pos (by omega), Option.bind_some]
        have hl := esc_len s i
        rw [if_pos (by simp only [List.length_cons, List.length_nil]; omega), hw]
        have := ih (k1 + 1) (92 :: twoB (bt s i)) (by omega) he.symm
        rw [escs, he, ← List.append_assoc]
        exact this
      · have hb' : b = false := by rw [hb]; exact decide_eq_false hc
        subst hb'
        rw [if_neg (show ¬ (false = true) by decide)]
        unfold strings_IndexByte.f
        rw [Option.bind_some]
        by_cases h1 : special (bt s i) = true
        · have hg : Lib.indexByte (⟨#[34, 43, 44, 59, 60, 62, 61, 92]⟩ : ByteArray).data.toList (bt s i).toNat.toUInt8 ≥ 0 := of_decide_eq_true (hsp.trans h1)
          have he : esc s i = [92, bt s i] := by unfold esc; rw [if_neg hc, if_pos (Or.inl h1)]
          rw [if_pos hg, Option.bind_some, if_pos (by simp only [List.length_cons, List.length_nil]; omega), hw]
          have := ih (k1 + 1) [92, bt s i] (by omega) he.symm
          rw [escs, he, ← List.append_assoc]
          exact this
        · have hg : ¬ Lib.indexByte (⟨#[34, 43, 44, 59, 60, 62, 61, 92]⟩ : ByteArray).data.toList (bt s i).toNat.toUInt8 ≥ 0 := of_decide_eq_false (hsp.trans (by simpa using h1))
          rw [if_neg hg]
          have hj3 : ∀ d : Bool, d = decide (bt s i = 35 ∧ i = 0) → name_value.j3 (k1 + 1) s acc i (bt s i) (s.size : Int) i d = some (strOfNums (acc ++ escs s i (n + 1))) := by
            intro d hd
            rw [name_value.j3]
            by_cases h2 : bt s i = 35 ∧ i = 0
            · have hd' : d = true := by rw [hd]; exact decide_eq_true h2
              subst hd'
              have he : esc s i = [92, bt s i] := by unfold esc; rw [if_neg hc, if_pos (Or.inr (Or.inl h2))]
              rw [if_pos rfl, Option.bind_some, if_pos (by simp only [List.length_cons, List.length_nil]; omega), hw]
              have := ih k1 [92, bt s i] (by omega) he.symm
              rw [escs, he, ← List.append_assoc]
              exact this
            · have hd' : d = false := by rw [hd]; exact decide_eq_false h2
              subst hd'
              rw [if_neg (show ¬ (false = true) by decide)]
              by_cases h3 : bt s i = 32
              · rw [if_pos h3]
                by_cases h4 : i = 0
                · have he : esc s i = [92, bt s i] := by unfold esc; rw [if_neg hc, if_pos (Or.inr (Or.inr ⟨h3, Or.inl h4⟩))]
                  rw [if_pos h4, Option.bind_some, if_pos (by simp only [List.length_cons, List.length_nil]; omega), hw]
                  have := ih k1 [92, bt s i] (by omega) he.symm
                  rw [escs, he, ← List.append_assoc]
                  exact this
                · rw [if_neg h4, hw1]
                  by_cases h5 : i = (s.size : Int) - 1
                  · have he : esc s i = [92, bt s i] := by unfold esc; rw [if_neg hc, if_pos (Or.inr (Or.inr ⟨h3, Or.inr h5⟩))]
                    rw [if_pos h5, Option.bind_some, if_pos (by simp only [List.length_cons, List.length_nil]; omega), hw]
                    have := ih k1 [92, bt s i] (by omega) he.symm
                    rw [escs, he, ← List.append_assoc]
                    exact this
                  · have he : esc s i = [bt s i] := by
                      unfold esc
                      rw [if_neg hc, if_neg]
                      rintro (h | h | h)
                      · exact h1 h
                      · exact h2 h
                      · rcases h.2 with h | h
                        · exact h4 h
                        · exact h5 h
                    rw [if_neg h5, if_pos (by omega), hw]
                    have := ih k1 [bt s i] (by omega) he.symm
                    rw [escs, he, ← List.append_assoc]
                    exact this
              · have he : esc s i = [bt s i] := by
                  unfold esc
                  rw [if_neg hc, if_neg]
                  rintro (h | h | h)
                  · exact h1 h
                  · exact h2 h
                  · exact h3 h.1
                rw [if_neg h3, if_pos (by omega), hw]
                have := ih k1 [bt s i] (by omega) he.symm
                rw [escs, he, ← List.append_assoc]
                exact this
          split
          · rename_i h35
            exact hj3 _ (by rw [Bool.eq_iff_iff]; simp [h35])
          · rename_i h35
            exact hj3 _ (by symm; exact decide_eq_false (fun h => h35 h.1))
    split
    · rename_i h32
      exact hj2 _ (by symm; exact decide_eq_true (Or.inl h32))
    · rename_i h32
      exact hj2 _ (by rw [Bool.eq_iff_iff]; simp [h32])
end Go.Proofs.YtkioddjjfifadaaGreatDoor.P
namespace Go.Proofs.YtkioddjjfifadaaGreatDoor.P
open Go.RowKit Go.Proofs.YtkioddjjfifadaaGreatDoorW.PrintWords Go.Proofs.YtkioddjjfifadaaGreatDoorW.PrintLast Go.Proofs.YtkioddjjfifadaaGreatDoorW.PrintMore
theorem getD_mem {α : Type} (l : List α) (d : α) (i : Int) (h0 : 0 ≤ i) (h1 : i < (l.length : Int)) : l.getD i.toNat d ∈ l := by
  rw [List.getD_eq_getElem?_getD, List.getElem?_eq_getElem (by omega)]
  exact List.getElem_mem _
end Go.Proofs.YtkioddjjfifadaaGreatDoor.P
namespace Go.Proofs.YtkioddjjfifadaaGreatDoor.P
open Go.RowKit Go.Proofs.YtkioddjjfifadaaGreatDoorW.PrintWords
theorem sn_cons (c : Int) (l : List Int) : strOfNums (c :: l) = strOfNums [c] ++ strOfNums l := by rw [← sn_append]; rfl
theorem sn92 (l : List Int) : (⟨#[92]⟩ : ByteArray) ++ strOfNums l = strOfNums (92 :: l) := (sn_cons 92 l).symm
theorem rv_l1 (s : ByteArray) (hs : s.size ≤ 1099511627776) : ∀ (n k : Nat) (i : Int) (acc : ByteArray), 0 ≤ i → (s.size : Int) - i = n → 3 * n < k → acc.size + 3 * n < 140737488355328 →
    chirographref07_value.l1 k s acc i = some (acc ++ strOfNums (escs s i n))
  | 0, k, i, acc, h0, hn, hk, ha => by
    obtain ⟨k1, rfl⟩ : ∃ k1, k = k1 + 1 := ⟨k - 1, by omega⟩
    rw [chirographref07_value.l1, if_neg (by omega), escs]
    exact congrArg some ByteArray.append_empty.symm
  | n + 1, k, i, acc, h0, hn, hk, ha => by
    obtain ⟨k1, rfl⟩ : ∃ k1, k = k1 + 3 := ⟨k - 3, by omega⟩
    have ih := fun (k : Nat) (e : List Int) (hk : 3 * n < k) (he : e = esc s i) => (rv_l1 s hs n k (i + 1) (acc ++ strOfNums e) (by omega) (by omega) hk (by rw [ByteArray.size_append, sn_size, he]; have := esc_len s i; omega)).trans (congrArg some (show _ = acc ++ strOfNums (escs s i (n + 1)) by rw [escs, sn_append, he, ByteArray.append_assoc]))
    have hw : wrap64 (i + 1) = i + 1 := w64'' (by omega) (by omega)
    have hw1 : wrap64 ((s.size : Int) - 1) = (s.size : Int) - 1 := w64'' (by omega) (by omega)
    obtain ⟨b0, b1⟩ := bt_rng s i
    rw [chirographref07_value.l1, if_pos (by omega), if_pos h0, Option.bind_some]
    have one : (strOfNums [bt s i]).size = 1 := sn_size _
    have plain : ∀ k, 3 * n < k → esc s i = [bt s i] → (if acc.size + (strOfNums [bt s i]).size ≤ 9223372036854775807 then (chirographref07_value.l1 k s (acc ++ strOfNums [bt s i]) (wrap64 (i + 1))) else none) = some (acc ++ strOfNums (escs s i (n + 1))) := fun k hk he => by
      rw [if_pos (by omega), hw]
      exact ih k _ hk he.symm
    have back : ∀ k, 3 * n < k → esc s i = [92, bt s i] → (if 1 + (strOfNums [bt s i]).size ≤ 9223372036854775807 then (if acc.size + ((⟨#[92]⟩ : ByteArray) ++ strOfNums [bt s i]).size ≤ 9223372036854775807 then (chirographref07_value.l1 k s (acc ++ ((⟨#[92]⟩ : ByteArray) ++ strOfNums [bt s i])) (wrap64 (i + 1))) else none) else none) = some (acc ++ strOfNums (escs s i (n + 1))) := fun k hk he => by
      rw [sn92, if_pos (by omega), if_pos (by rw [sn_size]; simp only [List.length_cons, List.length_nil]; omega), hw]
      exact ih k _ hk he.symm
    have hj2 : ∀ b : Bool, b = decide (bt s i < 32 ∨ bt s i = 127) → chirographref07_value.j2 (k1 + 2) s acc i (bt s i) (strOfNums [bt s i]) b = some (acc ++ strOfNums (escs s i (n + 1))) := by
      intro b hb
      rw [chirographref07_value.j2]
      by_cases hc : bt s i < 32 ∨ bt s i = 127
      · have hb' : b = true := by rw [hb]; exact decide_eq_true hc
        have he : esc s i = 92 :: twoB (bt s i) := by unfold esc; rw [if_pos hc]
        subst hb'
        rw [if_pos rfl, two_eq _ b0 b1, Option.bind_some, sn92, if_pos (by rw [sn_size]; simp [twoB]), if_pos (by rw [sn_size]; simp only [twoB, List.length_cons, List.length_nil]; omega), hw]
        exact ih (k1 + 1) _ (by omega) he.symm
      · have hb' : b = false := by rw [hb]; exact decide_eq_false hc
        subst hb'
        rw [if_neg (show ¬ (false = true) by decide)]
        have hj3 : ∀ d : Bool, d = special (bt s i) → chirographref07_value.j3 (k1 + 1) s acc i (bt s i) (strOfNums [bt s i]) d = some (acc ++ strOfNums (escs s i (n + 1))) := by
          intro d hd
          rw [chirographref07_value.j3]
          cases d with
          | true =>
            rw [if_pos rfl]
            exact back k1 (by omega) (by unfold esc; rw [if_neg hc, if_pos (Or.inl hd.symm)])
          | false =>
            rw [if_neg (show ¬ (false = true) by decide)]
            have h1 : ¬ special (bt s i) = true := by rw [← hd]; decide
            by_cases h4 : i = 0
            · rw [if_pos h4]
              by_cases h2 : bt s i = 35
              · rw [if_pos h2]
                exact back k1 (by omega) (by unfold esc; rw [if_neg hc, if_pos (Or.inr (Or.inl ⟨h2, h4⟩))])
              · rw [if_neg h2]
                by_cases h3 : bt s i = 32
                · rw [if_pos h3]
                  exact back k1 (by omega) (by unfold esc; rw [if_neg hc, if_pos (Or.inr (Or.inr ⟨h3, Or.inl h4⟩))])
                · rw [if_neg h3]
                  exact plain k1 (by omega) (by
                    unfold esc
                    rw [if_neg hc, if_neg]
                    rintro (h | h | h)
                    · exact h1 h
                    · exact h2 h.1
                    · exact h3 h.1)
            · rw [if_neg h4]
              by_cases h3 : bt s i = 32
              · rw [if_pos h3, hw1]
                by_cases h5 : i = (s.size : Int) - 1
                · rw [if_pos h5]
                  exact back k1 (by omega) (by unfold esc; rw [if_neg hc, if_pos (Or.inr (Or.inr ⟨h3, Or.inr h5⟩))])
                · rw [if_neg h5]
                  exact plain k1 (by omega) (by
                    unfold esc
                    rw [if_neg hc, if_neg]
                    rintro (h | h | h)
                    · exact h1 h
                    · exact h4 h.2
                    · rcases h.2 with h | h
                      · exact h4 h
                      · exact h5 h)
              · rw [if_neg h3]
                exact plain k1 (by omega) (by
                  unfold esc
                  rw [if_neg hc, if_neg]
                  rintro (h | h | h)
                  · exact h1 h
                  · exact h4 h.2
                  · exact h3 h.1)
        by_cases c1 : bt s i = 34
        · rw [if_pos c1]; exact hj3 _ (by rw [c1]; rfl)
        rw [if_neg c1]
        by_cases c2 : bt s i = 43
        · rw [if_pos c2]; exact hj3 _ (by rw [c2]; rfl)
        rw [if_neg c2]
        by_cases c3 : bt s i = 44
        · rw [if_pos c3]; exact hj3 _ (by rw [c3]; rfl)
        rw [if_neg c3]
        by_cases c4 : bt s i = 59
        · rw [if_pos c4]; exact hj3 _ (by rw [c4]; rfl)
        rw [if_neg c4]
        by_cases c5 : bt s i = 60
        · rw [if_pos c5]; exact hj3 _ (by rw [c5]; rfl)
        rw [if_neg c5]
        by_cases c6 : bt s i = 62
        · rw [if_pos c6]; exact hj3 _ (by rw [c6]; rfl)
        rw [if_neg c6]
        by_cases c7 : bt s i = 61
        · rw [if_pos c7]; exact hj3 _ (by rw [c7]; rfl)
        rw [if_neg c7]
        exact hj3 _ (by unfold special; simp [c1, c2, c3, c4, c5, c6, c7])
    split
    · rename_i h32
      exact hj2 _ (by symm; exact decide_eq_true (Or.inl h32))
    · rename_i h32
      exact hj2 _ (by rw [Bool.eq_iff_iff]; simp [h32])
/-- The digits of bytes. -/
def hexB : List Int → List Int
  | [] => []
  | c :: l => twoB c ++ hexB l
theorem hexB_len : ∀ l, (hexB l).length = 2 * l.length
  | [] => rfl
  | c :: l => by rw [hexB, List.length_append, hexB_len l, List.length_cons]; simp [twoB]; omega
theorem rd_rng (l : List Int) (hb : l.all isByte = true) (i : Int) (h0 : 0 ≤ i) (h1 : i < (l.length : Int)) : 0 ≤ rd l i ∧ rd l i ≤ 255 := by
  have hm : rd l i ∈ l := getD_mem l 0 i h0 h1
  have := List.all_eq_true.1 hb _ hm
  simp only [isByte, Bool.and_eq_true, decide_eq_true_eq] at this
  omega
theorem drop_rd (l : List Int) (i : Int) (h0 : 0 ≤ i) (h1 : i < (l.length : Int)) : l.drop i.toNat = rd l i :: l.drop (i + 1).toNat := by
  have hi : i.toNat < l.length := by omega
  rw [show (i + 1).toNat = i.toNat + 1 by omega, List.drop_eq_getElem_cons hi]
  congr 1
  show _ = l.getD i.toNat 0
  rw [List.getD_eq_getElem?_getD, List.getElem?_eq_getElem hi]
  rfl
theorem nv_l0 (l : List Int) (hb : l.all isByte = true) (hl : l.length ≤ 1000000) : ∀ (n k : Nat) (i : Int) (acc : List Int), 0 ≤ i → (l.length : Int) - i = n → n < k → acc.length + 2 * n < 140737488355328 →
    name_value.l0 k acc l (l.length : Int) i = some (strOfNums (acc ++ hexB (l.drop i.toNat)))
  | 0, k, i, acc, h0, hn, hk, ha => by
    obtain ⟨k1, rfl⟩ : ∃ k1, k = k1 + 1 := ⟨k - 1, by omega⟩
    rw [name_value.l0, if_neg (by omega), List.drop_eq_nil_of_le (by omega), hexB, List.append_nil]
  | n + 1, k, i, acc, h0, hn, hk, ha => by
    obtain ⟨k1, rfl⟩ : ∃ k1, k = k1 + 1 := ⟨k - 1, by omega⟩
    have hw : wrap64 (i + 1) = i + 1 := w64'' (by omega) (by omega)
    obtain ⟨b0, b1⟩ := rd_rng l hb i h0 (by omega)
    have h15 := and15 (rd l i) b0 b1
    rw [name_value.l0, if_pos (by omega), if_pos h0, if_pos (by omega), h15, if_pos (by omega), if_pos (by omega), if_pos (by omega), if_pos (by omega), Option.bind_some, if_pos (by simp only [List.length_cons, List.length_nil]; omega), hw,
      nv_l0 l hb hl n k1 (i + 1) _ (by omega) (by omega) (by omega) (by simp only [List.length_append, List.length_cons, List.length_nil]; omega), drop_rd l i h0 (by omega), hexB, ← List.append_assoc]
    rfl
theorem rv_l0 (y0 : ByteArray) (y1 : Int) (l : List Int) (hb : l.all isByte = true) (hl : l.length ≤ 1000000) : ∀ (n k : Nat) (i : Int) (acc : ByteArray), 0 ≤ i → (l.length : Int) - i = n → n < k → acc.size + 2 * n < 140737488355328 →
    chirographref07_value.l0 k acc i y0 y1 l = some (acc ++ strOfNums (hexB (l.drop i.toNat)))
  | 0, k, i, acc, h0, hn, hk, ha => by
    obtain ⟨k1, rfl⟩ : ∃ k1, k = k1 + 1 := ⟨k - 1, by omega⟩
    rw [chirographref07_value.l0, if_neg (by omega), List.drop_eq_nil_of_le (by omega), hexB]
    exact congrArg some ByteArray.append_empty.symm
  | n + 1, k, i, acc, h0, hn, hk, ha => by
    obtain ⟨k1, rfl⟩ : ∃ k1, k = k1 + 1 := ⟨k - 1, by omega⟩
    have hw : wrap64 (i + 1) = i + 1 := w64'' (by omega) (by omega)
    obtain ⟨b0, b1⟩ := rd_rng l hb i h0 (by omega)
    have h2 : (strOfNums (twoB (rd l i))).size = 2 := sn_size _
    rw [chirographref07_value.l0, if_pos (by omega), if_pos h0, two_eq _ b0 b1, Option.bind_some, if_pos (by omega), hw,
      rv_l0 y0 y1 l hb hl n k1 (i + 1) _ (by omega) (by omega) (by omega) (by rw [ByteArray.size_append]; omega), drop_rd l i h0 (by omega), hexB, sn_append, ByteArray.append_assoc]
theorem value_eq (s0 : ByteArray) (a : Int) (l : List Int) (hb : l.all isByte = true) (hl : l.length ≤ 8192) (k K : Nat) (hk : 60000 ≤ k) (hK : 60000 ≤ K) : ∃ v, name_value.f k s0 a l = some v ∧ chirographref07_value.f K s0 a l = some v ∧ v.size ≤ 60000 := by
  obtain ⟨r, hr, hs⟩ := text_total k a l hb (by omega) (by omega)
  have hr2 := text_eq a l hb (by omega) k K (by omega) (by omega) r hr
  unfold name_value.f chirographref07_value.f
  rw [hr, hr2, Option.bind_some, Option.bind_some]
  by_cases h0 : r.2 = 0
  rotate_left
  · rw [if_neg h0, if_neg h0, if_pos (by decide), nv_l0 l hb (by omega) l.length k 0 _ (by omega) (by omega) (by omega) (by simp only [List.nil_append, List.length_cons, List.length_nil]; omega), rv_l0 s0 a l hb (by omega) l.length K 0 ⟨#[35]⟩ (by omega) (by omega) (by omega) (by have : (⟨#[35]⟩ : ByteArray).size = 1 := rfl; omega)]
    refine ⟨_, rfl, ?_, ?_⟩
    · rw [sn_append]; rfl
    rw [sn_size, List.length_append, hexB_len]
    simp only [List.nil_append, List.length_cons, List.length_nil, List.length_drop]
    omega
  rw [if_pos h0, if_pos h0, nv_l1 r.1 (by omega) r.1.size k 0 [] (by omega) (by omega) (by omega) (by simp only [List.length_nil]; omega), rv_l1 r.1 (by omega) r.1.size K 0 ⟨#[]⟩ (by omega) (by omega) (by omega) (by have : (⟨#[]⟩ : ByteArray).size = 0 := rfl; omega)]
  refine ⟨_, rfl, ?_, ?_⟩
  · rw [List.nil_append]
    exact congrArg some ByteArray.empty_append
  rw [sn_size, List.nil_append]
  have := escs_len r.1 r.1.size 0
  omega
end Go.Proofs.YtkioddjjfifadaaGreatDoor.P
namespace Go.Proofs.YtkioddjjfifadaaGreatDoor.P
open Go.RowKit Go.Proofs.YtkioddjjfifadaaGreatDoorW.PrintWords Go.Proofs.YtkioddjjfifadaaGreatDoorW.PrintLast Go.Proofs.YtkioddjjfifadaaGreatDoorW.PrintMore
attribute [local go_sem] max2_int min2_int max_two min_two max_three min_three max_four min_four   -- for this text's walks alone
set_option linter.unusedVariables false
set_option linter.unusedSimpArgs false
mutual
def der_tag.l0 : Nat → List Int → Int → Int → Int → Option (Int × Int × Int × Int)
  | 0, _, _, _, _ => none
  | k + 1, x0, x1, x4, x5 => if x5 < (x0.length : Int) then (if 0 ≤ x5 then (if x5 = (wrap64 (x1 + 1)) then (if (rd x0 x5) = 128 then (der_tag.j1 k x0 x1 (Go.bits .or .i64 (wrap64 (x4 * 128)) (wrap64 (Go.bits .and .u8 (rd x0 x5) 127))) x5 true) else (if (Go.bits .or .i64 (wrap64 (x4 * 128)) (wrap64 (Go.bits .and .u8 (rd x0 x5) 127))) > 268435455 then (der_tag.j1 k x0 x1 (Go.bits .or .i64 (wrap64 (x4 * 128)) (wrap64 (Go.bits .and .u8 (rd x0 x5) 127))) x5 true) else (if (rd x0 x5) < 128 then (der_tag.j1 k x0 x1 (Go.bits .or .i64 (wrap64 (x4 * 128)) (wrap64 (Go.bits .and .u8 (rd x0 x5) 127))) x5 (decide ((Go.bits .or .i64 (wrap64 (x4 * 128)) (wrap64 (Go.bits .and .u8 (rd x0 x5) 127))) < 31))) else (der_tag.j1 k x0 x1 (Go.bits .or .i64 (wrap64 (x4 * 128)) (wrap64 (Go.bits .and .u8 (rd x0 x5) 127))) x5 false)))) else (if (Go.bits .or .i64 (wrap64 (x4 * 128)) (wrap64 (Go.bits .and .u8 (rd x0 x5) 127))) > 268435455 then (der_tag.j1 k x0 x1 (Go.bits .or .i64 (wrap64 (x4 * 128)) (wrap64 (Go.bits .and .u8 (rd x0 x5) 127))) x5 true) else (if (rd x0 x5) < 128 then (der_tag.j1 k x0 x1 (Go.bits .or .i64 (wrap64 (x4 * 128)) (wrap64 (Go.bits .and .u8 (rd x0 x5) 127))) x5 (decide ((Go.bits .or .i64 (wrap64 (x4 * 128)) (wrap64 (Go.bits .and .u8 (rd x0 x5) 127))) < 31))) else (der_tag.j1 k x0 x1 (Go.bits .or .i64 (wrap64 (x4 * 128)) (wrap64 (Go.bits .and .u8 (rd x0 x5) 127))) x5 false)))) else (none)) else (some (0, 0, 2, (x0.length : Int)))
def der_tag.j1 : Nat → List Int → Int → Int → Int → Bool → Option (Int × Int × Int × Int)
  | 0, _, _, _, _, _ => none
  | k + 1, x0, x1, x4, x5, x71 => if x71 = true then (some (0, 0, 30, x5)) else (if 0 ≤ x5 then (if x5 < (x0.length : Int) then (if (rd x0 x5) < 128 then (some (x4, wrap64 (x5 + 1), 0, 0)) else (der_tag.l0 k x0 x1 x4 (wrap64 (x5 + 1)))) else (none)) else (none))
end
def der_tag.f (k : Nat) (l0 : List Int) (a1 : Int) : Option (Int × Int × Int × Int) := if 0 ≤ a1 then (if a1 < (l0.length : Int) then (if (wrap64 (Go.bits .and .u8 (rd l0 a1) 31)) < 31 then (if (wrap64 (Go.bits .and .u8 (rd l0 a1) 31)) = 0 then (if ((rd l0 a1) / 64) = 0 then (some (0, 0, 30, a1)) else (some (wrap64 (Go.bits .and .u8 (rd l0 a1) 31), wrap64 (a1 + 1), 0, 0))) else (some (wrap64 (Go.bits .and .u8 (rd l0 a1) 31), wrap64 (a1 + 1), 0, 0))) else (der_tag.l0 k l0 a1 0 (wrap64 (a1 + 1)))) else (none)) else (none)
set_option maxHeartbeats 8000000 in
set_option maxRecDepth 100000 in
theorem der_tag.calls (k : Nat) (A0 : Option Addr) (c0 : Nat) (l0 : List Int) (a1 : Int) (r1 : Int) (r2 : Int) (r3 : Int) (r4 : Int) (w : World) (hr0 : Kd.C (Kd.int .u8) w A0 l0.length l0) (hc0 : l0.length ≤ c0) (h : der_tag.f k l0 a1 = some (r1, r2, r3, r4)) :
    Calls Tryz.prog 214 #[.slice A0 l0.length c0, .int .i64 a1] w fun e w' => e = .returned (.tuple #[.int .i64 r1, .int .i64 r2, .int .i64 r3, .int .i64 r4]) ∧ Drawn0 w w' := by
  have HR0 := Aside0.mk hr0
  have HC0 := Aside0.mk hc0
  clear hr0 hc0
  have H : (if 0 ≤ a1 then (if a1 < (l0.length : Int) then (if (wrap64 (Go.bits .and .u8 (rd l0 a1) 31)) < 31 then (if (wrap64 (Go.bits .and .u8 (rd l0 a1) 31)) = 0 then (if ((rd l0 a1) / 64) = 0 then (some (0, 0, 30, a1)) else (some (wrap64 (Go.bits .and .u8 (rd l0 a1) 31), wrap64 (a1 + 1), 0, 0))) else (some (wrap64 (Go.bits .and .u8 (rd l0 a1) 31), wrap64 (a1 + 1), 0, 0))) else (der_tag.l0 k l0 a1 0 (wrap64 (a1 + 1)))) else (none)) else (none)) = some (r1, r2, r3, r4) := h
  clear h
  by_cases c3 : 0 ≤ a1
  rotate_left
  · rw [if_neg c3] at H
    exact absurd H (by simp)
  rw [if_pos c3] at H
  have c3b0 : decide (0 ≤ a1) = true := decide_eq_true c3
  clear c3
  by_cases c4 : a1 < (l0.length : Int)
  rotate_left
  · rw [if_neg c4] at H
    exact absurd H (by simp)
  rw [if_pos c4] at H
  have c4b0 : decide (a1 < (l0.length : Int)) = true := decide_eq_true c4
  clear c4
  by_cases c5 : (wrap64 (Go.bits .and .u8 (rd l0 a1) 31)) < 31
  · rw [if_pos c5] at H
    have c5b0 : decide ((wrap64 (Go.bits .and .u8 (rd l0 a1) 31)) < 31) = true := decide_eq_true c5
    clear c5
    by_cases c6 : (wrap64 (Go.bits .and .u8 (rd l0 a1) 31)) = 0
    rotate_left
    · rw [if_neg c6] at H
      have c6b0 : ((wrap64 (Go.bits .and .u8 (rd l0 a1) 31)) == 0) = false := beq_eq_false_iff_ne.mpr c6
      have c6b1 : ((wrap64 (Go.bits .and .u8 (rd l0 a1) 31)) != 0) = true := bne_iff_ne.mpr c6
      simp only [Option.some.injEq, Prod.mk.injEq] at H
      obtain ⟨rfl, rfl, rfl, rfl⟩ := H
      have p109 : 0 ≤ (a1 : Int) := of_decide_eq_true (by first | (with_reducible assumption) | assumption)
      have q109 : a1 < (l0.length : Int) := of_decide_eq_true (by first | (with_reducible assumption) | assumption)
      obtain ⟨ad109, e109, hx109_0⟩ := Kd.at_int HR0.out a1 p109 q109
      cases e109
      replace p109 := eq_true p109
      replace q109 := eq_true q109
      go_enter Tryz.func214, Tryz.ntmps214
      go_wp2
      refine bodyPost_ret (results_list (rs := [.tmp 4, .tmp 5, .tmp 6, .tmp 7]) rfl (by simp) (.tmp (.tmp (.tmp (.tmp .nil))))) rfl ?_
      exact ⟨by first | rfl | (simp; done) | (simp [*]; done), by repeat (first | exact Drawn0.refl _ | apply Drawn0.step)⟩
    rw [if_pos c6] at H
    have c6b0 : ((wrap64 (Go.bits .and .u8 (rd l0 a1) 31)) == 0) = true := beq_iff_eq.mpr c6
    have c6b1 : ((wrap64 (Go.bits .and .u8 (rd l0 a1) 31)) != 0) = false := bne_eq_false_iff_eq.mpr c6
    clear c6
    by_cases c7 : ((rd l0 a1) / 64) = 0
    rotate_left
    · rw [if_neg c7] at H
      have c7b0 : (((rd l0 a1) / 64) == 0) = false := beq_eq_false_iff_ne.mpr c7
      have c7b1 : (((rd l0 a1) / 64) != 0) = true := bne_iff_ne.mpr c7
      simp only [Option.some.injEq, Prod.mk.injEq] at H
      obtain ⟨rfl, rfl, rfl, rfl⟩ := H
      have p109 : 0 ≤ (a1 : Int) := of_decide_eq_true (by first | (with_reducible assumption) | assumption)
      have q109 : a1 < (l0.length : Int) := of_decide_eq_true (by first | (with_reducible assumption) | assumption)
      obtain ⟨ad109, e109, hx109_0⟩ := Kd.at_int HR0.out a1 p109 q109
      cases e109
      replace p109 := eq_true p109
      replace q109 := eq_true q109
      have p110 : 0 ≤ (a1 : Int) := of_decide_eq_true (by first | (with_reducible assumption) | assumption)
      have q110 : a1 < (l0.length : Int) := of_decide_eq_true (by first | (with_reducible assumption) | assumption)
      obtain ⟨ad110, e110, hx110_0⟩ := Kd.at_int HR0.out a1 p110 q110
      obtain rfl : ad109 = ad110 := (by injection e110)
      replace p110 := eq_true p110
      replace q110 := eq_true q110
      go_enter Tryz.func214, Tryz.ntmps214
      go_wp2
      refine bodyPost_ret (results_list (rs := [.tmp 4, .tmp 5, .tmp 6, .tmp 7]) rfl (by simp) (.tmp (.tmp (.tmp (.tmp .nil))))) rfl ?_
      exact ⟨by first | rfl | (simp; done) | (simp [*]; done), by repeat (first | exact Drawn0.refl _ | apply Drawn0.step)⟩
    rw [if_pos c7] at H
    have c7b0 : (((rd l0 a1) / 64) == 0) = true := beq_iff_eq.mpr c7
    have c7b1 : (((rd l0 a1) / 64) != 0) = false := bne_eq_false_iff_eq.mpr c7
    clear c7
    simp only [Option.some.injEq, Prod.mk.injEq] at H
    obtain ⟨rfl, rfl, rfl, rfl⟩ := H
    have p109 : 0 ≤ (a1 : Int) := of_decide_eq_true (by first | (with_reducible assumption) | assumption)
    have q109 : a1 < (l0.length : Int) := of_decide_eq_true (by first | (with_reducible assumption) | assumption)
    obtain ⟨ad109, e109, hx109_0⟩ := Kd.at_int HR0.out a1 p109 q109
    cases e109
    replace p109 := eq_true p109
    replace q109 := eq_true q109
    have p110 : 0 ≤ (a1 : Int) := of_decide_eq_true (by first | (with_reducible assumption) | assumption)
    have q110 : a1 < (l0.length : Int) := of_decide_eq_true (by first | (with_reducible assumption) | assumption)
    obtain ⟨ad110, e110, hx110_0⟩ := Kd.at_int HR0.out a1 p110 q110
    obtain rfl : ad109 = ad110 := (by injection e110)
    replace p110 := eq_true p110
    replace q110 := eq_true q110
    go_enter Tryz.func214, Tryz.ntmps214
    go_wp2
    refine bodyPost_ret (results_list (rs := [.tmp 4, .tmp 5, .tmp 6, .tmp 7]) rfl (by simp) (.tmp (.tmp (.tmp (.tmp .nil))))) rfl ?_
    exact ⟨by first | rfl | (simp; done) | (simp [*]; done), by repeat (first | exact Drawn0.refl _ | apply Drawn0.step)⟩
  rw [if_neg c5] at H
  have c5b0 : decide ((wrap64 (Go.bits .and .u8 (rd l0 a1) 31)) < 31) = false := decide_eq_false c5
  clear c5
  have H' := Aside0.mk H
  clear H
  have p109 : 0 ≤ (a1 : Int) := of_decide_eq_true (by first | (with_reducible assumption) | assumption)
  have q109 : a1 < (l0.length : Int) := of_decide_eq_true (by first | (with_reducible assumption) | assumption)
  obtain ⟨ad109, e109, hx109_0⟩ := Kd.at_int HR0.out a1 p109 q109
  cases e109
  replace p109 := eq_true p109
  replace q109 := eq_true q109
  go_enter Tryz.func214, Tryz.ntmps214
  go_wp2
  go_loopg [4, 5] k (fun kq v4 v5 w' => ∃ (x4_1 : Int) (x5_1 : Int), v4 = .int .i64 x4_1 ∧ v5 = .int .i64 x5_1 ∧ Aside0 (der_tag.l0 kq l0 a1 x4_1 x5_1 = some (r1, r2, r3, r4)) ∧ Aside0 (kq ≤ k) ∧ Drawn0 w w')
  case atStart => exact ⟨(0), (wrap64 (a1 + 1)), (by first | rfl | (simp; done) | (simp [*]; done)), (by first | rfl | (simp; done) | (simp [*]; done)), H', ⟨Nat.le_refl _⟩, by repeat (first | exact Drawn0.refl _ | apply Drawn0.step)⟩
  case round =>
    clear H'
    try clear p1
    try clear q1
    try clear hx1
    try clear c2
    try clear p2
    try clear c3
    try clear c3b0
    try clear c4
    try clear c4b0
    try clear c5
    try clear c5b0
    try clear c6
    try clear c6b0
    try clear c6b1
    try clear p6
    try clear c7
    try clear c7b0
    try clear c7b1
    try clear hx109_0
    try clear hx110_0
    try clear p109
    try clear p110
    try clear q109
    try clear q110
    obtain ⟨x4_1, x5_1, rfl, rfl, HA, HK1, ⟨m1, rfl⟩⟩ := hrel
    cases gk with
    | zero => exact absurd HA.out (by simp [der_tag.l0])
    | succ k1 =>
      have H := HA.out
      clear HA
      simp only [der_tag.l0] at H
      by_cases c8 : x5_1 < (l0.length : Int)
      rotate_left
      · rw [if_neg c8] at H
        have c8b0 : decide (x5_1 < (l0.length : Int)) = false := decide_eq_false c8
        clear c8
        simp only [Option.some.injEq, Prod.mk.injEq] at H
        obtain ⟨rfl, rfl, rfl, rfl⟩ := H
        go_wp2
        refine bodyPost_ret (results_list (rs := [.tmp 4, .tmp 5, .tmp 6, .tmp 7]) rfl (by simp) (.tmp (.tmp (.tmp (.tmp .nil))))) rfl ?_
        exact ⟨by first | rfl | (simp; done) | (simp [*]; done), by repeat (first | exact Drawn0.refl _ | apply Drawn0.step)⟩
      rw [if_pos c8] at H
      have c8b0 : decide (x5_1 < (l0.length : Int)) = true := decide_eq_true c8
      clear c8
      by_cases c9 : 0 ≤ x5_1
      rotate_left
      · rw [if_neg c9] at H
        exact absurd H (by simp)
      rw [if_pos c9] at H
      have c9b0 : decide (0 ≤ x5_1) = true := decide_eq_true c9
      clear c9
      have HC10 := Aside0.mk H
      clear H
      have p111 : 0 ≤ (x5_1 : Int) := of_decide_eq_true (by first | (with_reducible assumption) | assumption)
      have q111 : x5_1 < (l0.length : Int) := of_decide_eq_true (by first | (with_reducible assumption) | assumption)
      obtain ⟨ad111, e111, hx111_0⟩ := Kd.at_int HR0.out x5_1 p111 q111
      obtain rfl : ad109 = ad111 := (by injection e111)
      replace p111 := eq_true p111
      replace q111 := eq_true q111
      go_upto_region 10 with (fail)
      go_cut [71] (fun v71 wc => ∃ (kq : Nat) (x71_9 : Bool), v71 = .bool x71_9 ∧ Aside0 (der_tag.j1 kq l0 a1 (Go.bits .or .i64 (wrap64 (x4_1 * 128)) (wrap64 (Go.bits .and .u8 (rd l0 x5_1) 127))) x5_1 x71_9 = some (r1, r2, r3, r4)) ∧ Aside0 (kq ≤ k1) ∧ Drawn0 w wc)
      case first =>
        have H := HC10.out
        clear HC10
        by_cases c11 : x5_1 = (wrap64 (a1 + 1))
        rotate_left
        · rw [if_neg c11] at H
          have c11b0 : (x5_1 == (wrap64 (a1 + 1))) = false := beq_eq_false_iff_ne.mpr c11
          have c11b1 : (x5_1 != (wrap64 (a1 + 1))) = true := bne_iff_ne.mpr c11
          (first | rw [c11b0] | (simp only [i64_w, i32_w]; rw [c11b0]) | skip)
          by_cases c15 : (Go.bits .or .i64 (wrap64 (x4_1 * 128)) (wrap64 (Go.bits .and .u8 (rd l0 x5_1) 127))) > 268435455
          · rw [if_pos c15] at H
            have c15b0 : decide (268435455 < (Go.bits .or .i64 (wrap64 (x4_1 * 128)) (wrap64 (Go.bits .and .u8 (rd l0 x5_1) 127)))) = true := decide_eq_true c15
            clear c15
            have H' := Aside0.mk H
            clear H
            go_wp2
            go_meet
            case rel => exact ⟨_, (true), (by first | rfl | (simp; done) | (simp [*]; done)), H', ⟨by have := HK1.out; first | omega | exact Nat.le_refl _⟩, by repeat (first | exact Drawn0.refl _ | apply Drawn0.step)⟩
          rw [if_neg c15] at H
          have c15b0 : decide (268435455 < (Go.bits .or .i64 (wrap64 (x4_1 * 128)) (wrap64 (Go.bits .and .u8 (rd l0 x5_1) 127)))) = false := decide_eq_false c15
          clear c15
          by_cases c16 : (rd l0 x5_1) < 128
          rotate_left
          · rw [if_neg c16] at H
            have c16b0 : decide ((rd l0 x5_1) < 128) = false := decide_eq_false c16
            clear c16
            have H' := Aside0.mk H
            clear H
            have p114 : 0 ≤ (x5_1 : Int) := of_decide_eq_true (by first | (with_reducible assumption) | assumption)
            have q114 : x5_1 < (l0.length : Int) := of_decide_eq_true (by first | (with_reducible assumption) | assumption)
            obtain ⟨ad114, e114, hx114_0⟩ := Kd.at_int HR0.out x5_1 p114 q114
            obtain rfl : ad109 = ad114 := (by injection e114)
            replace p114 := eq_true p114
            replace q114 := eq_true q114
            go_wp2
            go_meet
            case rel => exact ⟨_, (false), (by first | rfl | (simp; done) | (simp [*]; done)), H', ⟨by have := HK1.out; first | omega | exact Nat.le_refl _⟩, by repeat (first | exact Drawn0.refl _ | apply Drawn0.step)⟩
          rw [if_pos c16] at H
          have c16b0 : decide ((rd l0 x5_1) < 128) = true := decide_eq_true c16
          clear c16
          have H' := Aside0.mk H
          clear H
          have p114 : 0 ≤ (x5_1 : Int) := of_decide_eq_true (by first | (with_reducible assumption) | assumption)
          have q114 : x5_1 < (l0.length : Int) := of_decide_eq_true (by first | (with_reducible assumption) | assumption)
          obtain ⟨ad114, e114, hx114_0⟩ := Kd.at_int HR0.out x5_1 p114 q114
          obtain rfl : ad109 = ad114 := (by injection e114)
          replace p114 := eq_true p114
          replace q114 := eq_true q114
          go_wp2
          go_meet
          case rel => exact ⟨_, (decide ((Go.bits .or .i64 (wrap64 (x4_1 * 128)) (wrap64 (Go.bits .and .u8 (rd l0 x5_1) 127))) < 31)), (by first | rfl | (simp; done) | (simp [*]; done)), H', ⟨by have := HK1.out; first | omega | exact Nat.le_refl _⟩, by repeat (first | exact Drawn0.refl _ | apply Drawn0.step)⟩
        rw [if_pos c11] at H
        have c11b0 : (x5_1 == (wrap64 (a1 + 1))) = true := beq_iff_eq.mpr c11
        have c11b1 : (x5_1 != (wrap64 (a1 + 1))) = false := bne_eq_false_iff_eq.mpr c11
        clear c11
        (first | rw [c11b0] | (simp only [i64_w, i32_w]; rw [c11b0]) | skip)
        by_cases c12 : (rd l0 x5_1) = 128
        · rw [if_pos c12] at H
          have c12b0 : ((rd l0 x5_1) == 128) = true := beq_iff_eq.mpr c12
          have c12b1 : ((rd l0 x5_1) != 128) = false := bne_eq_false_iff_eq.mpr c12
          clear c12
          have H' := Aside0.mk H
          clear H
          have p112 : 0 ≤ (x5_1 : Int) := of_decide_eq_true (by first | (with_reducible assumption) | assumption)
          have q112 : x5_1 < (l0.length : Int) := of_decide_eq_true (by first | (with_reducible assumption) | assumption)
          obtain ⟨ad112, e112, hx112_0⟩ := Kd.at_int HR0.out x5_1 p112 q112
          obtain rfl : ad109 = ad112 := (by injection e112)
          replace p112 := eq_true p112
          replace q112 := eq_true q112
          go_wp2
          go_meet
          case rel => exact ⟨_, (true), (by first | rfl | (simp; done) | (simp [*]; done)), H', ⟨by have := HK1.out; first | omega | exact Nat.le_refl _⟩, by repeat (first | exact Drawn0.refl _ | apply Drawn0.step)⟩
        rw [if_neg c12] at H
        have c12b0 : ((rd l0 x5_1) == 128) = false := beq_eq_false_iff_ne.mpr c12
        have c12b1 : ((rd l0 x5_1) != 128) = true := bne_iff_ne.mpr c12
        by_cases c13 : (Go.bits .or .i64 (wrap64 (x4_1 * 128)) (wrap64 (Go.bits .and .u8 (rd l0 x5_1) 127))) > 268435455
        · rw [if_pos c13] at H
          have c13b0 : decide (268435455 < (Go.bits .or .i64 (wrap64 (x4_1 * 128)) (wrap64 (Go.bits .and .u8 (rd l0 x5_1) 127)))) = true := decide_eq_true c13
          clear c13
          have H' := Aside0.mk H
          clear H
          have p112 : 0 ≤ (x5_1 : Int) := of_decide_eq_true (by first | (with_reducible assumption) | assumption)
          have q112 : x5_1 < (l0.length : Int) := of_decide_eq_true (by first | (with_reducible assumption) | assumption)
          obtain ⟨ad112, e112, hx112_0⟩ := Kd.at_int HR0.out x5_1 p112 q112
          obtain rfl : ad109 = ad112 := (by injection e112)
          replace p112 := eq_true p112
          replace q112 := eq_true q112
          go_wp2
          go_meet
          case rel => exact ⟨_, (true), (by first | rfl | (simp; done) | (simp [*]; done)), H', ⟨by have := HK1.out; first | omega | exact Nat.le_refl _⟩, by repeat (first | exact Drawn0.refl _ | apply Drawn0.step)⟩
        rw [if_neg c13] at H
        have c13b0 : decide (268435455 < (Go.bits .or .i64 (wrap64 (x4_1 * 128)) (wrap64 (Go.bits .and .u8 (rd l0 x5_1) 127)))) = false := decide_eq_false c13
        clear c13
        by_cases c14 : (rd l0 x5_1) < 128
        rotate_left
        · rw [if_neg c14] at H
          have c14b0 : decide ((rd l0 x5_1) < 128) = false := decide_eq_false c14
          clear c14
          have H' := Aside0.mk H
          clear H
          have p112 : 0 ≤ (x5_1 : Int) := of_decide_eq_true (by first | (with_reducible assumption) | assumption)
          have q112 : x5_1 < (l0.length : Int) := of_decide_eq_true (by first | (with_reducible assumption) | assumption)
          obtain ⟨ad112, e112, hx112_0⟩ := Kd.at_int HR0.out x5_1 p112 q112
          obtain rfl : ad109 = ad112 := (by injection e112)
          replace p112 := eq_true p112
          replace q112 := eq_true q112
          have p113 : 0 ≤ (x5_1 : Int) := of_decide_eq_true (by first | (with_reducible assumption) | assumption)
          have q113 : x5_1 < (l0.length : Int) := of_decide_eq_true (by first | (with_reducible assumption) | assumption)
          obtain ⟨ad113, e113, hx113_0⟩ := Kd.at_int HR0.out x5_1 p113 q113
          obtain rfl : ad109 = ad113 := (by injection e113)
          replace p113 := eq_true p113
          replace q113 := eq_true q113
          go_wp2
          go_meet
          case rel => exact ⟨_, (false), (by first | rfl | (simp; done) | (simp [*]; done)), H', ⟨by have := HK1.out; first | omega | exact Nat.le_refl _⟩, by repeat (first | exact Drawn0.refl _ | apply Drawn0.step)⟩
        rw [if_pos c14] at H
        have c14b0 : decide ((rd l0 x5_1) < 128) = true := decide_eq_true c14
        clear c14
        have H' := Aside0.mk H
        clear H
        have p112 : 0 ≤ (x5_1 : Int) := of_decide_eq_true (by first | (with_reducible assumption) | assumption)
        have q112 : x5_1 < (l0.length : Int) := of_decide_eq_true (by first | (with_reducible assumption) | assumption)
        obtain ⟨ad112, e112, hx112_0⟩ := Kd.at_int HR0.out x5_1 p112 q112
        obtain rfl : ad109 = ad112 := (by injection e112)
        replace p112 := eq_true p112
        replace q112 := eq_true q112
        have p113 : 0 ≤ (x5_1 : Int) := of_decide_eq_true (by first | (with_reducible assumption) | assumption)
        have q113 : x5_1 < (l0.length : Int) := of_decide_eq_true (by first | (with_reducible assumption) | assumption)
        obtain ⟨ad113, e113, hx113_0⟩ := Kd.at_int HR0.out x5_1 p113 q113
        obtain rfl : ad109 = ad113 := (by injection e113)
        replace p113 := eq_true p113
        replace q113 := eq_true q113
        go_wp2
        go_meet
        case rel => exact ⟨_, (decide ((Go.bits .or .i64 (wrap64 (x4_1 * 128)) (wrap64 (Go.bits .and .u8 (rd l0 x5_1) 127))) < 31)), (by first | rfl | (simp; done) | (simp [*]; done)), H', ⟨by have := HK1.out; first | omega | exact Nat.le_refl _⟩, by repeat (first | exact Drawn0.refl _ | apply Drawn0.step)⟩
      clear HC10
      try clear c1
      try clear p1
      try clear q1
      try clear hx1
      try clear c2
      try clear p2
      try clear c3
      try clear c3b0
      try clear c4
      try clear c4b0
      try clear c5
      try clear c5b0
      try clear c6
      try clear c6b0
      try clear c6b1
      try clear p6
      try clear c7
      try clear c7b0
      try clear c7b1
      try clear c8
      try clear c8b0
      try clear c9
      try clear c9b0
      try clear p10
      try clear q10
      try clear hx10
      try clear c11
      try clear c11b0
      try clear c11b1
      try clear p11
      try clear q11
      try clear hx11
      try clear c12
      try clear c12b0
      try clear c12b1
      try clear c13
      try clear c13b0
      try clear c14
      try clear c14b0
      try clear c15
      try clear c15b0
      try clear c16
      try clear c16b0
      try clear hx109_0
      try clear hx110_0
      try clear hx111_0
      try clear hx112_0
      try clear hx113_0
      try clear hx114_0
      try clear p1
      try clear p109
      try clear p110
      try clear p111
      try clear p112
      try clear p113
      try clear p114
      try clear p2
      try clear p6
      try clear q1
      try clear q109
      try clear q110
      try clear q111
      try clear q112
      try clear q113
      try clear q114
      obtain ⟨kq, x71_9, rfl, HA, HJ9, ⟨mc9, rfl⟩⟩ := hcut
      cases kq with
      | zero => exact absurd HA.out (by simp [der_tag.j1])
      | succ kj9 =>
        have H := HA.out
        clear HA
        simp only [der_tag.j1] at H
        by_cases c17 : x71_9 = true
        · subst c17
          have H1 : (some (0, 0, 30, x5_1)) = some (r1, r2, r3, r4) := by rw [if_pos rfl] at H; exact H
          clear H
          have H := H1
          clear H1
          simp only [Option.some.injEq, Prod.mk.injEq] at H
          obtain ⟨rfl, rfl, rfl, rfl⟩ := H
          go_wp2
          refine bodyPost_ret (results_list (rs := [.tmp 4, .tmp 5, .tmp 6, .tmp 7]) rfl (by simp) (.tmp (.tmp (.tmp (.tmp .nil))))) rfl ?_
          exact ⟨by first | rfl | (simp; done) | (simp [*]; done), by repeat (first | exact Drawn0.refl _ | apply Drawn0.step)⟩
        replace c17 := Bool.eq_false_iff.mpr c17
        subst c17
        have H1 : (if 0 ≤ x5_1 then (if x5_1 < (l0.length : Int) then (if (rd l0 x5_1) < 128 then (some ((Go.bits .or .i64 (wrap64 (x4_1 * 128)) (wrap64 (Go.bits .and .u8 (rd l0 x5_1) 127))), wrap64 (x5_1 + 1), 0, 0)) else (der_tag.l0 kj9 l0 a1 (Go.bits .or .i64 (wrap64 (x4_1 * 128)) (wrap64 (Go.bits .and .u8 (rd l0 x5_1) 127))) (wrap64 (x5_1 + 1)))) else (none)) else (none)) = some (r1, r2, r3, r4) := by rw [if_neg (show ¬ (false = true) by decide)] at H; exact H
        clear H
        have H := H1
        clear H1
        by_cases c18 : 0 ≤ x5_1
        rotate_left
        · rw [if_neg c18] at H
          exact absurd H (by simp)
        rw [if_pos c18] at H
        have c18b0 : decide (0 ≤ x5_1) = true := decide_eq_true c18
        clear c18
        by_cases c19 : x5_1 < (l0.length : Int)
        rotate_left
        · rw [if_neg c19] at H
          exact absurd H (by simp)
        rw [if_pos c19] at H
        have c19b0 : decide (x5_1 < (l0.length : Int)) = true := decide_eq_true c19
        clear c19
        by_cases c20 : (rd l0 x5_1) < 128
        · rw [if_pos c20] at H
          have c20b0 : decide ((rd l0 x5_1) < 128) = true := decide_eq_true c20
          clear c20
          simp only [Option.some.injEq, Prod.mk.injEq] at H
          obtain ⟨rfl, rfl, rfl, rfl⟩ := H
          have p115 : 0 ≤ (x5_1 : Int) := of_decide_eq_true (by first | (with_reducible assumption) | assumption)
          have q115 : x5_1 < (l0.length : Int) := of_decide_eq_true (by first | (with_reducible assumption) | assumption)
          obtain ⟨ad115, e115, hx115_0⟩ := Kd.at_int HR0.out x5_1 p115 q115
          obtain rfl : ad109 = ad115 := (by injection e115)
          replace p115 := eq_true p115
          replace q115 := eq_true q115
          go_wp2
          refine bodyPost_ret (results_list (rs := [.tmp 4, .tmp 5, .tmp 6, .tmp 7]) rfl (by simp) (.tmp (.tmp (.tmp (.tmp .nil))))) rfl ?_
          exact ⟨by first | rfl | (simp; done) | (simp [*]; done), by repeat (first | exact Drawn0.refl _ | apply Drawn0.step)⟩
        rw [if_neg c20] at H
        have c20b0 : decide ((rd l0 x5_1) < 128) = false := decide_eq_false c20
        clear c20
        have H' := Aside0.mk H
        clear H
        have p115 : 0 ≤ (x5_1 : Int) := of_decide_eq_true (by first | (with_reducible assumption) | assumption)
        have q115 : x5_1 < (l0.length : Int) := of_decide_eq_true (by first | (with_reducible assumption) | assumption)
        obtain ⟨ad115, e115, hx115_0⟩ := Kd.at_int HR0.out x5_1 p115 q115
        obtain rfl : ad109 = ad115 := (by injection e115)
        replace p115 := eq_true p115
        replace q115 := eq_true q115
        go_wp2
        go_roundg kj9
        case measure => have := HK1.out; have := HJ9.out; omega
        case rel => exact ⟨((Go.bits .or .i64 (wrap64 (x4_1 * 128)) (wrap64 (Go.bits .and .u8 (rd l0 x5_1) 127)))), (wrap64 (x5_1 + 1)), (by first | rfl | (simp; done) | (simp [*]; done)), (by first | rfl | (simp; done) | (simp [*]; done)), H', ⟨by have := HK1.out; have := HJ9.out; omega⟩, by repeat (first | exact Drawn0.refl _ | apply Drawn0.step)⟩
end Go.Proofs.YtkioddjjfifadaaGreatDoor.P
namespace Go.Proofs.YtkioddjjfifadaaGreatDoor.P
open Go.RowKit Go.Proofs.YtkioddjjfifadaaGreatDoorW.PrintWords Go.Proofs.YtkioddjjfifadaaGreatDoorW.PrintLast Go.Proofs.YtkioddjjfifadaaGreatDoorW.PrintMore
attribute [local go_sem] max2_int min2_int max_two min_two max_three min_three max_four min_four   -- for this text's walks alone
set_option linter.unusedVariables false
set_option linter.unusedSimpArgs false
mutual
def der_length.j0 : Nat → List Int → Int → Int → Int → Bool → Option (Int × Int × Int × Int)
  | 0, _, _, _, _, _ => none
  | k + 1, x0, x1, x5, x8, x32 => if x32 = true then (some (0, 0, 31, x1)) else (if x8 > (wrap64 ((x0.length : Int) - x5)) then (some (0, 0, 2, (x0.length : Int))) else (if 0 ≤ x5 then (if x5 ≤ (wrap64 (x5 + x8)) then (if (wrap64 (x5 + x8)) ≤ (x0.length : Int) then ((some ((x0.take ((wrap64 (x5 + x8)) : Int).toNat).drop (x5 : Int).toNat : List Int)).bind fun y117 => (der_length.l0 k x0 x1 0 x5 x8 y117 (y117.length : Int) 0)) else (none)) else (none)) else (none)))
def der_length.l0 : Nat → List Int → Int → Int → Int → Int → List Int → Int → Int → Option (Int × Int × Int × Int)
  | 0, _, _, _, _, _, _, _, _ => none
  | k + 1, x0, x1, x4, x5, x8, x47, x48, x49 => if x49 < x48 then (if 0 ≤ x49 then (if x49 < (x47.length : Int) then (der_length.l0 k x0 x1 (mn (Go.bits .or .i64 (wrap64 (x4 * 256)) (wrap64 (rd x47 x49))) 16777217) x5 x8 x47 x48 (wrap64 (x49 + 1))) else (none)) else (none)) else (if 0 ≤ x5 then (if x5 < (x0.length : Int) then (if (rd x0 x5) = 0 then (der_length.j2 k x0 x1 x4 x5 x8 true) else (der_length.j2 k x0 x1 x4 x5 x8 (decide (x4 < 128)))) else (none)) else (none))
def der_length.j2 : Nat → List Int → Int → Int → Int → Int → Bool → Option (Int × Int × Int × Int)
  | 0, _, _, _, _, _, _ => none
  | k + 1, x0, x1, x4, x5, x8, x68 => if x68 = true then (some (0, 0, 31, x1)) else (if x4 > (wrap64 ((x0.length : Int) - (wrap64 (x5 + x8)))) then (some (0, 0, 31, x1)) else (some (x4, wrap64 (x5 + x8), 0, 0)))
end
def der_length.f (k : Nat) (l0 : List Int) (a1 : Int) : Option (Int × Int × Int × Int) := if a1 = (l0.length : Int) then (some (0, 0, 2, a1)) else (if 0 ≤ a1 then (if a1 < (l0.length : Int) then (if (wrap64 (rd l0 a1)) ≥ 128 then (if (Go.bits .and .i64 (wrap64 (rd l0 a1)) 127) = 0 then (der_length.j0 k l0 a1 (wrap64 (a1 + 1)) (Go.bits .and .i64 (wrap64 (rd l0 a1)) 127) true) else (der_length.j0 k l0 a1 (wrap64 (a1 + 1)) (Go.bits .and .i64 (wrap64 (rd l0 a1)) 127) ((Go.bits .and .i64 (wrap64 (rd l0 a1)) 127) == 127))) else (if (wrap64 (rd l0 a1)) > (wrap64 ((l0.length : Int) - (wrap64 (a1 + 1)))) then (some (0, 0, 31, a1)) else (some (wrap64 (rd l0 a1), wrap64 (a1 + 1), 0, 0)))) else (none)) else (none))
set_option maxHeartbeats 8000000 in
set_option maxRecDepth 100000 in
theorem der_length.calls (k : Nat) (A0 : Option Addr) (c0 : Nat) (l0 : List Int) (a1 : Int) (r1 : Int) (r2 : Int) (r3 : Int) (r4 : Int) (w : World) (hr0 : Kd.C (Kd.int .u8) w A0 l0.length l0) (hc0 : l0.length ≤ c0) (h : der_length.f k l0 a1 = some (r1, r2, r3, r4)) :
    Calls Tryz.prog 215 #[.slice A0 l0.length c0, .int .i64 a1] w fun e w' => e = .returned (.tuple #[.int .i64 r1, .int .i64 r2, .int .i64 r3, .int .i64 r4]) ∧ Below w.heap.size w w' := by
  have HR0 := Aside0.mk hr0
  have HC0 := Aside0.mk hc0
  clear hr0 hc0
  have HB := Aside0.mk (Below.refl w.heap.size w)
  have H : (if a1 = (l0.length : Int) then (some (0, 0, 2, a1)) else (if 0 ≤ a1 then (if a1 < (l0.length : Int) then (if (wrap64 (rd l0 a1)) ≥ 128 then (if (Go.bits .and .i64 (wrap64 (rd l0 a1)) 127) = 0 then (der_length.j0 k l0 a1 (wrap64 (a1 + 1)) (Go.bits .and .i64 (wrap64 (rd l0 a1)) 127) true) else (der_length.j0 k l0 a1 (wrap64 (a1 + 1)) (Go.bits .and .i64 (wrap64 (rd l0 a1)) 127) ((Go.bits .and .i64 (wrap64 (rd l0 a1)) 127) == 127))) else (if (wrap64 (rd l0 a1)) > (wrap64 ((l0.length : Int) - (wrap64 (a1 + 1)))) then (some (0, 0, 31, a1)) else (some (wrap64 (rd l0 a1), wrap64 (a1 + 1), 0, 0)))) else (none)) else (none))) = some (r1, r2, r3, r4) := h
  clear h
  by_cases c3 : a1 = (l0.length : Int)
  · rw [if_pos c3] at H
    have c3b0 : (a1 == (l0.length : Int)) = true := beq_iff_eq.mpr c3
    have c3b1 : (a1 != (l0.length : Int)) = false := bne_eq_false_iff_eq.mpr c3
    clear c3
    simp only [Option.some.injEq, Prod.mk.injEq] at H
    obtain ⟨rfl, rfl, rfl, rfl⟩ := H
    go_enter Tryz.func215, Tryz.ntmps215
    go_wp2
    refine bodyPost_ret (results_list (rs := [.tmp 4, .tmp 5, .tmp 6, .tmp 7]) rfl (by simp) (.tmp (.tmp (.tmp (.tmp .nil))))) rfl ?_
    exact ⟨by first | rfl | (simp [errW_none, errW_some] <;> rfl) | (simp [*, errW_none, errW_some] <;> rfl), by repeat (first | (with_reducible first | exact HB.out | apply below_alloc | apply pw_below_drewN | apply below_drew1) | exact HB.out)⟩
  rw [if_neg c3] at H
  have c3b0 : (a1 == (l0.length : Int)) = false := beq_eq_false_iff_ne.mpr c3
  have c3b1 : (a1 != (l0.length : Int)) = true := bne_iff_ne.mpr c3
  by_cases c4 : 0 ≤ a1
  rotate_left
  · rw [if_neg c4] at H
    exact absurd H (by simp)
  rw [if_pos c4] at H
  have c4b0 : decide (0 ≤ a1) = true := decide_eq_true c4
  clear c4
  by_cases c5 : a1 < (l0.length : Int)
  rotate_left
  · rw [if_neg c5] at H
    exact absurd H (by simp)
  rw [if_pos c5] at H
  have c5b0 : decide (a1 < (l0.length : Int)) = true := decide_eq_true c5
  clear c5
  by_cases c6 : (wrap64 (rd l0 a1)) ≥ 128
  rotate_left
  · rw [if_neg c6] at H
    have c6b0 : decide (128 ≤ (wrap64 (rd l0 a1))) = false := decide_eq_false c6
    clear c6
    by_cases c25 : (wrap64 (rd l0 a1)) > (wrap64 ((l0.length : Int) - (wrap64 (a1 + 1))))
    rotate_left
    · rw [if_neg c25] at H
      have c25b0 : decide ((wrap64 ((l0.length : Int) - (wrap64 (a1 + 1)))) < (wrap64 (rd l0 a1))) = false := decide_eq_false c25
      clear c25
      simp only [Option.some.injEq, Prod.mk.injEq] at H
      obtain ⟨rfl, rfl, rfl, rfl⟩ := H
      have p116 : 0 ≤ (a1 : Int) := of_decide_eq_true (by first | (with_reducible assumption) | assumption)
      have q116 : a1 < (l0.length : Int) := of_decide_eq_true (by first | (with_reducible assumption) | assumption)
      obtain ⟨ad116, e116, hx116_0⟩ := Kd.at_int HR0.out a1 p116 q116
      cases e116
      replace p116 := eq_true p116
      replace q116 := eq_true q116
      go_enter Tryz.func215, Tryz.ntmps215
      go_wp2
      refine bodyPost_ret (results_list (rs := [.tmp 4, .tmp 5, .tmp 6, .tmp 7]) rfl (by simp) (.tmp (.tmp (.tmp (.tmp .nil))))) rfl ?_
      exact ⟨by first | rfl | (simp [errW_none, errW_some] <;> rfl) | (simp [*, errW_none, errW_some] <;> rfl), by repeat (first | (with_reducible first | exact HB.out | apply below_alloc | apply pw_below_drewN | apply below_drew1) | exact HB.out)⟩
    rw [if_pos c25] at H
    have c25b0 : decide ((wrap64 ((l0.length : Int) - (wrap64 (a1 + 1)))) < (wrap64 (rd l0 a1))) = true := decide_eq_true c25
    clear c25
    simp only [Option.some.injEq, Prod.mk.injEq] at H
    obtain ⟨rfl, rfl, rfl, rfl⟩ := H
    have p116 : 0 ≤ (a1 : Int) := of_decide_eq_true (by first | (with_reducible assumption) | assumption)
    have q116 : a1 < (l0.length : Int) := of_decide_eq_true (by first | (with_reducible assumption) | assumption)
    obtain ⟨ad116, e116, hx116_0⟩ := Kd.at_int HR0.out a1 p116 q116
    cases e116
    replace p116 := eq_true p116
    replace q116 := eq_true q116
    go_enter Tryz.func215, Tryz.ntmps215
    go_wp2
    refine bodyPost_ret (results_list (rs := [.tmp 4, .tmp 5, .tmp 6, .tmp 7]) rfl (by simp) (.tmp (.tmp (.tmp (.tmp .nil))))) rfl ?_
    exact ⟨by first | rfl | (simp [errW_none, errW_some] <;> rfl) | (simp [*, errW_none, errW_some] <;> rfl), by repeat (first | (with_reducible first | exact HB.out | apply below_alloc | apply pw_below_drewN | apply below_drew1) | exact HB.out)⟩
  rw [if_pos c6] at H
  have c6b0 : decide (128 ≤ (wrap64 (rd l0 a1))) = true := decide_eq_true c6
  clear c6
  have HC7 := Aside0.mk H
  clear H
  have p116 : 0 ≤ (a1 : Int) := of_decide_eq_true (by first | (with_reducible assumption) | assumption)
  have q116 : a1 < (l0.length : Int) := of_decide_eq_true (by first | (with_reducible assumption) | assumption)
  obtain ⟨ad116, e116, hx116_0⟩ := Kd.at_int HR0.out a1 p116 q116
  cases e116
  replace p116 := eq_true p116
  replace q116 := eq_true q116
  go_enter Tryz.func215, Tryz.ntmps215
  go_upto_region 6 with (fail)
  go_cut [32] (fun v32 wc => ∃ (kq : Nat) (x32_6 : Bool), v32 = .bool x32_6 ∧ Aside0 (der_length.j0 kq l0 a1 (wrap64 (a1 + 1)) (Go.bits .and .i64 (wrap64 (rd l0 a1)) 127) x32_6 = some (r1, r2, r3, r4)) ∧ Aside0 (kq ≤ k) ∧ Aside0 (Below w.heap.size w wc))
  case first =>
    have H := HC7.out
    clear HC7
    by_cases c8 : (Go.bits .and .i64 (wrap64 (rd l0 a1)) 127) = 0
    rotate_left
    · rw [if_neg c8] at H
      have c8b0 : ((Go.bits .and .i64 (wrap64 (rd l0 a1)) 127) == 0) = false := beq_eq_false_iff_ne.mpr c8
      have c8b1 : ((Go.bits .and .i64 (wrap64 (rd l0 a1)) 127) != 0) = true := bne_iff_ne.mpr c8
      (first | rw [c8b0] | (simp only [i64_w, i32_w]; rw [c8b0]) | skip)
      have H' := Aside0.mk H
      clear H
      go_wp2
      go_meet
      case rel => exact ⟨_, (((Go.bits .and .i64 (wrap64 (rd l0 a1)) 127) == 127)), (by first | rfl | (simp; done) | (simp [*]; done)), H', ⟨by first | omega | exact Nat.le_refl _⟩, ⟨by repeat (first | (with_reducible first | exact HB.out | apply below_alloc | apply pw_below_drewN | apply below_drew1) | exact HB.out)⟩⟩
    rw [if_pos c8] at H
    have c8b0 : ((Go.bits .and .i64 (wrap64 (rd l0 a1)) 127) == 0) = true := beq_iff_eq.mpr c8
    have c8b1 : ((Go.bits .and .i64 (wrap64 (rd l0 a1)) 127) != 0) = false := bne_eq_false_iff_eq.mpr c8
    clear c8
    (first | rw [c8b0] | (simp only [i64_w, i32_w]; rw [c8b0]) | skip)
    have H' := Aside0.mk H
    clear H
    go_wp2
    go_meet
    case rel => exact ⟨_, (true), (by first | rfl | (simp; done) | (simp [*]; done)), H', ⟨by first | omega | exact Nat.le_refl _⟩, ⟨by repeat (first | (with_reducible first | exact HB.out | apply below_alloc | apply pw_below_drewN | apply below_drew1) | exact HB.out)⟩⟩
  clear HC7
  try clear p1
  try clear q1
  try clear hx1
  try clear c2
  try clear p2
  try clear c3
  try clear c3b0
  try clear c3b1
  try clear c4
  try clear c4b0
  try clear c5
  try clear c5b0
  try clear c6
  try clear c6b0
  try clear p6
  try clear c8
  try clear c8b0
  try clear c8b1
  try clear hx116_0
  try clear p116
  try clear q116
  obtain ⟨kq, x32_6, rfl, HA, HJ6, HB⟩ := hcut
  cases kq with
  | zero => exact absurd HA.out (by simp [der_length.j0])
  | succ kj6 =>
    have H := HA.out
    clear HA
    simp only [der_length.j0] at H
    by_cases c9 : x32_6 = true
    · subst c9
      have H1 : (some (0, 0, 31, a1)) = some (r1, r2, r3, r4) := by rw [if_pos rfl] at H; exact H
      clear H
      have H := H1
      clear H1
      simp only [Option.some.injEq, Prod.mk.injEq] at H
      obtain ⟨rfl, rfl, rfl, rfl⟩ := H
      go_wp2
      refine bodyPost_ret (results_list (rs := [.tmp 4, .tmp 5, .tmp 6, .tmp 7]) rfl (by simp) (.tmp (.tmp (.tmp (.tmp .nil))))) rfl ?_
      exact ⟨by first | rfl | (simp [errW_none, errW_some] <;> rfl) | (simp [*, errW_none, errW_some] <;> rfl), by repeat (first | (with_reducible first | exact HB.out | apply below_alloc | apply pw_below_drewN | apply below_drew1) | exact HB.out)⟩
    replace c9 := Bool.eq_false_iff.mpr c9
    subst c9
    have H1 : (if (Go.bits .and .i64 (wrap64 (rd l0 a1)) 127) > (wrap64 ((l0.length : Int) - (wrap64 (a1 + 1)))) then (some (0, 0, 2, (l0.length : Int))) else (if 0 ≤ (wrap64 (a1 + 1)) then (if (wrap64 (a1 + 1)) ≤ (wrap64 ((wrap64 (a1 + 1)) + (Go.bits .and .i64 (wrap64 (rd l0 a1)) 127))) then (if (wrap64 ((wrap64 (a1 + 1)) + (Go.bits .and .i64 (wrap64 (rd l0 a1)) 127))) ≤ (l0.length : Int) then ((some ((l0.take ((wrap64 ((wrap64 (a1 + 1)) + (Go.bits .and .i64 (wrap64 (rd l0 a1)) 127))) : Int).toNat).drop ((wrap64 (a1 + 1)) : Int).toNat : List Int)).bind fun y117 => (der_length.l0 kj6 l0 a1 0 (wrap64 (a1 + 1)) (Go.bits .and .i64 (wrap64 (rd l0 a1)) 127) y117 (y117.length : Int) 0)) else (none)) else (none)) else (none))) = some (r1, r2, r3, r4) := by rw [if_neg (show ¬ (false = true) by decide)] at H; exact H
    clear H
    have H := H1
    clear H1
    by_cases c10 : (Go.bits .and .i64 (wrap64 (rd l0 a1)) 127) > (wrap64 ((l0.length : Int) - (wrap64 (a1 + 1))))
    · rw [if_pos c10] at H
      have c10b0 : decide ((wrap64 ((l0.length : Int) - (wrap64 (a1 + 1)))) < (Go.bits .and .i64 (wrap64 (rd l0 a1)) 127)) = true := decide_eq_true c10
      clear c10
      simp only [Option.some.injEq, Prod.mk.injEq] at H
      obtain ⟨rfl, rfl, rfl, rfl⟩ := H
      go_wp2
      refine bodyPost_ret (results_list (rs := [.tmp 4, .tmp 5, .tmp 6, .tmp 7]) rfl (by simp) (.tmp (.tmp (.tmp (.tmp .nil))))) rfl ?_
      exact ⟨by first | rfl | (simp [errW_none, errW_some] <;> rfl) | (simp [*, errW_none, errW_some] <;> rfl), by repeat (first | (with_reducible first | exact HB.out | apply below_alloc | apply pw_below_drewN | apply below_drew1) | exact HB.out)⟩
    rw [if_neg c10] at H
    have c10b0 : decide ((wrap64 ((l0.length : Int) - (wrap64 (a1 + 1)))) < (Go.bits .and .i64 (wrap64 (rd l0 a1)) 127)) = false := decide_eq_false c10
    clear c10
    by_cases c11 : 0 ≤ (wrap64 (a1 + 1))
    rotate_left
    · rw [if_neg c11] at H
      exact absurd H (by simp)
    rw [if_pos c11] at H
    have c11b0 := eq_true c11
    have c11b1 : decide (0 ≤ (wrap64 (a1 + 1))) = true := decide_eq_true c11
    by_cases c12 : (wrap64 (a1 + 1)) ≤ (wrap64 ((wrap64 (a1 + 1)) + (Go.bits .and .i64 (wrap64 (rd l0 a1)) 127)))
    rotate_left
    · rw [if_neg c12] at H
      exact absurd H (by simp)
    rw [if_pos c12] at H
    have c12b0 := eq_true c12
    have c12b1 : decide ((wrap64 (a1 + 1)) ≤ (wrap64 ((wrap64 (a1 + 1)) + (Go.bits .and .i64 (wrap64 (rd l0 a1)) 127)))) = true := decide_eq_true c12
    by_cases c13 : (wrap64 ((wrap64 (a1 + 1)) + (Go.bits .and .i64 (wrap64 (rd l0 a1)) 127))) ≤ (l0.length : Int)
    rotate_left
    · rw [if_neg c13] at H
      exact absurd H (by simp)
    rw [if_pos c13] at H
    have c13b0 := eq_true c13
    have c13b1 : decide ((wrap64 ((wrap64 (a1 + 1)) + (Go.bits .and .i64 (wrap64 (rd l0 a1)) 127))) ≤ (l0.length : Int)) = true := decide_eq_true c13
    obtain ⟨y117, hy117⟩ : ∃ y_ : List Int, y_ = ((l0.take ((wrap64 ((wrap64 (a1 + 1)) + (Go.bits .and .i64 (wrap64 (rd l0 a1)) 127))) : Int).toNat).drop ((wrap64 (a1 + 1)) : Int).toNat) := ⟨_, rfl⟩
    replace H : (der_length.l0 kj6 l0 a1 0 (wrap64 (a1 + 1)) (Go.bits .and .i64 (wrap64 (rd l0 a1)) 127) y117 (y117.length : Int) 0) = some (r1, r2, r3, r4) := by first | (rw [hy117]; with_reducible exact H) | (have H2_ := (Option.bind_some _ _).symm.trans H; rw [hy117]; with_reducible exact H2_) | (have H2_ := (Option.bind_some _ _).symm.trans H; with_reducible exact H2_) | with_reducible exact H | (rw [hy117]; exact H) | exact H
    have Ny117 := Aside0.mk hy117
    clear hy117
    have H' := Aside0.mk H
    clear H
    have q14 : ((wrap64 ((wrap64 (a1 + 1)) + (Go.bits .and .i64 (wrap64 (rd l0 a1)) 127))) : Int) ≤ ((l0.length : Int) : Int) := of_decide_eq_true (by first | (with_reducible assumption) | assumption)
    obtain ⟨i014, hi014, _, hsz14, _⟩ := info_parts info5
    have hroom14 : l0.length ≤ c0 := HC0.out
    have hC14 : Kd.C (Kd.int .u8) _ (some ad116) l0.length l0 := HR0.out
    have ql14 : ((wrap64 (a1 + 1)) : Int) ≤ ((wrap64 ((wrap64 (a1 + 1)) + (Go.bits .and .i64 (wrap64 (rd l0 a1)) 127))) : Int) := of_decide_eq_true (by first | (with_reducible assumption) | assumption)
    have q014 : (0 : Int) ≤ ((wrap64 (a1 + 1)) : Int) := of_decide_eq_true (by first | (with_reducible assumption) | assumption)
    have hcut14 := cut_mid (P := Tryz.prog) 22 5 .i64 .i64 Tryz.underlying22 hi014 1 hsz14 (some ad116) l0.length c0 (wrap64 (a1 + 1)) (wrap64 ((wrap64 (a1 + 1)) + (Go.bits .and .i64 (wrap64 (rd l0 a1)) 127))) q014 ql14 q14 hroom14
    have hr14 := Kd.C_mid (lo := ((wrap64 (a1 + 1)) : Int).toNat) (hi := ((wrap64 ((wrap64 (a1 + 1)) + (Go.bits .and .i64 (wrap64 (rd l0 a1)) 127))) : Int).toNat) (c := c0) hC14 (by omega) (by omega) hroom14
    obtain ⟨A14, hA14⟩ : ∃ A1, A1 = (if c0 = ((wrap64 (a1 + 1)) : Int).toNat then (some ad116) else ((some ad116) : Option Addr).map (·.add (((wrap64 (a1 + 1)) : Int).toNat * 1))) := ⟨_, rfl⟩
    obtain ⟨c14, hc14⟩ : ∃ c1, c1 = c0 - ((wrap64 (a1 + 1)) : Int).toNat := ⟨_, rfl⟩
    have hy14 : y117.length = ((wrap64 ((wrap64 (a1 + 1)) + (Go.bits .and .i64 (wrap64 (rd l0 a1)) 127))) : Int).toNat - ((wrap64 (a1 + 1)) : Int).toNat := (by rw [Ny117.out, List.length_drop, List.length_take] <;> omega)
    rw [show ((l0).take ((wrap64 ((wrap64 (a1 + 1)) + (Go.bits .and .i64 (wrap64 (rd l0 a1)) 127))) : Int).toNat).drop ((wrap64 (a1 + 1)) : Int).toNat = y117 from Ny117.out.symm] at hr14
    replace hr14 : Kd.C (Kd.int .u8) _ A14 y117.length y117 := (by rw [hA14]; exact hr14)
    rw [← hy14, ← hA14, ← hc14] at hcut14
    have HR120 := Aside0.mk hr14
    have HC120 := Aside0.mk (show y117.length ≤ c14 from by rw [hy14, hc14]; exact Nat.sub_le_sub_right (Nat.le_trans (by omega) hroom14) _)
    clear hr14 hC14 hroom14 hi014 hsz14 hc14
    have KY14 := Aside0.mk hy14
    have KA14 := Aside0.mk hA14
    clear hy14 hA14
    replace q14 := eq_true q14
    go_wp2
    go_loopg [4, 49] kj6 (fun kq v4 v49 w' => ∃ (x4_2 : Int) (x49_2 : Int), v4 = .int .i64 x4_2 ∧ v49 = .int .i64 x49_2 ∧ Aside0 (der_length.l0 kq l0 a1 x4_2 (wrap64 (a1 + 1)) (Go.bits .and .i64 (wrap64 (rd l0 a1)) 127) y117 (y117.length : Int) x49_2 = some (r1, r2, r3, r4)) ∧ Aside0 (kq ≤ kj6) ∧ Aside0 (Below w.heap.size w w'))
    case atStart => exact ⟨(0), (0), (by first | rfl | (simp; done) | (simp [*]; done)), (by first | rfl | (simp; done) | (simp [*]; done)), H', ⟨Nat.le_refl _⟩, ⟨by repeat (first | (with_reducible first | exact HB.out | apply below_alloc | apply pw_below_drewN | apply below_drew1) | exact HB.out)⟩⟩
    case round =>
      clear H'
      try clear c1
      try clear p1
      try clear q1
      try clear hx1
      try clear c2
      try clear p2
      try clear c3
      try clear c3b0
      try clear c3b1
      try clear c4
      try clear c4b0
      try clear c5
      try clear c5b0
      try clear c6
      try clear c6b0
      try clear p6
      try clear c8
      try clear c8b0
      try clear c8b1
      try clear c9
      try clear c10
      try clear c10b0
      try clear c11
      try clear c11b0
      try clear c11b1
      try clear p11
      try clear q11
      try clear hx11
      try clear c12
      try clear c12b0
      try clear c12b1
      try clear c13
      try clear c13b0
      try clear c13b1
      try clear c14
      try clear q14
      try clear hx116_0
      try clear p1
      try clear p116
      try clear p2
      try clear p6
      try clear q014
      try clear q1
      try clear q116
      try clear q14
      obtain ⟨x4_2, x49_2, rfl, rfl, HA, HK2, HB⟩ := hrel
      cases gk with
      | zero => exact absurd HA.out (by simp [der_length.l0])
      | succ k2 =>
        have H := HA.out
        clear HA
        simp only [der_length.l0] at H
        by_cases c15 : x49_2 < (y117.length : Int)
        · rw [if_pos c15] at H
          have c15b0 : decide (x49_2 < (y117.length : Int)) = true := decide_eq_true c15
          clear c15
          by_cases c16 : 0 ≤ x49_2
          rotate_left
          · rw [if_neg c16] at H
            exact absurd H (by simp)
          rw [if_pos c16] at H
          have c16b0 : decide (0 ≤ x49_2) = true := decide_eq_true c16
          clear c16
          by_cases c17 : x49_2 < (y117.length : Int)
          rotate_left
          · rw [if_neg c17] at H
            exact absurd H (by simp)
          rw [if_pos c17] at H
          have c17b0 : decide (x49_2 < (y117.length : Int)) = true := decide_eq_true c17
          clear c17
          obtain ⟨ji18, hji18⟩ : ∃ j_ : Int, (mn (Go.bits .or .i64 (wrap64 (x4_2 * 256)) (wrap64 (rd y117 x49_2))) 16777217) = j_ := ⟨_, rfl⟩
          replace H : (der_length.l0 k2 l0 a1 ji18 (wrap64 (a1 + 1)) (Go.bits .and .i64 (wrap64 (rd l0 a1)) 127) y117 (y117.length : Int) (wrap64 (x49_2 + 1))) = some (r1, r2, r3, r4) := by first | (rw [hji18] at H; exact H) | (simp only [hji18] at H ⊢; exact H)
          have hji18_ : (if 16777217 < (Go.bits .or .i64 (wrap64 (x4_2 * 256)) (wrap64 (rd y117 x49_2))) then 16777217 else (Go.bits .or .i64 (wrap64 (x4_2 * 256)) (wrap64 (rd y117 x49_2)))) = ji18 := hji18
          have H' := Aside0.mk H
          clear H
          have p121 : 0 ≤ (x49_2 : Int) := of_decide_eq_true (by first | (with_reducible assumption) | assumption)
          have q121 : x49_2 < (y117.length : Int) := of_decide_eq_true (by first | (with_reducible assumption) | assumption)
          obtain ⟨ad121, e121, hx121_0⟩ := Kd.at_int HR120.out x49_2 p121 q121
          cases e121
          replace hx121_0 := (HB.out.cell (World.block_lt_of_cell? w _ hx121_0)).trans hx121_0
          replace p121 := eq_true p121
          replace q121 := eq_true q121
          go_wp2
          go_roundg k2
          case measure => have := HJ6.out; have := HK2.out; omega
          case rel => exact ⟨(ji18), (wrap64 (x49_2 + 1)), (by first | rfl | (simp; done) | (simp only [← hji18] <;> (first | rfl | simp)) | (simp [*]; done)), (by first | rfl | (simp; done) | (simp [*]; done)), H', ⟨by have := HJ6.out; have := HK2.out; omega⟩, ⟨by repeat (first | (with_reducible first | exact HB.out | apply below_alloc | apply pw_below_drewN | apply below_drew1) | exact HB.out)⟩⟩
        rw [if_neg c15] at H
        have c15b0 : decide (x49_2 < (y117.length : Int)) = false := decide_eq_false c15
        clear c15
        have HC19 := Aside0.mk H
        clear H
        go_upto_region 16 with (fail)
        go_cut [68] (fun v68 wc => ∃ (kq : Nat) (x68_18 : Bool), v68 = .bool x68_18 ∧ Aside0 (der_length.j2 kq l0 a1 x4_2 (wrap64 (a1 + 1)) (Go.bits .and .i64 (wrap64 (rd l0 a1)) 127) x68_18 = some (r1, r2, r3, r4)) ∧ Aside0 (kq ≤ k2) ∧ Aside0 (Below w.heap.size w wc))
        case first =>
          have H := HC19.out
          clear HC19
          by_cases c20 : 0 ≤ (wrap64 (a1 + 1))
          rotate_left
          · rw [if_neg c20] at H
            exact absurd H (by simp)
          rw [if_pos c20] at H
          have c20b0 : decide (0 ≤ (wrap64 (a1 + 1))) = true := decide_eq_true c20
          clear c20
          (first | rw [c20b0] | (simp only [i64_w, i32_w]; rw [c20b0]) | skip)
          by_cases c21 : (wrap64 (a1 + 1)) < (l0.length : Int)
          rotate_left
          · rw [if_neg c21] at H
            exact absurd H (by simp)
          rw [if_pos c21] at H
          have c21b0 : decide ((wrap64 (a1 + 1)) < (l0.length : Int)) = true := decide_eq_true c21
          clear c21
          by_cases c22 : (rd l0 (wrap64 (a1 + 1))) = 0
          rotate_left
          · rw [if_neg c22] at H
            have c22b0 : ((rd l0 (wrap64 (a1 + 1))) == 0) = false := beq_eq_false_iff_ne.mpr c22
            have c22b1 : ((rd l0 (wrap64 (a1 + 1))) != 0) = true := bne_iff_ne.mpr c22
            have H' := Aside0.mk H
            clear H
            have p122 : 0 ≤ ((wrap64 (a1 + 1)) : Int) := of_decide_eq_true (by first | (with_reducible assumption) | assumption)
            have q122 : (wrap64 (a1 + 1)) < (l0.length : Int) := of_decide_eq_true (by first | (with_reducible assumption) | assumption)
            obtain ⟨ad122, e122, hx122_0⟩ := Kd.at_int HR0.out (wrap64 (a1 + 1)) p122 q122
            obtain rfl : ad116 = ad122 := (by injection e122)
            replace hx122_0 := (HB.out.cell (World.block_lt_of_cell? w _ hx122_0)).trans hx122_0
            replace p122 := eq_true p122
            replace q122 := eq_true q122
            go_wp2
            go_meet
            case rel => exact ⟨_, (decide (x4_2 < 128)), (by first | rfl | (simp; done) | (simp [*]; done)), H', ⟨by have := HJ6.out; have := HK2.out; first | omega | exact Nat.le_refl _⟩, ⟨by repeat (first | (with_reducible first | exact HB.out | apply below_alloc | apply pw_below_drewN | apply below_drew1) | exact HB.out)⟩⟩
          rw [if_pos c22] at H
          have c22b0 : ((rd l0 (wrap64 (a1 + 1))) == 0) = true := beq_iff_eq.mpr c22
          have c22b1 : ((rd l0 (wrap64 (a1 + 1))) != 0) = false := bne_eq_false_iff_eq.mpr c22
          clear c22
          have H' := Aside0.mk H
          clear H
          have p122 : 0 ≤ ((wrap64 (a1 + 1)) : Int) := of_decide_eq_true (by first | (with_reducible assumption) | assumption)
          have q122 : (wrap64 (a1 + 1)) < (l0.length : Int) := of_decide_eq_true (by first | (with_reducible assumption) | assumption)
          obtain ⟨ad122, e122, hx122_0⟩ := Kd.at_int HR0.out (wrap64 (a1 + 1)) p122 q122
          obtain rfl : ad116 = ad122 := (by injection e122)
          replace hx122_0 := (HB.out.cell (World.block_lt_of_cell? w _ hx122_0)).trans hx122_0
          replace p122 := eq_true p122
          replace q122 := eq_true q122
          go_wp2
          go_meet
          case rel => exact ⟨_, (true), (by first | rfl | (simp; done) | (simp [*]; done)), H', ⟨by have := HJ6.out; have := HK2.out; first | omega | exact Nat.le_refl _⟩, ⟨by repeat (first | (with_reducible first | exact HB.out | apply below_alloc | apply pw_below_drewN | apply below_drew1) | exact HB.out)⟩⟩
        clear HC19
        try clear c1
        try clear p1
        try clear q1
        try clear hx1
        try clear c2
        try clear p2
        try clear c3
        try clear c3b0
        try clear c3b1
        try clear c4
        try clear c4b0
        try clear c5
        try clear c5b0
        try clear c6
        try clear c6b0
        try clear p6
        try clear c8
        try clear c8b0
        try clear c8b1
        try clear c9
        try clear c10
        try clear c10b0
        try clear c11
        try clear c11b0
        try clear c11b1
        try clear p11
        try clear q11
        try clear hx11
        try clear c12
        try clear c12b0
        try clear c12b1
        try clear p12
        try clear q12
        try clear hx12
        try clear c13
        try clear c13b0
        try clear c13b1
        try clear c14
        try clear q14
        try clear c15
        try clear c15b0
        try clear c16
        try clear c16b0
        try clear c17
        try clear c17b0
        try clear c20
        try clear c20b0
        try clear c21
        try clear c21b0
        try clear c22
        try clear c22b0
        try clear c22b1
        try clear hx116_0
        try clear hx121_0
        try clear hx122_0
        try clear p1
        try clear p11
        try clear p116
        try clear p121
        try clear p122
        try clear p2
        try clear p6
        try clear q014
        try clear q1
        try clear q11
        try clear q116
        try clear q121
        try clear q122
        try clear q14
        obtain ⟨kq, x68_18, rfl, HA, HJ18, HB⟩ := hcut
        cases kq with
        | zero => exact absurd HA.out (by simp [der_length.j2])
        | succ kj18 =>
          have H := HA.out
          clear HA
          simp only [der_length.j2] at H
          by_cases c23 : x68_18 = true
          · subst c23
            have H1 : (some (0, 0, 31, a1)) = some (r1, r2, r3, r4) := by rw [if_pos rfl] at H; exact H
            clear H
            have H := H1
            clear H1
            simp only [Option.some.injEq, Prod.mk.injEq] at H
            obtain ⟨rfl, rfl, rfl, rfl⟩ := H
            go_wp2
            refine bodyPost_ret (results_list (rs := [.tmp 4, .tmp 5, .tmp 6, .tmp 7]) rfl (by simp) (.tmp (.tmp (.tmp (.tmp .nil))))) rfl ?_
            exact ⟨by first | rfl | (simp [errW_none, errW_some] <;> rfl) | (simp [*, errW_none, errW_some] <;> rfl), by repeat (first | (with_reducible first | exact HB.out | apply below_alloc | apply pw_below_drewN | apply below_drew1) | exact HB.out)⟩
          replace c23 := Bool.eq_false_iff.mpr c23
          subst c23
          have H1 : (if x4_2 > (wrap64 ((l0.length : Int) - (wrap64 ((wrap64 (a1 + 1)) + (Go.bits .and .i64 (wrap64 (rd l0 a1)) 127))))) then (some (0, 0, 31, a1)) else (some (x4_2, wrap64 ((wrap64 (a1 + 1)) + (Go.bits .and .i64 (wrap64 (rd l0 a1)) 127)), 0, 0))) = some (r1, r2, r3, r4) := by rw [if_neg (show ¬ (false = true) by decide)] at H; exact H
          clear H
          have H := H1
          clear H1
          by_cases c24 : x4_2 > (wrap64 ((l0.length : Int) - (wrap64 ((wrap64 (a1 + 1)) + (Go.bits .and .i64 (wrap64 (rd l0 a1)) 127)))))
          rotate_left
          · rw [if_neg c24] at H
            have c24b0 : decide ((wrap64 ((l0.length : Int) - (wrap64 ((wrap64 (a1 + 1)) + (Go.bits .and .i64 (wrap64 (rd l0 a1)) 127))))) < x4_2) = false := decide_eq_false c24
            clear c24
            simp only [Option.some.injEq, Prod.mk.injEq] at H
            obtain ⟨rfl, rfl, rfl, rfl⟩ := H
            go_wp2
            refine bodyPost_ret (results_list (rs := [.tmp 4, .tmp 5, .tmp 6, .tmp 7]) rfl (by simp) (.tmp (.tmp (.tmp (.tmp .nil))))) rfl ?_
            exact ⟨by first | rfl | (simp [errW_none, errW_some] <;> rfl) | (simp [*, errW_none, errW_some] <;> rfl), by repeat (first | (with_reducible first | exact HB.out | apply below_alloc | apply pw_below_drewN | apply below_drew1) | exact HB.out)⟩
          rw [if_pos c24] at H
          have c24b0 : decide ((wrap64 ((l0.length : Int) - (wrap64 ((wrap64 (a1 + 1)) + (Go.bits .and .i64 (wrap64 (rd l0 a1)) 127))))) < x4_2) = true := decide_eq_true c24
          clear c24
          simp only [Option.some.injEq, Prod.mk.injEq] at H
          obtain ⟨rfl, rfl, rfl, rfl⟩ := H
          go_wp2
          refine bodyPost_ret (results_list (rs := [.tmp 4, .tmp 5, .tmp 6, .tmp 7]) rfl (by simp) (.tmp (.tmp (.tmp (.tmp .nil))))) rfl ?_
          exact ⟨by first | rfl | (simp [errW_none, errW_some] <;> rfl) | (simp [*, errW_none, errW_some] <;> rfl), by repeat (first | (with_reducible first | exact HB.out | apply below_alloc | apply pw_below_drewN | apply below_drew1) | exact HB.out)⟩
end Go.Proofs.YtkioddjjfifadaaGreatDoor.P
namespace Go.Proofs.YtkioddjjfifadaaGreatDoor.P
open Go.RowKit Go.Proofs.YtkioddjjfifadaaGreatDoorW.PrintWords Go.Proofs.YtkioddjjfifadaaGreatDoorW.PrintLast Go.Proofs.YtkioddjjfifadaaGreatDoorW.PrintMore
def bytes_Clone.f (l0 : List Int) : Option (List Int) := if l0.length < 140737488355328 then some l0 else none
theorem bytes_Clone.some_ {l0 r : List Int} (h : bytes_Clone.f l0 = some r) : r = l0 ∧ l0.length < 140737488355328 := by
  unfold bytes_Clone.f at h
  split at h
  rotate_left
  · cases h
  rename_i hl
  exact ⟨(Option.some.inj h).symm, hl⟩
set_option maxHeartbeats 1000000 in
theorem bytes_Clone.calls (A0 : Option Addr) (c0 : Nat) (l0 : List Int) (r : List Int) (w : World) (hr0 : Kd.C (Kd.int .u8) w A0 l0.length l0) (hc0 : l0.length ≤ c0) (h : bytes_Clone.f l0 = some r) :
    Calls Tryz.prog 76 #[.slice A0 l0.length c0] w fun e w' => ∃ v0_ : Value, e = .returned (v0_) ∧ Kd.R (Kd.int .u8) 5 w' w.heap.size (fun _ => True) v0_ r ∧ Below w.heap.size w w' := by
  obtain ⟨rfl, hl⟩ := bytes_Clone.some_ h
  have HR0 := Aside0.mk hr0
  have HC0 := Aside0.mk hc0
  have HL := Aside0.mk hl
  have heq := fun (W : World) => Lib.run_eql_slice_nil (P := Tryz.prog) W 22 5 A0 r.length c0 0 0 Tryz.underlying22
  clear hr0 hc0 h hl
  have HB := Aside0.mk (Below.refl w.heap.size w)
  cases A0 with
  | none =>
    obtain rfl : r = [] := by
      rcases Nat.eq_zero_or_pos r.length with h | h
      · exact List.length_eq_zero_iff.1 h
      obtain ⟨ad, e, _⟩ := HR0.out.2.2 h
      cases e
    clear HR0 HC0 HL
    simp only [List.length_nil] at heq ⊢
    go_enter Tryz.func76, Tryz.ntmps76
    go_wp2
    go_ret
    exact ⟨_, rfl, Kd.R_nil _ _ _ _ _, HB.out⟩
  | some ad =>
    go_enter Tryz.func76, Tryz.ntmps76
    go_wp2_with (first | ((with_reducible refine gate_dst (N := 5) rfl ?_); refine Kd.R_lit (Kd.int .u8) _ 5 ?hg (N := 5) ?hd (xs := ([] : List Int)) (inner := []) (ok := fun _ => True) (okp := fun _ => True) ?hr ?hp (fun _ hk => hk) trivial (Below.refl _ _) (Nat.le_refl _) (by simp) ?_; (case hd => rfl); (case hg => rfl); (case hr => first | (go_simp; done) | (go_simp; rfl)); (case hp => exact (Reps.none _ _)); intro v1 w1 ho1 hb1 _ _; have HO1 := Aside0.mk (Kd.R_lower ho1 (below_size HB.out)); have HB1 := Aside0.mk (below_step HB.out hb1); clear hb1 ho1 HB) | ((with_reducible refine gate_builtin (b := .append) (xs := #[.tmp 5, .tmp 6]) rfl ?_); at_builtin; refine Kd.R_append_rows (Kd.int .u8) (w0 := w) w.heap.size rfl (.tmp 5) (.tmp 6) 22 5 (.int .u8 0) 1 rfl Tryz.underlying22 info5 rfl (by decide) (by omega) v1 [] r _ _ _ (fun _ => True) (fun _ => False) rfl rfl ?aO ?aR (fun _ _ h => h) (fun _ h => h.elim) ?aF ?aB ?aS ?aL ?_; (case aR => exact Kd.C_below HR0.out HB1.out); (case aB => exact HB1.out); (case aF => exact (fun _ _ => trivial)); (case aO => exact HO1.out); (case aS => exact below_size HB1.out); (case aL => have := HL.out; simp only [List.length_nil]; omega); intro v2 w2 ho hb hg hat; rw [List.nil_append] at ho; have HO2 := Aside0.mk ho; have HB2 := Aside0.mk hb; clear ho hb hg hat))
    go_ret
    exact ⟨_, rfl, HO2.out, HB2.out⟩
end Go.Proofs.YtkioddjjfifadaaGreatDoor.P
