/- The law CrlAsks: the row, the card. -/
import Derived.Test.YtkioddjjfifadaaGreatDoorLCrlAsks
import Derived.Test.YtkioddjjfifadaaGreatDoorOpc
import Derived.Test.YtkioddjjfifadaaGreatDoorWit
import Derived.Test.YtkioddjjfifadaaGreatDoorTie
import Derived.Test.YtkioddjjfifadaaGreatDoorCards
import Derived.Test.YtkioddjjfifadaaGreatDoorCls
import Derived.ProofKit
import Derived.SevenTiedAt
namespace Go.Proofs.YtkioddjjfifadaaGreatDoor.P
open Go.RowKit Go.ChangeShapes Go.WideShapes Go.ChangeAt Go.Proofs.YtkioddjjfifadaaGreatDoorW.PrintWords
open Go.Proofs.YtkioddjjfifadaaGreatDoor

set_option maxRecDepth 100000 in
theorem CrlAsks_lifted (os : Os) (started : os.Started) (H : Type) (enc : TypeId × Value → H) :
    ReturnsInHanded {} Tryz.checked os 4 .any (fun w args => (Rows.crlAsksSpec.pre enc Tryz.prog Tryz.f4 [] false w args ∧ laidMetH Tryz.prog laidL w) ∧ sizedMet enc Tryz.prog Tryz.f4 (OpenSpec.ofChange Rows.crlAsksSpec) false w args)
      (Rows.crlAsksSpec.post enc Tryz.prog Tryz.f4 false true false false) := by
  refine returnsInHanded_of_change_and (C := Tryz.checked) (X := fun w _ => laidMetH Tryz.prog laidL w) (fun _ _ _ hh h => h.of_heap hh) own started (by kernel_rfl) Tryz.func4
    (ChangeSpec.witness_shaped (enc := enc) (C := Tryz.checked) (os := os) (X := fun w _ => laidMetH Tryz.prog laidL w) false (laidWorld os)
      #[.agg #[.slice none 0 0, .slice none 0 0, .slice none 0 0, .int .i64 0, .int .i64 0, .bool false, .int .i64 0, .int .i64 0, .int .i64 0, .int .i64 0, .slice none 0 0, .slice none 0 0, .slice none 0 0, .bool false], .int .i64 0, .slice none 0 0, .slice none 0 0] 8 (laidWorld_os _)
      (World.shaped_of_ZipB (by kernel_rfl) (by kernel_rfl)) (by kernel_rfl) (by kernel_rfl) (by kernel_rfl) (laidWorld_met os _)) ?_
  intro W base args ds gs before hval0 hW _ _ hL _
  have hval : ∀ (j : Nat) t v, Tryz.f4.params[j]? = some t → args[j]? = some v → Value.okWide Tryz.prog W .any base t v := hval0
  have hW' := hW
  obtain ⟨p, q, hA0, hV, rfl, _, _⟩ := hW
  have hA : DataW.TrodAll enc Tryz.prog W 0 (fun _ => true) true Tryz.f4.params.toList args.toList ds p := hA0
  have hlt : ∀ x ∈ p, x.block < W.heap.size := fun x hx => by simpa using hW'.lt x (by simp [hx])
  rw [Tryz.params4] at hA hval
  obtain ⟨rfl, rfl⟩ := trodVars_none hV
  have hS := hA
  obtain ⟨v0, vs0, d0, ds0, p0, q0, e0, rfl, _, h0, hA⟩ := trodAll_cons hA
  obtain ⟨v1, vs1, d1, ds1, p1, q1, rfl, rfl, _, h1, hA⟩ := trodAll_cons hA
  obtain ⟨v2, vs2, d2, ds2, p2, q2, rfl, rfl, _, h2, hA⟩ := trodAll_cons hA
  obtain ⟨v3, vs3, d3, ds3, p3, q3, rfl, rfl, _, h3, hA⟩ := trodAll_cons hA
  obtain ⟨rfl, rfl, _⟩ := trodAll_nil hA
  obtain rfl : args = #[v0, v1, v2, v3] := by cases args; simp_all
  obtain ⟨cs0, ⟨l0_0, l0_1, l0_2, a0_3, a0_4, a0_5, s0, l0_10, l0_11, l0_12, a0_13⟩, rfl, k0, Q0⟩ := open_struct_arg o_28 Tryz.underlying28 (hval 0 28 v0 rfl rfl) h0
  obtain ⟨A0_0, c0_0, A0_1, c0_1, A0_2, c0_2, A0_10, c0_10, A0_11, c0_11, A0_12, c0_12, rfl, ⟨n0_0, g0_0⟩, ⟨n0_1, g0_1⟩, ⟨n0_2, g0_2⟩, ⟨n0_10, g0_10⟩, ⟨n0_11, g0_11⟩, ⟨n0_12, g0_12⟩⟩ := open28 k0
  obtain ⟨a1, rfl, _, _, Q1⟩ := open_int Tryz.underlying3 (hval 1 3 v1 rfl rfl) h1
  obtain ⟨A2, c2, l2, rfl, n2, g2, Q2⟩ := open_slice_arg (d := Kd.int .u8) (o_bytes Tryz.underlying22) Tryz.underlying22 (hval 2 22 v2 rfl rfl) h2
  obtain ⟨A3, c3, l3, rfl, n3, g3, Q3⟩ := open_slice_arg (d := Kd.int .i64) (opens_slice Tryz.underlying31 (by kernel_rfl) (opens_int (by kernel_rfl))) Tryz.underlying31 (hval 3 31 v3 rfl rfl) h3
  refine (chirographlaw13_CrlAsks.calls 20001 A0_0 c0_0 l0_0 A0_1 c0_1 l0_1 A0_2 c0_2 l0_2 a0_3 a0_4 a0_5 s0.f0 s0.f1 s0.f2 s0.f3 A0_10 c0_10 l0_10 A0_11 c0_11 l0_11 A0_12 c0_12 l0_12 a0_13 a1 A2 c2 l2 A3 c3 l3 true W g0_0 n0_0 g0_1 n0_1 g0_2 n0_2 g0_10 n0_10 g0_11 n0_11 g0_12 n0_12 g2 n2 g3 n3 (CrlAsks_plain _ _ _ _ _ _ _ _ _ _ _ _ _ _ _ _ _ Q2.2 (fun g hg => (Q0.2.2.2.2.2.2.2.2.1.2 g hg).1.2)) ⟨rfl⟩).mono fun e W' ⟨he, hb⟩ => ?_
  subst he
  exact ⟨_, rfl, _, _, _, [], p, [], hW', trodAll_mk1 (shut_bool Tryz.underlying4 _), trodAll_stays pf_laidOut hb (by kernel_rfl) hS hlt, rfl, hb.frame _, fun h => by cases h⟩

theorem CrlAsks_inPlace : (Rows.crlAsksRow.inPlace == Tryz.prog.inPlace 4) = true := by kernel_rfl
theorem CrlAsks_unfollowed : (Rows.crlAsksRow.unfollowed == Tryz.prog.unfollowed 4) = true := by kernel_rfl
theorem CrlAsks_recurses : (Rows.crlAsksRow.recurses == Tryz.prog.recurses 4) = true := by kernel_rfl
theorem CrlAsks_named : (Rows.crlAsksRow.named == Tryz.prog.varsNamed 4) = true := by kernel_rfl
theorem CrlAsks_goes : false = Rows.crlAsksRow.goesBy Tryz.pinned.checked.prog := by kernel_rfl
theorem CrlAsks_facts : joinedFacts Tryz.pinned.checked.prog 4 Tryz.f4 Rows.crlAsksSpec Rows.crlAsksRow = true :=
  joinedFacts_of (by kernel_rfl) pf_laidOut pf_mapsRowed (by kernel_rfl) (by kernel_rfl) rfl pf_stops rfl pf_knobs CrlAsks_inPlace CrlAsks_unfollowed CrlAsks_recurses CrlAsks_named (by kernel_rfl) (by kernel_rfl) (by kernel_rfl) (by kernel_rfl) (by kernel_rfl)
    (by kernel_rfl) (by kernel_rfl) (by kernel_rfl) (by kernel_rfl) pf_plainKeys rfl pf_heard pf_mayEnter pf_lifts pf_make (by kernel_rfl) (by kernel_rfl) (by kernel_rfl) (by kernel_rfl)
theorem CrlAsks_holds : Rows.CrlAsksSaid :=
  OpenClaim.holds_of_wide 4 Tryz.f4 rfl rfl rfl rfl rfl rfl rfl ⟨rfl, rfl, rfl, rfl, rfl⟩ rfl rfl rfl rfl rfl (by kernel_rfl) Tryz.func4 CrlAsks_facts
    (of_decide_eq_true (by kernel_rfl)) (by unfold Func.isWrapper; first | (rw [if_pos (by decide +kernel)]; kernel_rfl) | (rw [if_neg (by decide +kernel)]; exact ⟨rfl, rfl⟩))
    (fun os started H enc _ => CrlAsks_lifted os started H enc)
theorem CrlAsks_card : Rows.CrlAsksCardSaid :=
  Claim7.holds_tied_plain_at .later [] [.data, .data, .data, .data, .handle, .pinned] true (true, "9ff4df7e578219656f6b5b630179cac2500b1b5439672f092528cf8164599c15") true CrlAsks_holds (fun _ h => by cases h) (by kernel_rfl) (fun _ h => by cases h) crlAsks_row_tie rfl ⟨rfl, rfl⟩ pf_mainIs rfl
    (fun f fn hf hfn => by
      obtain rfl : f = 4 := Option.some.inj ((show Tryz.prog.funcNamed "chirograph/chirographlaw13.CrlAsks" = some 4 by kernel_rfl).symm.trans hf) |>.symm
      obtain rfl : fn = Tryz.f4 := (Option.some.inj (Tryz.func4.symm.trans hfn)).symm
      exact ⟨pf_looks, fun j t ht => by
        rw [Tryz.params4] at ht
        have hm : t ∈ [28, 3, 22, 31] := by simpa using Array.mem_of_getElem? ht
        have hall : ([28, 3, 22, 31].all fun u => !Tryz.prog.wantsStandIn u) = true := by kernel_rfl
        exact (show Tryz.prog.wantsStandIn t = false by simpa using List.all_eq_true.1 hall t hm)⟩)
    CrlAsks_goes
#print axioms CrlAsks_card
end Go.Proofs.YtkioddjjfifadaaGreatDoor.P
