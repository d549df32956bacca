/- The law SignedFinds: the row, the card. -/
import Derived.Test.YtkioddjjfifadaaGreatDoorTie
import Derived.Test.YtkioddjjfifadaaGreatDoorCards
import Derived.ProofKit
import Derived.SevenTiedAt
import Derived.Test.YtkioddjjfifadaaGreatDoorSf14
import Derived.Test.YtkioddjjfifadaaGreatDoorSf15
namespace Go.Proofs.YtkioddjjfifadaaGreatDoor.P
open Go.RowKit Go.ChangeShapes Go.WideShapes Go.ChangeAt Go.Proofs.YtkioddjjfifadaaGreatDoorW.PrintWords
open Go.Proofs.YtkioddjjfifadaaGreatDoor
set_option maxRecDepth 100000 in
theorem SignedFinds_lifted (os : Os) (started : os.Started) (H : Type) (enc : TypeId × Value → H) :
    ReturnsInHanded {} Tryz.checked os 15 .any (fun w args => (Rows.signedFindsSpec.pre enc Tryz.prog Tryz.f15 [] false w args ∧ laidMetH Tryz.prog laidL w) ∧ sizedMet enc Tryz.prog Tryz.f15 (OpenSpec.ofChange Rows.signedFindsSpec) false w args)
      (Rows.signedFindsSpec.post enc Tryz.prog Tryz.f15 false true false false) := by
  refine returnsInHanded_of_change_and (C := Tryz.checked) (X := fun w _ => laidMetH Tryz.prog laidL w) (fun _ _ _ hh h => h.of_heap hh) own started (by kernel_rfl) Tryz.func15
    (ChangeSpec.witness_shaped (enc := enc) (C := Tryz.checked) (os := os) (X := fun w _ => laidMetH Tryz.prog laidL w) false (laidWorld os)
      #[.bool false, .agg #[.slice none 0 0, .slice none 0 0, .slice none 0 0], .slice none 0 0] 8 (laidWorld_os _)
      (World.shaped_of_ZipB (by kernel_rfl) (by kernel_rfl)) (by kernel_rfl) (by kernel_rfl) (by kernel_rfl) (laidWorld_met os _)) ?_
  intro W base args ds gs before hval0 hW _ hsz hL _
  have hval : ∀ (j : Nat) t v, Tryz.f15.params[j]? = some t → args[j]? = some v → Value.okWide Tryz.prog W .any base t v := hval0
  have hW' := hW
  obtain ⟨p, q, hA0, hV, rfl, _, _⟩ := hW
  have hA : DataW.TrodAll enc Tryz.prog W 0 (fun _ => true) true Tryz.f15.params.toList args.toList ds p := hA0
  have hlt : ∀ x ∈ p, x.block < W.heap.size := fun x hx => by simpa using hW'.lt x (by simp [hx])
  rw [Tryz.params15] at hA hval hsz
  obtain ⟨rfl, rfl⟩ := trodVars_none hV
  have hS := hA
  obtain ⟨v0, vs0, d0, ds0, p0, q0, e0, rfl, _, h0, hA⟩ := trodAll_cons hA
  obtain ⟨v1, vs1, d1, ds1, p1, q1, rfl, rfl, _, h1, hA⟩ := trodAll_cons hA
  obtain ⟨v2, vs2, d2, ds2, p2, q2, rfl, rfl, _, h2, hA⟩ := trodAll_cons hA
  obtain ⟨rfl, rfl, _⟩ := trodAll_nil hA
  obtain rfl : args = #[v0, v1, v2] := by cases args; simp_all
  obtain ⟨a0, rfl, _, Q0⟩ := open_bool Tryz.underlying4 (hval 0 4 v0 rfl rfl) h0
  obtain ⟨cs1, x1, rfl, k1, Q1⟩ := open_struct_argW o_92 Tryz.underlying92 (hval 1 92 v1 rfl rfl) h1 (fun n hn => of_decide_eq_true (List.all_eq_true.1 hsz n (weightsEach_mem 1 (t := 92) (d := d1) rfl rfl hn)))
  obtain ⟨Ai1, ci1, As1, cs_1, Ak1, ck1, rfl, gi1, gs1, gk1⟩ := kWh_open k1
  obtain ⟨A2, c2, l2, rfl, n2, g2, Q2⟩ := open_slice_argW (d := kWh) o_93 Tryz.underlying93 (hval 2 93 v2 rfl rfl) h2 (fun n hn => of_decide_eq_true (List.all_eq_true.1 hsz n (weightsEach_mem 2 (t := 93) (d := d2) rfl rfl hn)))
  refine (finds_walk 100000 90000 140737488355529 a0 Ai1 As1 Ak1 ci1 cs_1 ck1 x1 A2 c2 l2 W (hd_of_laid hL) (tb_of_laid hL) gi1.2 gi1.1 gs1.2 gs1.1 gk1.2 gk1.1 g2 n2 (fun y hy => name_preF (by rcases List.mem_cons.1 hy with rfl | hy; exact Q1.1; exact (Q2.2 y hy).1)) (fun y hy => ⟨qb_same Q1.2.1 (Q2.2 y hy).2.1, qb_same Q1.2.2 (Q2.2 y hy).2.2⟩)).mono fun e W' ⟨he, hb⟩ => ?_
  subst he
  exact ⟨_, rfl, _, _, _, [], p, [], hW', trodAll_mk1 (shut_bool Tryz.underlying4 _), trodAll_stays pf_laidOut hb (by kernel_rfl) hS hlt, rfl, hb.frame _, fun h => by cases h⟩
theorem SignedFinds_inPlace : (Rows.signedFindsRow.inPlace == Tryz.prog.inPlace 15) = true := by kernel_rfl
theorem SignedFinds_unfollowed : (Rows.signedFindsRow.unfollowed == Tryz.prog.unfollowed 15) = true := by kernel_rfl
theorem SignedFinds_recurses : (Rows.signedFindsRow.recurses == Tryz.prog.recurses 15) = true := by kernel_rfl
theorem SignedFinds_named : (Rows.signedFindsRow.named == Tryz.prog.varsNamed 15) = true := by kernel_rfl
theorem SignedFinds_goes : false = Rows.signedFindsRow.goesBy Tryz.pinned.checked.prog := by kernel_rfl
theorem SignedFinds_facts : joinedFacts Tryz.pinned.checked.prog 15 Tryz.f15 Rows.signedFindsSpec Rows.signedFindsRow = true :=
  joinedFacts_of (by kernel_rfl) pf_laidOut pf_mapsRowed (by kernel_rfl) (by kernel_rfl) rfl pf_stops rfl pf_knobs SignedFinds_inPlace SignedFinds_unfollowed SignedFinds_recurses SignedFinds_named (by kernel_rfl) (by kernel_rfl) (by kernel_rfl) (by kernel_rfl) (by kernel_rfl)
    (by kernel_rfl) (by kernel_rfl) (by kernel_rfl) (by kernel_rfl) pf_plainKeys rfl pf_heard pf_mayEnter pf_lifts pf_make (by kernel_rfl) (by kernel_rfl) (by kernel_rfl) (by kernel_rfl)
theorem SignedFinds_holds : Rows.SignedFindsSaid :=
  OpenClaim.holds_of_wide 15 Tryz.f15 rfl rfl rfl rfl rfl rfl rfl ⟨rfl, rfl, rfl, rfl, rfl⟩ rfl rfl rfl rfl rfl (by kernel_rfl) Tryz.func15 SignedFinds_facts
    (of_decide_eq_true (by kernel_rfl)) (by unfold Func.isWrapper; first | (rw [if_pos (by decide +kernel)]; kernel_rfl) | (rw [if_neg (by decide +kernel)]; exact ⟨rfl, rfl⟩))
    (fun os started H enc _ => SignedFinds_lifted os started H enc)
theorem SignedFinds_card : Rows.SignedFindsCardSaid :=
  Claim7.holds_tied_plain_at .later [] [.data, .data, .data, .data, .handle, .pinned] true (true, "9ff4df7e578219656f6b5b630179cac2500b1b5439672f092528cf8164599c15") true SignedFinds_holds (fun _ h => by cases h) (by kernel_rfl) (fun _ h => by cases h) signedFinds_row_tie rfl ⟨rfl, rfl⟩ pf_mainIs rfl
    (fun f fn hf hfn => by
      obtain rfl : f = 15 := Option.some.inj ((show Tryz.prog.funcNamed "chirograph/chirographlaw17.SignedFinds" = some 15 by kernel_rfl).symm.trans hf) |>.symm
      obtain rfl : fn = Tryz.f15 := (Option.some.inj (Tryz.func15.symm.trans hfn)).symm
      exact ⟨pf_looks, fun j t ht => by
        rw [Tryz.params15] at ht
        have hm : t ∈ [4, 92, 93] := by simpa using Array.mem_of_getElem? ht
        have hall : ([4, 92, 93].all fun u => !Tryz.prog.wantsStandIn u) = true := by kernel_rfl
        exact (show Tryz.prog.wantsStandIn t = false by simpa using List.all_eq_true.1 hall t hm)⟩)
    SignedFinds_goes
#print axioms SignedFinds_card
end Go.Proofs.YtkioddjjfifadaaGreatDoor.P
