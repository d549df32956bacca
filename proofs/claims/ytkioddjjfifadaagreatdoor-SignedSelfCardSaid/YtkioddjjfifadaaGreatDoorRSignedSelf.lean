/- The law SignedSelf: the row, the card. -/
import Derived.Test.YtkioddjjfifadaaGreatDoorLSignedSelf
import Derived.Test.YtkioddjjfifadaaGreatDoorOpn
import Derived.Test.YtkioddjjfifadaaGreatDoorWit
import Derived.Test.YtkioddjjfifadaaGreatDoorTie
import Derived.Test.YtkioddjjfifadaaGreatDoorCards
import Derived.Test.YtkioddjjfifadaaGreatDoorCls
import Derived.ProofKit
import Derived.SevenTiedAt
namespace Go.Proofs.YtkioddjjfifadaaGreatDoor.P
open Go.RowKit Go.ChangeShapes Go.WideShapes Go.ChangeAt Go.Proofs.YtkioddjjfifadaaGreatDoorW.PrintWords
open Go.Proofs.YtkioddjjfifadaaGreatDoor

set_option maxRecDepth 100000 in
theorem SignedSelf_lifted (os : Os) (started : os.Started) (H : Type) (enc : TypeId × Value → H) :
    ReturnsInHanded {} Tryz.checked os 17 .any (fun w args => (Rows.signedSelfSpec.pre enc Tryz.prog Tryz.f17 [] false w args ∧ laidMetH Tryz.prog laidL w) ∧ sizedMet enc Tryz.prog Tryz.f17 (OpenSpec.ofChange Rows.signedSelfSpec) false w args)
      (Rows.signedSelfSpec.post enc Tryz.prog Tryz.f17 false true false false) := by
  refine returnsInHanded_of_change_and (C := Tryz.checked) (X := fun w _ => laidMetH Tryz.prog laidL w) (fun _ _ _ hh h => h.of_heap hh) own started (by kernel_rfl) Tryz.func17
    (ChangeSpec.witness_shaped (enc := enc) (C := Tryz.checked) (os := os) (X := fun w _ => laidMetH Tryz.prog laidL w) false (laidWorld os)
      #[.agg #[.slice none 0 0, .slice none 0 0, .slice none 0 0], .slice none 0 0] 8 (laidWorld_os _)
      (World.shaped_of_ZipB (by kernel_rfl) (by kernel_rfl)) (by kernel_rfl) (by kernel_rfl) (by kernel_rfl) (laidWorld_met os _)) ?_
  intro W base args ds gs before hval0 hW _ hsz hL _
  have hval : ∀ (j : Nat) t v, Tryz.f17.params[j]? = some t → args[j]? = some v → Value.okWide Tryz.prog W .any base t v := hval0
  have hW' := hW
  obtain ⟨p, q, hA0, hV, rfl, _, _⟩ := hW
  have hA : DataW.TrodAll enc Tryz.prog W 0 (fun _ => true) true Tryz.f17.params.toList args.toList ds p := hA0
  have hlt : ∀ x ∈ p, x.block < W.heap.size := fun x hx => by simpa using hW'.lt x (by simp [hx])
  rw [Tryz.params17] at hA hval hsz
  obtain ⟨rfl, rfl⟩ := trodVars_none hV
  have hS := hA
  obtain ⟨v0, vs0, d0, ds0, p0, q0, e0, rfl, _, h0, hA⟩ := trodAll_cons hA
  obtain ⟨v1, vs1, d1, ds1, p1, q1, rfl, rfl, _, h1, hA⟩ := trodAll_cons hA
  obtain ⟨rfl, rfl, _⟩ := trodAll_nil hA
  obtain rfl : args = #[v0, v1] := by cases args; simp_all
  obtain ⟨cs0, x0, rfl, k0, Q0⟩ := open_struct_argW o_92 Tryz.underlying92 (hval 0 92 v0 rfl rfl) h0 (fun n hn => of_decide_eq_true (List.all_eq_true.1 hsz n (weightsEach_mem 0 (t := 92) (d := d0) rfl rfl hn)))
  obtain ⟨Ai0, ci0, As0, cs_0, Ak0, ck0, rfl, gi0, gs0, gk0⟩ := kWh_open k0
  obtain ⟨A1, c1, l1, rfl, n1, g1, Q1⟩ := open_slice_argW (d := kWh) o_93 Tryz.underlying93 (hval 1 93 v1 rfl rfl) h1 (fun n hn => of_decide_eq_true (List.all_eq_true.1 hsz n (weightsEach_mem 1 (t := 93) (d := d1) rfl rfl hn)))
  refine (self_walk 100000 Ai0 As0 Ak0 ci0 cs_0 ck0 x0 A1 c1 l1 W (hd_of_laid hL) (tb_of_laid hL) gi0.2 gi0.1 gs0.2 gs0.1 gk0.2 gk0.1 g1 n1 (fun y hy => name_pre (by rcases List.mem_cons.1 hy with rfl | hy; exact Q0.1; exact (Q1.2 y hy).1))).mono fun e W' ⟨he, hb⟩ => ?_
  subst he
  exact ⟨_, rfl, _, _, _, [], p, [], hW', trodAll_mk1 (shut_bool Tryz.underlying4 _), trodAll_stays pf_laidOut hb (by kernel_rfl) hS hlt, rfl, hb.frame _, fun h => by cases h⟩

theorem SignedSelf_inPlace : (Rows.signedSelfRow.inPlace == Tryz.prog.inPlace 17) = true := by kernel_rfl
theorem SignedSelf_unfollowed : (Rows.signedSelfRow.unfollowed == Tryz.prog.unfollowed 17) = true := by kernel_rfl
theorem SignedSelf_recurses : (Rows.signedSelfRow.recurses == Tryz.prog.recurses 17) = true := by kernel_rfl
theorem SignedSelf_named : (Rows.signedSelfRow.named == Tryz.prog.varsNamed 17) = true := by kernel_rfl
theorem SignedSelf_goes : false = Rows.signedSelfRow.goesBy Tryz.pinned.checked.prog := by kernel_rfl
theorem SignedSelf_facts : joinedFacts Tryz.pinned.checked.prog 17 Tryz.f17 Rows.signedSelfSpec Rows.signedSelfRow = true :=
  joinedFacts_of (by kernel_rfl) pf_laidOut pf_mapsRowed (by kernel_rfl) (by kernel_rfl) rfl pf_stops rfl pf_knobs SignedSelf_inPlace SignedSelf_unfollowed SignedSelf_recurses SignedSelf_named (by kernel_rfl) (by kernel_rfl) (by kernel_rfl) (by kernel_rfl) (by kernel_rfl)
    (by kernel_rfl) (by kernel_rfl) (by kernel_rfl) (by kernel_rfl) pf_plainKeys rfl pf_heard pf_mayEnter pf_lifts pf_make (by kernel_rfl) (by kernel_rfl) (by kernel_rfl) (by kernel_rfl)
theorem SignedSelf_holds : Rows.SignedSelfSaid :=
  OpenClaim.holds_of_wide 17 Tryz.f17 rfl rfl rfl rfl rfl rfl rfl ⟨rfl, rfl, rfl, rfl, rfl⟩ rfl rfl rfl rfl rfl (by kernel_rfl) Tryz.func17 SignedSelf_facts
    (of_decide_eq_true (by kernel_rfl)) (by unfold Func.isWrapper; first | (rw [if_pos (by decide +kernel)]; kernel_rfl) | (rw [if_neg (by decide +kernel)]; exact ⟨rfl, rfl⟩))
    (fun os started H enc _ => SignedSelf_lifted os started H enc)
theorem SignedSelf_card : Rows.SignedSelfCardSaid :=
  Claim7.holds_tied_plain_at .later [] [.data, .data, .data, .data, .handle, .pinned] true (true, "9ff4df7e578219656f6b5b630179cac2500b1b5439672f092528cf8164599c15") true SignedSelf_holds (fun _ h => by cases h) (by kernel_rfl) (fun _ h => by cases h) signedSelf_row_tie rfl ⟨rfl, rfl⟩ pf_mainIs rfl
    (fun f fn hf hfn => by
      obtain rfl : f = 17 := Option.some.inj ((show Tryz.prog.funcNamed "chirograph/chirographlaw17.SignedSelf" = some 17 by kernel_rfl).symm.trans hf) |>.symm
      obtain rfl : fn = Tryz.f17 := (Option.some.inj (Tryz.func17.symm.trans hfn)).symm
      exact ⟨pf_looks, fun j t ht => by
        rw [Tryz.params17] at ht
        have hm : t ∈ [92, 93] := by simpa using Array.mem_of_getElem? ht
        have hall : ([92, 93].all fun u => !Tryz.prog.wantsStandIn u) = true := by kernel_rfl
        exact (show Tryz.prog.wantsStandIn t = false by simpa using List.all_eq_true.1 hall t hm)⟩)
    SignedSelf_goes
#print axioms SignedSelf_card
end Go.Proofs.YtkioddjjfifadaaGreatDoor.P
