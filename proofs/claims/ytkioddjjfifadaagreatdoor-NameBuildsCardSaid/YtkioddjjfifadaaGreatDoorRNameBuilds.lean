/- The law NameBuilds: the row, the card. -/
import Derived.Test.YtkioddjjfifadaaGreatDoorTie
import Derived.Test.YtkioddjjfifadaaGreatDoorCards
import Derived.ProofKit
import Derived.SevenTiedAt
import Derived.Test.YtkioddjjfifadaaGreatDoorNb10
import Derived.Test.YtkioddjjfifadaaGreatDoorNb11
import Derived.Test.YtkioddjjfifadaaGreatDoorNb12
set_option linter.unusedVariables false
set_option linter.unusedSimpArgs false
namespace Go.Proofs.YtkioddjjfifadaaGreatDoor.P
open Go.RowKit Go.ChangeShapes Go.WideShapes Go.ChangeAt Go.Proofs.YtkioddjjfifadaaGreatDoorW.PrintWords
open Go.Proofs.YtkioddjjfifadaaGreatDoor
set_option maxRecDepth 100000 in
theorem NameBuilds_lifted (os : Os) (started : os.Started) (H : Type) (enc : TypeId × Value → H) :
    ReturnsInHanded {} Tryz.checked os 7 .any (fun w args => (Rows.nameBuildsSpec.pre enc Tryz.prog Tryz.f7 [] false w args ∧ laidMetH Tryz.prog laidL w) ∧ sizedMet enc Tryz.prog Tryz.f7 (OpenSpec.ofChange Rows.nameBuildsSpec) false w args)
      (Rows.nameBuildsSpec.post enc Tryz.prog Tryz.f7 false true false false) := by
  refine returnsInHanded_of_change_and (C := Tryz.checked) (X := fun w _ => laidMetH Tryz.prog laidL w) (fun _ _ _ hh h => h.of_heap hh) own started (by kernel_rfl) Tryz.func7
    (ChangeSpec.witness_shaped (enc := enc) (C := Tryz.checked) (os := os) (X := fun w _ => laidMetH Tryz.prog laidL w) false (laidWorld os)
      #[.slice none 0 0] 7 (laidWorld_os _)
      (World.shaped_of_ZipB (by kernel_rfl) (by kernel_rfl)) (by kernel_rfl) (by kernel_rfl) (by kernel_rfl) (laidWorld_met os _)) ?_
  intro W base args ds gs before hval0 hW _ hsz hL _
  have hval : ∀ (j : Nat) t v, Tryz.f7.params[j]? = some t → args[j]? = some v → Value.okWide Tryz.prog W .any base t v := hval0
  have hW' := hW
  obtain ⟨p, q, hA0, hV, rfl, _, _⟩ := hW
  have hA : DataW.TrodAll enc Tryz.prog W 0 (fun _ => true) true Tryz.f7.params.toList args.toList ds p := hA0
  have hlt : ∀ x ∈ p, x.block < W.heap.size := fun x hx => by simpa using hW'.lt x (by simp [hx])
  rw [Tryz.params7] at hA hval hsz
  obtain ⟨rfl, rfl⟩ := trodVars_none hV
  have hS := hA
  obtain ⟨v0, vs0, d0, ds0, p0, q0, e0, rfl, _, h0, hA⟩ := trodAll_cons hA
  obtain ⟨rfl, rfl, _⟩ := trodAll_nil hA
  obtain rfl : args = #[v0] := by cases args; simp_all
  obtain ⟨A0, c0, l0, rfl, n0, g0, Q0⟩ := open_slice_argW (d := Kd.slice 64 k64) (o_nameW Tryz.underlying23) Tryz.underlying23 (hval 0 23 v0 rfl rfl) h0 (fun n hn => of_decide_eq_true (List.all_eq_true.1 hsz n (weightsEach_mem 0 (t := 23) (d := d0) rfl rfl hn)))
  refine (NameBuilds_ret A0 c0 l0 W g0 n0 (fun s hs p hp => part_ok ((Q0.2 s hs).2 p hp)) (tb_of_laid hL) (hd_of_laid hL)).mono fun e W' ⟨he, hb⟩ => ?_
  subst he
  exact ⟨_, rfl, _, _, _, [], p, [], hW', trodAll_mk1 (shut_bool Tryz.underlying4 _), trodAll_stays pf_laidOut hb (by kernel_rfl) hS hlt, rfl, hb.frame _, fun h => by cases h⟩
theorem NameBuilds_inPlace : (Rows.nameBuildsRow.inPlace == Tryz.prog.inPlace 7) = true := by kernel_rfl
theorem NameBuilds_unfollowed : (Rows.nameBuildsRow.unfollowed == Tryz.prog.unfollowed 7) = true := by kernel_rfl
theorem NameBuilds_recurses : (Rows.nameBuildsRow.recurses == Tryz.prog.recurses 7) = true := by kernel_rfl
theorem NameBuilds_named : (Rows.nameBuildsRow.named == Tryz.prog.varsNamed 7) = true := by kernel_rfl
theorem NameBuilds_goes : false = Rows.nameBuildsRow.goesBy Tryz.pinned.checked.prog := by kernel_rfl
theorem NameBuilds_facts : joinedFacts Tryz.pinned.checked.prog 7 Tryz.f7 Rows.nameBuildsSpec Rows.nameBuildsRow = true :=
  joinedFacts_of (by kernel_rfl) pf_laidOut pf_mapsRowed (by kernel_rfl) (by kernel_rfl) rfl pf_stops rfl pf_knobs NameBuilds_inPlace NameBuilds_unfollowed NameBuilds_recurses NameBuilds_named (by kernel_rfl) (by kernel_rfl) (by kernel_rfl) (by kernel_rfl) (by kernel_rfl)
    (by kernel_rfl) (by kernel_rfl) (by kernel_rfl) (by kernel_rfl) pf_plainKeys rfl pf_heard pf_mayEnter pf_lifts pf_make (by kernel_rfl) (by kernel_rfl) (by kernel_rfl) (by kernel_rfl)
theorem NameBuilds_holds : Rows.NameBuildsSaid :=
  OpenClaim.holds_of_wide 7 Tryz.f7 rfl rfl rfl rfl rfl rfl rfl ⟨rfl, rfl, rfl, rfl, rfl⟩ rfl rfl rfl rfl rfl (by kernel_rfl) Tryz.func7 NameBuilds_facts
    (of_decide_eq_true (by kernel_rfl)) (by unfold Func.isWrapper; first | (rw [if_pos (by decide +kernel)]; kernel_rfl) | (rw [if_neg (by decide +kernel)]; exact ⟨rfl, rfl⟩))
    (fun os started H enc _ => NameBuilds_lifted os started H enc)
theorem NameBuilds_card : Rows.NameBuildsCardSaid :=
  Claim7.holds_tied_plain_at .later [] [.data, .data, .data, .data, .handle, .pinned] true (true, "9ff4df7e578219656f6b5b630179cac2500b1b5439672f092528cf8164599c15") true NameBuilds_holds (fun _ h => by cases h) (by kernel_rfl) (fun _ h => by cases h) nameBuilds_row_tie rfl ⟨rfl, rfl⟩ pf_mainIs rfl
    (fun f fn hf hfn => by
      obtain rfl : f = 7 := Option.some.inj ((show Tryz.prog.funcNamed "chirograph/chirographlaw07.NameBuilds" = some 7 by kernel_rfl).symm.trans hf) |>.symm
      obtain rfl : fn = Tryz.f7 := (Option.some.inj (Tryz.func7.symm.trans hfn)).symm
      exact ⟨pf_looks, fun j t ht => by
        rw [Tryz.params7] at ht
        have hm : t ∈ [23] := by simpa using Array.mem_of_getElem? ht
        have hall : ([23].all fun u => !Tryz.prog.wantsStandIn u) = true := by kernel_rfl
        exact (show Tryz.prog.wantsStandIn t = false by simpa using List.all_eq_true.1 hall t hm)⟩)
    NameBuilds_goes
#print axioms NameBuilds_card
end Go.Proofs.YtkioddjjfifadaaGreatDoor.P
