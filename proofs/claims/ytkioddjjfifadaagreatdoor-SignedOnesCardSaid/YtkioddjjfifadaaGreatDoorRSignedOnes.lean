/- The law SignedOnes: the row, the card. -/
import Derived.Test.YtkioddjjfifadaaGreatDoorLSignedOnes
import Derived.Test.YtkioddjjfifadaaGreatDoorOpc
import Derived.Test.YtkioddjjfifadaaGreatDoorWit
import Derived.Test.YtkioddjjfifadaaGreatDoorOpw
import Derived.Test.YtkioddjjfifadaaGreatDoorOps
import Derived.Test.YtkioddjjfifadaaGreatDoorLh0
import Derived.Test.YtkioddjjfifadaaGreatDoorTie
import Derived.Test.YtkioddjjfifadaaGreatDoorCards
import Derived.Test.YtkioddjjfifadaaGreatDoorCls
import Derived.ProofKit
import Derived.ChangeMaps5
import Derived.SevenTiedAt
namespace Go.Proofs.YtkioddjjfifadaaGreatDoor.P
open Go.RowKit Go.ChangeShapes Go.WideShapes Go.ChangeAt Go.Proofs.YtkioddjjfifadaaGreatDoorW.PrintWords
open Go.Proofs.YtkioddjjfifadaaGreatDoor

set_option maxRecDepth 100000 in
theorem SignedOnes_lifted (os : Os) (started : os.Started) (H : Type) (enc : TypeId × Value → H) :
    ReturnsInHanded {} Tryz.checked os 14 .any (fun w args => (Rows.signedOnesSpec.pre enc Tryz.prog Tryz.f14 [] false w args ∧ laidMetH Tryz.prog laidL w) ∧ sizedMet enc Tryz.prog Tryz.f14 (OpenSpec.ofChange Rows.signedOnesSpec) false w args)
      (Rows.signedOnesSpec.post enc Tryz.prog Tryz.f14 false true false false) := by
  refine returnsInHanded_of_change_and (C := Tryz.checked) (X := fun w _ => laidMetH Tryz.prog laidL w) (fun _ _ _ hh h => h.of_heap hh) own started (by kernel_rfl) Tryz.func14
    (ChangeSpec.witness_shaped (enc := enc) (C := Tryz.checked) (os := os) (X := fun w _ => laidMetH Tryz.prog laidL w) false (laidWorld os)
      #[.slice none 0 0, .string ⟨#[]⟩] 8 (laidWorld_os _)
      (World.shaped_of_ZipB (by kernel_rfl) (by kernel_rfl)) (by kernel_rfl) (by kernel_rfl) (by kernel_rfl) (laidWorld_met os _)) ?_
  intro W base args ds gs before hval0 hW _ hsz hL _
  have hval : ∀ (j : Nat) t v, Tryz.f14.params[j]? = some t → args[j]? = some v → Value.okWide Tryz.prog W .any base t v := hval0
  have hW' := hW
  obtain ⟨p, q, hA0, hV, rfl, _, _⟩ := hW
  have hA : DataW.TrodAll enc Tryz.prog W 0 (fun _ => true) true Tryz.f14.params.toList args.toList ds p := hA0
  have hlt : ∀ x ∈ p, x.block < W.heap.size := fun x hx => by simpa using hW'.lt x (by simp [hx])
  rw [Tryz.params14] at hA hval hsz
  obtain ⟨rfl, rfl⟩ := trodVars_none hV
  have hS := hA
  obtain ⟨v0, vs0, d0, ds0, p0, q0, e0, rfl, _, h0, hA⟩ := trodAll_cons hA
  obtain ⟨v1, vs1, d1, ds1, p1, q1, rfl, rfl, _, h1, hA⟩ := trodAll_cons hA
  obtain ⟨rfl, rfl, _⟩ := trodAll_nil hA
  obtain rfl : args = #[v0, v1] := by cases args; simp_all
  obtain ⟨A0, c0, l0, rfl, n0, g0, Q0⟩ := open_slice_argW (d := k163) o_78 Tryz.underlying78 (hval 0 78 v0 rfl rfl) h0 (fun n hn => of_decide_eq_true (List.all_eq_true.1 hsz n (weightsEach_mem 0 (t := 78) (d := d0) rfl rfl hn)))
  obtain ⟨a1, rfl, _, _, Q1⟩ := Go.ChangeMaps.open_string Tryz.underlying9 (hval 1 9 v1 rfl rfl) h1
  refine (chirographlaw17_SignedOnes.calls 140737488355530 A0 c0 l0 a1 true W g0 n0 (SignedOnes_plain _ _ (attrs_small Q0)) (hd_of_laid hL)).mono fun e W' ⟨he, hb⟩ => ?_
  subst he
  exact ⟨_, rfl, _, _, _, [], p, [], hW', trodAll_mk1 (shut_bool Tryz.underlying4 _), trodAll_stays pf_laidOut hb (by kernel_rfl) hS hlt, rfl, hb.frame _, fun h => by cases h⟩

theorem SignedOnes_inPlace : (Rows.signedOnesRow.inPlace == Tryz.prog.inPlace 14) = true := by kernel_rfl
theorem SignedOnes_unfollowed : (Rows.signedOnesRow.unfollowed == Tryz.prog.unfollowed 14) = true := by kernel_rfl
theorem SignedOnes_recurses : (Rows.signedOnesRow.recurses == Tryz.prog.recurses 14) = true := by kernel_rfl
theorem SignedOnes_named : (Rows.signedOnesRow.named == Tryz.prog.varsNamed 14) = true := by kernel_rfl
theorem SignedOnes_goes : false = Rows.signedOnesRow.goesBy Tryz.pinned.checked.prog := by kernel_rfl
theorem SignedOnes_facts : joinedFacts Tryz.pinned.checked.prog 14 Tryz.f14 Rows.signedOnesSpec Rows.signedOnesRow = true :=
  joinedFacts_of (by kernel_rfl) pf_laidOut pf_mapsRowed (by kernel_rfl) (by kernel_rfl) rfl pf_stops rfl pf_knobs SignedOnes_inPlace SignedOnes_unfollowed SignedOnes_recurses SignedOnes_named (by kernel_rfl) (by kernel_rfl) (by kernel_rfl) (by kernel_rfl) (by kernel_rfl)
    (by kernel_rfl) (by kernel_rfl) (by kernel_rfl) (by kernel_rfl) pf_plainKeys rfl pf_heard pf_mayEnter pf_lifts pf_make (by kernel_rfl) (by kernel_rfl) (by kernel_rfl) (by kernel_rfl)
theorem SignedOnes_holds : Rows.SignedOnesSaid :=
  OpenClaim.holds_of_wide 14 Tryz.f14 rfl rfl rfl rfl rfl rfl rfl ⟨rfl, rfl, rfl, rfl, rfl⟩ rfl rfl rfl rfl rfl (by kernel_rfl) Tryz.func14 SignedOnes_facts
    (of_decide_eq_true (by kernel_rfl)) (by unfold Func.isWrapper; first | (rw [if_pos (by decide +kernel)]; kernel_rfl) | (rw [if_neg (by decide +kernel)]; exact ⟨rfl, rfl⟩))
    (fun os started H enc _ => SignedOnes_lifted os started H enc)
theorem SignedOnes_card : Rows.SignedOnesCardSaid :=
  Claim7.holds_tied_plain_at .later [] [.data, .data, .data, .data, .handle, .pinned] true (true, "9ff4df7e578219656f6b5b630179cac2500b1b5439672f092528cf8164599c15") true SignedOnes_holds (fun _ h => by cases h) (by kernel_rfl) (fun _ h => by cases h) signedOnes_row_tie rfl ⟨rfl, rfl⟩ pf_mainIs rfl
    (fun f fn hf hfn => by
      obtain rfl : f = 14 := Option.some.inj ((show Tryz.prog.funcNamed "chirograph/chirographlaw17.SignedOnes" = some 14 by kernel_rfl).symm.trans hf) |>.symm
      obtain rfl : fn = Tryz.f14 := (Option.some.inj (Tryz.func14.symm.trans hfn)).symm
      exact ⟨pf_looks, fun j t ht => by
        rw [Tryz.params14] at ht
        have hm : t ∈ [78, 9] := by simpa using Array.mem_of_getElem? ht
        have hall : ([78, 9].all fun u => !Tryz.prog.wantsStandIn u) = true := by kernel_rfl
        exact (show Tryz.prog.wantsStandIn t = false by simpa using List.all_eq_true.1 hall t hm)⟩)
    SignedOnes_goes
#print axioms SignedOnes_card
end Go.Proofs.YtkioddjjfifadaaGreatDoor.P
