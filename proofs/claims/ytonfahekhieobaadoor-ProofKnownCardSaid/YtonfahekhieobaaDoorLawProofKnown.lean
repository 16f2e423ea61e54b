/-
  attestor/attestorlaw17.ProofKnown returns true, whatever the arguments are, and leaves memory as it was: the row, and its tied card. Condition: the listed package variables (attestor/field.fields) read as the program's text lays them.
-/
import Derived.Test.YtonfahekhieobaaDoorWk3
import Derived.Test.YtonfahekhieobaaDoorRows
import Derived.Test.YtonfahekhieobaaDoorCards
import Derived.Test.YtonfahekhieobaaDoorTie
set_option linter.unusedSimpArgs false
set_option linter.unusedVariables false
namespace Go.Proofs.YtonfahekhieobaaDoor
open Go Go.ChangeShapes Go.WideShapes Go.ChangeAt Go.RowKit

theorem kProofKnown_own : ownKnob Tryd.prog.godebug = none := by kernel_rfl
theorem kProofKnown_out : laidOutB Tryd.prog = true := by kernel_rfl
theorem kProofKnown_mixed : Tryd.prog.follows .mixedOrders = true := by kernel_rfl

noncomputable def kProofKnown_laid : List (String × DataW Unit) := [("attestor/field.fields", Rows.laid_attestor_field_fields)]

theorem kProofKnown_facts : VE.Facts Tryd.prog 30 100000 kProofKnown_laid [] := trivial

theorem kProofKnown_runs : VE.LawRuns Tryd.prog 30 8 8 Tryd.f8.params.toList kProofKnown_laid := VE.kn_runs kProofKnown_laid (by kernel_rfl)

theorem kProofKnown_met (os : Os) (args : Array Value) : laidMetH Tryd.prog kProofKnown_laid ((World.laidAll Tryd.prog os kProofKnown_laid).forCall (fun _ _ => 0) ⟨#[], args, []⟩).memory := by
  rw [MakeChecks.laidMetH_plain _ _ _ (by kernel_rfl)]
  exact laidMet_laidAll _ (by kernel_rfl) (by kernel_rfl)

set_option maxRecDepth 100000 in
theorem kProofKnown_lifted (os : Os) (started : os.Started) (H : Type) (enc : TypeId × Value → H) :
    ReturnsInHanded {} Tryd.checked os 8 .any (fun w args => (Rows.proofKnownSpec.pre enc Tryd.prog Tryd.f8 [] false w args ∧ laidMetH Tryd.prog kProofKnown_laid w) ∧ sizedMet enc Tryd.prog Tryd.f8 (OpenSpec.ofChange Rows.proofKnownSpec) false w args)
      (Rows.proofKnownSpec.post enc Tryd.prog Tryd.f8 false true false false) :=
  VE.law_lifted (C := Tryd.checked) (tb := 4) (k := 30) (f := 8) kProofKnown_own started (by kernel_rfl) Tryd.func8 (VE.hpar_of (by kernel_rfl)) (by kernel_rfl) (by kernel_rfl) kProofKnown_out
    (fun ds h => by
      rw [Tryd.params8] at h
      match ds, h with
      | [], _ => rfl) rfl kProofKnown_mixed (by kernel_rfl) (fun _ _ hL => VE.memo_ok kProofKnown_mixed hL kProofKnown_facts) (by kernel_rfl) kProofKnown_runs
    (ChangeSpec.witness_shaped (enc := enc) (C := Tryd.checked) (os := os) (X := fun w _ => laidMetH Tryd.prog kProofKnown_laid w) false (World.laidAll Tryd.prog os kProofKnown_laid) #[] 8 (World.laidAll_os _ _ _) (World.shaped_of_ZipB (by kernel_rfl) (by kernel_rfl)) (by kernel_rfl) (by kernel_rfl) (by kernel_rfl) (kProofKnown_met os _))

theorem proofKnown_holds : Rows.ProofKnownSaid :=
  OpenClaim.holds_of_wide 8 Tryd.f8 rfl rfl rfl rfl rfl rfl rfl ⟨rfl, rfl, rfl, rfl, rfl⟩ rfl rfl rfl rfl rfl (by kernel_rfl) Tryd.func8 (by kernel_rfl)
    (of_decide_eq_true (by kernel_rfl)) (by unfold Func.isWrapper; first | (rw [if_pos (by decide +kernel)]; kernel_rfl) | (rw [if_neg (by decide +kernel)]; exact ⟨rfl, rfl⟩))
    (fun os started H enc _ => kProofKnown_lifted os started H enc)

theorem proofKnown_card : Rows.ProofKnownCardSaid :=
  Claim7.holds_tied_plain_at .later [] [.widerDeep] true (true, "591ca527095e26df220353c8340c1e2c342f4fd1f0bdb2bc889bcdebb1b7c9c2") false
    proofKnown_holds (fun _ h => by cases h) (by kernel_rfl) (fun _ h => by cases h) proofKnown_row_tie rfl ⟨rfl, rfl⟩ (by kernel_rfl) rfl
    (fun f fn hf hfn => by
      obtain rfl : f = 8 := Option.some.inj ((show Tryd.prog.funcNamed "attestor/attestorlaw17.ProofKnown" = some 8 by kernel_rfl).symm.trans hf) |>.symm
      obtain rfl : fn = Tryd.f8 := (Option.some.inj (Tryd.func8.symm.trans hfn)).symm
      exact ⟨by kernel_rfl, fun j t ht => VE.par_none (p := Tryd.f8.params) (q := Tryd.prog.wantsStandIn) (by kernel_rfl) ht⟩)
    (by kernel_rfl)
#print axioms proofKnown_card
end Go.Proofs.YtonfahekhieobaaDoor
