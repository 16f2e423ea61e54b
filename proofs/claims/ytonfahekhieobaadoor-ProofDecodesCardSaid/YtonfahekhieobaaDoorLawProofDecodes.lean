/-
 attestor/attestorlaw17.ProofDecodes returns true, whatever the arguments are, and leaves memory as it was: the row, and its tied card. Condition: the listed package variables (attestor/field.fields) read as the program's text lays them.
-/
import Derived.Test.YtonfahekhieobaaDoorWk4
import Derived.Test.YtonfahekhieobaaDoorRows
import Derived.Test.YtonfahekhieobaaDoorCards
import Derived.Test.YtonfahekhieobaaDoorTie
set_option linter.unusedSimpArgs false
set_option linter.unusedVariables false
namespace Go.Proofs.YtonfahekhieobaaDoor
open Go Go.ChangeShapes Go.WideShapes Go.ChangeAt Go.RowKit

theorem kProofDecodes_own : ownKnob Tryd.prog.godebug = none := by kernel_rfl
theorem kProofDecodes_out : laidOutB Tryd.prog = true := by kernel_rfl
theorem kProofDecodes_mixed : Tryd.prog.follows .mixedOrders = true := by kernel_rfl

noncomputable def kProofDecodes_laid : List (String × DataW Unit) := [("attestor/field.fields", Rows.laid_attestor_field_fields)]

theorem kProofDecodes_facts : VE.Facts Tryd.prog 30 100000 kProofDecodes_laid [] := trivial

theorem kProofDecodes_runs : VE.LawRuns Tryd.prog 30 8 4 Tryd.f4.params.toList kProofDecodes_laid := VE.pd_runs kProofDecodes_laid (by kernel_rfl)

theorem kProofDecodes_met (os : Os) (args : Array Value) : laidMetH Tryd.prog kProofDecodes_laid ((World.laidAll Tryd.prog os kProofDecodes_laid).forCall (fun _ _ => 0) ⟨#[], args, []⟩).memory := by
 rw [MakeChecks.laidMetH_plain _ _ _ (by kernel_rfl)]
 exact laidMet_laidAll _ (by kernel_rfl) (by kernel_rfl)

set_option maxRecDepth 100000 in
theorem kProofDecodes_lifted (os : Os) (started : os.Started) (H : Type) (enc : TypeId × Value → H) :
  ReturnsInHanded {} Tryd.checked os 4 .any (fun w args => (Rows.proofDecodesSpec.pre enc Tryd.prog Tryd.f4 [] false w args ∧ laidMetH Tryd.prog kProofDecodes_laid w) ∧ sizedMet enc Tryd.prog Tryd.f4 (OpenSpec.ofChange Rows.proofDecodesSpec) false w args)
   (Rows.proofDecodesSpec.post enc Tryd.prog Tryd.f4 false true false false) :=
 VE.law_lifted (C := Tryd.checked) (tb := 4) (k := 30) (f := 8) kProofDecodes_own started (by kernel_rfl) Tryd.func4 (VE.hpar_of (by kernel_rfl)) (by kernel_rfl) (by kernel_rfl) kProofDecodes_out
  (fun ds h => by
   rw [Tryd.params4] at h
   match ds, h with
   | [_, _], _ => rfl) rfl kProofDecodes_mixed (by kernel_rfl) (fun _ _ hL => VE.memo_ok kProofDecodes_mixed hL kProofDecodes_facts) (by kernel_rfl) kProofDecodes_runs
  (ChangeSpec.witness_shaped (enc := enc) (C := Tryd.checked) (os := os) (X := fun w _ => laidMetH Tryd.prog kProofDecodes_laid w) false (World.laidAll Tryd.prog os kProofDecodes_laid) #[.agg #[.int .i64 0, .int .i64 0, .int .i64 0, .int .i64 0, .int .i64 0, .int .i64 0, .int .i64 0, .int .i64 0, .int .i64 0], .slice none 0 0] 8 (World.laidAll_os _ _ _) (World.shaped_of_ZipB (by kernel_rfl) (by kernel_rfl)) (by kernel_rfl) (by kernel_rfl) (by kernel_rfl) (kProofDecodes_met os _))

theorem proofDecodes_holds : Rows.ProofDecodesSaid :=
 OpenClaim.holds_of_wide 4 Tryd.f4 rfl rfl rfl rfl rfl rfl rfl ⟨rfl, rfl, rfl, rfl, rfl⟩ rfl rfl rfl rfl rfl (by kernel_rfl) Tryd.func4 (by kernel_rfl)
  (of_decide_eq_true (by kernel_rfl)) (by unfold Func.isWrapper; first | (rw [if_pos (by decide +kernel)]; kernel_rfl) | (rw [if_neg (by decide +kernel)]; exact ⟨rfl, rfl⟩))
  (fun os started H enc _ => kProofDecodes_lifted os started H enc)

theorem proofDecodes_card : Rows.ProofDecodesCardSaid :=
 Claim7.holds_tied_plain_at .later [] [.widerDeep] true (true, "591ca527095e26df220353c8340c1e2c342f4fd1f0bdb2bc889bcdebb1b7c9c2") false
  proofDecodes_holds (fun _ h => by cases h) (by kernel_rfl) (fun _ h => by cases h) proofDecodes_row_tie rfl ⟨rfl, rfl⟩ (by kernel_rfl) rfl
  (fun f fn hf hfn => by
   obtain rfl : f = 4 := Option.some.inj ((show Tryd.prog.funcNamed "attestor/attestorlaw17.ProofDecodes" = some 4 by kernel_rfl).symm.trans hf) |>.symm
   obtain rfl : fn = Tryd.f4 := (Option.some.inj (Tryd.func4.symm.trans hfn)).symm
   exact ⟨by kernel_rfl, fun j t ht => VE.par_none (p := Tryd.f4.params) (q := Tryd.prog.wantsStandIn) (by kernel_rfl) ht⟩)
  (by kernel_rfl)
#print axioms proofDecodes_card
end Go.Proofs.YtonfahekhieobaaDoor
