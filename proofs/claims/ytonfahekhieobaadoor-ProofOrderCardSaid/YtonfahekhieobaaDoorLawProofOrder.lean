/-
  attestor/attestorlaw17.ProofOrder returns true, whatever the arguments are, and leaves memory as it was: the row, and its tied card. Condition: the listed package variables (attestor/field.fields) read as the program's text lays them.
-/
import Derived.Test.YtonfahekhieobaaDoorWk3
import Derived.Test.YtonfahekhieobaaDoorRows
import Derived.Test.YtonfahekhieobaaDoorCards
import Derived.Test.YtonfahekhieobaaDoorTie
set_option linter.unusedSimpArgs false
set_option linter.unusedVariables false
namespace Go.Proofs.YtonfahekhieobaaDoor
open Go Go.ChangeShapes Go.WideShapes Go.ChangeAt Go.RowKit

theorem kProofOrder_own : ownKnob Tryd.prog.godebug = none := by kernel_rfl
theorem kProofOrder_out : laidOutB Tryd.prog = true := by kernel_rfl
theorem kProofOrder_mixed : Tryd.prog.follows .mixedOrders = true := by kernel_rfl

noncomputable def kProofOrder_laid : List (String × DataW Unit) := [("attestor/field.fields", Rows.laid_attestor_field_fields)]

theorem kProofOrder_facts : VE.Facts Tryd.prog 30 100000 kProofOrder_laid [] := trivial

theorem kProofOrder_runs : VE.LawRuns Tryd.prog 30 8 7 Tryd.f7.params.toList kProofOrder_laid := VE.po_runs kProofOrder_laid (by kernel_rfl)

theorem kProofOrder_met (os : Os) (args : Array Value) : laidMetH Tryd.prog kProofOrder_laid ((World.laidAll Tryd.prog os kProofOrder_laid).forCall (fun _ _ => 0) ⟨#[], args, []⟩).memory := by
  rw [MakeChecks.laidMetH_plain _ _ _ (by kernel_rfl)]
  exact laidMet_laidAll _ (by kernel_rfl) (by kernel_rfl)

set_option maxRecDepth 100000 in
theorem kProofOrder_lifted (os : Os) (started : os.Started) (H : Type) (enc : TypeId × Value → H) :
    ReturnsInHanded {} Tryd.checked os 7 .any (fun w args => (Rows.proofOrderSpec.pre enc Tryd.prog Tryd.f7 [] false w args ∧ laidMetH Tryd.prog kProofOrder_laid w) ∧ sizedMet enc Tryd.prog Tryd.f7 (OpenSpec.ofChange Rows.proofOrderSpec) false w args)
      (Rows.proofOrderSpec.post enc Tryd.prog Tryd.f7 false true false false) :=
  VE.law_lifted (C := Tryd.checked) (tb := 4) (k := 30) (f := 8) kProofOrder_own started (by kernel_rfl) Tryd.func7 (VE.hpar_of (by kernel_rfl)) (by kernel_rfl) (by kernel_rfl) kProofOrder_out
    (fun ds h => by
      rw [Tryd.params7] at h
      match ds, h with
      | [_, _], _ => rfl) rfl kProofOrder_mixed (by kernel_rfl) (fun _ _ hL => VE.memo_ok kProofOrder_mixed hL kProofOrder_facts) (by kernel_rfl) kProofOrder_runs
    (ChangeSpec.witness_shaped (enc := enc) (C := Tryd.checked) (os := os) (X := fun w _ => laidMetH Tryd.prog kProofOrder_laid w) false (World.laidAll Tryd.prog os kProofOrder_laid) #[.agg #[.int .i64 0, .int .i64 0, .int .i64 0, .int .i64 0, .int .i64 0, .int .i64 0, .int .i64 0, .int .i64 0, .int .i64 0], .int .u64 0] 8 (World.laidAll_os _ _ _) (World.shaped_of_ZipB (by kernel_rfl) (by kernel_rfl)) (by kernel_rfl) (by kernel_rfl) (by kernel_rfl) (kProofOrder_met os _))

theorem proofOrder_holds : Rows.ProofOrderSaid :=
  OpenClaim.holds_of_wide 7 Tryd.f7 rfl rfl rfl rfl rfl rfl rfl ⟨rfl, rfl, rfl, rfl, rfl⟩ rfl rfl rfl rfl rfl (by kernel_rfl) Tryd.func7 (by kernel_rfl)
    (of_decide_eq_true (by kernel_rfl)) (by unfold Func.isWrapper; first | (rw [if_pos (by decide +kernel)]; kernel_rfl) | (rw [if_neg (by decide +kernel)]; exact ⟨rfl, rfl⟩))
    (fun os started H enc _ => kProofOrder_lifted os started H enc)

theorem proofOrder_card : Rows.ProofOrderCardSaid :=
  Claim7.holds_tied_plain_at .later [] [.widerDeep] true (true, "591ca527095e26df220353c8340c1e2c342f4fd1f0bdb2bc889bcdebb1b7c9c2") false
    proofOrder_holds (fun _ h => by cases h) (by kernel_rfl) (fun _ h => by cases h) proofOrder_row_tie rfl ⟨rfl, rfl⟩ (by kernel_rfl) rfl
    (fun f fn hf hfn => by
      obtain rfl : f = 7 := Option.some.inj ((show Tryd.prog.funcNamed "attestor/attestorlaw17.ProofOrder" = some 7 by kernel_rfl).symm.trans hf) |>.symm
      obtain rfl : fn = Tryd.f7 := (Option.some.inj (Tryd.func7.symm.trans hfn)).symm
      exact ⟨by kernel_rfl, fun j t ht => VE.par_none (p := Tryd.f7.params) (q := Tryd.prog.wantsStandIn) (by kernel_rfl) ht⟩)
    (by kernel_rfl)
#print axioms proofOrder_card
end Go.Proofs.YtonfahekhieobaaDoor
