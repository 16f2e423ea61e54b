/-
  attestor/attestorlaw17.ProofBytes returns true, whatever the arguments are, and leaves memory as it was: the row, and its tied card. Condition: the listed package variables (attestor/field.fields) read as the program's text lays them.
-/
import Derived.Test.YtonfahekhieobaaDoorWk3
import Derived.Test.YtonfahekhieobaaDoorRows
import Derived.Test.YtonfahekhieobaaDoorCards
import Derived.Test.YtonfahekhieobaaDoorTie
set_option linter.unusedSimpArgs false
set_option linter.unusedVariables false
namespace Go.Proofs.YtonfahekhieobaaDoor
open Go Go.ChangeShapes Go.WideShapes Go.ChangeAt Go.RowKit

theorem kProofBytes_own : ownKnob Tryd.prog.godebug = none := by kernel_rfl
theorem kProofBytes_out : laidOutB Tryd.prog = true := by kernel_rfl
theorem kProofBytes_mixed : Tryd.prog.follows .mixedOrders = true := by kernel_rfl

noncomputable def kProofBytes_laid : List (String × DataW Unit) := [("attestor/field.fields", Rows.laid_attestor_field_fields)]

theorem kProofBytes_facts : VE.Facts Tryd.prog 30 100000 kProofBytes_laid [] := trivial

theorem kProofBytes_runs : VE.LawRuns Tryd.prog 30 8 6 Tryd.f6.params.toList kProofBytes_laid := VE.pb_runs kProofBytes_laid (by kernel_rfl)

theorem kProofBytes_met (os : Os) (args : Array Value) : laidMetH Tryd.prog kProofBytes_laid ((World.laidAll Tryd.prog os kProofBytes_laid).forCall (fun _ _ => 0) ⟨#[], args, []⟩).memory := by
  rw [MakeChecks.laidMetH_plain _ _ _ (by kernel_rfl)]
  exact laidMet_laidAll _ (by kernel_rfl) (by kernel_rfl)

set_option maxRecDepth 100000 in
theorem kProofBytes_lifted (os : Os) (started : os.Started) (H : Type) (enc : TypeId × Value → H) :
    ReturnsInHanded {} Tryd.checked os 6 .any (fun w args => (Rows.proofBytesSpec.pre enc Tryd.prog Tryd.f6 [] false w args ∧ laidMetH Tryd.prog kProofBytes_laid w) ∧ sizedMet enc Tryd.prog Tryd.f6 (OpenSpec.ofChange Rows.proofBytesSpec) false w args)
      (Rows.proofBytesSpec.post enc Tryd.prog Tryd.f6 false true false false) :=
  VE.law_lifted (C := Tryd.checked) (tb := 4) (k := 30) (f := 8) kProofBytes_own started (by kernel_rfl) Tryd.func6 (VE.hpar_of (by kernel_rfl)) (by kernel_rfl) (by kernel_rfl) kProofBytes_out
    (fun ds h => by
      rw [Tryd.params6] at h
      match ds, h with
      | [_, _, _, _], _ => rfl) rfl kProofBytes_mixed (by kernel_rfl) (fun _ _ hL => VE.memo_ok kProofBytes_mixed hL kProofBytes_facts) (by kernel_rfl) kProofBytes_runs
    (ChangeSpec.witness_shaped (enc := enc) (C := Tryd.checked) (os := os) (X := fun w _ => laidMetH Tryd.prog kProofBytes_laid w) false (World.laidAll Tryd.prog os kProofBytes_laid) #[.agg #[.int .i64 0, .int .i64 0, .int .i64 0, .int .i64 0, .int .i64 0, .int .i64 0, .int .i64 0, .int .i64 0, .int .i64 0], .int .u64 0, .int .u32 0, .int .u8 0] 8 (World.laidAll_os _ _ _) (World.shaped_of_ZipB (by kernel_rfl) (by kernel_rfl)) (by kernel_rfl) (by kernel_rfl) (by kernel_rfl) (kProofBytes_met os _))

theorem proofBytes_holds : Rows.ProofBytesSaid :=
  OpenClaim.holds_of_wide 6 Tryd.f6 rfl rfl rfl rfl rfl rfl rfl ⟨rfl, rfl, rfl, rfl, rfl⟩ rfl rfl rfl rfl rfl (by kernel_rfl) Tryd.func6 (by kernel_rfl)
    (of_decide_eq_true (by kernel_rfl)) (by unfold Func.isWrapper; first | (rw [if_pos (by decide +kernel)]; kernel_rfl) | (rw [if_neg (by decide +kernel)]; exact ⟨rfl, rfl⟩))
    (fun os started H enc _ => kProofBytes_lifted os started H enc)

theorem proofBytes_card : Rows.ProofBytesCardSaid :=
  Claim7.holds_tied_plain_at .later [] [.widerDeep] true (true, "591ca527095e26df220353c8340c1e2c342f4fd1f0bdb2bc889bcdebb1b7c9c2") false
    proofBytes_holds (fun _ h => by cases h) (by kernel_rfl) (fun _ h => by cases h) proofBytes_row_tie rfl ⟨rfl, rfl⟩ (by kernel_rfl) rfl
    (fun f fn hf hfn => by
      obtain rfl : f = 6 := Option.some.inj ((show Tryd.prog.funcNamed "attestor/attestorlaw17.ProofBytes" = some 6 by kernel_rfl).symm.trans hf) |>.symm
      obtain rfl : fn = Tryd.f6 := (Option.some.inj (Tryd.func6.symm.trans hfn)).symm
      exact ⟨by kernel_rfl, fun j t ht => VE.par_none (p := Tryd.f6.params) (q := Tryd.prog.wantsStandIn) (by kernel_rfl) ht⟩)
    (by kernel_rfl)
#print axioms proofBytes_card
end Go.Proofs.YtonfahekhieobaaDoor
