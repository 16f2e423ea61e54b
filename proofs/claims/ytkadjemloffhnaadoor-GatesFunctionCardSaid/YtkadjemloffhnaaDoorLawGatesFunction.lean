/-
  attestor/attestorlaw23.GatesFunction returns true, whatever the arguments are, and leaves memory as it was: the row, and its tied card. Condition: the listed package variables (attestor/field.fields) read as the program's text lays them.
-/
import Derived.Test.YtkadjemloffhnaaDoorWk3
import Derived.Test.YtkadjemloffhnaaDoorRows
import Derived.Test.YtkadjemloffhnaaDoorCards
import Derived.Test.YtkadjemloffhnaaDoorTie
set_option linter.unusedSimpArgs false
set_option linter.unusedVariables false
namespace Go.Proofs.YtkadjemloffhnaaDoor
open Go Go.ChangeShapes Go.WideShapes Go.ChangeAt Go.RowKit

theorem kGatesFunction_own : ownKnob Tryd.prog.godebug = none := by kernel_rfl
theorem kGatesFunction_out : laidOutB Tryd.prog = true := by kernel_rfl
theorem kGatesFunction_mixed : Tryd.prog.follows .mixedOrders = true := by kernel_rfl

noncomputable def kGatesFunction_laid : List (String × DataW Unit) := [("attestor/field.fields", Rows.laid_attestor_field_fields)]

set_option maxRecDepth 100000 in
theorem kGatesFunction_f0 : @VE.factOk (VE.memoOf []) Tryd.prog 30 100000 kGatesFunction_laid 9 [] (.bool true) = true := by decide +kernel
theorem kGatesFunction_facts : VE.Facts Tryd.prog 30 100000 kGatesFunction_laid [(9, [], .bool true)] := ⟨kGatesFunction_f0, trivial⟩

theorem kGatesFunction_runs : VE.LawRuns Tryd.prog 30 8 4 Tryd.f4.params.toList kGatesFunction_laid := VE.gf_runs kGatesFunction_laid (by kernel_rfl)

theorem kGatesFunction_met (os : Os) (args : Array Value) : laidMetH Tryd.prog kGatesFunction_laid ((World.laidAll Tryd.prog os kGatesFunction_laid).forCall (fun _ _ => 0) ⟨#[], args, []⟩).memory := by
  rw [MakeChecks.laidMetH_plain _ _ _ (by kernel_rfl)]
  exact laidMet_laidAll _ (by kernel_rfl) (by kernel_rfl)

set_option maxRecDepth 100000 in
theorem kGatesFunction_lifted (os : Os) (started : os.Started) (H : Type) (enc : TypeId × Value → H) :
    ReturnsInHanded {} Tryd.checked os 4 .any (fun w args => (Rows.gatesFunctionSpec.pre enc Tryd.prog Tryd.f4 [] false w args ∧ laidMetH Tryd.prog kGatesFunction_laid w) ∧ sizedMet enc Tryd.prog Tryd.f4 (OpenSpec.ofChange Rows.gatesFunctionSpec) false w args)
      (Rows.gatesFunctionSpec.post enc Tryd.prog Tryd.f4 false true false false) :=
  VE.law_lifted (C := Tryd.checked) (tb := 4) (k := 30) (f := 8) kGatesFunction_own started (by kernel_rfl) Tryd.func4 (VE.hpar_of (by kernel_rfl)) (by kernel_rfl) (by kernel_rfl) kGatesFunction_out
    (fun ds h => by
      rw [Tryd.params4] at h
      match ds, h with
      | [_, _], _ => rfl) rfl kGatesFunction_mixed (by kernel_rfl) (fun _ _ hL => VE.memo_ok kGatesFunction_mixed hL kGatesFunction_facts) (by kernel_rfl) kGatesFunction_runs
    (ChangeSpec.witness_shaped (enc := enc) (C := Tryd.checked) (os := os) (X := fun w _ => laidMetH Tryd.prog kGatesFunction_laid w) false (World.laidAll Tryd.prog os kGatesFunction_laid) #[.agg #[.int .i64 0, .int .i64 0, .int .i64 0, .int .i64 0, .slice none 0 0], .slice none 0 0] 8 (World.laidAll_os _ _ _) (World.shaped_of_ZipB (by kernel_rfl) (by kernel_rfl)) (by kernel_rfl) (by kernel_rfl) (by kernel_rfl) (kGatesFunction_met os _))

theorem gatesFunction_holds : Rows.GatesFunctionSaid :=
  OpenClaim.holds_of_wide 4 Tryd.f4 rfl rfl rfl rfl rfl rfl rfl ⟨rfl, rfl, rfl, rfl, rfl⟩ rfl rfl rfl rfl rfl (by kernel_rfl) Tryd.func4 (by kernel_rfl)
    (of_decide_eq_true (by kernel_rfl)) (by unfold Func.isWrapper; first | (rw [if_pos (by decide +kernel)]; kernel_rfl) | (rw [if_neg (by decide +kernel)]; exact ⟨rfl, rfl⟩))
    (fun os started H enc _ => kGatesFunction_lifted os started H enc)

theorem gatesFunction_card : Rows.GatesFunctionCardSaid :=
  Claim7.holds_tied_plain_at .later [] [.widerDeep] true (true, "44df7daf55985aea251c66f49be4a90269b22bd9e8426c195f22f9f5aabd0083") false
    gatesFunction_holds (fun _ h => by cases h) (by kernel_rfl) (fun _ h => by cases h) gatesFunction_row_tie rfl ⟨rfl, rfl⟩ (by kernel_rfl) rfl
    (fun f fn hf hfn => by
      obtain rfl : f = 4 := Option.some.inj ((show Tryd.prog.funcNamed "attestor/attestorlaw23.GatesFunction" = some 4 by kernel_rfl).symm.trans hf) |>.symm
      obtain rfl : fn = Tryd.f4 := (Option.some.inj (Tryd.func4.symm.trans hfn)).symm
      exact ⟨by kernel_rfl, fun j t ht => VE.par_none (p := Tryd.f4.params) (q := Tryd.prog.wantsStandIn) (by kernel_rfl) ht⟩)
    (by kernel_rfl)
#print axioms gatesFunction_card
end Go.Proofs.YtkadjemloffhnaaDoor
