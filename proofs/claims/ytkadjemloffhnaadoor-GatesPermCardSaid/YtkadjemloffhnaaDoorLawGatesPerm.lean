/-
  attestor/attestorlaw23.GatesPerm returns true, whatever the arguments are, and leaves memory as it was: the row, and its tied card. Condition: the listed package variables (attestor/field.fields) read as the program's text lays them.
-/
import Derived.Test.YtkadjemloffhnaaDoorWk3
import Derived.Test.YtkadjemloffhnaaDoorRows
import Derived.Test.YtkadjemloffhnaaDoorCards
import Derived.Test.YtkadjemloffhnaaDoorTie
set_option linter.unusedSimpArgs false
set_option linter.unusedVariables false
namespace Go.Proofs.YtkadjemloffhnaaDoor
open Go Go.ChangeShapes Go.WideShapes Go.ChangeAt Go.RowKit

theorem kGatesPerm_own : ownKnob Tryd.prog.godebug = none := by kernel_rfl
theorem kGatesPerm_out : laidOutB Tryd.prog = true := by kernel_rfl
theorem kGatesPerm_mixed : Tryd.prog.follows .mixedOrders = true := by kernel_rfl

noncomputable def kGatesPerm_laid : List (String × DataW Unit) := [("attestor/field.fields", Rows.laid_attestor_field_fields)]

set_option maxRecDepth 100000 in
theorem kGatesPerm_f0 : @VE.factOk (VE.memoOf []) Tryd.prog 30 100000 kGatesPerm_laid 9 [] (.bool true) = true := by decide +kernel
theorem kGatesPerm_facts : VE.Facts Tryd.prog 30 100000 kGatesPerm_laid [(9, [], .bool true)] := ⟨kGatesPerm_f0, trivial⟩

theorem kGatesPerm_runs : VE.LawRuns Tryd.prog 30 8 6 Tryd.f6.params.toList kGatesPerm_laid := VE.gp_runs kGatesPerm_laid (by kernel_rfl)

theorem kGatesPerm_met (os : Os) (args : Array Value) : laidMetH Tryd.prog kGatesPerm_laid ((World.laidAll Tryd.prog os kGatesPerm_laid).forCall (fun _ _ => 0) ⟨#[], args, []⟩).memory := by
  rw [MakeChecks.laidMetH_plain _ _ _ (by kernel_rfl)]
  exact laidMet_laidAll _ (by kernel_rfl) (by kernel_rfl)

set_option maxRecDepth 100000 in
theorem kGatesPerm_lifted (os : Os) (started : os.Started) (H : Type) (enc : TypeId × Value → H) :
    ReturnsInHanded {} Tryd.checked os 6 .any (fun w args => (Rows.gatesPermSpec.pre enc Tryd.prog Tryd.f6 [] false w args ∧ laidMetH Tryd.prog kGatesPerm_laid w) ∧ sizedMet enc Tryd.prog Tryd.f6 (OpenSpec.ofChange Rows.gatesPermSpec) false w args)
      (Rows.gatesPermSpec.post enc Tryd.prog Tryd.f6 false true false false) :=
  VE.law_lifted (C := Tryd.checked) (tb := 4) (k := 30) (f := 8) kGatesPerm_own started (by kernel_rfl) Tryd.func6 (VE.hpar_of (by kernel_rfl)) (by kernel_rfl) (by kernel_rfl) kGatesPerm_out
    (fun ds h => by
      rw [Tryd.params6] at h
      match ds, h with
      | [_, _], _ => rfl) rfl kGatesPerm_mixed (by kernel_rfl) (fun _ _ hL => VE.memo_ok kGatesPerm_mixed hL kGatesPerm_facts) (by kernel_rfl) kGatesPerm_runs
    (ChangeSpec.witness_shaped (enc := enc) (C := Tryd.checked) (os := os) (X := fun w _ => laidMetH Tryd.prog kGatesPerm_laid w) false (World.laidAll Tryd.prog os kGatesPerm_laid) #[.int .i64 0, .agg #[.int .u64 0, .int .u64 0, .int .u64 0, .int .u64 0]] 8 (World.laidAll_os _ _ _) (World.shaped_of_ZipB (by kernel_rfl) (by kernel_rfl)) (by kernel_rfl) (by kernel_rfl) (by kernel_rfl) (kGatesPerm_met os _))

theorem gatesPerm_holds : Rows.GatesPermSaid :=
  OpenClaim.holds_of_wide 6 Tryd.f6 rfl rfl rfl rfl rfl rfl rfl ⟨rfl, rfl, rfl, rfl, rfl⟩ rfl rfl rfl rfl rfl (by kernel_rfl) Tryd.func6 (by kernel_rfl)
    (of_decide_eq_true (by kernel_rfl)) (by unfold Func.isWrapper; first | (rw [if_pos (by decide +kernel)]; kernel_rfl) | (rw [if_neg (by decide +kernel)]; exact ⟨rfl, rfl⟩))
    (fun os started H enc _ => kGatesPerm_lifted os started H enc)

theorem gatesPerm_card : Rows.GatesPermCardSaid :=
  Claim7.holds_tied_plain_at .later [] [.widerDeep] true (true, "44df7daf55985aea251c66f49be4a90269b22bd9e8426c195f22f9f5aabd0083") false
    gatesPerm_holds (fun _ h => by cases h) (by kernel_rfl) (fun _ h => by cases h) gatesPerm_row_tie rfl ⟨rfl, rfl⟩ (by kernel_rfl) rfl
    (fun f fn hf hfn => by
      obtain rfl : f = 6 := Option.some.inj ((show Tryd.prog.funcNamed "attestor/attestorlaw23.GatesPerm" = some 6 by kernel_rfl).symm.trans hf) |>.symm
      obtain rfl : fn = Tryd.f6 := (Option.some.inj (Tryd.func6.symm.trans hfn)).symm
      exact ⟨by kernel_rfl, fun j t ht => VE.par_none (p := Tryd.f6.params) (q := Tryd.prog.wantsStandIn) (by kernel_rfl) ht⟩)
    (by kernel_rfl)
#print axioms gatesPerm_card
end Go.Proofs.YtkadjemloffhnaaDoor
