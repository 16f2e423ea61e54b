/-
  attestor/attestorlaw30.CircuitNil returns true, whatever the arguments are, and leaves memory as it was: the row, and its tied card. Condition: the listed package variables (attestor/field.fields) read as the program's text lays them.
-/
import Derived.Test.YteamclmopokioaaDoorWk2
import Derived.Test.YteamclmopokioaaDoorRows
import Derived.Test.YteamclmopokioaaDoorCards
import Derived.Test.YteamclmopokioaaDoorTie
set_option linter.unusedSimpArgs false
set_option linter.unusedVariables false
namespace Go.Proofs.YteamclmopokioaaDoor
open Go Go.ChangeShapes Go.WideShapes Go.ChangeAt Go.RowKit

theorem kCircuitNil_own : ownKnob Tryd.prog.godebug = none := by kernel_rfl
theorem kCircuitNil_out : laidOutB Tryd.prog = true := by kernel_rfl
theorem kCircuitNil_mixed : Tryd.prog.follows .mixedOrders = true := by kernel_rfl

noncomputable def kCircuitNil_laid : List (String × DataW Unit) := [("attestor/field.fields", Rows.laid_attestor_field_fields)]

set_option maxRecDepth 100000 in
theorem kCircuitNil_f0 : @VE.factOk (VE.memoOf []) Tryd.prog 30 100000 kCircuitNil_laid 15 [] (.bool true) = true := by decide +kernel
theorem kCircuitNil_facts : VE.Facts Tryd.prog 30 100000 kCircuitNil_laid [(15, [], .bool true)] := ⟨kCircuitNil_f0, trivial⟩

theorem kCircuitNil_runs : VE.LawRuns Tryd.prog 30 8 8 Tryd.f8.params.toList kCircuitNil_laid := VE.nil_runs kCircuitNil_laid (by kernel_rfl)

theorem kCircuitNil_met (os : Os) (args : Array Value) : laidMetH Tryd.prog kCircuitNil_laid ((World.laidAll Tryd.prog os kCircuitNil_laid).forCall (fun _ _ => 0) ⟨#[], args, []⟩).memory := by
  rw [MakeChecks.laidMetH_plain _ _ _ (by kernel_rfl)]
  exact laidMet_laidAll _ (by kernel_rfl) (by kernel_rfl)

set_option maxRecDepth 100000 in
theorem kCircuitNil_lifted (os : Os) (started : os.Started) (H : Type) (enc : TypeId × Value → H) :
    ReturnsInHanded {} Tryd.checked os 8 .any (fun w args => (Rows.circuitNilSpec.pre enc Tryd.prog Tryd.f8 [] false w args ∧ laidMetH Tryd.prog kCircuitNil_laid w) ∧ sizedMet enc Tryd.prog Tryd.f8 (OpenSpec.ofChange Rows.circuitNilSpec) false w args)
      (Rows.circuitNilSpec.post enc Tryd.prog Tryd.f8 false true false false) :=
  VE.law_lifted (C := Tryd.checked) (tb := 4) (k := 30) (f := 8) kCircuitNil_own started (by kernel_rfl) Tryd.func8 (VE.hpar_of (by kernel_rfl)) (by kernel_rfl) (by kernel_rfl) kCircuitNil_out
    (fun ds h => by
      rw [Tryd.params8] at h
      match ds, h with
      | [_], _ => rfl) rfl kCircuitNil_mixed (by kernel_rfl) (fun _ _ hL => VE.memo_ok kCircuitNil_mixed hL kCircuitNil_facts) (by kernel_rfl) kCircuitNil_runs
    (ChangeSpec.witness_shaped (enc := enc) (C := Tryd.checked) (os := os) (X := fun w _ => laidMetH Tryd.prog kCircuitNil_laid w) false (World.laidAll Tryd.prog os kCircuitNil_laid) #[.agg #[.int .u8 0, .slice none 0 0, .int .u64 0, .int .u64 0, .int .u64 0]] 8 (World.laidAll_os _ _ _) (World.shaped_of_ZipB (by kernel_rfl) (by kernel_rfl)) (by kernel_rfl) (by kernel_rfl) (by kernel_rfl) (kCircuitNil_met os _))

theorem circuitNil_holds : Rows.CircuitNilSaid :=
  OpenClaim.holds_of_wide 8 Tryd.f8 rfl rfl rfl rfl rfl rfl rfl ⟨rfl, rfl, rfl, rfl, rfl⟩ rfl rfl rfl rfl rfl (by kernel_rfl) Tryd.func8 (by kernel_rfl)
    (of_decide_eq_true (by kernel_rfl)) (by unfold Func.isWrapper; first | (rw [if_pos (by decide +kernel)]; kernel_rfl) | (rw [if_neg (by decide +kernel)]; exact ⟨rfl, rfl⟩))
    (fun os started H enc _ => kCircuitNil_lifted os started H enc)

theorem circuitNil_card : Rows.CircuitNilCardSaid :=
  Claim7.holds_tied_plain_at .later [] [.widerDeep] true (true, "5c76cce581e7bcdc4e1e98e364da076c32564aa721fff4b97ce6b78be4e6ab99") false
    circuitNil_holds (fun _ h => by cases h) (by kernel_rfl) (fun _ h => by cases h) circuitNil_row_tie rfl ⟨rfl, rfl⟩ (by kernel_rfl) rfl
    (fun f fn hf hfn => by
      obtain rfl : f = 8 := Option.some.inj ((show Tryd.prog.funcNamed "attestor/attestorlaw30.CircuitNil" = some 8 by kernel_rfl).symm.trans hf) |>.symm
      obtain rfl : fn = Tryd.f8 := (Option.some.inj (Tryd.func8.symm.trans hfn)).symm
      exact ⟨by kernel_rfl, fun j t ht => VE.par_none (p := Tryd.f8.params) (q := Tryd.prog.wantsStandIn) (by kernel_rfl) ht⟩)
    (by kernel_rfl)
#print axioms circuitNil_card
end Go.Proofs.YteamclmopokioaaDoor
