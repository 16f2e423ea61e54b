/-
  attestor/attestorlaw30.CircuitBits returns true, whatever the arguments are, and leaves memory as it was: the row, and its tied card. Condition: the listed package variables (attestor/field.fields) read as the program's text lays them.
-/
import Derived.Test.YteamclmopokioaaDoorWk3
import Derived.Test.YteamclmopokioaaDoorRows
import Derived.Test.YteamclmopokioaaDoorCards
import Derived.Test.YteamclmopokioaaDoorTie
set_option linter.unusedSimpArgs false
set_option linter.unusedVariables false
namespace Go.Proofs.YteamclmopokioaaDoor
open Go Go.ChangeShapes Go.WideShapes Go.ChangeAt Go.RowKit

theorem kCircuitBits_own : ownKnob Tryd.prog.godebug = none := by kernel_rfl
theorem kCircuitBits_out : laidOutB Tryd.prog = true := by kernel_rfl
theorem kCircuitBits_mixed : Tryd.prog.follows .mixedOrders = true := by kernel_rfl

noncomputable def kCircuitBits_laid : List (String × DataW Unit) := [("attestor/field.fields", Rows.laid_attestor_field_fields)]

set_option maxRecDepth 100000 in
theorem kCircuitBits_f0 : @VE.factOk (VE.memoOf []) Tryd.prog 30 100000 kCircuitBits_laid 15 [] (.bool true) = true := by decide +kernel
theorem kCircuitBits_facts : VE.Facts Tryd.prog 30 100000 kCircuitBits_laid [(15, [], .bool true)] := ⟨kCircuitBits_f0, trivial⟩

theorem kCircuitBits_runs : VE.LawRuns Tryd.prog 30 8 7 Tryd.f7.params.toList kCircuitBits_laid := VE.bt_runs kCircuitBits_laid (by kernel_rfl)

theorem kCircuitBits_met (os : Os) (args : Array Value) : laidMetH Tryd.prog kCircuitBits_laid ((World.laidAll Tryd.prog os kCircuitBits_laid).forCall (fun _ _ => 0) ⟨#[], args, []⟩).memory := by
  rw [MakeChecks.laidMetH_plain _ _ _ (by kernel_rfl)]
  exact laidMet_laidAll _ (by kernel_rfl) (by kernel_rfl)

set_option maxRecDepth 100000 in
theorem kCircuitBits_lifted (os : Os) (started : os.Started) (H : Type) (enc : TypeId × Value → H) :
    ReturnsInHanded {} Tryd.checked os 7 .any (fun w args => (Rows.circuitBitsSpec.pre enc Tryd.prog Tryd.f7 [] false w args ∧ laidMetH Tryd.prog kCircuitBits_laid w) ∧ sizedMet enc Tryd.prog Tryd.f7 (OpenSpec.ofChange Rows.circuitBitsSpec) false w args)
      (Rows.circuitBitsSpec.post enc Tryd.prog Tryd.f7 false true false false) :=
  VE.law_lifted (C := Tryd.checked) (tb := 4) (k := 30) (f := 8) kCircuitBits_own started (by kernel_rfl) Tryd.func7 (VE.hpar_of (by kernel_rfl)) (by kernel_rfl) (by kernel_rfl) kCircuitBits_out
    (fun ds h => by
      rw [Tryd.params7] at h
      match ds, h with
      | [_, _, _, _], _ => rfl) rfl kCircuitBits_mixed (by kernel_rfl) (fun _ _ hL => VE.memo_ok kCircuitBits_mixed hL kCircuitBits_facts) (by kernel_rfl) kCircuitBits_runs
    (ChangeSpec.witness_shaped (enc := enc) (C := Tryd.checked) (os := os) (X := fun w _ => laidMetH Tryd.prog kCircuitBits_laid w) false (World.laidAll Tryd.prog os kCircuitBits_laid) #[.int .u8 0, .int .u64 0, .agg #[.int .u64 0, .int .u64 0, .int .u64 0, .int .u64 0, .int .u64 0, .int .u64 0, .int .u64 0, .int .u64 0, .int .u64 0, .int .u64 0, .int .u64 0, .int .u64 0, .int .u64 0, .int .u64 0, .int .u64 0, .int .u64 0], .int .u64 0] 8 (World.laidAll_os _ _ _) (World.shaped_of_ZipB (by kernel_rfl) (by kernel_rfl)) (by kernel_rfl) (by kernel_rfl) (by kernel_rfl) (kCircuitBits_met os _))

theorem circuitBits_holds : Rows.CircuitBitsSaid :=
  OpenClaim.holds_of_wide 7 Tryd.f7 rfl rfl rfl rfl rfl rfl rfl ⟨rfl, rfl, rfl, rfl, rfl⟩ rfl rfl rfl rfl rfl (by kernel_rfl) Tryd.func7 (by kernel_rfl)
    (of_decide_eq_true (by kernel_rfl)) (by unfold Func.isWrapper; first | (rw [if_pos (by decide +kernel)]; kernel_rfl) | (rw [if_neg (by decide +kernel)]; exact ⟨rfl, rfl⟩))
    (fun os started H enc _ => kCircuitBits_lifted os started H enc)

theorem circuitBits_card : Rows.CircuitBitsCardSaid :=
  Claim7.holds_tied_plain_at .later [] [.widerDeep] true (true, "5c76cce581e7bcdc4e1e98e364da076c32564aa721fff4b97ce6b78be4e6ab99") false
    circuitBits_holds (fun _ h => by cases h) (by kernel_rfl) (fun _ h => by cases h) circuitBits_row_tie rfl ⟨rfl, rfl⟩ (by kernel_rfl) rfl
    (fun f fn hf hfn => by
      obtain rfl : f = 7 := Option.some.inj ((show Tryd.prog.funcNamed "attestor/attestorlaw30.CircuitBits" = some 7 by kernel_rfl).symm.trans hf) |>.symm
      obtain rfl : fn = Tryd.f7 := (Option.some.inj (Tryd.func7.symm.trans hfn)).symm
      exact ⟨by kernel_rfl, fun j t ht => VE.par_none (p := Tryd.f7.params) (q := Tryd.prog.wantsStandIn) (by kernel_rfl) ht⟩)
    (by kernel_rfl)
#print axioms circuitBits_card
end Go.Proofs.YteamclmopokioaaDoor
