/-
  attestor/attestorlaw30.CircuitKnown returns true and leaves memory as it was: the row, and its tied card. Condition: the listed package variables (attestor/field.fields) read as the program's text lays them. The walk is one evaluation by the kernel of a verified evaluator (the texts Ve1 to Ve4).
-/
import Derived.Test.YteamclmopokioaaDoorVe4
import Derived.Test.YteamclmopokioaaDoorRows
import Derived.Test.YteamclmopokioaaDoorCards
import Derived.Test.YteamclmopokioaaDoorTie
namespace Go.Proofs.YteamclmopokioaaDoor
open Go Go.ChangeShapes Go.WideShapes Go.ChangeAt Go.RowKit

theorem kCircuitKnown_own : ownKnob Tryd.prog.godebug = none := by kernel_rfl
theorem kCircuitKnown_out : laidOutB Tryd.prog = true := by kernel_rfl
theorem kCircuitKnown_mixed : Tryd.prog.follows .mixedOrders = true := by kernel_rfl

noncomputable def kCircuitKnown_laid : List (String × DataW Unit) := [("attestor/field.fields", Rows.laid_attestor_field_fields)]

set_option maxRecDepth 100000 in
theorem kCircuitKnown_eval : VE.closedOk Tryd.prog 30 100000 5 kCircuitKnown_laid = true := by decide +kernel

theorem kCircuitKnown_met (os : Os) (args : Array Value) : laidMetH Tryd.prog kCircuitKnown_laid ((World.laidAll Tryd.prog os kCircuitKnown_laid).forCall (fun _ _ => 0) ⟨#[], args, []⟩).memory := by
  rw [MakeChecks.laidMetH_plain _ _ _ (by kernel_rfl)]
  exact laidMet_laidAll _ (by kernel_rfl) (by kernel_rfl)

set_option maxRecDepth 100000 in
theorem kCircuitKnown_lifted (os : Os) (started : os.Started) (H : Type) (enc : TypeId × Value → H) :
    ReturnsInHanded {} Tryd.checked os 5 .any (fun w args => (Rows.circuitKnownSpec.pre enc Tryd.prog Tryd.f5 [] false w args ∧ laidMetH Tryd.prog kCircuitKnown_laid w) ∧ sizedMet enc Tryd.prog Tryd.f5 (OpenSpec.ofChange Rows.circuitKnownSpec) false w args)
      (Rows.circuitKnownSpec.post enc Tryd.prog Tryd.f5 false true false false) :=
  VE.closed_lifted (C := Tryd.checked) (tb := 4) kCircuitKnown_own started (by kernel_rfl) Tryd.func5 Tryd.params5 (by kernel_rfl) (by kernel_rfl) kCircuitKnown_out rfl rfl kCircuitKnown_mixed (by kernel_rfl) kCircuitKnown_eval
    (ChangeSpec.witness_shaped (enc := enc) (C := Tryd.checked) (os := os) (X := fun w _ => laidMetH Tryd.prog kCircuitKnown_laid w) false (World.laidAll Tryd.prog os kCircuitKnown_laid) #[] 8 (World.laidAll_os _ _ _) (World.shaped_of_ZipB (by kernel_rfl) (by kernel_rfl)) (by kernel_rfl) (by kernel_rfl) (by kernel_rfl) (kCircuitKnown_met os _))

theorem circuitKnown_holds : Rows.CircuitKnownSaid :=
  OpenClaim.holds_of_wide 5 Tryd.f5 rfl rfl rfl rfl rfl rfl rfl ⟨rfl, rfl, rfl, rfl, rfl⟩ rfl rfl rfl rfl rfl (by kernel_rfl) Tryd.func5 (by kernel_rfl)
    (of_decide_eq_true (by kernel_rfl)) (by unfold Func.isWrapper; first | (rw [if_pos (by decide +kernel)]; kernel_rfl) | (rw [if_neg (by decide +kernel)]; exact ⟨rfl, rfl⟩))
    (fun os started H enc _ => kCircuitKnown_lifted os started H enc)

theorem circuitKnown_card : Rows.CircuitKnownCardSaid :=
  Claim7.holds_tied_plain_at .later [] [.widerDeep] true (true, "5c76cce581e7bcdc4e1e98e364da076c32564aa721fff4b97ce6b78be4e6ab99") false
    circuitKnown_holds (fun _ h => by cases h) (by kernel_rfl) (fun _ h => by cases h) circuitKnown_row_tie rfl ⟨rfl, rfl⟩ (by kernel_rfl) rfl
    (fun f fn hf hfn => by
      obtain rfl : f = 5 := Option.some.inj ((show Tryd.prog.funcNamed "attestor/attestorlaw30.CircuitKnown" = some 5 by kernel_rfl).symm.trans hf) |>.symm
      obtain rfl : fn = Tryd.f5 := (Option.some.inj (Tryd.func5.symm.trans hfn)).symm
      exact ⟨by kernel_rfl, fun j t ht => by
        rw [Tryd.params5] at ht
        simp at ht⟩)
    (by kernel_rfl)
#print axioms circuitKnown_card
end Go.Proofs.YteamclmopokioaaDoor
