/-
  attestor/attestorlaw15.ComposeKnown returns true and leaves memory as it was: the row, and its tied card. Condition: the listed package variables (attestor/field.fields) read as the program's text lays them. The walk is one evaluation by the kernel of a verified evaluator (the texts Ve1 to Ve4).
-/
import Derived.Test.YthkhmjcmehohaaaDoorVe4
import Derived.Test.YthkhmjcmehohaaaDoorRows
import Derived.Test.YthkhmjcmehohaaaDoorCards
import Derived.Test.YthkhmjcmehohaaaDoorTie
namespace Go.Proofs.YthkhmjcmehohaaaDoor
open Go Go.ChangeShapes Go.WideShapes Go.ChangeAt Go.RowKit

theorem kComposeKnown_own : ownKnob Tryd.prog.godebug = none := by kernel_rfl
theorem kComposeKnown_out : laidOutB Tryd.prog = true := by kernel_rfl
theorem kComposeKnown_mixed : Tryd.prog.follows .mixedOrders = true := by kernel_rfl

noncomputable def kComposeKnown_laid : List (String × DataW Unit) := [("attestor/field.fields", Rows.laid_attestor_field_fields)]

set_option maxRecDepth 100000 in
theorem kComposeKnown_eval : VE.closedOk Tryd.prog 30 100000 3 kComposeKnown_laid = true := by decide +kernel

theorem kComposeKnown_met (os : Os) (args : Array Value) : laidMetH Tryd.prog kComposeKnown_laid ((World.laidAll Tryd.prog os kComposeKnown_laid).forCall (fun _ _ => 0) ⟨#[], args, []⟩).memory := by
  rw [MakeChecks.laidMetH_plain _ _ _ (by kernel_rfl)]
  exact laidMet_laidAll _ (by kernel_rfl) (by kernel_rfl)

set_option maxRecDepth 100000 in
theorem kComposeKnown_lifted (os : Os) (started : os.Started) (H : Type) (enc : TypeId × Value → H) :
    ReturnsInHanded {} Tryd.checked os 3 .any (fun w args => (Rows.composeKnownSpec.pre enc Tryd.prog Tryd.f3 [] false w args ∧ laidMetH Tryd.prog kComposeKnown_laid w) ∧ sizedMet enc Tryd.prog Tryd.f3 (OpenSpec.ofChange Rows.composeKnownSpec) false w args)
      (Rows.composeKnownSpec.post enc Tryd.prog Tryd.f3 false true false false) :=
  VE.closed_lifted (C := Tryd.checked) (tb := 4) kComposeKnown_own started (by kernel_rfl) Tryd.func3 Tryd.params3 (by kernel_rfl) (by kernel_rfl) kComposeKnown_out rfl rfl kComposeKnown_mixed (by kernel_rfl) kComposeKnown_eval
    (ChangeSpec.witness_shaped (enc := enc) (C := Tryd.checked) (os := os) (X := fun w _ => laidMetH Tryd.prog kComposeKnown_laid w) false (World.laidAll Tryd.prog os kComposeKnown_laid) #[] 8 (World.laidAll_os _ _ _) (World.shaped_of_ZipB (by kernel_rfl) (by kernel_rfl)) (by kernel_rfl) (by kernel_rfl) (by kernel_rfl) (kComposeKnown_met os _))

theorem composeKnown_holds : Rows.ComposeKnownSaid :=
  OpenClaim.holds_of_wide 3 Tryd.f3 rfl rfl rfl rfl rfl rfl rfl ⟨rfl, rfl, rfl, rfl, rfl⟩ rfl rfl rfl rfl rfl (by kernel_rfl) Tryd.func3 (by kernel_rfl)
    (of_decide_eq_true (by kernel_rfl)) (by unfold Func.isWrapper; first | (rw [if_pos (by decide +kernel)]; kernel_rfl) | (rw [if_neg (by decide +kernel)]; exact ⟨rfl, rfl⟩))
    (fun os started H enc _ => kComposeKnown_lifted os started H enc)

theorem composeKnown_card : Rows.ComposeKnownCardSaid :=
  Claim7.holds_tied_plain_at .later [] [.widerDeep] true (true, "7a5b12c304b93a9c3337ae3ab0712310aa0593fe43d8ba9b8459bc080f5ca4fb") false
    composeKnown_holds (fun _ h => by cases h) (by kernel_rfl) (fun _ h => by cases h) composeKnown_row_tie rfl ⟨rfl, rfl⟩ (by kernel_rfl) rfl
    (fun f fn hf hfn => by
      obtain rfl : f = 3 := Option.some.inj ((show Tryd.prog.funcNamed "attestor/attestorlaw15.ComposeKnown" = some 3 by kernel_rfl).symm.trans hf) |>.symm
      obtain rfl : fn = Tryd.f3 := (Option.some.inj (Tryd.func3.symm.trans hfn)).symm
      exact ⟨by kernel_rfl, fun j t ht => by
        rw [Tryd.params3] at ht
        simp at ht⟩)
    (by kernel_rfl)
#print axioms composeKnown_card
end Go.Proofs.YthkhmjcmehohaaaDoor
