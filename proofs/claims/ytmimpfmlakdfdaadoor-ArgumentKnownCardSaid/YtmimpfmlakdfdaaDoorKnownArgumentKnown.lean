/-
  attestor/attestorlaw14.ArgumentKnown returns true and leaves memory as it was: the row, and its tied card. Condition: the listed package variables (attestor/field.fields) read as the program's text lays them. The walk is one evaluation by the kernel of a verified evaluator (the texts Ve1 to Ve4).
-/
import Derived.Test.YtmimpfmlakdfdaaDoorVe4
import Derived.Test.YtmimpfmlakdfdaaDoorRows
import Derived.Test.YtmimpfmlakdfdaaDoorCards
import Derived.Test.YtmimpfmlakdfdaaDoorTie
namespace Go.Proofs.YtmimpfmlakdfdaaDoor
open Go Go.ChangeShapes Go.WideShapes Go.ChangeAt Go.RowKit

theorem kArgumentKnown_own : ownKnob Tryd.prog.godebug = none := by kernel_rfl
theorem kArgumentKnown_out : laidOutB Tryd.prog = true := by kernel_rfl
theorem kArgumentKnown_mixed : Tryd.prog.follows .mixedOrders = true := by kernel_rfl

noncomputable def kArgumentKnown_laid : List (String × DataW Unit) := [("attestor/field.fields", Rows.laid_attestor_field_fields)]

set_option maxRecDepth 100000 in
theorem kArgumentKnown_eval : VE.closedOk Tryd.prog 30 100000 7 kArgumentKnown_laid = true := by decide +kernel

theorem kArgumentKnown_met (os : Os) (args : Array Value) : laidMetH Tryd.prog kArgumentKnown_laid ((World.laidAll Tryd.prog os kArgumentKnown_laid).forCall (fun _ _ => 0) ⟨#[], args, []⟩).memory := by
  rw [MakeChecks.laidMetH_plain _ _ _ (by kernel_rfl)]
  exact laidMet_laidAll _ (by kernel_rfl) (by kernel_rfl)

set_option maxRecDepth 100000 in
theorem kArgumentKnown_lifted (os : Os) (started : os.Started) (H : Type) (enc : TypeId × Value → H) :
    ReturnsInHanded {} Tryd.checked os 7 .any (fun w args => (Rows.argumentKnownSpec.pre enc Tryd.prog Tryd.f7 [] false w args ∧ laidMetH Tryd.prog kArgumentKnown_laid w) ∧ sizedMet enc Tryd.prog Tryd.f7 (OpenSpec.ofChange Rows.argumentKnownSpec) false w args)
      (Rows.argumentKnownSpec.post enc Tryd.prog Tryd.f7 false true false false) :=
  VE.closed_lifted (C := Tryd.checked) (tb := 4) kArgumentKnown_own started (by kernel_rfl) Tryd.func7 Tryd.params7 (by kernel_rfl) (by kernel_rfl) kArgumentKnown_out rfl rfl kArgumentKnown_mixed (by kernel_rfl) kArgumentKnown_eval
    (ChangeSpec.witness_shaped (enc := enc) (C := Tryd.checked) (os := os) (X := fun w _ => laidMetH Tryd.prog kArgumentKnown_laid w) false (World.laidAll Tryd.prog os kArgumentKnown_laid) #[] 8 (World.laidAll_os _ _ _) (World.shaped_of_ZipB (by kernel_rfl) (by kernel_rfl)) (by kernel_rfl) (by kernel_rfl) (by kernel_rfl) (kArgumentKnown_met os _))

theorem argumentKnown_holds : Rows.ArgumentKnownSaid :=
  OpenClaim.holds_of_wide 7 Tryd.f7 rfl rfl rfl rfl rfl rfl rfl ⟨rfl, rfl, rfl, rfl, rfl⟩ rfl rfl rfl rfl rfl (by kernel_rfl) Tryd.func7 (by kernel_rfl)
    (of_decide_eq_true (by kernel_rfl)) (by unfold Func.isWrapper; first | (rw [if_pos (by decide +kernel)]; kernel_rfl) | (rw [if_neg (by decide +kernel)]; exact ⟨rfl, rfl⟩))
    (fun os started H enc _ => kArgumentKnown_lifted os started H enc)

theorem argumentKnown_card : Rows.ArgumentKnownCardSaid :=
  Claim7.holds_tied_plain_at .later [] [.widerDeep] true (true, "209e5f3288c96d31f86d6f3defc4ca41bb62eaf091c1831b06c7e271d2ce0b42") false
    argumentKnown_holds (fun _ h => by cases h) (by kernel_rfl) (fun _ h => by cases h) argumentKnown_row_tie rfl ⟨rfl, rfl⟩ (by kernel_rfl) rfl
    (fun f fn hf hfn => by
      obtain rfl : f = 7 := Option.some.inj ((show Tryd.prog.funcNamed "attestor/attestorlaw14.ArgumentKnown" = some 7 by kernel_rfl).symm.trans hf) |>.symm
      obtain rfl : fn = Tryd.f7 := (Option.some.inj (Tryd.func7.symm.trans hfn)).symm
      exact ⟨by kernel_rfl, fun j t ht => by
        rw [Tryd.params7] at ht
        simp at ht⟩)
    (by kernel_rfl)
#print axioms argumentKnown_card
end Go.Proofs.YtmimpfmlakdfdaaDoor
