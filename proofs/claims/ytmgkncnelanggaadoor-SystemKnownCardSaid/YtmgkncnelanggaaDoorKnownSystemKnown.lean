/-
  attestor/attestorlaw13.SystemKnown returns true and leaves memory as it was: the row, and its tied card. Condition: the listed package variables (attestor/field.fields) read as the program's text lays them. The walk is one evaluation by the kernel of a verified evaluator (the texts Ve1 to Ve4).
-/
import Derived.Test.YtmgkncnelanggaaDoorVe4
import Derived.Test.YtmgkncnelanggaaDoorRows
import Derived.Test.YtmgkncnelanggaaDoorCards
import Derived.Test.YtmgkncnelanggaaDoorTie
namespace Go.Proofs.YtmgkncnelanggaaDoor
open Go Go.ChangeShapes Go.WideShapes Go.ChangeAt Go.RowKit

theorem kSystemKnown_own : ownKnob Tryd.prog.godebug = none := by kernel_rfl
theorem kSystemKnown_out : laidOutB Tryd.prog = true := by kernel_rfl
theorem kSystemKnown_mixed : Tryd.prog.follows .mixedOrders = true := by kernel_rfl

noncomputable def kSystemKnown_laid : List (String × DataW Unit) := [("attestor/field.fields", Rows.laid_attestor_field_fields)]

set_option maxRecDepth 100000 in
theorem kSystemKnown_eval : VE.closedOk Tryd.prog 30 100000 7 kSystemKnown_laid = true := by decide +kernel

theorem kSystemKnown_met (os : Os) (args : Array Value) : laidMetH Tryd.prog kSystemKnown_laid ((World.laidAll Tryd.prog os kSystemKnown_laid).forCall (fun _ _ => 0) ⟨#[], args, []⟩).memory := by
  rw [MakeChecks.laidMetH_plain _ _ _ (by kernel_rfl)]
  exact laidMet_laidAll _ (by kernel_rfl) (by kernel_rfl)

set_option maxRecDepth 100000 in
theorem kSystemKnown_lifted (os : Os) (started : os.Started) (H : Type) (enc : TypeId × Value → H) :
    ReturnsInHanded {} Tryd.checked os 7 .any (fun w args => (Rows.systemKnownSpec.pre enc Tryd.prog Tryd.f7 [] false w args ∧ laidMetH Tryd.prog kSystemKnown_laid w) ∧ sizedMet enc Tryd.prog Tryd.f7 (OpenSpec.ofChange Rows.systemKnownSpec) false w args)
      (Rows.systemKnownSpec.post enc Tryd.prog Tryd.f7 false true false false) :=
  VE.closed_lifted (C := Tryd.checked) (tb := 4) kSystemKnown_own started (by kernel_rfl) Tryd.func7 Tryd.params7 (by kernel_rfl) (by kernel_rfl) kSystemKnown_out rfl rfl kSystemKnown_mixed (by kernel_rfl) kSystemKnown_eval
    (ChangeSpec.witness_shaped (enc := enc) (C := Tryd.checked) (os := os) (X := fun w _ => laidMetH Tryd.prog kSystemKnown_laid w) false (World.laidAll Tryd.prog os kSystemKnown_laid) #[] 8 (World.laidAll_os _ _ _) (World.shaped_of_ZipB (by kernel_rfl) (by kernel_rfl)) (by kernel_rfl) (by kernel_rfl) (by kernel_rfl) (kSystemKnown_met os _))

theorem systemKnown_holds : Rows.SystemKnownSaid :=
  OpenClaim.holds_of_wide 7 Tryd.f7 rfl rfl rfl rfl rfl rfl rfl ⟨rfl, rfl, rfl, rfl, rfl⟩ rfl rfl rfl rfl rfl (by kernel_rfl) Tryd.func7 (by kernel_rfl)
    (of_decide_eq_true (by kernel_rfl)) (by unfold Func.isWrapper; first | (rw [if_pos (by decide +kernel)]; kernel_rfl) | (rw [if_neg (by decide +kernel)]; exact ⟨rfl, rfl⟩))
    (fun os started H enc _ => kSystemKnown_lifted os started H enc)

theorem systemKnown_card : Rows.SystemKnownCardSaid :=
  Claim7.holds_tied_plain_at .later [] [.widerDeep] true (true, "09a63d82ae323120327746869bb14e9126cc290a9db78dde5d8e18b1afefea78") false
    systemKnown_holds (fun _ h => by cases h) (by kernel_rfl) (fun _ h => by cases h) systemKnown_row_tie rfl ⟨rfl, rfl⟩ (by kernel_rfl) rfl
    (fun f fn hf hfn => by
      obtain rfl : f = 7 := Option.some.inj ((show Tryd.prog.funcNamed "attestor/attestorlaw13.SystemKnown" = some 7 by kernel_rfl).symm.trans hf) |>.symm
      obtain rfl : fn = Tryd.f7 := (Option.some.inj (Tryd.func7.symm.trans hfn)).symm
      exact ⟨by kernel_rfl, fun j t ht => by
        rw [Tryd.params7] at ht
        simp at ht⟩)
    (by kernel_rfl)
#print axioms systemKnown_card
end Go.Proofs.YtmgkncnelanggaaDoor
