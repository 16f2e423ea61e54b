/-
  attestorlaw23.GatesKnown returns true and leaves memory as it was: the row, and its tied card. Condition: the variable attestor/field.fields reads as the program's text lays it. The walk is one evaluation by the kernel of a verified evaluator (the texts Ve1 to Ve4).
-/
import Derived.Test.YtkadjemloffhnaaDoorVe4
import Derived.Test.YtkadjemloffhnaaDoorRows
import Derived.Test.YtkadjemloffhnaaDoorCards
import Derived.Test.YtkadjemloffhnaaDoorTie
namespace Go.Proofs.YtkadjemloffhnaaDoor
open Go Go.ChangeShapes Go.WideShapes Go.ChangeAt Go.RowKit

theorem veOwn : ownKnob Tryd.prog.godebug = none := by kernel_rfl
theorem veLaidOut : laidOutB Tryd.prog = true := by kernel_rfl
theorem veMixed : Tryd.prog.follows .mixedOrders = true := by kernel_rfl

noncomputable def veLaid : List (String × DataW Unit) := [("attestor/field.fields", Rows.laid_attestor_field_fields)]

set_option maxRecDepth 100000 in
theorem gatesKnown_eval : VE.closedOk Tryd.prog 30 100000 7 veLaid = true := by decide +kernel

theorem veMet (os : Os) (args : Array Value) : laidMetH Tryd.prog veLaid ((World.laidAll Tryd.prog os veLaid).forCall (fun _ _ => 0) ⟨#[], args, []⟩).memory := by
  rw [MakeChecks.laidMetH_plain _ _ _ (by kernel_rfl)]
  exact laidMet_laidAll _ (by kernel_rfl) (by kernel_rfl)

set_option maxRecDepth 100000 in
theorem gatesKnown_lifted (os : Os) (started : os.Started) (H : Type) (enc : TypeId × Value → H) :
    ReturnsInHanded {} Tryd.checked os 7 .any (fun w args => (Rows.gatesKnownSpec.pre enc Tryd.prog Tryd.f7 [] false w args ∧ laidMetH Tryd.prog veLaid w) ∧ sizedMet enc Tryd.prog Tryd.f7 (OpenSpec.ofChange Rows.gatesKnownSpec) false w args)
      (Rows.gatesKnownSpec.post enc Tryd.prog Tryd.f7 false true false false) :=
  VE.closed_lifted (C := Tryd.checked) (tb := 4) veOwn started (by kernel_rfl) Tryd.func7 Tryd.params7 (by kernel_rfl) (by kernel_rfl) veLaidOut rfl rfl veMixed (by kernel_rfl) gatesKnown_eval
    (ChangeSpec.witness_shaped (enc := enc) (C := Tryd.checked) (os := os) (X := fun w _ => laidMetH Tryd.prog veLaid w) false (World.laidAll Tryd.prog os veLaid) #[] 8 (World.laidAll_os _ _ _) (World.shaped_of_ZipB (by kernel_rfl) (by kernel_rfl)) (by kernel_rfl) (by kernel_rfl) (by kernel_rfl) (veMet os _))

theorem gatesKnown_holds : Rows.GatesKnownSaid :=
  OpenClaim.holds_of_wide 7 Tryd.f7 rfl rfl rfl rfl rfl rfl rfl ⟨rfl, rfl, rfl, rfl, rfl⟩ rfl rfl rfl rfl rfl (by kernel_rfl) Tryd.func7 (by kernel_rfl)
    (of_decide_eq_true (by kernel_rfl)) (by unfold Func.isWrapper; first | (rw [if_pos (by decide +kernel)]; kernel_rfl) | (rw [if_neg (by decide +kernel)]; exact ⟨rfl, rfl⟩))
    (fun os started H enc _ => gatesKnown_lifted os started H enc)

theorem gatesKnown_card : Rows.GatesKnownCardSaid :=
  Claim7.holds_tied_plain_at .later [] [.widerDeep] true (true, "44df7daf55985aea251c66f49be4a90269b22bd9e8426c195f22f9f5aabd0083") false
    gatesKnown_holds (fun _ h => by cases h) (by kernel_rfl) (fun _ h => by cases h) gatesKnown_row_tie rfl ⟨rfl, rfl⟩ (by kernel_rfl) rfl
    (fun f fn hf hfn => by
      obtain rfl : f = 7 := Option.some.inj ((show Tryd.prog.funcNamed "attestor/attestorlaw23.GatesKnown" = some 7 by kernel_rfl).symm.trans hf) |>.symm
      obtain rfl : fn = Tryd.f7 := (Option.some.inj (Tryd.func7.symm.trans hfn)).symm
      exact ⟨by kernel_rfl, fun j t ht => by
        rw [Tryd.params7] at ht
        simp at ht⟩)
    (by kernel_rfl)
#print axioms gatesKnown_card
end Go.Proofs.YtkadjemloffhnaaDoor
