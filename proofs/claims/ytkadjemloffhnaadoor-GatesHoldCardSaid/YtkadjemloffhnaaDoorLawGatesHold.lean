/-
  attestor/attestorlaw23.GatesHold returns true, whatever the arguments are, and leaves memory as it was: the row, and its tied card. Condition: the listed package variables (attestor/field.fields) read as the program's text lays them.
-/
import Derived.Test.YtkadjemloffhnaaDoorWk2
import Derived.Test.YtkadjemloffhnaaDoorRows
import Derived.Test.YtkadjemloffhnaaDoorCards
import Derived.Test.YtkadjemloffhnaaDoorTie
set_option linter.unusedSimpArgs false
set_option linter.unusedVariables false
namespace Go.Proofs.YtkadjemloffhnaaDoor
open Go Go.ChangeShapes Go.WideShapes Go.ChangeAt Go.RowKit

theorem kGatesHold_own : ownKnob Tryd.prog.godebug = none := by kernel_rfl
theorem kGatesHold_out : laidOutB Tryd.prog = true := by kernel_rfl
theorem kGatesHold_mixed : Tryd.prog.follows .mixedOrders = true := by kernel_rfl

noncomputable def kGatesHold_laid : List (String × DataW Unit) := [("attestor/field.fields", Rows.laid_attestor_field_fields)]

set_option maxRecDepth 100000 in
theorem kGatesHold_f0 : @VE.factOk (VE.memoOf []) Tryd.prog 30 100000 kGatesHold_laid 9 [] (.bool true) = true := by decide +kernel
theorem kGatesHold_facts : VE.Facts Tryd.prog 30 100000 kGatesHold_laid [(9, [], .bool true)] := ⟨kGatesHold_f0, trivial⟩

theorem kGatesHold_runs : VE.LawRuns Tryd.prog 30 8 3 Tryd.f3.params.toList kGatesHold_laid := VE.gh_runs kGatesHold_laid (by kernel_rfl)

theorem kGatesHold_met (os : Os) (args : Array Value) : laidMetH Tryd.prog kGatesHold_laid ((World.laidAll Tryd.prog os kGatesHold_laid).forCall (fun _ _ => 0) ⟨#[], args, []⟩).memory := by
  rw [MakeChecks.laidMetH_plain _ _ _ (by kernel_rfl)]
  exact laidMet_laidAll _ (by kernel_rfl) (by kernel_rfl)

set_option maxRecDepth 100000 in
theorem kGatesHold_lifted (os : Os) (started : os.Started) (H : Type) (enc : TypeId × Value → H) :
    ReturnsInHanded {} Tryd.checked os 3 .any (fun w args => (Rows.gatesHoldSpec.pre enc Tryd.prog Tryd.f3 [] false w args ∧ laidMetH Tryd.prog kGatesHold_laid w) ∧ sizedMet enc Tryd.prog Tryd.f3 (OpenSpec.ofChange Rows.gatesHoldSpec) false w args)
      (Rows.gatesHoldSpec.post enc Tryd.prog Tryd.f3 false true false false) :=
  VE.law_lifted (C := Tryd.checked) (tb := 4) (k := 30) (f := 8) kGatesHold_own started (by kernel_rfl) Tryd.func3 (VE.hpar_of (by kernel_rfl)) (by kernel_rfl) (by kernel_rfl) kGatesHold_out
    (fun ds h => by
      rw [Tryd.params3] at h
      match ds, h with
      | [_, _, _], _ => rfl) rfl kGatesHold_mixed (by kernel_rfl) (fun _ _ hL => VE.memo_ok kGatesHold_mixed hL kGatesHold_facts) (by kernel_rfl) kGatesHold_runs
    (ChangeSpec.witness_shaped (enc := enc) (C := Tryd.checked) (os := os) (X := fun w _ => laidMetH Tryd.prog kGatesHold_laid w) false (World.laidAll Tryd.prog os kGatesHold_laid) #[.agg #[.int .i64 0, .int .i64 0, .int .i64 0, .int .i64 0, .slice none 0 0], .slice none 0 0, .int .i64 0] 8 (World.laidAll_os _ _ _) (World.shaped_of_ZipB (by kernel_rfl) (by kernel_rfl)) (by kernel_rfl) (by kernel_rfl) (by kernel_rfl) (kGatesHold_met os _))

theorem gatesHold_holds : Rows.GatesHoldSaid :=
  OpenClaim.holds_of_wide 3 Tryd.f3 rfl rfl rfl rfl rfl rfl rfl ⟨rfl, rfl, rfl, rfl, rfl⟩ rfl rfl rfl rfl rfl (by kernel_rfl) Tryd.func3 (by kernel_rfl)
    (of_decide_eq_true (by kernel_rfl)) (by unfold Func.isWrapper; first | (rw [if_pos (by decide +kernel)]; kernel_rfl) | (rw [if_neg (by decide +kernel)]; exact ⟨rfl, rfl⟩))
    (fun os started H enc _ => kGatesHold_lifted os started H enc)

theorem gatesHold_card : Rows.GatesHoldCardSaid :=
  Claim7.holds_tied_plain_at .later [] [.widerDeep] true (true, "44df7daf55985aea251c66f49be4a90269b22bd9e8426c195f22f9f5aabd0083") false
    gatesHold_holds (fun _ h => by cases h) (by kernel_rfl) (fun _ h => by cases h) gatesHold_row_tie rfl ⟨rfl, rfl⟩ (by kernel_rfl) rfl
    (fun f fn hf hfn => by
      obtain rfl : f = 3 := Option.some.inj ((show Tryd.prog.funcNamed "attestor/attestorlaw23.GatesHold" = some 3 by kernel_rfl).symm.trans hf) |>.symm
      obtain rfl : fn = Tryd.f3 := (Option.some.inj (Tryd.func3.symm.trans hfn)).symm
      exact ⟨by kernel_rfl, fun j t ht => VE.par_none (p := Tryd.f3.params) (q := Tryd.prog.wantsStandIn) (by kernel_rfl) ht⟩)
    (by kernel_rfl)
#print axioms gatesHold_card
end Go.Proofs.YtkadjemloffhnaaDoor
