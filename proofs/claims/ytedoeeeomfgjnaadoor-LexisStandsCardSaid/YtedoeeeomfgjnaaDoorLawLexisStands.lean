/-
  attestor/attestorlaw20.LexisStands returns true, whatever the arguments are, and leaves memory as it was: the row, and its tied card. Condition: the listed package variables (math/bits.deBruijn32tab, math/bits.deBruijn64tab, internal/strconv.uint64pow10, strconv.ErrRange, strconv.ErrSyntax) read as the program's text lays them.
-/
import Derived.Test.YtedoeeeomfgjnaaDoorWk1
import Derived.Test.YtedoeeeomfgjnaaDoorRows
import Derived.Test.YtedoeeeomfgjnaaDoorCards
import Derived.Test.YtedoeeeomfgjnaaDoorTie
set_option linter.unusedSimpArgs false
set_option linter.unusedVariables false
namespace Go.Proofs.YtedoeeeomfgjnaaDoor
open Go Go.ChangeShapes Go.WideShapes Go.ChangeAt Go.RowKit

theorem kLexisStands_own : ownKnob Tryd.prog.godebug = none := by kernel_rfl
theorem kLexisStands_out : laidOutB Tryd.prog = true := by kernel_rfl
theorem kLexisStands_mixed : Tryd.prog.follows .mixedOrders = true := by kernel_rfl

noncomputable def kLexisStands_laid : List (String × DataW Unit) := [("math/bits.deBruijn32tab", Rows.laid_math_bits_deBruijn32tab), ("math/bits.deBruijn64tab", Rows.laid_math_bits_deBruijn64tab), ("internal/strconv.uint64pow10", Rows.laid_internal_strconv_uint64pow10), ("strconv.ErrRange", Rows.laid_strconv_ErrRange), ("strconv.ErrSyntax", Rows.laid_strconv_ErrSyntax)]



theorem kLexisStands_runs : VE.LawRuns Tryd.prog 30 8 6 Tryd.f6.params.toList kLexisStands_laid := VE.ls_runs kLexisStands_laid (by kernel_rfl)

theorem kLexisStands_met (os : Os) (args : Array Value) : laidMetH Tryd.prog kLexisStands_laid ((World.laidAll Tryd.prog os kLexisStands_laid).forCall (fun _ _ => 0) ⟨#[], args, []⟩).memory := by
  rw [MakeChecks.laidMetH_plain _ _ _ (by kernel_rfl)]
  exact laidMet_laidAll _ (by kernel_rfl) (by kernel_rfl)

set_option maxRecDepth 100000 in
theorem kLexisStands_lifted (os : Os) (started : os.Started) (H : Type) (enc : TypeId × Value → H) :
    ReturnsInHanded {} Tryd.checked os 6 .any (fun w args => (Rows.lexisStandsSpec.pre enc Tryd.prog Tryd.f6 [] false w args ∧ laidMetH Tryd.prog kLexisStands_laid w) ∧ sizedMet enc Tryd.prog Tryd.f6 (OpenSpec.ofChange Rows.lexisStandsSpec) false w args)
      (Rows.lexisStandsSpec.post enc Tryd.prog Tryd.f6 false true false false) :=
  VE.law_lifted (C := Tryd.checked) (tb := 4) (k := 30) (f := 8) kLexisStands_own started (by kernel_rfl) Tryd.func6 (VE.hpar_of (by kernel_rfl)) (by kernel_rfl) (by kernel_rfl) kLexisStands_out
    (fun ds h => by
      rw [Tryd.params6] at h
      match ds, h with
      | [_], _ => rfl) rfl kLexisStands_mixed (by kernel_rfl) (fun _ _ hL => VE.known20_ok _ _) (by kernel_rfl) kLexisStands_runs
    (ChangeSpec.witness_shaped (enc := enc) (C := Tryd.checked) (os := os) (X := fun w _ => laidMetH Tryd.prog kLexisStands_laid w) false (World.laidAll Tryd.prog os kLexisStands_laid) #[.string ⟨#[]⟩] 8 (World.laidAll_os _ _ _) (World.shaped_of_ZipB (by kernel_rfl) (by kernel_rfl)) (by kernel_rfl) (by kernel_rfl) (by kernel_rfl) (kLexisStands_met os _))

theorem lexisStands_holds : Rows.LexisStandsSaid :=
  OpenClaim.holds_of_wide 6 Tryd.f6 rfl rfl rfl rfl rfl rfl rfl ⟨rfl, rfl, rfl, rfl, rfl⟩ rfl rfl rfl rfl rfl (by kernel_rfl) Tryd.func6 (by kernel_rfl)
    (of_decide_eq_true (by kernel_rfl)) (by unfold Func.isWrapper; first | (rw [if_pos (by decide +kernel)]; kernel_rfl) | (rw [if_neg (by decide +kernel)]; exact ⟨rfl, rfl⟩))
    (fun os started H enc _ => kLexisStands_lifted os started H enc)

theorem lexisStands_card : Rows.LexisStandsCardSaid :=
  Claim7.holds_tied_plain_at .later [] [.data, .data, .data, .sentinel, .sentinel] true (true, "7c61891a59ef3a47f147f2b415bc6de609cf0b739dec45fbe43b46c7b8c619fd") true
    lexisStands_holds (fun _ h => by cases h) (by kernel_rfl) (fun _ h => by cases h) lexisStands_row_tie rfl ⟨rfl, rfl⟩ (by kernel_rfl) rfl
    (fun f fn hf hfn => by
      obtain rfl : f = 6 := Option.some.inj ((show Tryd.prog.funcNamed "attestor/attestorlaw20.LexisStands" = some 6 by kernel_rfl).symm.trans hf) |>.symm
      obtain rfl : fn = Tryd.f6 := (Option.some.inj (Tryd.func6.symm.trans hfn)).symm
      exact ⟨by kernel_rfl, fun j t ht => VE.par_none (p := Tryd.f6.params) (q := Tryd.prog.wantsStandIn) (by kernel_rfl) ht⟩)
    (by kernel_rfl)
#print axioms lexisStands_card
end Go.Proofs.YtedoeeeomfgjnaaDoor
