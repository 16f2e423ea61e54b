/-
  attestor/attestorlaw20.LexisBlanks returns true, whatever the arguments are, and leaves memory as it was: the row, and its tied card. Condition: the listed package variables (math/bits.deBruijn32tab, math/bits.deBruijn64tab, internal/strconv.uint64pow10, strconv.ErrRange, strconv.ErrSyntax) read as the program's text lays them.
-/
import Derived.Test.YtedoeeeomfgjnaaDoorWk1
import Derived.Test.YtedoeeeomfgjnaaDoorRows
import Derived.Test.YtedoeeeomfgjnaaDoorCards
import Derived.Test.YtedoeeeomfgjnaaDoorTie
set_option linter.unusedSimpArgs false
set_option linter.unusedVariables false
namespace Go.Proofs.YtedoeeeomfgjnaaDoor
open Go Go.ChangeShapes Go.WideShapes Go.ChangeAt Go.RowKit

theorem kLexisBlanks_own : ownKnob Tryd.prog.godebug = none := by kernel_rfl
theorem kLexisBlanks_out : laidOutB Tryd.prog = true := by kernel_rfl
theorem kLexisBlanks_mixed : Tryd.prog.follows .mixedOrders = true := by kernel_rfl

noncomputable def kLexisBlanks_laid : List (String × DataW Unit) := [("math/bits.deBruijn32tab", Rows.laid_math_bits_deBruijn32tab), ("math/bits.deBruijn64tab", Rows.laid_math_bits_deBruijn64tab), ("internal/strconv.uint64pow10", Rows.laid_internal_strconv_uint64pow10), ("strconv.ErrRange", Rows.laid_strconv_ErrRange), ("strconv.ErrSyntax", Rows.laid_strconv_ErrSyntax)]



theorem kLexisBlanks_runs : VE.LawRuns Tryd.prog 30 8 7 Tryd.f7.params.toList kLexisBlanks_laid := VE.lb_runs kLexisBlanks_laid (by kernel_rfl)

theorem kLexisBlanks_met (os : Os) (args : Array Value) : laidMetH Tryd.prog kLexisBlanks_laid ((World.laidAll Tryd.prog os kLexisBlanks_laid).forCall (fun _ _ => 0) ⟨#[], args, []⟩).memory := by
  rw [MakeChecks.laidMetH_plain _ _ _ (by kernel_rfl)]
  exact laidMet_laidAll _ (by kernel_rfl) (by kernel_rfl)

set_option maxRecDepth 100000 in
theorem kLexisBlanks_lifted (os : Os) (started : os.Started) (H : Type) (enc : TypeId × Value → H) :
    ReturnsInHanded {} Tryd.checked os 7 .any (fun w args => (Rows.lexisBlanksSpec.pre enc Tryd.prog Tryd.f7 [] false w args ∧ laidMetH Tryd.prog kLexisBlanks_laid w) ∧ sizedMet enc Tryd.prog Tryd.f7 (OpenSpec.ofChange Rows.lexisBlanksSpec) false w args)
      (Rows.lexisBlanksSpec.post enc Tryd.prog Tryd.f7 false true false false) :=
  VE.law_lifted (C := Tryd.checked) (tb := 4) (k := 30) (f := 8) kLexisBlanks_own started (by kernel_rfl) Tryd.func7 (VE.hpar_of (by kernel_rfl)) (by kernel_rfl) (by kernel_rfl) kLexisBlanks_out
    (fun ds h => by
      rw [Tryd.params7] at h
      match ds, h with
      | [_, _], _ => rfl) rfl kLexisBlanks_mixed (by kernel_rfl) (fun _ _ hL => VE.known20_ok _ _) (by kernel_rfl) kLexisBlanks_runs
    (ChangeSpec.witness_shaped (enc := enc) (C := Tryd.checked) (os := os) (X := fun w _ => laidMetH Tryd.prog kLexisBlanks_laid w) false (World.laidAll Tryd.prog os kLexisBlanks_laid) #[.string ⟨#[]⟩, .string ⟨#[]⟩] 8 (World.laidAll_os _ _ _) (World.shaped_of_ZipB (by kernel_rfl) (by kernel_rfl)) (by kernel_rfl) (by kernel_rfl) (by kernel_rfl) (kLexisBlanks_met os _))

theorem lexisBlanks_holds : Rows.LexisBlanksSaid :=
  OpenClaim.holds_of_wide 7 Tryd.f7 rfl rfl rfl rfl rfl rfl rfl ⟨rfl, rfl, rfl, rfl, rfl⟩ rfl rfl rfl rfl rfl (by kernel_rfl) Tryd.func7 (by kernel_rfl)
    (of_decide_eq_true (by kernel_rfl)) (by unfold Func.isWrapper; first | (rw [if_pos (by decide +kernel)]; kernel_rfl) | (rw [if_neg (by decide +kernel)]; exact ⟨rfl, rfl⟩))
    (fun os started H enc _ => kLexisBlanks_lifted os started H enc)

theorem lexisBlanks_card : Rows.LexisBlanksCardSaid :=
  Claim7.holds_tied_plain_at .later [] [.data, .data, .data, .sentinel, .sentinel] true (true, "7c61891a59ef3a47f147f2b415bc6de609cf0b739dec45fbe43b46c7b8c619fd") true
    lexisBlanks_holds (fun _ h => by cases h) (by kernel_rfl) (fun _ h => by cases h) lexisBlanks_row_tie rfl ⟨rfl, rfl⟩ (by kernel_rfl) rfl
    (fun f fn hf hfn => by
      obtain rfl : f = 7 := Option.some.inj ((show Tryd.prog.funcNamed "attestor/attestorlaw20.LexisBlanks" = some 7 by kernel_rfl).symm.trans hf) |>.symm
      obtain rfl : fn = Tryd.f7 := (Option.some.inj (Tryd.func7.symm.trans hfn)).symm
      exact ⟨by kernel_rfl, fun j t ht => VE.par_none (p := Tryd.f7.params) (q := Tryd.prog.wantsStandIn) (by kernel_rfl) ht⟩)
    (by kernel_rfl)
#print axioms lexisBlanks_card
end Go.Proofs.YtedoeeeomfgjnaaDoor
