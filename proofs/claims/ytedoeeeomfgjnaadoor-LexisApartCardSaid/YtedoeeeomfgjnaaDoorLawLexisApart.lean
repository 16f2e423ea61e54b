/-
  attestor/attestorlaw20.LexisApart returns true, whatever the arguments are, and leaves memory as it was: the row, and its tied card. Condition: the listed package variables (math/bits.deBruijn32tab, math/bits.deBruijn64tab, internal/strconv.uint64pow10, strconv.ErrRange, strconv.ErrSyntax) read as the program's text lays them.
-/
import Derived.Test.YtedoeeeomfgjnaaDoorWk1
import Derived.Test.YtedoeeeomfgjnaaDoorRows
import Derived.Test.YtedoeeeomfgjnaaDoorCards
import Derived.Test.YtedoeeeomfgjnaaDoorTie
set_option linter.unusedSimpArgs false
set_option linter.unusedVariables false
namespace Go.Proofs.YtedoeeeomfgjnaaDoor
open Go Go.ChangeShapes Go.WideShapes Go.ChangeAt Go.RowKit

theorem kLexisApart_own : ownKnob Tryd.prog.godebug = none := by kernel_rfl
theorem kLexisApart_out : laidOutB Tryd.prog = true := by kernel_rfl
theorem kLexisApart_mixed : Tryd.prog.follows .mixedOrders = true := by kernel_rfl

noncomputable def kLexisApart_laid : List (String × DataW Unit) := [("math/bits.deBruijn32tab", Rows.laid_math_bits_deBruijn32tab), ("math/bits.deBruijn64tab", Rows.laid_math_bits_deBruijn64tab), ("internal/strconv.uint64pow10", Rows.laid_internal_strconv_uint64pow10), ("strconv.ErrRange", Rows.laid_strconv_ErrRange), ("strconv.ErrSyntax", Rows.laid_strconv_ErrSyntax)]



theorem kLexisApart_runs : VE.LawRuns Tryd.prog 30 8 8 Tryd.f8.params.toList kLexisApart_laid := VE.la_runs kLexisApart_laid (by kernel_rfl)

theorem kLexisApart_met (os : Os) (args : Array Value) : laidMetH Tryd.prog kLexisApart_laid ((World.laidAll Tryd.prog os kLexisApart_laid).forCall (fun _ _ => 0) ⟨#[], args, []⟩).memory := by
  rw [MakeChecks.laidMetH_plain _ _ _ (by kernel_rfl)]
  exact laidMet_laidAll _ (by kernel_rfl) (by kernel_rfl)

set_option maxRecDepth 100000 in
theorem kLexisApart_lifted (os : Os) (started : os.Started) (H : Type) (enc : TypeId × Value → H) :
    ReturnsInHanded {} Tryd.checked os 8 .any (fun w args => (Rows.lexisApartSpec.pre enc Tryd.prog Tryd.f8 [] false w args ∧ laidMetH Tryd.prog kLexisApart_laid w) ∧ sizedMet enc Tryd.prog Tryd.f8 (OpenSpec.ofChange Rows.lexisApartSpec) false w args)
      (Rows.lexisApartSpec.post enc Tryd.prog Tryd.f8 false true false false) :=
  VE.law_lifted (C := Tryd.checked) (tb := 4) (k := 30) (f := 8) kLexisApart_own started (by kernel_rfl) Tryd.func8 (VE.hpar_of (by kernel_rfl)) (by kernel_rfl) (by kernel_rfl) kLexisApart_out
    (fun ds h => by
      rw [Tryd.params8] at h
      match ds, h with
      | [_, _], _ => rfl) rfl kLexisApart_mixed (by kernel_rfl) (fun _ _ hL => VE.known20_ok _ _) (by kernel_rfl) kLexisApart_runs
    (ChangeSpec.witness_shaped (enc := enc) (C := Tryd.checked) (os := os) (X := fun w _ => laidMetH Tryd.prog kLexisApart_laid w) false (World.laidAll Tryd.prog os kLexisApart_laid) #[.string ⟨#[]⟩, .string ⟨#[]⟩] 8 (World.laidAll_os _ _ _) (World.shaped_of_ZipB (by kernel_rfl) (by kernel_rfl)) (by kernel_rfl) (by kernel_rfl) (by kernel_rfl) (kLexisApart_met os _))

theorem lexisApart_holds : Rows.LexisApartSaid :=
  OpenClaim.holds_of_wide 8 Tryd.f8 rfl rfl rfl rfl rfl rfl rfl ⟨rfl, rfl, rfl, rfl, rfl⟩ rfl rfl rfl rfl rfl (by kernel_rfl) Tryd.func8 (by kernel_rfl)
    (of_decide_eq_true (by kernel_rfl)) (by unfold Func.isWrapper; first | (rw [if_pos (by decide +kernel)]; kernel_rfl) | (rw [if_neg (by decide +kernel)]; exact ⟨rfl, rfl⟩))
    (fun os started H enc _ => kLexisApart_lifted os started H enc)

theorem lexisApart_card : Rows.LexisApartCardSaid :=
  Claim7.holds_tied_plain_at .later [] [.data, .data, .data, .sentinel, .sentinel] true (true, "7c61891a59ef3a47f147f2b415bc6de609cf0b739dec45fbe43b46c7b8c619fd") true
    lexisApart_holds (fun _ h => by cases h) (by kernel_rfl) (fun _ h => by cases h) lexisApart_row_tie rfl ⟨rfl, rfl⟩ (by kernel_rfl) rfl
    (fun f fn hf hfn => by
      obtain rfl : f = 8 := Option.some.inj ((show Tryd.prog.funcNamed "attestor/attestorlaw20.LexisApart" = some 8 by kernel_rfl).symm.trans hf) |>.symm
      obtain rfl : fn = Tryd.f8 := (Option.some.inj (Tryd.func8.symm.trans hfn)).symm
      exact ⟨by kernel_rfl, fun j t ht => VE.par_none (p := Tryd.f8.params) (q := Tryd.prog.wantsStandIn) (by kernel_rfl) ht⟩)
    (by kernel_rfl)
#print axioms lexisApart_card
end Go.Proofs.YtedoeeeomfgjnaaDoor
