/-
  attestor/attestorlaw20.LexisKnown returns true, whatever the arguments are, and leaves memory as it was: the row, and its tied card. Condition: the listed package variables (math/bits.deBruijn32tab, math/bits.deBruijn64tab, internal/strconv.uint64pow10, strconv.ErrRange, strconv.ErrSyntax) read as the program's text lays them.
-/
import Derived.Test.YtedoeeeomfgjnaaDoorWk1
import Derived.Test.YtedoeeeomfgjnaaDoorRows
import Derived.Test.YtedoeeeomfgjnaaDoorCards
import Derived.Test.YtedoeeeomfgjnaaDoorTie
set_option linter.unusedSimpArgs false
set_option linter.unusedVariables false
namespace Go.Proofs.YtedoeeeomfgjnaaDoor
open Go Go.ChangeShapes Go.WideShapes Go.ChangeAt Go.RowKit

theorem kLexisKnown_own : ownKnob Tryd.prog.godebug = none := by kernel_rfl
theorem kLexisKnown_out : laidOutB Tryd.prog = true := by kernel_rfl
theorem kLexisKnown_mixed : Tryd.prog.follows .mixedOrders = true := by kernel_rfl

noncomputable def kLexisKnown_laid : List (String × DataW Unit) := [("math/bits.deBruijn32tab", Rows.laid_math_bits_deBruijn32tab), ("math/bits.deBruijn64tab", Rows.laid_math_bits_deBruijn64tab), ("internal/strconv.uint64pow10", Rows.laid_internal_strconv_uint64pow10), ("strconv.ErrRange", Rows.laid_strconv_ErrRange), ("strconv.ErrSyntax", Rows.laid_strconv_ErrSyntax)]



theorem kLexisKnown_runs : VE.LawRuns Tryd.prog 30 8 9 Tryd.f9.params.toList kLexisKnown_laid := VE.lk_runs kLexisKnown_laid (by kernel_rfl)

theorem kLexisKnown_met (os : Os) (args : Array Value) : laidMetH Tryd.prog kLexisKnown_laid ((World.laidAll Tryd.prog os kLexisKnown_laid).forCall (fun _ _ => 0) ⟨#[], args, []⟩).memory := by
  rw [MakeChecks.laidMetH_plain _ _ _ (by kernel_rfl)]
  exact laidMet_laidAll _ (by kernel_rfl) (by kernel_rfl)

set_option maxRecDepth 100000 in
theorem kLexisKnown_lifted (os : Os) (started : os.Started) (H : Type) (enc : TypeId × Value → H) :
    ReturnsInHanded {} Tryd.checked os 9 .any (fun w args => (Rows.lexisKnownSpec.pre enc Tryd.prog Tryd.f9 [] false w args ∧ laidMetH Tryd.prog kLexisKnown_laid w) ∧ sizedMet enc Tryd.prog Tryd.f9 (OpenSpec.ofChange Rows.lexisKnownSpec) false w args)
      (Rows.lexisKnownSpec.post enc Tryd.prog Tryd.f9 false true false false) :=
  VE.law_lifted (C := Tryd.checked) (tb := 4) (k := 30) (f := 8) kLexisKnown_own started (by kernel_rfl) Tryd.func9 (VE.hpar_of (by kernel_rfl)) (by kernel_rfl) (by kernel_rfl) kLexisKnown_out
    (fun ds h => by
      rw [Tryd.params9] at h
      match ds, h with
      | [], _ => rfl) rfl kLexisKnown_mixed (by kernel_rfl) (fun _ _ hL => VE.known20_ok _ _) (by kernel_rfl) kLexisKnown_runs
    (ChangeSpec.witness_shaped (enc := enc) (C := Tryd.checked) (os := os) (X := fun w _ => laidMetH Tryd.prog kLexisKnown_laid w) false (World.laidAll Tryd.prog os kLexisKnown_laid) #[] 8 (World.laidAll_os _ _ _) (World.shaped_of_ZipB (by kernel_rfl) (by kernel_rfl)) (by kernel_rfl) (by kernel_rfl) (by kernel_rfl) (kLexisKnown_met os _))

theorem lexisKnown_holds : Rows.LexisKnownSaid :=
  OpenClaim.holds_of_wide 9 Tryd.f9 rfl rfl rfl rfl rfl rfl rfl ⟨rfl, rfl, rfl, rfl, rfl⟩ rfl rfl rfl rfl rfl (by kernel_rfl) Tryd.func9 (by kernel_rfl)
    (of_decide_eq_true (by kernel_rfl)) (by unfold Func.isWrapper; first | (rw [if_pos (by decide +kernel)]; kernel_rfl) | (rw [if_neg (by decide +kernel)]; exact ⟨rfl, rfl⟩))
    (fun os started H enc _ => kLexisKnown_lifted os started H enc)

theorem lexisKnown_card : Rows.LexisKnownCardSaid :=
  Claim7.holds_tied_plain_at .later [] [.data, .data, .data, .sentinel, .sentinel] true (true, "7c61891a59ef3a47f147f2b415bc6de609cf0b739dec45fbe43b46c7b8c619fd") true
    lexisKnown_holds (fun _ h => by cases h) (by kernel_rfl) (fun _ h => by cases h) lexisKnown_row_tie rfl ⟨rfl, rfl⟩ (by kernel_rfl) rfl
    (fun f fn hf hfn => by
      obtain rfl : f = 9 := Option.some.inj ((show Tryd.prog.funcNamed "attestor/attestorlaw20.LexisKnown" = some 9 by kernel_rfl).symm.trans hf) |>.symm
      obtain rfl : fn = Tryd.f9 := (Option.some.inj (Tryd.func9.symm.trans hfn)).symm
      exact ⟨by kernel_rfl, fun j t ht => VE.par_none (p := Tryd.f9.params) (q := Tryd.prog.wantsStandIn) (by kernel_rfl) ht⟩)
    (by kernel_rfl)
#print axioms lexisKnown_card
end Go.Proofs.YtedoeeeomfgjnaaDoor
