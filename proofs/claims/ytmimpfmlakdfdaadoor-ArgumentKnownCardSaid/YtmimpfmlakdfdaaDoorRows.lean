/-
  NARROWER THAN 'FOR EVERY INPUT', by the rows' own cells (each row's printed sentence says how): ArgumentColumns: laid · ArgumentCloses: laid · ArgumentProduct: laid · ArgumentValues: laid · ArgumentKnown: laid.
  DERIVED. THE GIVEN ROWS OF THIS SEAT. 5 by the template 'for every input the law returns true; each argument reads behind the call as it read before'; 0 by the template 'total and deterministic' (their statements: YtmimpfmlakdfdaaDoorTotals.lean).
  GIVEN WITH THE SEED: the statements are not yours to turn. If you find one false, say at which input.
  Laid BY PROGRAM, IN A SANDBOX (cutbox-rows.mjs): the forced cells as the released guide's own fill.sh prints them over the translation 93bb6aa27acc39dd… (all of the seat's roots in one cut). By AI agents, Wed Nov 11 2026. No macro, syntax, notation, axiom, sorry.
-/
import Derived.Test.YtmimpfmlakdfdaaDoorChecked
import GoSem.Claim
import GoSem.ClaimJoined
import GoSem.ClaimMapViews
import Derived.JoinedTies
import Derived.KernelRfl
namespace Go.Proofs.YtmimpfmlakdfdaaDoor
/- THE CELL 'sum', in the pinned program and in every row, IS THE sha256 OF THE DUMP (.gsa) THAT YtmimpfmlakdfdaaDoorProg.lean LOADS. Nothing in Lean hashes anything: it is a label: what it is worth is what the hold of that sum in a sandbox is worth. -/
noncomputable def Tryd.pinned : Pinned := { name := "ytmimpfmlakdfdaadoor", sum := "93bb6aa27acc39dd65661123214522699e1c080d5af86f57132ab7ba5333ea57", checked := Tryd.checked }
namespace Rows
def none {H : Type} : Left H := { results := [], args := [] }

/- WHAT THE LISTED PACKAGE-LEVEL VARIABLES READ AS WHEN THE CALL BEGINS. Each datum BY PROGRAM (the guide's laid-datum.mjs) off the statement by which the dump's own 'gosem.cut.vars' lays the variable. In a bare row this is a premise. The card (YtmimpfmlakdfdaaDoorCards.lean) ties it to the program's text. -/
def laid_attestor_field_fields {H : Type} : DataW H := .agg [.agg [.lit (.int .u64 97), .lit (.int .u64 5), .lit (.int .i64 5), .lit (.int .i64 5), .slice [.lit (.int .u64 3)] []], .agg [.lit (.int .u64 257), .lit (.int .u64 3), .lit (.int .i64 8), .lit (.int .i64 3), .nil], .agg [.lit (.int .u64 12289), .lit (.int .u64 11), .lit (.int .i64 12), .lit (.int .i64 5), .slice [.lit (.int .u64 3)] []], .agg [.lit (.int .u64 998244353), .lit (.int .u64 3), .lit (.int .i64 23), .lit (.int .i64 3), .slice [.lit (.int .u64 7), .lit (.int .u64 17)] []]]

/-- 'attestorlaw14.ArgumentColumns': WHATEVER THE INPUT: true; the input reads as it did. -/
def argumentColumnsSpec : ChangeSpec := { name := "argumentColumns", fn := fun _ => fun
  | [d1, d2, d3, d4] => { results := [.lit (.bool true)], args := [d1, d2, d3, d4] }
  | _ => none }
def argumentColumnsRow : OpenClaim := { program := "ytmimpfmlakdfdaadoor", sum := "93bb6aa27acc39dd65661123214522699e1c080d5af86f57132ab7ba5333ea57", func := "attestor/attestorlaw14.ArgumentColumns", spec := "argumentColumns", unfollowed := true, recurses := true, named := ["attestor/field.fields"], apart := false, laid := [("attestor/field.fields", laid_attestor_field_fields)] }
def ArgumentColumnsSaid : Prop := argumentColumnsRow.holds Tryd.pinned (OpenSpec.ofChange argumentColumnsSpec)

/-- ITS FALSE NEIGHBOUR: 'it returns false'. Refute it at one input. -/
def argumentColumnsWrong : ChangeSpec := { name := "argumentColumns", fn := fun _ => fun
  | [d1, d2, d3, d4] => { results := [.lit (.bool false)], args := [d1, d2, d3, d4] }
  | _ => none }
def ArgumentColumnsWrongFalsely : Prop := argumentColumnsRow.holds Tryd.pinned (OpenSpec.ofChange argumentColumnsWrong)

/-- 'attestorlaw14.ArgumentCloses': WHATEVER THE INPUT: true; the input reads as it did. -/
def argumentClosesSpec : ChangeSpec := { name := "argumentCloses", fn := fun _ => fun
  | [d1, d2, d3, d4] => { results := [.lit (.bool true)], args := [d1, d2, d3, d4] }
  | _ => none }
def argumentClosesRow : OpenClaim := { program := "ytmimpfmlakdfdaadoor", sum := "93bb6aa27acc39dd65661123214522699e1c080d5af86f57132ab7ba5333ea57", func := "attestor/attestorlaw14.ArgumentCloses", spec := "argumentCloses", unfollowed := true, recurses := true, named := ["attestor/field.fields"], apart := false, laid := [("attestor/field.fields", laid_attestor_field_fields)] }
def ArgumentClosesSaid : Prop := argumentClosesRow.holds Tryd.pinned (OpenSpec.ofChange argumentClosesSpec)

/-- ITS FALSE NEIGHBOUR: 'it returns false'. Refute it at one input. -/
def argumentClosesWrong : ChangeSpec := { name := "argumentCloses", fn := fun _ => fun
  | [d1, d2, d3, d4] => { results := [.lit (.bool false)], args := [d1, d2, d3, d4] }
  | _ => none }
def ArgumentClosesWrongFalsely : Prop := argumentClosesRow.holds Tryd.pinned (OpenSpec.ofChange argumentClosesWrong)

/-- 'attestorlaw14.ArgumentProduct': WHATEVER THE INPUT: true; the input reads as it did. -/
def argumentProductSpec : ChangeSpec := { name := "argumentProduct", fn := fun _ => fun
  | [d1, d2, d3] => { results := [.lit (.bool true)], args := [d1, d2, d3] }
  | _ => none }
def argumentProductRow : OpenClaim := { program := "ytmimpfmlakdfdaadoor", sum := "93bb6aa27acc39dd65661123214522699e1c080d5af86f57132ab7ba5333ea57", func := "attestor/attestorlaw14.ArgumentProduct", spec := "argumentProduct", unfollowed := true, recurses := true, named := ["attestor/field.fields"], apart := false, laid := [("attestor/field.fields", laid_attestor_field_fields)] }
def ArgumentProductSaid : Prop := argumentProductRow.holds Tryd.pinned (OpenSpec.ofChange argumentProductSpec)

/-- ITS FALSE NEIGHBOUR: 'it returns false'. Refute it at one input. -/
def argumentProductWrong : ChangeSpec := { name := "argumentProduct", fn := fun _ => fun
  | [d1, d2, d3] => { results := [.lit (.bool false)], args := [d1, d2, d3] }
  | _ => none }
def ArgumentProductWrongFalsely : Prop := argumentProductRow.holds Tryd.pinned (OpenSpec.ofChange argumentProductWrong)

/-- 'attestorlaw14.ArgumentValues': WHATEVER THE INPUT: true; the input reads as it did. -/
def argumentValuesSpec : ChangeSpec := { name := "argumentValues", fn := fun _ => fun
  | [d1, d2] => { results := [.lit (.bool true)], args := [d1, d2] }
  | _ => none }
def argumentValuesRow : OpenClaim := { program := "ytmimpfmlakdfdaadoor", sum := "93bb6aa27acc39dd65661123214522699e1c080d5af86f57132ab7ba5333ea57", func := "attestor/attestorlaw14.ArgumentValues", spec := "argumentValues", unfollowed := true, recurses := true, named := ["attestor/field.fields"], apart := false, laid := [("attestor/field.fields", laid_attestor_field_fields)] }
def ArgumentValuesSaid : Prop := argumentValuesRow.holds Tryd.pinned (OpenSpec.ofChange argumentValuesSpec)

/-- ITS FALSE NEIGHBOUR: 'it returns false'. Refute it at one input. -/
def argumentValuesWrong : ChangeSpec := { name := "argumentValues", fn := fun _ => fun
  | [d1, d2] => { results := [.lit (.bool false)], args := [d1, d2] }
  | _ => none }
def ArgumentValuesWrongFalsely : Prop := argumentValuesRow.holds Tryd.pinned (OpenSpec.ofChange argumentValuesWrong)

/-- 'attestorlaw14.ArgumentKnown': WHATEVER THE INPUT: true; the input reads as it did. -/
def argumentKnownSpec : ChangeSpec := { name := "argumentKnown", fn := fun _ => fun
  | [] => { results := [.lit (.bool true)], args := [] }
  | _ => none }
def argumentKnownRow : OpenClaim := { program := "ytmimpfmlakdfdaadoor", sum := "93bb6aa27acc39dd65661123214522699e1c080d5af86f57132ab7ba5333ea57", func := "attestor/attestorlaw14.ArgumentKnown", spec := "argumentKnown", unfollowed := true, recurses := true, named := ["attestor/field.fields"], apart := false, laid := [("attestor/field.fields", laid_attestor_field_fields)] }
def ArgumentKnownSaid : Prop := argumentKnownRow.holds Tryd.pinned (OpenSpec.ofChange argumentKnownSpec)

/-- ITS FALSE NEIGHBOUR: 'it returns false'. Refute it at one input. -/
def argumentKnownWrong : ChangeSpec := { name := "argumentKnown", fn := fun _ => fun
  | [] => { results := [.lit (.bool false)], args := [] }
  | _ => none }
def ArgumentKnownWrongFalsely : Prop := argumentKnownRow.holds Tryd.pinned (OpenSpec.ofChange argumentKnownWrong)

/- THE SECOND FORM. 'bulk': how many values and letters a reading holds, each counted each time it is reached (what is shared counts as often as it is met; a slice's spare places count too). A statement '..UptoSaid' is the law's where the arguments, and the package variables that the reading takes, are together of bulk at most 1048576: NARROWER than '..Said'. Prove '..Said' where nothing that the law and all that it calls make is longer than what came in: it says more and counts as full. Else prove '..UptoSaid'. A law counts once. -/
mutual
def uptoBulk {H : Type} : DataW H → Nat
  | .lit (.string bytes) => bytes.length + 1
  | .lit _ => 1
  | .nil => 1
  | .ptr d => uptoBulk d + 1
  | .slice elems spare => uptoBulkAll elems + uptoBulkAll spare + 1
  | .agg parts => uptoBulkAll parts + 1
  | .iface _ d => uptoBulk d + 1
  | .map entries => uptoBulkEntries entries + 1
  | .held _ => 1
def uptoBulkAll {H : Type} : List (DataW H) → Nat
  | [] => 0
  | d :: r => uptoBulk d + uptoBulkAll r
def uptoBulkEntries {H : Type} : List (Lit × DataW H) → Nat
  | [] => 0
  | x :: r => uptoBulkEntry x + uptoBulkEntries r
def uptoBulkEntry {H : Type} : Lit × DataW H → Nat
  | (.string bytes, d) => bytes.length + uptoBulk d + 1
  | (_, d) => uptoBulk d + 1
 end
def uptoSmall : (H : Type) → List (DataW H) → Bool := fun _ ds => decide (uptoBulkAll ds ≤ 1048576)
def OpenSpec.upto (s : _root_.Go.ChangeSpec) : _root_.Go.OpenSpec := { _root_.Go.OpenSpec.ofChange s with cond := some uptoSmall }

/-- 'attestorlaw14.ArgumentColumns', WHERE WHAT IT READS IS OF BULK AT MOST 1048576: true; the input reads as it did. -/
def argumentColumnsUptoRow : OpenClaim := { program := "ytmimpfmlakdfdaadoor", sum := "93bb6aa27acc39dd65661123214522699e1c080d5af86f57132ab7ba5333ea57", func := "attestor/attestorlaw14.ArgumentColumns", spec := "argumentColumns", unfollowed := true, recurses := true, named := ["attestor/field.fields"], apart := false, laid := [("attestor/field.fields", laid_attestor_field_fields)], narrowed := true }
def ArgumentColumnsUptoSaid : Prop := argumentColumnsUptoRow.holds Tryd.pinned (OpenSpec.upto argumentColumnsSpec)

/-- 'attestorlaw14.ArgumentCloses', WHERE WHAT IT READS IS OF BULK AT MOST 1048576: true; the input reads as it did. -/
def argumentClosesUptoRow : OpenClaim := { program := "ytmimpfmlakdfdaadoor", sum := "93bb6aa27acc39dd65661123214522699e1c080d5af86f57132ab7ba5333ea57", func := "attestor/attestorlaw14.ArgumentCloses", spec := "argumentCloses", unfollowed := true, recurses := true, named := ["attestor/field.fields"], apart := false, laid := [("attestor/field.fields", laid_attestor_field_fields)], narrowed := true }
def ArgumentClosesUptoSaid : Prop := argumentClosesUptoRow.holds Tryd.pinned (OpenSpec.upto argumentClosesSpec)

/-- 'attestorlaw14.ArgumentProduct', WHERE WHAT IT READS IS OF BULK AT MOST 1048576: true; the input reads as it did. -/
def argumentProductUptoRow : OpenClaim := { program := "ytmimpfmlakdfdaadoor", sum := "93bb6aa27acc39dd65661123214522699e1c080d5af86f57132ab7ba5333ea57", func := "attestor/attestorlaw14.ArgumentProduct", spec := "argumentProduct", unfollowed := true, recurses := true, named := ["attestor/field.fields"], apart := false, laid := [("attestor/field.fields", laid_attestor_field_fields)], narrowed := true }
def ArgumentProductUptoSaid : Prop := argumentProductUptoRow.holds Tryd.pinned (OpenSpec.upto argumentProductSpec)

/-- 'attestorlaw14.ArgumentValues', WHERE WHAT IT READS IS OF BULK AT MOST 1048576: true; the input reads as it did. -/
def argumentValuesUptoRow : OpenClaim := { program := "ytmimpfmlakdfdaadoor", sum := "93bb6aa27acc39dd65661123214522699e1c080d5af86f57132ab7ba5333ea57", func := "attestor/attestorlaw14.ArgumentValues", spec := "argumentValues", unfollowed := true, recurses := true, named := ["attestor/field.fields"], apart := false, laid := [("attestor/field.fields", laid_attestor_field_fields)], narrowed := true }
def ArgumentValuesUptoSaid : Prop := argumentValuesUptoRow.holds Tryd.pinned (OpenSpec.upto argumentValuesSpec)

/-- 'attestorlaw14.ArgumentKnown', WHERE WHAT IT READS IS OF BULK AT MOST 1048576: true; the input reads as it did. -/
def argumentKnownUptoRow : OpenClaim := { program := "ytmimpfmlakdfdaadoor", sum := "93bb6aa27acc39dd65661123214522699e1c080d5af86f57132ab7ba5333ea57", func := "attestor/attestorlaw14.ArgumentKnown", spec := "argumentKnown", unfollowed := true, recurses := true, named := ["attestor/field.fields"], apart := false, laid := [("attestor/field.fields", laid_attestor_field_fields)], narrowed := true }
def ArgumentKnownUptoSaid : Prop := argumentKnownUptoRow.holds Tryd.pinned (OpenSpec.upto argumentKnownSpec)

end Rows
end Go.Proofs.YtmimpfmlakdfdaaDoor
