/-
  NARROWER THAN 'FOR EVERY INPUT', by the rows' own cells (each row's printed sentence says how): ProofShapes: laid · ProofDecodes: laid · ProofRound: laid · ProofBytes: laid · ProofOrder: laid · ProofKnown: laid · ProofEncodes: laid.
  DERIVED. THE GIVEN ROWS OF THIS SEAT. 7 by the template 'for every input the law returns true; each argument reads behind the call as it read before'; 0 by the template 'total and deterministic' (their statements: YtonfahekhieobaaDoorTotals.lean).
  GIVEN WITH THE SEED: the statements are not yours to turn. If you find one false, say at which input.
  Laid BY PROGRAM, IN A SANDBOX (cutbox-rows.mjs): the forced cells as the released guide's own fill.sh prints them over the translation 66a6fce68522f31a… (all of the seat's roots in one cut). By AI agents, Wed Nov 11 2026. No macro, syntax, notation, axiom, sorry.
-/
import Derived.Test.YtonfahekhieobaaDoorChecked
import GoSem.Claim
import GoSem.ClaimJoined
import GoSem.ClaimMapViews
import Derived.JoinedTies
import Derived.KernelRfl
namespace Go.Proofs.YtonfahekhieobaaDoor
/- THE CELL 'sum', in the pinned program and in every row, IS THE sha256 OF THE DUMP (.gsa) THAT YtonfahekhieobaaDoorProg.lean LOADS. Nothing in Lean hashes anything: it is a label: what it is worth is what the hold of that sum in a sandbox is worth. -/
noncomputable def Tryd.pinned : Pinned := { name := "ytonfahekhieobaadoor", sum := "66a6fce68522f31aea8e6a788b519f20b05515dd3a1a3d24976ba3df3db39450", checked := Tryd.checked }
namespace Rows
def none {H : Type} : Left H := { results := [], args := [] }

/- WHAT THE LISTED PACKAGE-LEVEL VARIABLES READ AS WHEN THE CALL BEGINS. Each datum BY PROGRAM (the guide's laid-datum.mjs) off the statement by which the dump's own 'gosem.cut.vars' lays the variable. In a bare row this is a premise. The card (YtonfahekhieobaaDoorCards.lean) ties it to the program's text. -/
def laid_attestor_field_fields {H : Type} : DataW H := .agg [.agg [.lit (.int .u64 97), .lit (.int .u64 5), .lit (.int .i64 5), .lit (.int .i64 5), .slice [.lit (.int .u64 3)] []], .agg [.lit (.int .u64 257), .lit (.int .u64 3), .lit (.int .i64 8), .lit (.int .i64 3), .nil], .agg [.lit (.int .u64 12289), .lit (.int .u64 11), .lit (.int .i64 12), .lit (.int .i64 5), .slice [.lit (.int .u64 3)] []], .agg [.lit (.int .u64 998244353), .lit (.int .u64 3), .lit (.int .i64 23), .lit (.int .i64 3), .slice [.lit (.int .u64 7), .lit (.int .u64 17)] []]]

/-- 'attestorlaw17.ProofShapes': WHATEVER THE INPUT: true; the input reads as it did. -/
def proofShapesSpec : ChangeSpec := { name := "proofShapes", fn := fun _ => fun
  | [d] => { results := [.lit (.bool true)], args := [d] }
  | _ => none }
def proofShapesRow : OpenClaim := { program := "ytonfahekhieobaadoor", sum := "66a6fce68522f31aea8e6a788b519f20b05515dd3a1a3d24976ba3df3db39450", func := "attestor/attestorlaw17.ProofShapes", spec := "proofShapes", unfollowed := true, recurses := true, named := ["attestor/field.fields"], apart := false, laid := [("attestor/field.fields", laid_attestor_field_fields)] }
def ProofShapesSaid : Prop := proofShapesRow.holds Tryd.pinned (OpenSpec.ofChange proofShapesSpec)

/-- ITS FALSE NEIGHBOUR: 'it returns false'. Refute it at one input. -/
def proofShapesWrong : ChangeSpec := { name := "proofShapes", fn := fun _ => fun
  | [d] => { results := [.lit (.bool false)], args := [d] }
  | _ => none }
def ProofShapesWrongFalsely : Prop := proofShapesRow.holds Tryd.pinned (OpenSpec.ofChange proofShapesWrong)

/-- 'attestorlaw17.ProofDecodes': WHATEVER THE INPUT: true; the input reads as it did. -/
def proofDecodesSpec : ChangeSpec := { name := "proofDecodes", fn := fun _ => fun
  | [d1, d2] => { results := [.lit (.bool true)], args := [d1, d2] }
  | _ => none }
def proofDecodesRow : OpenClaim := { program := "ytonfahekhieobaadoor", sum := "66a6fce68522f31aea8e6a788b519f20b05515dd3a1a3d24976ba3df3db39450", func := "attestor/attestorlaw17.ProofDecodes", spec := "proofDecodes", unfollowed := true, recurses := true, named := ["attestor/field.fields"], apart := false, laid := [("attestor/field.fields", laid_attestor_field_fields)] }
def ProofDecodesSaid : Prop := proofDecodesRow.holds Tryd.pinned (OpenSpec.ofChange proofDecodesSpec)

/-- ITS FALSE NEIGHBOUR: 'it returns false'. Refute it at one input. -/
def proofDecodesWrong : ChangeSpec := { name := "proofDecodes", fn := fun _ => fun
  | [d1, d2] => { results := [.lit (.bool false)], args := [d1, d2] }
  | _ => none }
def ProofDecodesWrongFalsely : Prop := proofDecodesRow.holds Tryd.pinned (OpenSpec.ofChange proofDecodesWrong)

/-- 'attestorlaw17.ProofRound': WHATEVER THE INPUT: true; the input reads as it did. -/
def proofRoundSpec : ChangeSpec := { name := "proofRound", fn := fun _ => fun
  | [d1, d2] => { results := [.lit (.bool true)], args := [d1, d2] }
  | _ => none }
def proofRoundRow : OpenClaim := { program := "ytonfahekhieobaadoor", sum := "66a6fce68522f31aea8e6a788b519f20b05515dd3a1a3d24976ba3df3db39450", func := "attestor/attestorlaw17.ProofRound", spec := "proofRound", unfollowed := true, recurses := true, named := ["attestor/field.fields"], apart := false, laid := [("attestor/field.fields", laid_attestor_field_fields)] }
def ProofRoundSaid : Prop := proofRoundRow.holds Tryd.pinned (OpenSpec.ofChange proofRoundSpec)

/-- ITS FALSE NEIGHBOUR: 'it returns false'. Refute it at one input. -/
def proofRoundWrong : ChangeSpec := { name := "proofRound", fn := fun _ => fun
  | [d1, d2] => { results := [.lit (.bool false)], args := [d1, d2] }
  | _ => none }
def ProofRoundWrongFalsely : Prop := proofRoundRow.holds Tryd.pinned (OpenSpec.ofChange proofRoundWrong)

/-- 'attestorlaw17.ProofBytes': WHATEVER THE INPUT: true; the input reads as it did. -/
def proofBytesSpec : ChangeSpec := { name := "proofBytes", fn := fun _ => fun
  | [d1, d2, d3, d4] => { results := [.lit (.bool true)], args := [d1, d2, d3, d4] }
  | _ => none }
def proofBytesRow : OpenClaim := { program := "ytonfahekhieobaadoor", sum := "66a6fce68522f31aea8e6a788b519f20b05515dd3a1a3d24976ba3df3db39450", func := "attestor/attestorlaw17.ProofBytes", spec := "proofBytes", unfollowed := true, recurses := true, named := ["attestor/field.fields"], apart := false, laid := [("attestor/field.fields", laid_attestor_field_fields)] }
def ProofBytesSaid : Prop := proofBytesRow.holds Tryd.pinned (OpenSpec.ofChange proofBytesSpec)

/-- ITS FALSE NEIGHBOUR: 'it returns false'. Refute it at one input. -/
def proofBytesWrong : ChangeSpec := { name := "proofBytes", fn := fun _ => fun
  | [d1, d2, d3, d4] => { results := [.lit (.bool false)], args := [d1, d2, d3, d4] }
  | _ => none }
def ProofBytesWrongFalsely : Prop := proofBytesRow.holds Tryd.pinned (OpenSpec.ofChange proofBytesWrong)

/-- 'attestorlaw17.ProofOrder': WHATEVER THE INPUT: true; the input reads as it did. -/
def proofOrderSpec : ChangeSpec := { name := "proofOrder", fn := fun _ => fun
  | [d1, d2] => { results := [.lit (.bool true)], args := [d1, d2] }
  | _ => none }
def proofOrderRow : OpenClaim := { program := "ytonfahekhieobaadoor", sum := "66a6fce68522f31aea8e6a788b519f20b05515dd3a1a3d24976ba3df3db39450", func := "attestor/attestorlaw17.ProofOrder", spec := "proofOrder", unfollowed := true, recurses := true, named := ["attestor/field.fields"], apart := false, laid := [("attestor/field.fields", laid_attestor_field_fields)] }
def ProofOrderSaid : Prop := proofOrderRow.holds Tryd.pinned (OpenSpec.ofChange proofOrderSpec)

/-- ITS FALSE NEIGHBOUR: 'it returns false'. Refute it at one input. -/
def proofOrderWrong : ChangeSpec := { name := "proofOrder", fn := fun _ => fun
  | [d1, d2] => { results := [.lit (.bool false)], args := [d1, d2] }
  | _ => none }
def ProofOrderWrongFalsely : Prop := proofOrderRow.holds Tryd.pinned (OpenSpec.ofChange proofOrderWrong)

/-- 'attestorlaw17.ProofKnown': WHATEVER THE INPUT: true; the input reads as it did. -/
def proofKnownSpec : ChangeSpec := { name := "proofKnown", fn := fun _ => fun
  | [] => { results := [.lit (.bool true)], args := [] }
  | _ => none }
def proofKnownRow : OpenClaim := { program := "ytonfahekhieobaadoor", sum := "66a6fce68522f31aea8e6a788b519f20b05515dd3a1a3d24976ba3df3db39450", func := "attestor/attestorlaw17.ProofKnown", spec := "proofKnown", unfollowed := true, recurses := true, named := ["attestor/field.fields"], apart := false, laid := [("attestor/field.fields", laid_attestor_field_fields)] }
def ProofKnownSaid : Prop := proofKnownRow.holds Tryd.pinned (OpenSpec.ofChange proofKnownSpec)

/-- ITS FALSE NEIGHBOUR: 'it returns false'. Refute it at one input. -/
def proofKnownWrong : ChangeSpec := { name := "proofKnown", fn := fun _ => fun
  | [] => { results := [.lit (.bool false)], args := [] }
  | _ => none }
def ProofKnownWrongFalsely : Prop := proofKnownRow.holds Tryd.pinned (OpenSpec.ofChange proofKnownWrong)

/-- 'attestorlaw17.ProofEncodes': WHATEVER THE INPUT: true; the input reads as it did. -/
def proofEncodesSpec : ChangeSpec := { name := "proofEncodes", fn := fun _ => fun
  | [d1, d2, d3] => { results := [.lit (.bool true)], args := [d1, d2, d3] }
  | _ => none }
def proofEncodesRow : OpenClaim := { program := "ytonfahekhieobaadoor", sum := "66a6fce68522f31aea8e6a788b519f20b05515dd3a1a3d24976ba3df3db39450", func := "attestor/attestorlaw17.ProofEncodes", spec := "proofEncodes", unfollowed := true, recurses := true, named := ["attestor/field.fields"], apart := false, laid := [("attestor/field.fields", laid_attestor_field_fields)] }
def ProofEncodesSaid : Prop := proofEncodesRow.holds Tryd.pinned (OpenSpec.ofChange proofEncodesSpec)

/-- ITS FALSE NEIGHBOUR: 'it returns false'. Refute it at one input. -/
def proofEncodesWrong : ChangeSpec := { name := "proofEncodes", fn := fun _ => fun
  | [d1, d2, d3] => { results := [.lit (.bool false)], args := [d1, d2, d3] }
  | _ => none }
def ProofEncodesWrongFalsely : Prop := proofEncodesRow.holds Tryd.pinned (OpenSpec.ofChange proofEncodesWrong)

/- THE SECOND FORM. 'bulk': how many values and letters a reading holds, each counted each time it is reached (what is shared counts as often as it is met; a slice's spare places count too). A statement '..UptoSaid' is the law's where the arguments, and the package variables that the reading takes, are together of bulk at most 1048576: NARROWER than '..Said'. Prove '..Said' where nothing that the law and all that it calls make is longer than what came in: it says more and counts as full. Else prove '..UptoSaid'. A law counts once. -/
mutual
def uptoBulk {H : Type} : DataW H → Nat
  | .lit (.string bytes) => bytes.length + 1
  | .lit _ => 1
  | .nil => 1
  | .ptr d => uptoBulk d + 1
  | .slice elems spare => uptoBulkAll elems + uptoBulkAll spare + 1
  | .agg parts => uptoBulkAll parts + 1
  | .iface _ d => uptoBulk d + 1
  | .map entries => uptoBulkEntries entries + 1
  | .held _ => 1
def uptoBulkAll {H : Type} : List (DataW H) → Nat
  | [] => 0
  | d :: r => uptoBulk d + uptoBulkAll r
def uptoBulkEntries {H : Type} : List (Lit × DataW H) → Nat
  | [] => 0
  | x :: r => uptoBulkEntry x + uptoBulkEntries r
def uptoBulkEntry {H : Type} : Lit × DataW H → Nat
  | (.string bytes, d) => bytes.length + uptoBulk d + 1
  | (_, d) => uptoBulk d + 1
 end
def uptoSmall : (H : Type) → List (DataW H) → Bool := fun _ ds => decide (uptoBulkAll ds ≤ 1048576)
def OpenSpec.upto (s : _root_.Go.ChangeSpec) : _root_.Go.OpenSpec := { _root_.Go.OpenSpec.ofChange s with cond := some uptoSmall }

/-- 'attestorlaw17.ProofShapes', WHERE WHAT IT READS IS OF BULK AT MOST 1048576: true; the input reads as it did. -/
def proofShapesUptoRow : OpenClaim := { program := "ytonfahekhieobaadoor", sum := "66a6fce68522f31aea8e6a788b519f20b05515dd3a1a3d24976ba3df3db39450", func := "attestor/attestorlaw17.ProofShapes", spec := "proofShapes", unfollowed := true, recurses := true, named := ["attestor/field.fields"], apart := false, laid := [("attestor/field.fields", laid_attestor_field_fields)], narrowed := true }
def ProofShapesUptoSaid : Prop := proofShapesUptoRow.holds Tryd.pinned (OpenSpec.upto proofShapesSpec)

/-- 'attestorlaw17.ProofDecodes', WHERE WHAT IT READS IS OF BULK AT MOST 1048576: true; the input reads as it did. -/
def proofDecodesUptoRow : OpenClaim := { program := "ytonfahekhieobaadoor", sum := "66a6fce68522f31aea8e6a788b519f20b05515dd3a1a3d24976ba3df3db39450", func := "attestor/attestorlaw17.ProofDecodes", spec := "proofDecodes", unfollowed := true, recurses := true, named := ["attestor/field.fields"], apart := false, laid := [("attestor/field.fields", laid_attestor_field_fields)], narrowed := true }
def ProofDecodesUptoSaid : Prop := proofDecodesUptoRow.holds Tryd.pinned (OpenSpec.upto proofDecodesSpec)

/-- 'attestorlaw17.ProofRound', WHERE WHAT IT READS IS OF BULK AT MOST 1048576: true; the input reads as it did. -/
def proofRoundUptoRow : OpenClaim := { program := "ytonfahekhieobaadoor", sum := "66a6fce68522f31aea8e6a788b519f20b05515dd3a1a3d24976ba3df3db39450", func := "attestor/attestorlaw17.ProofRound", spec := "proofRound", unfollowed := true, recurses := true, named := ["attestor/field.fields"], apart := false, laid := [("attestor/field.fields", laid_attestor_field_fields)], narrowed := true }
def ProofRoundUptoSaid : Prop := proofRoundUptoRow.holds Tryd.pinned (OpenSpec.upto proofRoundSpec)

/-- 'attestorlaw17.ProofBytes', WHERE WHAT IT READS IS OF BULK AT MOST 1048576: true; the input reads as it did. -/
def proofBytesUptoRow : OpenClaim := { program := "ytonfahekhieobaadoor", sum := "66a6fce68522f31aea8e6a788b519f20b05515dd3a1a3d24976ba3df3db39450", func := "attestor/attestorlaw17.ProofBytes", spec := "proofBytes", unfollowed := true, recurses := true, named := ["attestor/field.fields"], apart := false, laid := [("attestor/field.fields", laid_attestor_field_fields)], narrowed := true }
def ProofBytesUptoSaid : Prop := proofBytesUptoRow.holds Tryd.pinned (OpenSpec.upto proofBytesSpec)

/-- 'attestorlaw17.ProofOrder', WHERE WHAT IT READS IS OF BULK AT MOST 1048576: true; the input reads as it did. -/
def proofOrderUptoRow : OpenClaim := { program := "ytonfahekhieobaadoor", sum := "66a6fce68522f31aea8e6a788b519f20b05515dd3a1a3d24976ba3df3db39450", func := "attestor/attestorlaw17.ProofOrder", spec := "proofOrder", unfollowed := true, recurses := true, named := ["attestor/field.fields"], apart := false, laid := [("attestor/field.fields", laid_attestor_field_fields)], narrowed := true }
def ProofOrderUptoSaid : Prop := proofOrderUptoRow.holds Tryd.pinned (OpenSpec.upto proofOrderSpec)

/-- 'attestorlaw17.ProofKnown', WHERE WHAT IT READS IS OF BULK AT MOST 1048576: true; the input reads as it did. -/
def proofKnownUptoRow : OpenClaim := { program := "ytonfahekhieobaadoor", sum := "66a6fce68522f31aea8e6a788b519f20b05515dd3a1a3d24976ba3df3db39450", func := "attestor/attestorlaw17.ProofKnown", spec := "proofKnown", unfollowed := true, recurses := true, named := ["attestor/field.fields"], apart := false, laid := [("attestor/field.fields", laid_attestor_field_fields)], narrowed := true }
def ProofKnownUptoSaid : Prop := proofKnownUptoRow.holds Tryd.pinned (OpenSpec.upto proofKnownSpec)

/-- 'attestorlaw17.ProofEncodes', WHERE WHAT IT READS IS OF BULK AT MOST 1048576: true; the input reads as it did. -/
def proofEncodesUptoRow : OpenClaim := { program := "ytonfahekhieobaadoor", sum := "66a6fce68522f31aea8e6a788b519f20b05515dd3a1a3d24976ba3df3db39450", func := "attestor/attestorlaw17.ProofEncodes", spec := "proofEncodes", unfollowed := true, recurses := true, named := ["attestor/field.fields"], apart := false, laid := [("attestor/field.fields", laid_attestor_field_fields)], narrowed := true }
def ProofEncodesUptoSaid : Prop := proofEncodesUptoRow.holds Tryd.pinned (OpenSpec.upto proofEncodesSpec)

end Rows
end Go.Proofs.YtonfahekhieobaaDoor
