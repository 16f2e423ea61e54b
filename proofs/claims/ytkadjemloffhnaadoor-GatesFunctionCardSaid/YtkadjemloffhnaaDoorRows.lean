/-
  NARROWER THAN 'FOR EVERY INPUT', by the rows' own cells (each row's printed sentence says how): GatesHold: laid · GatesFunction: laid · GatesRun: laid · GatesPerm: laid · GatesKnown: laid.
  DERIVED. THE GIVEN ROWS OF THIS SEAT. 5 by the template 'for every input the law returns true; each argument reads behind the call as it read before'; 0 by the template 'total and deterministic' (their statements: YtkadjemloffhnaaDoorTotals.lean).
  GIVEN WITH THE SEED: the statements are not yours to turn. If you find one false, say at which input.
  Laid BY PROGRAM, IN A SANDBOX (cutbox-rows.mjs): the forced cells as the released guide's own fill.sh prints them over the translation 022801175c3346f3… (all of the seat's roots in one cut). By AI agents, Wed Nov 11 2026. No macro, syntax, notation, axiom, sorry.
-/
import Derived.Test.YtkadjemloffhnaaDoorChecked
import GoSem.Claim
import GoSem.ClaimJoined
import GoSem.ClaimMapViews
import Derived.JoinedTies
import Derived.KernelRfl
namespace Go.Proofs.YtkadjemloffhnaaDoor
/- THE CELL 'sum', in the pinned program and in every row, IS THE sha256 OF THE DUMP (.gsa) THAT YtkadjemloffhnaaDoorProg.lean LOADS. Nothing in Lean hashes anything: it is a label: what it is worth is what the hold of that sum in a sandbox is worth. -/
noncomputable def Tryd.pinned : Pinned := { name := "ytkadjemloffhnaadoor", sum := "022801175c3346f34f5c655da6dfb6073717c4c68a362b81590f969bbc0e2163", checked := Tryd.checked }
namespace Rows
def none {H : Type} : Left H := { results := [], args := [] }

/- WHAT THE LISTED PACKAGE-LEVEL VARIABLES READ AS WHEN THE CALL BEGINS. Each datum BY PROGRAM (the guide's laid-datum.mjs) off the statement by which the dump's own 'gosem.cut.vars' lays the variable. In a bare row this is a premise. The card (YtkadjemloffhnaaDoorCards.lean) ties it to the program's text. -/
def laid_attestor_field_fields {H : Type} : DataW H := .agg [.agg [.lit (.int .u64 97), .lit (.int .u64 5), .lit (.int .i64 5), .lit (.int .i64 5), .slice [.lit (.int .u64 3)] []], .agg [.lit (.int .u64 257), .lit (.int .u64 3), .lit (.int .i64 8), .lit (.int .i64 3), .nil], .agg [.lit (.int .u64 12289), .lit (.int .u64 11), .lit (.int .i64 12), .lit (.int .i64 5), .slice [.lit (.int .u64 3)] []], .agg [.lit (.int .u64 998244353), .lit (.int .u64 3), .lit (.int .i64 23), .lit (.int .i64 3), .slice [.lit (.int .u64 7), .lit (.int .u64 17)] []]]

/-- 'attestorlaw23.GatesHold': WHATEVER THE INPUT: true; the input reads as it did. -/
def gatesHoldSpec : ChangeSpec := { name := "gatesHold", fn := fun _ => fun
  | [d1, d2, d3] => { results := [.lit (.bool true)], args := [d1, d2, d3] }
  | _ => none }
def gatesHoldRow : OpenClaim := { program := "ytkadjemloffhnaadoor", sum := "022801175c3346f34f5c655da6dfb6073717c4c68a362b81590f969bbc0e2163", func := "attestor/attestorlaw23.GatesHold", spec := "gatesHold", unfollowed := true, recurses := true, named := ["attestor/field.fields"], apart := false, laid := [("attestor/field.fields", laid_attestor_field_fields)] }
def GatesHoldSaid : Prop := gatesHoldRow.holds Tryd.pinned (OpenSpec.ofChange gatesHoldSpec)

/-- ITS FALSE NEIGHBOUR: 'it returns false'. Refute it at one input. -/
def gatesHoldWrong : ChangeSpec := { name := "gatesHold", fn := fun _ => fun
  | [d1, d2, d3] => { results := [.lit (.bool false)], args := [d1, d2, d3] }
  | _ => none }
def GatesHoldWrongFalsely : Prop := gatesHoldRow.holds Tryd.pinned (OpenSpec.ofChange gatesHoldWrong)

/-- 'attestorlaw23.GatesFunction': WHATEVER THE INPUT: true; the input reads as it did. -/
def gatesFunctionSpec : ChangeSpec := { name := "gatesFunction", fn := fun _ => fun
  | [d1, d2] => { results := [.lit (.bool true)], args := [d1, d2] }
  | _ => none }
def gatesFunctionRow : OpenClaim := { program := "ytkadjemloffhnaadoor", sum := "022801175c3346f34f5c655da6dfb6073717c4c68a362b81590f969bbc0e2163", func := "attestor/attestorlaw23.GatesFunction", spec := "gatesFunction", unfollowed := true, recurses := true, named := ["attestor/field.fields"], apart := false, laid := [("attestor/field.fields", laid_attestor_field_fields)] }
def GatesFunctionSaid : Prop := gatesFunctionRow.holds Tryd.pinned (OpenSpec.ofChange gatesFunctionSpec)

/-- ITS FALSE NEIGHBOUR: 'it returns false'. Refute it at one input. -/
def gatesFunctionWrong : ChangeSpec := { name := "gatesFunction", fn := fun _ => fun
  | [d1, d2] => { results := [.lit (.bool false)], args := [d1, d2] }
  | _ => none }
def GatesFunctionWrongFalsely : Prop := gatesFunctionRow.holds Tryd.pinned (OpenSpec.ofChange gatesFunctionWrong)

/-- 'attestorlaw23.GatesRun': WHATEVER THE INPUT: true; the input reads as it did. -/
def gatesRunSpec : ChangeSpec := { name := "gatesRun", fn := fun _ => fun
  | [d1, d2, d3] => { results := [.lit (.bool true)], args := [d1, d2, d3] }
  | _ => none }
def gatesRunRow : OpenClaim := { program := "ytkadjemloffhnaadoor", sum := "022801175c3346f34f5c655da6dfb6073717c4c68a362b81590f969bbc0e2163", func := "attestor/attestorlaw23.GatesRun", spec := "gatesRun", unfollowed := true, recurses := true, named := ["attestor/field.fields"], apart := false, laid := [("attestor/field.fields", laid_attestor_field_fields)] }
def GatesRunSaid : Prop := gatesRunRow.holds Tryd.pinned (OpenSpec.ofChange gatesRunSpec)

/-- ITS FALSE NEIGHBOUR: 'it returns false'. Refute it at one input. -/
def gatesRunWrong : ChangeSpec := { name := "gatesRun", fn := fun _ => fun
  | [d1, d2, d3] => { results := [.lit (.bool false)], args := [d1, d2, d3] }
  | _ => none }
def GatesRunWrongFalsely : Prop := gatesRunRow.holds Tryd.pinned (OpenSpec.ofChange gatesRunWrong)

/-- 'attestorlaw23.GatesPerm': WHATEVER THE INPUT: true; the input reads as it did. -/
def gatesPermSpec : ChangeSpec := { name := "gatesPerm", fn := fun _ => fun
  | [d1, d2] => { results := [.lit (.bool true)], args := [d1, d2] }
  | _ => none }
def gatesPermRow : OpenClaim := { program := "ytkadjemloffhnaadoor", sum := "022801175c3346f34f5c655da6dfb6073717c4c68a362b81590f969bbc0e2163", func := "attestor/attestorlaw23.GatesPerm", spec := "gatesPerm", unfollowed := true, recurses := true, named := ["attestor/field.fields"], apart := false, laid := [("attestor/field.fields", laid_attestor_field_fields)] }
def GatesPermSaid : Prop := gatesPermRow.holds Tryd.pinned (OpenSpec.ofChange gatesPermSpec)

/-- ITS FALSE NEIGHBOUR: 'it returns false'. Refute it at one input. -/
def gatesPermWrong : ChangeSpec := { name := "gatesPerm", fn := fun _ => fun
  | [d1, d2] => { results := [.lit (.bool false)], args := [d1, d2] }
  | _ => none }
def GatesPermWrongFalsely : Prop := gatesPermRow.holds Tryd.pinned (OpenSpec.ofChange gatesPermWrong)

/-- 'attestorlaw23.GatesKnown': WHATEVER THE INPUT: true; the input reads as it did. -/
def gatesKnownSpec : ChangeSpec := { name := "gatesKnown", fn := fun _ => fun
  | [] => { results := [.lit (.bool true)], args := [] }
  | _ => none }
def gatesKnownRow : OpenClaim := { program := "ytkadjemloffhnaadoor", sum := "022801175c3346f34f5c655da6dfb6073717c4c68a362b81590f969bbc0e2163", func := "attestor/attestorlaw23.GatesKnown", spec := "gatesKnown", unfollowed := true, recurses := true, named := ["attestor/field.fields"], apart := false, laid := [("attestor/field.fields", laid_attestor_field_fields)] }
def GatesKnownSaid : Prop := gatesKnownRow.holds Tryd.pinned (OpenSpec.ofChange gatesKnownSpec)

/-- ITS FALSE NEIGHBOUR: 'it returns false'. Refute it at one input. -/
def gatesKnownWrong : ChangeSpec := { name := "gatesKnown", fn := fun _ => fun
  | [] => { results := [.lit (.bool false)], args := [] }
  | _ => none }
def GatesKnownWrongFalsely : Prop := gatesKnownRow.holds Tryd.pinned (OpenSpec.ofChange gatesKnownWrong)

/- THE SECOND FORM. 'bulk': how many values and letters a reading holds, each counted each time it is reached (what is shared counts as often as it is met; a slice's spare places count too). A statement '..UptoSaid' is the law's where the arguments, and the package variables that the reading takes, are together of bulk at most 1048576: NARROWER than '..Said'. Prove '..Said' where nothing that the law and all that it calls make is longer than what came in: it says more and counts as full. Else prove '..UptoSaid'. A law counts once. -/
mutual
def uptoBulk {H : Type} : DataW H → Nat
  | .lit (.string bytes) => bytes.length + 1
  | .lit _ => 1
  | .nil => 1
  | .ptr d => uptoBulk d + 1
  | .slice elems spare => uptoBulkAll elems + uptoBulkAll spare + 1
  | .agg parts => uptoBulkAll parts + 1
  | .iface _ d => uptoBulk d + 1
  | .map entries => uptoBulkEntries entries + 1
  | .held _ => 1
def uptoBulkAll {H : Type} : List (DataW H) → Nat
  | [] => 0
  | d :: r => uptoBulk d + uptoBulkAll r
def uptoBulkEntries {H : Type} : List (Lit × DataW H) → Nat
  | [] => 0
  | x :: r => uptoBulkEntry x + uptoBulkEntries r
def uptoBulkEntry {H : Type} : Lit × DataW H → Nat
  | (.string bytes, d) => bytes.length + uptoBulk d + 1
  | (_, d) => uptoBulk d + 1
 end
def uptoSmall : (H : Type) → List (DataW H) → Bool := fun _ ds => decide (uptoBulkAll ds ≤ 1048576)
def OpenSpec.upto (s : _root_.Go.ChangeSpec) : _root_.Go.OpenSpec := { _root_.Go.OpenSpec.ofChange s with cond := some uptoSmall }

/-- 'attestorlaw23.GatesHold', WHERE WHAT IT READS IS OF BULK AT MOST 1048576: true; the input reads as it did. -/
def gatesHoldUptoRow : OpenClaim := { program := "ytkadjemloffhnaadoor", sum := "022801175c3346f34f5c655da6dfb6073717c4c68a362b81590f969bbc0e2163", func := "attestor/attestorlaw23.GatesHold", spec := "gatesHold", unfollowed := true, recurses := true, named := ["attestor/field.fields"], apart := false, laid := [("attestor/field.fields", laid_attestor_field_fields)], narrowed := true }
def GatesHoldUptoSaid : Prop := gatesHoldUptoRow.holds Tryd.pinned (OpenSpec.upto gatesHoldSpec)

/-- 'attestorlaw23.GatesFunction', WHERE WHAT IT READS IS OF BULK AT MOST 1048576: true; the input reads as it did. -/
def gatesFunctionUptoRow : OpenClaim := { program := "ytkadjemloffhnaadoor", sum := "022801175c3346f34f5c655da6dfb6073717c4c68a362b81590f969bbc0e2163", func := "attestor/attestorlaw23.GatesFunction", spec := "gatesFunction", unfollowed := true, recurses := true, named := ["attestor/field.fields"], apart := false, laid := [("attestor/field.fields", laid_attestor_field_fields)], narrowed := true }
def GatesFunctionUptoSaid : Prop := gatesFunctionUptoRow.holds Tryd.pinned (OpenSpec.upto gatesFunctionSpec)

/-- 'attestorlaw23.GatesRun', WHERE WHAT IT READS IS OF BULK AT MOST 1048576: true; the input reads as it did. -/
def gatesRunUptoRow : OpenClaim := { program := "ytkadjemloffhnaadoor", sum := "022801175c3346f34f5c655da6dfb6073717c4c68a362b81590f969bbc0e2163", func := "attestor/attestorlaw23.GatesRun", spec := "gatesRun", unfollowed := true, recurses := true, named := ["attestor/field.fields"], apart := false, laid := [("attestor/field.fields", laid_attestor_field_fields)], narrowed := true }
def GatesRunUptoSaid : Prop := gatesRunUptoRow.holds Tryd.pinned (OpenSpec.upto gatesRunSpec)

/-- 'attestorlaw23.GatesPerm', WHERE WHAT IT READS IS OF BULK AT MOST 1048576: true; the input reads as it did. -/
def gatesPermUptoRow : OpenClaim := { program := "ytkadjemloffhnaadoor", sum := "022801175c3346f34f5c655da6dfb6073717c4c68a362b81590f969bbc0e2163", func := "attestor/attestorlaw23.GatesPerm", spec := "gatesPerm", unfollowed := true, recurses := true, named := ["attestor/field.fields"], apart := false, laid := [("attestor/field.fields", laid_attestor_field_fields)], narrowed := true }
def GatesPermUptoSaid : Prop := gatesPermUptoRow.holds Tryd.pinned (OpenSpec.upto gatesPermSpec)

/-- 'attestorlaw23.GatesKnown', WHERE WHAT IT READS IS OF BULK AT MOST 1048576: true; the input reads as it did. -/
def gatesKnownUptoRow : OpenClaim := { program := "ytkadjemloffhnaadoor", sum := "022801175c3346f34f5c655da6dfb6073717c4c68a362b81590f969bbc0e2163", func := "attestor/attestorlaw23.GatesKnown", spec := "gatesKnown", unfollowed := true, recurses := true, named := ["attestor/field.fields"], apart := false, laid := [("attestor/field.fields", laid_attestor_field_fields)], narrowed := true }
def GatesKnownUptoSaid : Prop := gatesKnownUptoRow.holds Tryd.pinned (OpenSpec.upto gatesKnownSpec)

end Rows
end Go.Proofs.YtkadjemloffhnaaDoor
