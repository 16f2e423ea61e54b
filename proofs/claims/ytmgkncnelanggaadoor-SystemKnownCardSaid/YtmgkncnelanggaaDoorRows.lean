/-
  NARROWER THAN 'FOR EVERY INPUT', by the rows' own cells (each row's printed sentence says how): SystemFaults: laid · SystemTurns: laid · SystemPerms: laid · SystemEnvs: laid · SystemKnown: laid · SystemWords: laid · SystemValid: laid.
  DERIVED. THE GIVEN ROWS OF THIS SEAT. 7 by the template 'for every input the law returns true; each argument reads behind the call as it read before'; 0 by the template 'total and deterministic' (their statements: YtmgkncnelanggaaDoorTotals.lean).
  GIVEN WITH THE SEED: the statements are not yours to turn. If you find one false, say at which input.
  Laid BY PROGRAM, IN A SANDBOX (cutbox-rows.mjs): the forced cells as the released guide's own fill.sh prints them over the translation 11302baf0af4ae20… (all of the seat's roots in one cut). By AI agents, Wed Nov 11 2026. No macro, syntax, notation, axiom, sorry.
-/
import Derived.Test.YtmgkncnelanggaaDoorChecked
import GoSem.Claim
import GoSem.ClaimJoined
import GoSem.ClaimMapViews
import Derived.JoinedTies
import Derived.KernelRfl
namespace Go.Proofs.YtmgkncnelanggaaDoor
/- THE CELL 'sum', in the pinned program and in every row, IS THE sha256 OF THE DUMP (.gsa) THAT YtmgkncnelanggaaDoorProg.lean LOADS. Nothing in Lean hashes anything: it is a label: what it is worth is what the hold of that sum in a sandbox is worth. -/
noncomputable def Tryd.pinned : Pinned := { name := "ytmgkncnelanggaadoor", sum := "11302baf0af4ae20ea0546a4085fc65fa8ea0a8e293ad17c505edf9dfb797c6b", checked := Tryd.checked }
namespace Rows
def none {H : Type} : Left H := { results := [], args := [] }

/- WHAT THE LISTED PACKAGE-LEVEL VARIABLES READ AS WHEN THE CALL BEGINS. Each datum BY PROGRAM (the guide's laid-datum.mjs) off the statement by which the dump's own 'gosem.cut.vars' lays the variable. In a bare row this is a premise. The card (YtmgkncnelanggaaDoorCards.lean) ties it to the program's text. -/
def laid_attestor_field_fields {H : Type} : DataW H := .agg [.agg [.lit (.int .u64 97), .lit (.int .u64 5), .lit (.int .i64 5), .lit (.int .i64 5), .slice [.lit (.int .u64 3)] []], .agg [.lit (.int .u64 257), .lit (.int .u64 3), .lit (.int .i64 8), .lit (.int .i64 3), .nil], .agg [.lit (.int .u64 12289), .lit (.int .u64 11), .lit (.int .i64 12), .lit (.int .i64 5), .slice [.lit (.int .u64 3)] []], .agg [.lit (.int .u64 998244353), .lit (.int .u64 3), .lit (.int .i64 23), .lit (.int .i64 3), .slice [.lit (.int .u64 7), .lit (.int .u64 17)] []]]

/-- 'attestorlaw13.SystemFaults': WHATEVER THE INPUT: true; the input reads as it did. -/
def systemFaultsSpec : ChangeSpec := { name := "systemFaults", fn := fun _ => fun
  | [d1, d2] => { results := [.lit (.bool true)], args := [d1, d2] }
  | _ => none }
def systemFaultsRow : OpenClaim := { program := "ytmgkncnelanggaadoor", sum := "11302baf0af4ae20ea0546a4085fc65fa8ea0a8e293ad17c505edf9dfb797c6b", func := "attestor/attestorlaw13.SystemFaults", spec := "systemFaults", unfollowed := true, recurses := true, named := ["attestor/field.fields"], apart := false, laid := [("attestor/field.fields", laid_attestor_field_fields)] }
def SystemFaultsSaid : Prop := systemFaultsRow.holds Tryd.pinned (OpenSpec.ofChange systemFaultsSpec)

/-- ITS FALSE NEIGHBOUR: 'it returns false'. Refute it at one input. -/
def systemFaultsWrong : ChangeSpec := { name := "systemFaults", fn := fun _ => fun
  | [d1, d2] => { results := [.lit (.bool false)], args := [d1, d2] }
  | _ => none }
def SystemFaultsWrongFalsely : Prop := systemFaultsRow.holds Tryd.pinned (OpenSpec.ofChange systemFaultsWrong)

/-- 'attestorlaw13.SystemTurns': WHATEVER THE INPUT: true; the input reads as it did. -/
def systemTurnsSpec : ChangeSpec := { name := "systemTurns", fn := fun _ => fun
  | [d1, d2, d3] => { results := [.lit (.bool true)], args := [d1, d2, d3] }
  | _ => none }
def systemTurnsRow : OpenClaim := { program := "ytmgkncnelanggaadoor", sum := "11302baf0af4ae20ea0546a4085fc65fa8ea0a8e293ad17c505edf9dfb797c6b", func := "attestor/attestorlaw13.SystemTurns", spec := "systemTurns", unfollowed := true, recurses := true, named := ["attestor/field.fields"], apart := false, laid := [("attestor/field.fields", laid_attestor_field_fields)] }
def SystemTurnsSaid : Prop := systemTurnsRow.holds Tryd.pinned (OpenSpec.ofChange systemTurnsSpec)

/-- ITS FALSE NEIGHBOUR: 'it returns false'. Refute it at one input. -/
def systemTurnsWrong : ChangeSpec := { name := "systemTurns", fn := fun _ => fun
  | [d1, d2, d3] => { results := [.lit (.bool false)], args := [d1, d2, d3] }
  | _ => none }
def SystemTurnsWrongFalsely : Prop := systemTurnsRow.holds Tryd.pinned (OpenSpec.ofChange systemTurnsWrong)

/-- 'attestorlaw13.SystemPerms': WHATEVER THE INPUT: true; the input reads as it did. -/
def systemPermsSpec : ChangeSpec := { name := "systemPerms", fn := fun _ => fun
  | [d1, d2, d3, d4, d5] => { results := [.lit (.bool true)], args := [d1, d2, d3, d4, d5] }
  | _ => none }
def systemPermsRow : OpenClaim := { program := "ytmgkncnelanggaadoor", sum := "11302baf0af4ae20ea0546a4085fc65fa8ea0a8e293ad17c505edf9dfb797c6b", func := "attestor/attestorlaw13.SystemPerms", spec := "systemPerms", unfollowed := true, recurses := true, named := ["attestor/field.fields"], apart := false, laid := [("attestor/field.fields", laid_attestor_field_fields)] }
def SystemPermsSaid : Prop := systemPermsRow.holds Tryd.pinned (OpenSpec.ofChange systemPermsSpec)

/-- ITS FALSE NEIGHBOUR: 'it returns false'. Refute it at one input. -/
def systemPermsWrong : ChangeSpec := { name := "systemPerms", fn := fun _ => fun
  | [d1, d2, d3, d4, d5] => { results := [.lit (.bool false)], args := [d1, d2, d3, d4, d5] }
  | _ => none }
def SystemPermsWrongFalsely : Prop := systemPermsRow.holds Tryd.pinned (OpenSpec.ofChange systemPermsWrong)

/-- 'attestorlaw13.SystemEnvs': WHATEVER THE INPUT: true; the input reads as it did. -/
def systemEnvsSpec : ChangeSpec := { name := "systemEnvs", fn := fun _ => fun
  | [d1, d2, d3] => { results := [.lit (.bool true)], args := [d1, d2, d3] }
  | _ => none }
def systemEnvsRow : OpenClaim := { program := "ytmgkncnelanggaadoor", sum := "11302baf0af4ae20ea0546a4085fc65fa8ea0a8e293ad17c505edf9dfb797c6b", func := "attestor/attestorlaw13.SystemEnvs", spec := "systemEnvs", unfollowed := true, recurses := true, named := ["attestor/field.fields"], apart := false, laid := [("attestor/field.fields", laid_attestor_field_fields)] }
def SystemEnvsSaid : Prop := systemEnvsRow.holds Tryd.pinned (OpenSpec.ofChange systemEnvsSpec)

/-- ITS FALSE NEIGHBOUR: 'it returns false'. Refute it at one input. -/
def systemEnvsWrong : ChangeSpec := { name := "systemEnvs", fn := fun _ => fun
  | [d1, d2, d3] => { results := [.lit (.bool false)], args := [d1, d2, d3] }
  | _ => none }
def SystemEnvsWrongFalsely : Prop := systemEnvsRow.holds Tryd.pinned (OpenSpec.ofChange systemEnvsWrong)

/-- 'attestorlaw13.SystemKnown': WHATEVER THE INPUT: true; the input reads as it did. -/
def systemKnownSpec : ChangeSpec := { name := "systemKnown", fn := fun _ => fun
  | [] => { results := [.lit (.bool true)], args := [] }
  | _ => none }
def systemKnownRow : OpenClaim := { program := "ytmgkncnelanggaadoor", sum := "11302baf0af4ae20ea0546a4085fc65fa8ea0a8e293ad17c505edf9dfb797c6b", func := "attestor/attestorlaw13.SystemKnown", spec := "systemKnown", unfollowed := true, recurses := true, named := ["attestor/field.fields"], apart := false, laid := [("attestor/field.fields", laid_attestor_field_fields)] }
def SystemKnownSaid : Prop := systemKnownRow.holds Tryd.pinned (OpenSpec.ofChange systemKnownSpec)

/-- ITS FALSE NEIGHBOUR: 'it returns false'. Refute it at one input. -/
def systemKnownWrong : ChangeSpec := { name := "systemKnown", fn := fun _ => fun
  | [] => { results := [.lit (.bool false)], args := [] }
  | _ => none }
def SystemKnownWrongFalsely : Prop := systemKnownRow.holds Tryd.pinned (OpenSpec.ofChange systemKnownWrong)

/-- 'attestorlaw13.SystemWords': WHATEVER THE INPUT: true; the input reads as it did. -/
def systemWordsSpec : ChangeSpec := { name := "systemWords", fn := fun _ => fun
  | [d1, d2] => { results := [.lit (.bool true)], args := [d1, d2] }
  | _ => none }
def systemWordsRow : OpenClaim := { program := "ytmgkncnelanggaadoor", sum := "11302baf0af4ae20ea0546a4085fc65fa8ea0a8e293ad17c505edf9dfb797c6b", func := "attestor/attestorlaw13.SystemWords", spec := "systemWords", unfollowed := true, recurses := true, named := ["attestor/field.fields"], apart := false, laid := [("attestor/field.fields", laid_attestor_field_fields)] }
def SystemWordsSaid : Prop := systemWordsRow.holds Tryd.pinned (OpenSpec.ofChange systemWordsSpec)

/-- ITS FALSE NEIGHBOUR: 'it returns false'. Refute it at one input. -/
def systemWordsWrong : ChangeSpec := { name := "systemWords", fn := fun _ => fun
  | [d1, d2] => { results := [.lit (.bool false)], args := [d1, d2] }
  | _ => none }
def SystemWordsWrongFalsely : Prop := systemWordsRow.holds Tryd.pinned (OpenSpec.ofChange systemWordsWrong)

/-- 'attestorlaw13.SystemValid': WHATEVER THE INPUT: true; the input reads as it did. -/
def systemValidSpec : ChangeSpec := { name := "systemValid", fn := fun _ => fun
  | [d] => { results := [.lit (.bool true)], args := [d] }
  | _ => none }
def systemValidRow : OpenClaim := { program := "ytmgkncnelanggaadoor", sum := "11302baf0af4ae20ea0546a4085fc65fa8ea0a8e293ad17c505edf9dfb797c6b", func := "attestor/attestorlaw13.SystemValid", spec := "systemValid", unfollowed := true, recurses := true, named := ["attestor/field.fields"], apart := false, laid := [("attestor/field.fields", laid_attestor_field_fields)] }
def SystemValidSaid : Prop := systemValidRow.holds Tryd.pinned (OpenSpec.ofChange systemValidSpec)

/-- ITS FALSE NEIGHBOUR: 'it returns false'. Refute it at one input. -/
def systemValidWrong : ChangeSpec := { name := "systemValid", fn := fun _ => fun
  | [d] => { results := [.lit (.bool false)], args := [d] }
  | _ => none }
def SystemValidWrongFalsely : Prop := systemValidRow.holds Tryd.pinned (OpenSpec.ofChange systemValidWrong)

/- THE SECOND FORM. 'bulk': how many values and letters a reading holds, each counted each time it is reached (what is shared counts as often as it is met; a slice's spare places count too). A statement '..UptoSaid' is the law's where the arguments, and the package variables that the reading takes, are together of bulk at most 1048576: NARROWER than '..Said'. Prove '..Said' where nothing that the law and all that it calls make is longer than what came in: it says more and counts as full. Else prove '..UptoSaid'. A law counts once. -/
mutual
def uptoBulk {H : Type} : DataW H → Nat
  | .lit (.string bytes) => bytes.length + 1
  | .lit _ => 1
  | .nil => 1
  | .ptr d => uptoBulk d + 1
  | .slice elems spare => uptoBulkAll elems + uptoBulkAll spare + 1
  | .agg parts => uptoBulkAll parts + 1
  | .iface _ d => uptoBulk d + 1
  | .map entries => uptoBulkEntries entries + 1
  | .held _ => 1
def uptoBulkAll {H : Type} : List (DataW H) → Nat
  | [] => 0
  | d :: r => uptoBulk d + uptoBulkAll r
def uptoBulkEntries {H : Type} : List (Lit × DataW H) → Nat
  | [] => 0
  | x :: r => uptoBulkEntry x + uptoBulkEntries r
def uptoBulkEntry {H : Type} : Lit × DataW H → Nat
  | (.string bytes, d) => bytes.length + uptoBulk d + 1
  | (_, d) => uptoBulk d + 1
 end
def uptoSmall : (H : Type) → List (DataW H) → Bool := fun _ ds => decide (uptoBulkAll ds ≤ 1048576)
def OpenSpec.upto (s : _root_.Go.ChangeSpec) : _root_.Go.OpenSpec := { _root_.Go.OpenSpec.ofChange s with cond := some uptoSmall }

/-- 'attestorlaw13.SystemFaults', WHERE WHAT IT READS IS OF BULK AT MOST 1048576: true; the input reads as it did. -/
def systemFaultsUptoRow : OpenClaim := { program := "ytmgkncnelanggaadoor", sum := "11302baf0af4ae20ea0546a4085fc65fa8ea0a8e293ad17c505edf9dfb797c6b", func := "attestor/attestorlaw13.SystemFaults", spec := "systemFaults", unfollowed := true, recurses := true, named := ["attestor/field.fields"], apart := false, laid := [("attestor/field.fields", laid_attestor_field_fields)], narrowed := true }
def SystemFaultsUptoSaid : Prop := systemFaultsUptoRow.holds Tryd.pinned (OpenSpec.upto systemFaultsSpec)

/-- 'attestorlaw13.SystemTurns', WHERE WHAT IT READS IS OF BULK AT MOST 1048576: true; the input reads as it did. -/
def systemTurnsUptoRow : OpenClaim := { program := "ytmgkncnelanggaadoor", sum := "11302baf0af4ae20ea0546a4085fc65fa8ea0a8e293ad17c505edf9dfb797c6b", func := "attestor/attestorlaw13.SystemTurns", spec := "systemTurns", unfollowed := true, recurses := true, named := ["attestor/field.fields"], apart := false, laid := [("attestor/field.fields", laid_attestor_field_fields)], narrowed := true }
def SystemTurnsUptoSaid : Prop := systemTurnsUptoRow.holds Tryd.pinned (OpenSpec.upto systemTurnsSpec)

/-- 'attestorlaw13.SystemPerms', WHERE WHAT IT READS IS OF BULK AT MOST 1048576: true; the input reads as it did. -/
def systemPermsUptoRow : OpenClaim := { program := "ytmgkncnelanggaadoor", sum := "11302baf0af4ae20ea0546a4085fc65fa8ea0a8e293ad17c505edf9dfb797c6b", func := "attestor/attestorlaw13.SystemPerms", spec := "systemPerms", unfollowed := true, recurses := true, named := ["attestor/field.fields"], apart := false, laid := [("attestor/field.fields", laid_attestor_field_fields)], narrowed := true }
def SystemPermsUptoSaid : Prop := systemPermsUptoRow.holds Tryd.pinned (OpenSpec.upto systemPermsSpec)

/-- 'attestorlaw13.SystemEnvs', WHERE WHAT IT READS IS OF BULK AT MOST 1048576: true; the input reads as it did. -/
def systemEnvsUptoRow : OpenClaim := { program := "ytmgkncnelanggaadoor", sum := "11302baf0af4ae20ea0546a4085fc65fa8ea0a8e293ad17c505edf9dfb797c6b", func := "attestor/attestorlaw13.SystemEnvs", spec := "systemEnvs", unfollowed := true, recurses := true, named := ["attestor/field.fields"], apart := false, laid := [("attestor/field.fields", laid_attestor_field_fields)], narrowed := true }
def SystemEnvsUptoSaid : Prop := systemEnvsUptoRow.holds Tryd.pinned (OpenSpec.upto systemEnvsSpec)

/-- 'attestorlaw13.SystemKnown', WHERE WHAT IT READS IS OF BULK AT MOST 1048576: true; the input reads as it did. -/
def systemKnownUptoRow : OpenClaim := { program := "ytmgkncnelanggaadoor", sum := "11302baf0af4ae20ea0546a4085fc65fa8ea0a8e293ad17c505edf9dfb797c6b", func := "attestor/attestorlaw13.SystemKnown", spec := "systemKnown", unfollowed := true, recurses := true, named := ["attestor/field.fields"], apart := false, laid := [("attestor/field.fields", laid_attestor_field_fields)], narrowed := true }
def SystemKnownUptoSaid : Prop := systemKnownUptoRow.holds Tryd.pinned (OpenSpec.upto systemKnownSpec)

/-- 'attestorlaw13.SystemWords', WHERE WHAT IT READS IS OF BULK AT MOST 1048576: true; the input reads as it did. -/
def systemWordsUptoRow : OpenClaim := { program := "ytmgkncnelanggaadoor", sum := "11302baf0af4ae20ea0546a4085fc65fa8ea0a8e293ad17c505edf9dfb797c6b", func := "attestor/attestorlaw13.SystemWords", spec := "systemWords", unfollowed := true, recurses := true, named := ["attestor/field.fields"], apart := false, laid := [("attestor/field.fields", laid_attestor_field_fields)], narrowed := true }
def SystemWordsUptoSaid : Prop := systemWordsUptoRow.holds Tryd.pinned (OpenSpec.upto systemWordsSpec)

/-- 'attestorlaw13.SystemValid', WHERE WHAT IT READS IS OF BULK AT MOST 1048576: true; the input reads as it did. -/
def systemValidUptoRow : OpenClaim := { program := "ytmgkncnelanggaadoor", sum := "11302baf0af4ae20ea0546a4085fc65fa8ea0a8e293ad17c505edf9dfb797c6b", func := "attestor/attestorlaw13.SystemValid", spec := "systemValid", unfollowed := true, recurses := true, named := ["attestor/field.fields"], apart := false, laid := [("attestor/field.fields", laid_attestor_field_fields)], narrowed := true }
def SystemValidUptoSaid : Prop := systemValidUptoRow.holds Tryd.pinned (OpenSpec.upto systemValidSpec)

end Rows
end Go.Proofs.YtmgkncnelanggaaDoor
