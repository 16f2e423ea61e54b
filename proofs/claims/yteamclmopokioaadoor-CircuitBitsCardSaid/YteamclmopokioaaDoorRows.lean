/-
  NARROWER THAN 'FOR EVERY INPUT', by the rows' own cells (each row's printed sentence says how): CircuitCanonical: laid · CircuitClimbs: laid · CircuitKnown: laid · CircuitHashes: laid · CircuitBits: laid · CircuitNil: laid.
  DERIVED. THE GIVEN ROWS OF THIS SEAT. 6 by the template 'for every input the law returns true; each argument reads behind the call as it read before'; 0 by the template 'total and deterministic' (their statements: YteamclmopokioaaDoorTotals.lean).
  GIVEN WITH THE SEED: the statements are not yours to turn. If you find one false, say at which input.
  Laid BY PROGRAM, IN A SANDBOX (cutbox-rows.mjs): the forced cells as the released guide's own fill.sh prints them over the translation a146859eb3b01778… (all of the seat's roots in one cut). By AI agents, Wed Nov 11 2026. No macro, syntax, notation, axiom, sorry.
-/
import Derived.Test.YteamclmopokioaaDoorChecked
import GoSem.Claim
import GoSem.ClaimJoined
import GoSem.ClaimMapViews
import Derived.JoinedTies
import Derived.KernelRfl
namespace Go.Proofs.YteamclmopokioaaDoor
/- THE CELL 'sum', in the pinned program and in every row, IS THE sha256 OF THE DUMP (.gsa) THAT YteamclmopokioaaDoorProg.lean LOADS. Nothing in Lean hashes anything: it is a label: what it is worth is what the hold of that sum in a sandbox is worth. -/
noncomputable def Tryd.pinned : Pinned := { name := "yteamclmopokioaadoor", sum := "a146859eb3b01778c407d892a512498ac2f06b07ed1384df339d27ce6c6e59d1", checked := Tryd.checked }
namespace Rows
def none {H : Type} : Left H := { results := [], args := [] }

/- WHAT THE LISTED PACKAGE-LEVEL VARIABLES READ AS WHEN THE CALL BEGINS. Each datum BY PROGRAM (the guide's laid-datum.mjs) off the statement by which the dump's own 'gosem.cut.vars' lays the variable. In a bare row this is a premise. The card (YteamclmopokioaaDoorCards.lean) ties it to the program's text. -/
def laid_attestor_field_fields {H : Type} : DataW H := .agg [.agg [.lit (.int .u64 97), .lit (.int .u64 5), .lit (.int .i64 5), .lit (.int .i64 5), .slice [.lit (.int .u64 3)] []], .agg [.lit (.int .u64 257), .lit (.int .u64 3), .lit (.int .i64 8), .lit (.int .i64 3), .nil], .agg [.lit (.int .u64 12289), .lit (.int .u64 11), .lit (.int .i64 12), .lit (.int .i64 5), .slice [.lit (.int .u64 3)] []], .agg [.lit (.int .u64 998244353), .lit (.int .u64 3), .lit (.int .i64 23), .lit (.int .i64 3), .slice [.lit (.int .u64 7), .lit (.int .u64 17)] []]]

/-- 'attestorlaw30.CircuitCanonical': WHATEVER THE INPUT: true; the input reads as it did. -/
def circuitCanonicalSpec : ChangeSpec := { name := "circuitCanonical", fn := fun _ => fun
  | [d] => { results := [.lit (.bool true)], args := [d] }
  | _ => none }
def circuitCanonicalRow : OpenClaim := { program := "yteamclmopokioaadoor", sum := "a146859eb3b01778c407d892a512498ac2f06b07ed1384df339d27ce6c6e59d1", func := "attestor/attestorlaw30.CircuitCanonical", spec := "circuitCanonical", unfollowed := true, recurses := true, named := ["attestor/field.fields"], apart := false, laid := [("attestor/field.fields", laid_attestor_field_fields)] }
def CircuitCanonicalSaid : Prop := circuitCanonicalRow.holds Tryd.pinned (OpenSpec.ofChange circuitCanonicalSpec)

/-- ITS FALSE NEIGHBOUR: 'it returns false'. Refute it at one input. -/
def circuitCanonicalWrong : ChangeSpec := { name := "circuitCanonical", fn := fun _ => fun
  | [d] => { results := [.lit (.bool false)], args := [d] }
  | _ => none }
def CircuitCanonicalWrongFalsely : Prop := circuitCanonicalRow.holds Tryd.pinned (OpenSpec.ofChange circuitCanonicalWrong)

/-- 'attestorlaw30.CircuitClimbs': WHATEVER THE INPUT: true; the input reads as it did. -/
def circuitClimbsSpec : ChangeSpec := { name := "circuitClimbs", fn := fun _ => fun
  | [d1, d2, d3, d4] => { results := [.lit (.bool true)], args := [d1, d2, d3, d4] }
  | _ => none }
def circuitClimbsRow : OpenClaim := { program := "yteamclmopokioaadoor", sum := "a146859eb3b01778c407d892a512498ac2f06b07ed1384df339d27ce6c6e59d1", func := "attestor/attestorlaw30.CircuitClimbs", spec := "circuitClimbs", unfollowed := true, recurses := true, named := ["attestor/field.fields"], apart := false, laid := [("attestor/field.fields", laid_attestor_field_fields)] }
def CircuitClimbsSaid : Prop := circuitClimbsRow.holds Tryd.pinned (OpenSpec.ofChange circuitClimbsSpec)

/-- ITS FALSE NEIGHBOUR: 'it returns false'. Refute it at one input. -/
def circuitClimbsWrong : ChangeSpec := { name := "circuitClimbs", fn := fun _ => fun
  | [d1, d2, d3, d4] => { results := [.lit (.bool false)], args := [d1, d2, d3, d4] }
  | _ => none }
def CircuitClimbsWrongFalsely : Prop := circuitClimbsRow.holds Tryd.pinned (OpenSpec.ofChange circuitClimbsWrong)

/-- 'attestorlaw30.CircuitKnown': WHATEVER THE INPUT: true; the input reads as it did. -/
def circuitKnownSpec : ChangeSpec := { name := "circuitKnown", fn := fun _ => fun
  | [] => { results := [.lit (.bool true)], args := [] }
  | _ => none }
def circuitKnownRow : OpenClaim := { program := "yteamclmopokioaadoor", sum := "a146859eb3b01778c407d892a512498ac2f06b07ed1384df339d27ce6c6e59d1", func := "attestor/attestorlaw30.CircuitKnown", spec := "circuitKnown", unfollowed := true, recurses := true, named := ["attestor/field.fields"], apart := false, laid := [("attestor/field.fields", laid_attestor_field_fields)] }
def CircuitKnownSaid : Prop := circuitKnownRow.holds Tryd.pinned (OpenSpec.ofChange circuitKnownSpec)

/-- ITS FALSE NEIGHBOUR: 'it returns false'. Refute it at one input. -/
def circuitKnownWrong : ChangeSpec := { name := "circuitKnown", fn := fun _ => fun
  | [] => { results := [.lit (.bool false)], args := [] }
  | _ => none }
def CircuitKnownWrongFalsely : Prop := circuitKnownRow.holds Tryd.pinned (OpenSpec.ofChange circuitKnownWrong)

/-- 'attestorlaw30.CircuitHashes': WHATEVER THE INPUT: true; the input reads as it did. -/
def circuitHashesSpec : ChangeSpec := { name := "circuitHashes", fn := fun _ => fun
  | [d1, d2, d3, d4] => { results := [.lit (.bool true)], args := [d1, d2, d3, d4] }
  | _ => none }
def circuitHashesRow : OpenClaim := { program := "yteamclmopokioaadoor", sum := "a146859eb3b01778c407d892a512498ac2f06b07ed1384df339d27ce6c6e59d1", func := "attestor/attestorlaw30.CircuitHashes", spec := "circuitHashes", unfollowed := true, recurses := true, named := ["attestor/field.fields"], apart := false, laid := [("attestor/field.fields", laid_attestor_field_fields)] }
def CircuitHashesSaid : Prop := circuitHashesRow.holds Tryd.pinned (OpenSpec.ofChange circuitHashesSpec)

/-- ITS FALSE NEIGHBOUR: 'it returns false'. Refute it at one input. -/
def circuitHashesWrong : ChangeSpec := { name := "circuitHashes", fn := fun _ => fun
  | [d1, d2, d3, d4] => { results := [.lit (.bool false)], args := [d1, d2, d3, d4] }
  | _ => none }
def CircuitHashesWrongFalsely : Prop := circuitHashesRow.holds Tryd.pinned (OpenSpec.ofChange circuitHashesWrong)

/-- 'attestorlaw30.CircuitBits': WHATEVER THE INPUT: true; the input reads as it did. -/
def circuitBitsSpec : ChangeSpec := { name := "circuitBits", fn := fun _ => fun
  | [d1, d2, d3, d4] => { results := [.lit (.bool true)], args := [d1, d2, d3, d4] }
  | _ => none }
def circuitBitsRow : OpenClaim := { program := "yteamclmopokioaadoor", sum := "a146859eb3b01778c407d892a512498ac2f06b07ed1384df339d27ce6c6e59d1", func := "attestor/attestorlaw30.CircuitBits", spec := "circuitBits", unfollowed := true, recurses := true, named := ["attestor/field.fields"], apart := false, laid := [("attestor/field.fields", laid_attestor_field_fields)] }
def CircuitBitsSaid : Prop := circuitBitsRow.holds Tryd.pinned (OpenSpec.ofChange circuitBitsSpec)

/-- ITS FALSE NEIGHBOUR: 'it returns false'. Refute it at one input. -/
def circuitBitsWrong : ChangeSpec := { name := "circuitBits", fn := fun _ => fun
  | [d1, d2, d3, d4] => { results := [.lit (.bool false)], args := [d1, d2, d3, d4] }
  | _ => none }
def CircuitBitsWrongFalsely : Prop := circuitBitsRow.holds Tryd.pinned (OpenSpec.ofChange circuitBitsWrong)

/-- 'attestorlaw30.CircuitNil': WHATEVER THE INPUT: true; the input reads as it did. -/
def circuitNilSpec : ChangeSpec := { name := "circuitNil", fn := fun _ => fun
  | [d] => { results := [.lit (.bool true)], args := [d] }
  | _ => none }
def circuitNilRow : OpenClaim := { program := "yteamclmopokioaadoor", sum := "a146859eb3b01778c407d892a512498ac2f06b07ed1384df339d27ce6c6e59d1", func := "attestor/attestorlaw30.CircuitNil", spec := "circuitNil", unfollowed := true, recurses := true, named := ["attestor/field.fields"], apart := false, laid := [("attestor/field.fields", laid_attestor_field_fields)] }
def CircuitNilSaid : Prop := circuitNilRow.holds Tryd.pinned (OpenSpec.ofChange circuitNilSpec)

/-- ITS FALSE NEIGHBOUR: 'it returns false'. Refute it at one input. -/
def circuitNilWrong : ChangeSpec := { name := "circuitNil", fn := fun _ => fun
  | [d] => { results := [.lit (.bool false)], args := [d] }
  | _ => none }
def CircuitNilWrongFalsely : Prop := circuitNilRow.holds Tryd.pinned (OpenSpec.ofChange circuitNilWrong)

/- THE SECOND FORM. 'bulk': how many values and letters a reading holds, each counted each time it is reached (what is shared counts as often as it is met; a slice's spare places count too). A statement '..UptoSaid' is the law's where the arguments, and the package variables that the reading takes, are together of bulk at most 1048576: NARROWER than '..Said'. Prove '..Said' where nothing that the law and all that it calls make is longer than what came in: it says more and counts as full. Else prove '..UptoSaid'. A law counts once. -/
mutual
def uptoBulk {H : Type} : DataW H → Nat
  | .lit (.string bytes) => bytes.length + 1
  | .lit _ => 1
  | .nil => 1
  | .ptr d => uptoBulk d + 1
  | .slice elems spare => uptoBulkAll elems + uptoBulkAll spare + 1
  | .agg parts => uptoBulkAll parts + 1
  | .iface _ d => uptoBulk d + 1
  | .map entries => uptoBulkEntries entries + 1
  | .held _ => 1
def uptoBulkAll {H : Type} : List (DataW H) → Nat
  | [] => 0
  | d :: r => uptoBulk d + uptoBulkAll r
def uptoBulkEntries {H : Type} : List (Lit × DataW H) → Nat
  | [] => 0
  | x :: r => uptoBulkEntry x + uptoBulkEntries r
def uptoBulkEntry {H : Type} : Lit × DataW H → Nat
  | (.string bytes, d) => bytes.length + uptoBulk d + 1
  | (_, d) => uptoBulk d + 1
 end
def uptoSmall : (H : Type) → List (DataW H) → Bool := fun _ ds => decide (uptoBulkAll ds ≤ 1048576)
def OpenSpec.upto (s : _root_.Go.ChangeSpec) : _root_.Go.OpenSpec := { _root_.Go.OpenSpec.ofChange s with cond := some uptoSmall }

/-- 'attestorlaw30.CircuitCanonical', WHERE WHAT IT READS IS OF BULK AT MOST 1048576: true; the input reads as it did. -/
def circuitCanonicalUptoRow : OpenClaim := { program := "yteamclmopokioaadoor", sum := "a146859eb3b01778c407d892a512498ac2f06b07ed1384df339d27ce6c6e59d1", func := "attestor/attestorlaw30.CircuitCanonical", spec := "circuitCanonical", unfollowed := true, recurses := true, named := ["attestor/field.fields"], apart := false, laid := [("attestor/field.fields", laid_attestor_field_fields)], narrowed := true }
def CircuitCanonicalUptoSaid : Prop := circuitCanonicalUptoRow.holds Tryd.pinned (OpenSpec.upto circuitCanonicalSpec)

/-- 'attestorlaw30.CircuitClimbs', WHERE WHAT IT READS IS OF BULK AT MOST 1048576: true; the input reads as it did. -/
def circuitClimbsUptoRow : OpenClaim := { program := "yteamclmopokioaadoor", sum := "a146859eb3b01778c407d892a512498ac2f06b07ed1384df339d27ce6c6e59d1", func := "attestor/attestorlaw30.CircuitClimbs", spec := "circuitClimbs", unfollowed := true, recurses := true, named := ["attestor/field.fields"], apart := false, laid := [("attestor/field.fields", laid_attestor_field_fields)], narrowed := true }
def CircuitClimbsUptoSaid : Prop := circuitClimbsUptoRow.holds Tryd.pinned (OpenSpec.upto circuitClimbsSpec)

/-- 'attestorlaw30.CircuitKnown', WHERE WHAT IT READS IS OF BULK AT MOST 1048576: true; the input reads as it did. -/
def circuitKnownUptoRow : OpenClaim := { program := "yteamclmopokioaadoor", sum := "a146859eb3b01778c407d892a512498ac2f06b07ed1384df339d27ce6c6e59d1", func := "attestor/attestorlaw30.CircuitKnown", spec := "circuitKnown", unfollowed := true, recurses := true, named := ["attestor/field.fields"], apart := false, laid := [("attestor/field.fields", laid_attestor_field_fields)], narrowed := true }
def CircuitKnownUptoSaid : Prop := circuitKnownUptoRow.holds Tryd.pinned (OpenSpec.upto circuitKnownSpec)

/-- 'attestorlaw30.CircuitHashes', WHERE WHAT IT READS IS OF BULK AT MOST 1048576: true; the input reads as it did. -/
def circuitHashesUptoRow : OpenClaim := { program := "yteamclmopokioaadoor", sum := "a146859eb3b01778c407d892a512498ac2f06b07ed1384df339d27ce6c6e59d1", func := "attestor/attestorlaw30.CircuitHashes", spec := "circuitHashes", unfollowed := true, recurses := true, named := ["attestor/field.fields"], apart := false, laid := [("attestor/field.fields", laid_attestor_field_fields)], narrowed := true }
def CircuitHashesUptoSaid : Prop := circuitHashesUptoRow.holds Tryd.pinned (OpenSpec.upto circuitHashesSpec)

/-- 'attestorlaw30.CircuitBits', WHERE WHAT IT READS IS OF BULK AT MOST 1048576: true; the input reads as it did. -/
def circuitBitsUptoRow : OpenClaim := { program := "yteamclmopokioaadoor", sum := "a146859eb3b01778c407d892a512498ac2f06b07ed1384df339d27ce6c6e59d1", func := "attestor/attestorlaw30.CircuitBits", spec := "circuitBits", unfollowed := true, recurses := true, named := ["attestor/field.fields"], apart := false, laid := [("attestor/field.fields", laid_attestor_field_fields)], narrowed := true }
def CircuitBitsUptoSaid : Prop := circuitBitsUptoRow.holds Tryd.pinned (OpenSpec.upto circuitBitsSpec)

/-- 'attestorlaw30.CircuitNil', WHERE WHAT IT READS IS OF BULK AT MOST 1048576: true; the input reads as it did. -/
def circuitNilUptoRow : OpenClaim := { program := "yteamclmopokioaadoor", sum := "a146859eb3b01778c407d892a512498ac2f06b07ed1384df339d27ce6c6e59d1", func := "attestor/attestorlaw30.CircuitNil", spec := "circuitNil", unfollowed := true, recurses := true, named := ["attestor/field.fields"], apart := false, laid := [("attestor/field.fields", laid_attestor_field_fields)], narrowed := true }
def CircuitNilUptoSaid : Prop := circuitNilUptoRow.holds Tryd.pinned (OpenSpec.upto circuitNilSpec)

end Rows
end Go.Proofs.YteamclmopokioaaDoor
