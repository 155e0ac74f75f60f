/-
  NARROWER THAN 'FOR EVERY INPUT', by the rows' own cells (each row's printed sentence says how): IsaDecodes: laid · IsaRound: laid · IsaAgain: laid · IsaValids: laid · IsaReach: laid · IsaKnown: laid · IsaEncodes: laid.
  DERIVED. THE GIVEN ROWS OF THIS SEAT. 7 by the template 'for every input the law returns true; each argument reads behind the call as it read before'; 0 by the template 'total and deterministic' (their statements: YtamjeglenbokfaaDoorTotals.lean).
  GIVEN WITH THE SEED: the statements are not yours to turn. If you find one false, say at which input.
  Laid BY PROGRAM, IN A SANDBOX (cutbox-rows.mjs): the forced cells as the released guide's own fill.sh prints them over the translation 34145c1b26e81b53… (all of the seat's roots in one cut). By AI agents, Wed Nov 11 2026. No macro, syntax, notation, axiom, sorry.
-/
import Derived.Test.YtamjeglenbokfaaDoorChecked
import GoSem.Claim
import GoSem.ClaimJoined
import GoSem.ClaimMapViews
import Derived.JoinedTies
import Derived.KernelRfl
namespace Go.Proofs.YtamjeglenbokfaaDoor
/- THE CELL 'sum', in the pinned program and in every row, IS THE sha256 OF THE DUMP (.gsa) THAT YtamjeglenbokfaaDoorProg.lean LOADS. Nothing in Lean hashes anything: it is a label: what it is worth is what the hold of that sum in a sandbox is worth. -/
noncomputable def Tryd.pinned : Pinned := { name := "ytamjeglenbokfaadoor", sum := "34145c1b26e81b53a1f047a7b67e5be79f71488e1bb84d62d460cf4c6bbdba66", checked := Tryd.checked }
namespace Rows
def none {H : Type} : Left H := { results := [], args := [] }

/- WHAT THE LISTED PACKAGE-LEVEL VARIABLES READ AS WHEN THE CALL BEGINS. Each datum BY PROGRAM (the guide's laid-datum.mjs) off the statement by which the dump's own 'gosem.cut.vars' lays the variable. In a bare row this is a premise. The card (YtamjeglenbokfaaDoorCards.lean) ties it to the program's text. -/
def laid_attestor_isa_uses {H : Type} : DataW H := .agg [.lit (.int .u8 0), .lit (.int .u8 5), .lit (.int .u8 3), .lit (.int .u8 3), .lit (.int .u8 3), .lit (.int .u8 3), .lit (.int .u8 3), .lit (.int .u8 3), .lit (.int .u8 5)]
def laid_attestor_field_fields {H : Type} : DataW H := .agg [.agg [.lit (.int .u64 97), .lit (.int .u64 5), .lit (.int .i64 5), .lit (.int .i64 5), .slice [.lit (.int .u64 3)] []], .agg [.lit (.int .u64 257), .lit (.int .u64 3), .lit (.int .i64 8), .lit (.int .i64 3), .nil], .agg [.lit (.int .u64 12289), .lit (.int .u64 11), .lit (.int .i64 12), .lit (.int .i64 5), .slice [.lit (.int .u64 3)] []], .agg [.lit (.int .u64 998244353), .lit (.int .u64 3), .lit (.int .i64 23), .lit (.int .i64 3), .slice [.lit (.int .u64 7), .lit (.int .u64 17)] []]]

/-- 'attestorlaw26.IsaDecodes': WHATEVER THE INPUT: true; the input reads as it did. -/
def isaDecodesSpec : ChangeSpec := { name := "isaDecodes", fn := fun _ => fun
  | [d] => { results := [.lit (.bool true)], args := [d] }
  | _ => none }
def isaDecodesRow : OpenClaim := { program := "ytamjeglenbokfaadoor", sum := "34145c1b26e81b53a1f047a7b67e5be79f71488e1bb84d62d460cf4c6bbdba66", func := "attestor/attestorlaw26.IsaDecodes", spec := "isaDecodes", named := ["attestor/isa.uses"], apart := false, laid := [("attestor/isa.uses", laid_attestor_isa_uses)] }
def IsaDecodesSaid : Prop := isaDecodesRow.holds Tryd.pinned (OpenSpec.ofChange isaDecodesSpec)

/-- ITS FALSE NEIGHBOUR: 'it returns false'. Refute it at one input. -/
def isaDecodesWrong : ChangeSpec := { name := "isaDecodes", fn := fun _ => fun
  | [d] => { results := [.lit (.bool false)], args := [d] }
  | _ => none }
def IsaDecodesWrongFalsely : Prop := isaDecodesRow.holds Tryd.pinned (OpenSpec.ofChange isaDecodesWrong)

/-- 'attestorlaw26.IsaRound': WHATEVER THE INPUT: true; the input reads as it did. -/
def isaRoundSpec : ChangeSpec := { name := "isaRound", fn := fun _ => fun
  | [d1, d2] => { results := [.lit (.bool true)], args := [d1, d2] }
  | _ => none }
def isaRoundRow : OpenClaim := { program := "ytamjeglenbokfaadoor", sum := "34145c1b26e81b53a1f047a7b67e5be79f71488e1bb84d62d460cf4c6bbdba66", func := "attestor/attestorlaw26.IsaRound", spec := "isaRound", named := ["attestor/isa.uses"], apart := false, laid := [("attestor/isa.uses", laid_attestor_isa_uses)] }
def IsaRoundSaid : Prop := isaRoundRow.holds Tryd.pinned (OpenSpec.ofChange isaRoundSpec)

/-- ITS FALSE NEIGHBOUR: 'it returns false'. Refute it at one input. -/
def isaRoundWrong : ChangeSpec := { name := "isaRound", fn := fun _ => fun
  | [d1, d2] => { results := [.lit (.bool false)], args := [d1, d2] }
  | _ => none }
def IsaRoundWrongFalsely : Prop := isaRoundRow.holds Tryd.pinned (OpenSpec.ofChange isaRoundWrong)

/-- 'attestorlaw26.IsaAgain': WHATEVER THE INPUT: true; the input reads as it did. -/
def isaAgainSpec : ChangeSpec := { name := "isaAgain", fn := fun _ => fun
  | [d] => { results := [.lit (.bool true)], args := [d] }
  | _ => none }
def isaAgainRow : OpenClaim := { program := "ytamjeglenbokfaadoor", sum := "34145c1b26e81b53a1f047a7b67e5be79f71488e1bb84d62d460cf4c6bbdba66", func := "attestor/attestorlaw26.IsaAgain", spec := "isaAgain", named := ["attestor/isa.uses"], apart := false, laid := [("attestor/isa.uses", laid_attestor_isa_uses)] }
def IsaAgainSaid : Prop := isaAgainRow.holds Tryd.pinned (OpenSpec.ofChange isaAgainSpec)

/-- ITS FALSE NEIGHBOUR: 'it returns false'. Refute it at one input. -/
def isaAgainWrong : ChangeSpec := { name := "isaAgain", fn := fun _ => fun
  | [d] => { results := [.lit (.bool false)], args := [d] }
  | _ => none }
def IsaAgainWrongFalsely : Prop := isaAgainRow.holds Tryd.pinned (OpenSpec.ofChange isaAgainWrong)

/-- 'attestorlaw26.IsaValids': WHATEVER THE INPUT: true; the input reads as it did. -/
def isaValidsSpec : ChangeSpec := { name := "isaValids", fn := fun _ => fun
  | [d1, d2] => { results := [.lit (.bool true)], args := [d1, d2] }
  | _ => none }
def isaValidsRow : OpenClaim := { program := "ytamjeglenbokfaadoor", sum := "34145c1b26e81b53a1f047a7b67e5be79f71488e1bb84d62d460cf4c6bbdba66", func := "attestor/attestorlaw26.IsaValids", spec := "isaValids", unfollowed := true, recurses := true, named := ["attestor/isa.uses"], apart := false, laid := [("attestor/isa.uses", laid_attestor_isa_uses)] }
def IsaValidsSaid : Prop := isaValidsRow.holds Tryd.pinned (OpenSpec.ofChange isaValidsSpec)

/-- ITS FALSE NEIGHBOUR: 'it returns false'. Refute it at one input. -/
def isaValidsWrong : ChangeSpec := { name := "isaValids", fn := fun _ => fun
  | [d1, d2] => { results := [.lit (.bool false)], args := [d1, d2] }
  | _ => none }
def IsaValidsWrongFalsely : Prop := isaValidsRow.holds Tryd.pinned (OpenSpec.ofChange isaValidsWrong)

/-- 'attestorlaw26.IsaReach': WHATEVER THE INPUT: true; the input reads as it did. -/
def isaReachSpec : ChangeSpec := { name := "isaReach", fn := fun _ => fun
  | [d] => { results := [.lit (.bool true)], args := [d] }
  | _ => none }
def isaReachRow : OpenClaim := { program := "ytamjeglenbokfaadoor", sum := "34145c1b26e81b53a1f047a7b67e5be79f71488e1bb84d62d460cf4c6bbdba66", func := "attestor/attestorlaw26.IsaReach", spec := "isaReach", unfollowed := true, recurses := true, named := ["attestor/isa.uses"], apart := false, laid := [("attestor/isa.uses", laid_attestor_isa_uses)] }
def IsaReachSaid : Prop := isaReachRow.holds Tryd.pinned (OpenSpec.ofChange isaReachSpec)

/-- ITS FALSE NEIGHBOUR: 'it returns false'. Refute it at one input. -/
def isaReachWrong : ChangeSpec := { name := "isaReach", fn := fun _ => fun
  | [d] => { results := [.lit (.bool false)], args := [d] }
  | _ => none }
def IsaReachWrongFalsely : Prop := isaReachRow.holds Tryd.pinned (OpenSpec.ofChange isaReachWrong)

/-- 'attestorlaw26.IsaKnown': WHATEVER THE INPUT: true; the input reads as it did. -/
def isaKnownSpec : ChangeSpec := { name := "isaKnown", fn := fun _ => fun
  | [] => { results := [.lit (.bool true)], args := [] }
  | _ => none }
def isaKnownRow : OpenClaim := { program := "ytamjeglenbokfaadoor", sum := "34145c1b26e81b53a1f047a7b67e5be79f71488e1bb84d62d460cf4c6bbdba66", func := "attestor/attestorlaw26.IsaKnown", spec := "isaKnown", unfollowed := true, recurses := true, named := ["attestor/isa.uses"], apart := false, laid := [("attestor/isa.uses", laid_attestor_isa_uses)] }
def IsaKnownSaid : Prop := isaKnownRow.holds Tryd.pinned (OpenSpec.ofChange isaKnownSpec)

/-- ITS FALSE NEIGHBOUR: 'it returns false'. Refute it at one input. -/
def isaKnownWrong : ChangeSpec := { name := "isaKnown", fn := fun _ => fun
  | [] => { results := [.lit (.bool false)], args := [] }
  | _ => none }
def IsaKnownWrongFalsely : Prop := isaKnownRow.holds Tryd.pinned (OpenSpec.ofChange isaKnownWrong)

/-- 'attestorlaw26.IsaEncodes': WHATEVER THE INPUT: true; the input reads as it did. -/
def isaEncodesSpec : ChangeSpec := { name := "isaEncodes", fn := fun _ => fun
  | [d] => { results := [.lit (.bool true)], args := [d] }
  | _ => none }
def isaEncodesRow : OpenClaim := { program := "ytamjeglenbokfaadoor", sum := "34145c1b26e81b53a1f047a7b67e5be79f71488e1bb84d62d460cf4c6bbdba66", func := "attestor/attestorlaw26.IsaEncodes", spec := "isaEncodes", recurses := true, named := ["attestor/isa.uses", "attestor/field.fields"], apart := false, laid := [("attestor/field.fields", laid_attestor_field_fields), ("attestor/isa.uses", laid_attestor_isa_uses)] }
def IsaEncodesSaid : Prop := isaEncodesRow.holds Tryd.pinned (OpenSpec.ofChange isaEncodesSpec)

/-- ITS FALSE NEIGHBOUR: 'it returns false'. Refute it at one input. -/
def isaEncodesWrong : ChangeSpec := { name := "isaEncodes", fn := fun _ => fun
  | [d] => { results := [.lit (.bool false)], args := [d] }
  | _ => none }
def IsaEncodesWrongFalsely : Prop := isaEncodesRow.holds Tryd.pinned (OpenSpec.ofChange isaEncodesWrong)

/- THE SECOND FORM. 'bulk': how many values and letters a reading holds, each counted each time it is reached (what is shared counts as often as it is met; a slice's spare places count too). A statement '..UptoSaid' is the law's where the arguments, and the package variables that the reading takes, are together of bulk at most 1048576: NARROWER than '..Said'. Prove '..Said' where nothing that the law and all that it calls make is longer than what came in: it says more and counts as full. Else prove '..UptoSaid'. A law counts once. -/
mutual
def uptoBulk {H : Type} : DataW H → Nat
  | .lit (.string bytes) => bytes.length + 1
  | .lit _ => 1
  | .nil => 1
  | .ptr d => uptoBulk d + 1
  | .slice elems spare => uptoBulkAll elems + uptoBulkAll spare + 1
  | .agg parts => uptoBulkAll parts + 1
  | .iface _ d => uptoBulk d + 1
  | .map entries => uptoBulkEntries entries + 1
  | .held _ => 1
def uptoBulkAll {H : Type} : List (DataW H) → Nat
  | [] => 0
  | d :: r => uptoBulk d + uptoBulkAll r
def uptoBulkEntries {H : Type} : List (Lit × DataW H) → Nat
  | [] => 0
  | x :: r => uptoBulkEntry x + uptoBulkEntries r
def uptoBulkEntry {H : Type} : Lit × DataW H → Nat
  | (.string bytes, d) => bytes.length + uptoBulk d + 1
  | (_, d) => uptoBulk d + 1
 end
def uptoSmall : (H : Type) → List (DataW H) → Bool := fun _ ds => decide (uptoBulkAll ds ≤ 1048576)
def OpenSpec.upto (s : _root_.Go.ChangeSpec) : _root_.Go.OpenSpec := { _root_.Go.OpenSpec.ofChange s with cond := some uptoSmall }

/-- 'attestorlaw26.IsaDecodes', WHERE WHAT IT READS IS OF BULK AT MOST 1048576: true; the input reads as it did. -/
def isaDecodesUptoRow : OpenClaim := { program := "ytamjeglenbokfaadoor", sum := "34145c1b26e81b53a1f047a7b67e5be79f71488e1bb84d62d460cf4c6bbdba66", func := "attestor/attestorlaw26.IsaDecodes", spec := "isaDecodes", named := ["attestor/isa.uses"], apart := false, laid := [("attestor/isa.uses", laid_attestor_isa_uses)], narrowed := true }
def IsaDecodesUptoSaid : Prop := isaDecodesUptoRow.holds Tryd.pinned (OpenSpec.upto isaDecodesSpec)

/-- 'attestorlaw26.IsaRound', WHERE WHAT IT READS IS OF BULK AT MOST 1048576: true; the input reads as it did. -/
def isaRoundUptoRow : OpenClaim := { program := "ytamjeglenbokfaadoor", sum := "34145c1b26e81b53a1f047a7b67e5be79f71488e1bb84d62d460cf4c6bbdba66", func := "attestor/attestorlaw26.IsaRound", spec := "isaRound", named := ["attestor/isa.uses"], apart := false, laid := [("attestor/isa.uses", laid_attestor_isa_uses)], narrowed := true }
def IsaRoundUptoSaid : Prop := isaRoundUptoRow.holds Tryd.pinned (OpenSpec.upto isaRoundSpec)

/-- 'attestorlaw26.IsaAgain', WHERE WHAT IT READS IS OF BULK AT MOST 1048576: true; the input reads as it did. -/
def isaAgainUptoRow : OpenClaim := { program := "ytamjeglenbokfaadoor", sum := "34145c1b26e81b53a1f047a7b67e5be79f71488e1bb84d62d460cf4c6bbdba66", func := "attestor/attestorlaw26.IsaAgain", spec := "isaAgain", named := ["attestor/isa.uses"], apart := false, laid := [("attestor/isa.uses", laid_attestor_isa_uses)], narrowed := true }
def IsaAgainUptoSaid : Prop := isaAgainUptoRow.holds Tryd.pinned (OpenSpec.upto isaAgainSpec)

/-- 'attestorlaw26.IsaValids', WHERE WHAT IT READS IS OF BULK AT MOST 1048576: true; the input reads as it did. -/
def isaValidsUptoRow : OpenClaim := { program := "ytamjeglenbokfaadoor", sum := "34145c1b26e81b53a1f047a7b67e5be79f71488e1bb84d62d460cf4c6bbdba66", func := "attestor/attestorlaw26.IsaValids", spec := "isaValids", unfollowed := true, recurses := true, named := ["attestor/isa.uses"], apart := false, laid := [("attestor/isa.uses", laid_attestor_isa_uses)], narrowed := true }
def IsaValidsUptoSaid : Prop := isaValidsUptoRow.holds Tryd.pinned (OpenSpec.upto isaValidsSpec)

/-- 'attestorlaw26.IsaReach', WHERE WHAT IT READS IS OF BULK AT MOST 1048576: true; the input reads as it did. -/
def isaReachUptoRow : OpenClaim := { program := "ytamjeglenbokfaadoor", sum := "34145c1b26e81b53a1f047a7b67e5be79f71488e1bb84d62d460cf4c6bbdba66", func := "attestor/attestorlaw26.IsaReach", spec := "isaReach", unfollowed := true, recurses := true, named := ["attestor/isa.uses"], apart := false, laid := [("attestor/isa.uses", laid_attestor_isa_uses)], narrowed := true }
def IsaReachUptoSaid : Prop := isaReachUptoRow.holds Tryd.pinned (OpenSpec.upto isaReachSpec)

/-- 'attestorlaw26.IsaKnown', WHERE WHAT IT READS IS OF BULK AT MOST 1048576: true; the input reads as it did. -/
def isaKnownUptoRow : OpenClaim := { program := "ytamjeglenbokfaadoor", sum := "34145c1b26e81b53a1f047a7b67e5be79f71488e1bb84d62d460cf4c6bbdba66", func := "attestor/attestorlaw26.IsaKnown", spec := "isaKnown", unfollowed := true, recurses := true, named := ["attestor/isa.uses"], apart := false, laid := [("attestor/isa.uses", laid_attestor_isa_uses)], narrowed := true }
def IsaKnownUptoSaid : Prop := isaKnownUptoRow.holds Tryd.pinned (OpenSpec.upto isaKnownSpec)

/-- 'attestorlaw26.IsaEncodes', WHERE WHAT IT READS IS OF BULK AT MOST 1048576: true; the input reads as it did. -/
def isaEncodesUptoRow : OpenClaim := { program := "ytamjeglenbokfaadoor", sum := "34145c1b26e81b53a1f047a7b67e5be79f71488e1bb84d62d460cf4c6bbdba66", func := "attestor/attestorlaw26.IsaEncodes", spec := "isaEncodes", recurses := true, named := ["attestor/isa.uses", "attestor/field.fields"], apart := false, laid := [("attestor/field.fields", laid_attestor_field_fields), ("attestor/isa.uses", laid_attestor_isa_uses)], narrowed := true }
def IsaEncodesUptoSaid : Prop := isaEncodesUptoRow.holds Tryd.pinned (OpenSpec.upto isaEncodesSpec)

end Rows
end Go.Proofs.YtamjeglenbokfaaDoor
