/-
  NARROWER THAN 'FOR EVERY INPUT', by the rows' own cells (each row's printed sentence says how): ChannelDraws: laid · ChannelGrinds: laid · ChannelApart: laid · ChannelLeast: laid · ChannelPositions: laid · ChannelKnown: laid · ChannelOrder: laid.
  DERIVED. THE GIVEN ROWS OF THIS SEAT. 7 by the template 'for every input the law returns true; each argument reads behind the call as it read before'; 0 by the template 'total and deterministic' (their statements: YtkailiemikjfbaaDoorTotals.lean).
  GIVEN WITH THE SEED: the statements are not yours to turn. If you find one false, say at which input.
  Laid BY PROGRAM, IN A SANDBOX (cutbox-rows.mjs): the forced cells as the released guide's own fill.sh prints them over the translation 19f12d50365dc69e… (all of the seat's roots in one cut). By AI agents, Wed Nov 11 2026. No macro, syntax, notation, axiom, sorry.
-/
import Derived.Test.YtkailiemikjfbaaDoorChecked
import GoSem.Claim
import GoSem.ClaimJoined
import GoSem.ClaimMapViews
import Derived.JoinedTies
import Derived.KernelRfl
namespace Go.Proofs.YtkailiemikjfbaaDoor
/- THE CELL 'sum', in the pinned program and in every row, IS THE sha256 OF THE DUMP (.gsa) THAT YtkailiemikjfbaaDoorProg.lean LOADS. Nothing in Lean hashes anything: it is a label: what it is worth is what the hold of that sum in a sandbox is worth. -/
noncomputable def Tryd.pinned : Pinned := { name := "ytkailiemikjfbaadoor", sum := "19f12d50365dc69e7ffb27ba69052e8e9d03ee795f9010555ebb0c59872e95d4", checked := Tryd.checked }
namespace Rows
def none {H : Type} : Left H := { results := [], args := [] }

/- WHAT THE LISTED PACKAGE-LEVEL VARIABLES READ AS WHEN THE CALL BEGINS. Each datum BY PROGRAM (the guide's laid-datum.mjs) off the statement by which the dump's own 'gosem.cut.vars' lays the variable. In a bare row this is a premise. The card (YtkailiemikjfbaaDoorCards.lean) ties it to the program's text. -/
def laid_attestor_field_fields {H : Type} : DataW H := .agg [.agg [.lit (.int .u64 97), .lit (.int .u64 5), .lit (.int .i64 5), .lit (.int .i64 5), .slice [.lit (.int .u64 3)] []], .agg [.lit (.int .u64 257), .lit (.int .u64 3), .lit (.int .i64 8), .lit (.int .i64 3), .nil], .agg [.lit (.int .u64 12289), .lit (.int .u64 11), .lit (.int .i64 12), .lit (.int .i64 5), .slice [.lit (.int .u64 3)] []], .agg [.lit (.int .u64 998244353), .lit (.int .u64 3), .lit (.int .i64 23), .lit (.int .i64 3), .slice [.lit (.int .u64 7), .lit (.int .u64 17)] []]]

/-- 'attestorlaw08.ChannelDraws': WHATEVER THE INPUT: true; the input reads as it did. -/
def channelDrawsSpec : ChangeSpec := { name := "channelDraws", fn := fun _ => fun
  | [d1, d2] => { results := [.lit (.bool true)], args := [d1, d2] }
  | _ => none }
def channelDrawsRow : OpenClaim := { program := "ytkailiemikjfbaadoor", sum := "19f12d50365dc69e7ffb27ba69052e8e9d03ee795f9010555ebb0c59872e95d4", func := "attestor/attestorlaw08.ChannelDraws", spec := "channelDraws", unfollowed := true, recurses := true, named := ["attestor/field.fields"], apart := false, laid := [("attestor/field.fields", laid_attestor_field_fields)] }
def ChannelDrawsSaid : Prop := channelDrawsRow.holds Tryd.pinned (OpenSpec.ofChange channelDrawsSpec)

/-- ITS FALSE NEIGHBOUR: 'it returns false'. Refute it at one input. -/
def channelDrawsWrong : ChangeSpec := { name := "channelDraws", fn := fun _ => fun
  | [d1, d2] => { results := [.lit (.bool false)], args := [d1, d2] }
  | _ => none }
def ChannelDrawsWrongFalsely : Prop := channelDrawsRow.holds Tryd.pinned (OpenSpec.ofChange channelDrawsWrong)

/-- 'attestorlaw08.ChannelGrinds': WHATEVER THE INPUT: true; the input reads as it did. -/
def channelGrindsSpec : ChangeSpec := { name := "channelGrinds", fn := fun _ => fun
  | [d1, d2, d3, d4] => { results := [.lit (.bool true)], args := [d1, d2, d3, d4] }
  | _ => none }
def channelGrindsRow : OpenClaim := { program := "ytkailiemikjfbaadoor", sum := "19f12d50365dc69e7ffb27ba69052e8e9d03ee795f9010555ebb0c59872e95d4", func := "attestor/attestorlaw08.ChannelGrinds", spec := "channelGrinds", unfollowed := true, recurses := true, named := ["attestor/field.fields"], apart := false, laid := [("attestor/field.fields", laid_attestor_field_fields)] }
def ChannelGrindsSaid : Prop := channelGrindsRow.holds Tryd.pinned (OpenSpec.ofChange channelGrindsSpec)

/-- ITS FALSE NEIGHBOUR: 'it returns false'. Refute it at one input. -/
def channelGrindsWrong : ChangeSpec := { name := "channelGrinds", fn := fun _ => fun
  | [d1, d2, d3, d4] => { results := [.lit (.bool false)], args := [d1, d2, d3, d4] }
  | _ => none }
def ChannelGrindsWrongFalsely : Prop := channelGrindsRow.holds Tryd.pinned (OpenSpec.ofChange channelGrindsWrong)

/-- 'attestorlaw08.ChannelApart': WHATEVER THE INPUT: true; the input reads as it did. -/
def channelApartSpec : ChangeSpec := { name := "channelApart", fn := fun _ => fun
  | [d1, d2, d3, d4, d5, d6] => { results := [.lit (.bool true)], args := [d1, d2, d3, d4, d5, d6] }
  | _ => none }
def channelApartRow : OpenClaim := { program := "ytkailiemikjfbaadoor", sum := "19f12d50365dc69e7ffb27ba69052e8e9d03ee795f9010555ebb0c59872e95d4", func := "attestor/attestorlaw08.ChannelApart", spec := "channelApart", unfollowed := true, recurses := true, named := ["attestor/field.fields"], apart := false, laid := [("attestor/field.fields", laid_attestor_field_fields)] }
def ChannelApartSaid : Prop := channelApartRow.holds Tryd.pinned (OpenSpec.ofChange channelApartSpec)

/-- ITS FALSE NEIGHBOUR: 'it returns false'. Refute it at one input. -/
def channelApartWrong : ChangeSpec := { name := "channelApart", fn := fun _ => fun
  | [d1, d2, d3, d4, d5, d6] => { results := [.lit (.bool false)], args := [d1, d2, d3, d4, d5, d6] }
  | _ => none }
def ChannelApartWrongFalsely : Prop := channelApartRow.holds Tryd.pinned (OpenSpec.ofChange channelApartWrong)

/-- 'attestorlaw08.ChannelLeast': WHATEVER THE INPUT: true; the input reads as it did. -/
def channelLeastSpec : ChangeSpec := { name := "channelLeast", fn := fun _ => fun
  | [d1, d2, d3, d4] => { results := [.lit (.bool true)], args := [d1, d2, d3, d4] }
  | _ => none }
def channelLeastRow : OpenClaim := { program := "ytkailiemikjfbaadoor", sum := "19f12d50365dc69e7ffb27ba69052e8e9d03ee795f9010555ebb0c59872e95d4", func := "attestor/attestorlaw08.ChannelLeast", spec := "channelLeast", unfollowed := true, recurses := true, named := ["attestor/field.fields"], apart := false, laid := [("attestor/field.fields", laid_attestor_field_fields)] }
def ChannelLeastSaid : Prop := channelLeastRow.holds Tryd.pinned (OpenSpec.ofChange channelLeastSpec)

/-- ITS FALSE NEIGHBOUR: 'it returns false'. Refute it at one input. -/
def channelLeastWrong : ChangeSpec := { name := "channelLeast", fn := fun _ => fun
  | [d1, d2, d3, d4] => { results := [.lit (.bool false)], args := [d1, d2, d3, d4] }
  | _ => none }
def ChannelLeastWrongFalsely : Prop := channelLeastRow.holds Tryd.pinned (OpenSpec.ofChange channelLeastWrong)

/-- 'attestorlaw08.ChannelPositions': WHATEVER THE INPUT: true; the input reads as it did. -/
def channelPositionsSpec : ChangeSpec := { name := "channelPositions", fn := fun _ => fun
  | [d1, d2, d3, d4] => { results := [.lit (.bool true)], args := [d1, d2, d3, d4] }
  | _ => none }
def channelPositionsRow : OpenClaim := { program := "ytkailiemikjfbaadoor", sum := "19f12d50365dc69e7ffb27ba69052e8e9d03ee795f9010555ebb0c59872e95d4", func := "attestor/attestorlaw08.ChannelPositions", spec := "channelPositions", unfollowed := true, recurses := true, named := ["attestor/field.fields"], apart := false, laid := [("attestor/field.fields", laid_attestor_field_fields)] }
def ChannelPositionsSaid : Prop := channelPositionsRow.holds Tryd.pinned (OpenSpec.ofChange channelPositionsSpec)

/-- ITS FALSE NEIGHBOUR: 'it returns false'. Refute it at one input. -/
def channelPositionsWrong : ChangeSpec := { name := "channelPositions", fn := fun _ => fun
  | [d1, d2, d3, d4] => { results := [.lit (.bool false)], args := [d1, d2, d3, d4] }
  | _ => none }
def ChannelPositionsWrongFalsely : Prop := channelPositionsRow.holds Tryd.pinned (OpenSpec.ofChange channelPositionsWrong)

/-- 'attestorlaw08.ChannelKnown': WHATEVER THE INPUT: true; the input reads as it did. -/
def channelKnownSpec : ChangeSpec := { name := "channelKnown", fn := fun _ => fun
  | [] => { results := [.lit (.bool true)], args := [] }
  | _ => none }
def channelKnownRow : OpenClaim := { program := "ytkailiemikjfbaadoor", sum := "19f12d50365dc69e7ffb27ba69052e8e9d03ee795f9010555ebb0c59872e95d4", func := "attestor/attestorlaw08.ChannelKnown", spec := "channelKnown", unfollowed := true, recurses := true, named := ["attestor/field.fields"], apart := false, laid := [("attestor/field.fields", laid_attestor_field_fields)] }
def ChannelKnownSaid : Prop := channelKnownRow.holds Tryd.pinned (OpenSpec.ofChange channelKnownSpec)

/-- ITS FALSE NEIGHBOUR: 'it returns false'. Refute it at one input. -/
def channelKnownWrong : ChangeSpec := { name := "channelKnown", fn := fun _ => fun
  | [] => { results := [.lit (.bool false)], args := [] }
  | _ => none }
def ChannelKnownWrongFalsely : Prop := channelKnownRow.holds Tryd.pinned (OpenSpec.ofChange channelKnownWrong)

/-- 'attestorlaw08.ChannelOrder': WHATEVER THE INPUT: true; the input reads as it did. -/
def channelOrderSpec : ChangeSpec := { name := "channelOrder", fn := fun _ => fun
  | [d1, d2, d3] => { results := [.lit (.bool true)], args := [d1, d2, d3] }
  | _ => none }
def channelOrderRow : OpenClaim := { program := "ytkailiemikjfbaadoor", sum := "19f12d50365dc69e7ffb27ba69052e8e9d03ee795f9010555ebb0c59872e95d4", func := "attestor/attestorlaw08.ChannelOrder", spec := "channelOrder", unfollowed := true, recurses := true, named := ["attestor/field.fields"], apart := false, laid := [("attestor/field.fields", laid_attestor_field_fields)] }
def ChannelOrderSaid : Prop := channelOrderRow.holds Tryd.pinned (OpenSpec.ofChange channelOrderSpec)

/-- ITS FALSE NEIGHBOUR: 'it returns false'. Refute it at one input. -/
def channelOrderWrong : ChangeSpec := { name := "channelOrder", fn := fun _ => fun
  | [d1, d2, d3] => { results := [.lit (.bool false)], args := [d1, d2, d3] }
  | _ => none }
def ChannelOrderWrongFalsely : Prop := channelOrderRow.holds Tryd.pinned (OpenSpec.ofChange channelOrderWrong)

/- THE SECOND FORM. 'bulk': how many values and letters a reading holds, each counted each time it is reached (what is shared counts as often as it is met; a slice's spare places count too). A statement '..UptoSaid' is the law's where the arguments, and the package variables that the reading takes, are together of bulk at most 1048576: NARROWER than '..Said'. Prove '..Said' where nothing that the law and all that it calls make is longer than what came in: it says more and counts as full. Else prove '..UptoSaid'. A law counts once. -/
mutual
def uptoBulk {H : Type} : DataW H → Nat
  | .lit (.string bytes) => bytes.length + 1
  | .lit _ => 1
  | .nil => 1
  | .ptr d => uptoBulk d + 1
  | .slice elems spare => uptoBulkAll elems + uptoBulkAll spare + 1
  | .agg parts => uptoBulkAll parts + 1
  | .iface _ d => uptoBulk d + 1
  | .map entries => uptoBulkEntries entries + 1
  | .held _ => 1
def uptoBulkAll {H : Type} : List (DataW H) → Nat
  | [] => 0
  | d :: r => uptoBulk d + uptoBulkAll r
def uptoBulkEntries {H : Type} : List (Lit × DataW H) → Nat
  | [] => 0
  | x :: r => uptoBulkEntry x + uptoBulkEntries r
def uptoBulkEntry {H : Type} : Lit × DataW H → Nat
  | (.string bytes, d) => bytes.length + uptoBulk d + 1
  | (_, d) => uptoBulk d + 1
 end
def uptoSmall : (H : Type) → List (DataW H) → Bool := fun _ ds => decide (uptoBulkAll ds ≤ 1048576)
def OpenSpec.upto (s : _root_.Go.ChangeSpec) : _root_.Go.OpenSpec := { _root_.Go.OpenSpec.ofChange s with cond := some uptoSmall }

/-- 'attestorlaw08.ChannelDraws', WHERE WHAT IT READS IS OF BULK AT MOST 1048576: true; the input reads as it did. -/
def channelDrawsUptoRow : OpenClaim := { program := "ytkailiemikjfbaadoor", sum := "19f12d50365dc69e7ffb27ba69052e8e9d03ee795f9010555ebb0c59872e95d4", func := "attestor/attestorlaw08.ChannelDraws", spec := "channelDraws", unfollowed := true, recurses := true, named := ["attestor/field.fields"], apart := false, laid := [("attestor/field.fields", laid_attestor_field_fields)], narrowed := true }
def ChannelDrawsUptoSaid : Prop := channelDrawsUptoRow.holds Tryd.pinned (OpenSpec.upto channelDrawsSpec)

/-- 'attestorlaw08.ChannelGrinds', WHERE WHAT IT READS IS OF BULK AT MOST 1048576: true; the input reads as it did. -/
def channelGrindsUptoRow : OpenClaim := { program := "ytkailiemikjfbaadoor", sum := "19f12d50365dc69e7ffb27ba69052e8e9d03ee795f9010555ebb0c59872e95d4", func := "attestor/attestorlaw08.ChannelGrinds", spec := "channelGrinds", unfollowed := true, recurses := true, named := ["attestor/field.fields"], apart := false, laid := [("attestor/field.fields", laid_attestor_field_fields)], narrowed := true }
def ChannelGrindsUptoSaid : Prop := channelGrindsUptoRow.holds Tryd.pinned (OpenSpec.upto channelGrindsSpec)

/-- 'attestorlaw08.ChannelApart', WHERE WHAT IT READS IS OF BULK AT MOST 1048576: true; the input reads as it did. -/
def channelApartUptoRow : OpenClaim := { program := "ytkailiemikjfbaadoor", sum := "19f12d50365dc69e7ffb27ba69052e8e9d03ee795f9010555ebb0c59872e95d4", func := "attestor/attestorlaw08.ChannelApart", spec := "channelApart", unfollowed := true, recurses := true, named := ["attestor/field.fields"], apart := false, laid := [("attestor/field.fields", laid_attestor_field_fields)], narrowed := true }
def ChannelApartUptoSaid : Prop := channelApartUptoRow.holds Tryd.pinned (OpenSpec.upto channelApartSpec)

/-- 'attestorlaw08.ChannelLeast', WHERE WHAT IT READS IS OF BULK AT MOST 1048576: true; the input reads as it did. -/
def channelLeastUptoRow : OpenClaim := { program := "ytkailiemikjfbaadoor", sum := "19f12d50365dc69e7ffb27ba69052e8e9d03ee795f9010555ebb0c59872e95d4", func := "attestor/attestorlaw08.ChannelLeast", spec := "channelLeast", unfollowed := true, recurses := true, named := ["attestor/field.fields"], apart := false, laid := [("attestor/field.fields", laid_attestor_field_fields)], narrowed := true }
def ChannelLeastUptoSaid : Prop := channelLeastUptoRow.holds Tryd.pinned (OpenSpec.upto channelLeastSpec)

/-- 'attestorlaw08.ChannelPositions', WHERE WHAT IT READS IS OF BULK AT MOST 1048576: true; the input reads as it did. -/
def channelPositionsUptoRow : OpenClaim := { program := "ytkailiemikjfbaadoor", sum := "19f12d50365dc69e7ffb27ba69052e8e9d03ee795f9010555ebb0c59872e95d4", func := "attestor/attestorlaw08.ChannelPositions", spec := "channelPositions", unfollowed := true, recurses := true, named := ["attestor/field.fields"], apart := false, laid := [("attestor/field.fields", laid_attestor_field_fields)], narrowed := true }
def ChannelPositionsUptoSaid : Prop := channelPositionsUptoRow.holds Tryd.pinned (OpenSpec.upto channelPositionsSpec)

/-- 'attestorlaw08.ChannelKnown', WHERE WHAT IT READS IS OF BULK AT MOST 1048576: true; the input reads as it did. -/
def channelKnownUptoRow : OpenClaim := { program := "ytkailiemikjfbaadoor", sum := "19f12d50365dc69e7ffb27ba69052e8e9d03ee795f9010555ebb0c59872e95d4", func := "attestor/attestorlaw08.ChannelKnown", spec := "channelKnown", unfollowed := true, recurses := true, named := ["attestor/field.fields"], apart := false, laid := [("attestor/field.fields", laid_attestor_field_fields)], narrowed := true }
def ChannelKnownUptoSaid : Prop := channelKnownUptoRow.holds Tryd.pinned (OpenSpec.upto channelKnownSpec)

/-- 'attestorlaw08.ChannelOrder', WHERE WHAT IT READS IS OF BULK AT MOST 1048576: true; the input reads as it did. -/
def channelOrderUptoRow : OpenClaim := { program := "ytkailiemikjfbaadoor", sum := "19f12d50365dc69e7ffb27ba69052e8e9d03ee795f9010555ebb0c59872e95d4", func := "attestor/attestorlaw08.ChannelOrder", spec := "channelOrder", unfollowed := true, recurses := true, named := ["attestor/field.fields"], apart := false, laid := [("attestor/field.fields", laid_attestor_field_fields)], narrowed := true }
def ChannelOrderUptoSaid : Prop := channelOrderUptoRow.holds Tryd.pinned (OpenSpec.upto channelOrderSpec)

end Rows
end Go.Proofs.YtkailiemikjfbaaDoor
