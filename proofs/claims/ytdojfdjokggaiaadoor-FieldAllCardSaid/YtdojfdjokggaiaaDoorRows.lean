/-
  NARROWER THAN 'FOR EVERY INPUT', by the rows' own cells (each row's printed sentence says how): FieldOrders: laid · FieldLists: laid · FieldRing: laid · FieldSums: laid · FieldPowers: laid · FieldRoots: laid · FieldAll: laid · FieldKnown: laid · FieldOps: laid.
  DERIVED. THE GIVEN ROWS OF THIS SEAT. 9 by the template 'for every input the law returns true; each argument reads behind the call as it read before'; 0 by the template 'total and deterministic' (their statements: YtdojfdjokggaiaaDoorTotals.lean).
  GIVEN WITH THE SEED: the statements are not yours to turn. If you find one false, say at which input.
  Laid BY PROGRAM, IN A SANDBOX (cutbox-rows.mjs): the forced cells as the released guide's own fill.sh prints them over the translation 04127f8f3b24e3b6… (all of the seat's roots in one cut). By AI agents, Wed Nov 11 2026. No macro, syntax, notation, axiom, sorry.
-/
import Derived.Test.YtdojfdjokggaiaaDoorChecked
import GoSem.Claim
import GoSem.ClaimJoined
import GoSem.ClaimMapViews
import Derived.JoinedTies
import Derived.KernelRfl
namespace Go.Proofs.YtdojfdjokggaiaaDoor
/- THE CELL 'sum', in the pinned program and in every row, IS THE sha256 OF THE DUMP (.gsa) THAT YtdojfdjokggaiaaDoorProg.lean LOADS. Nothing in Lean hashes anything: it is a label: what it is worth is what the hold of that sum in a sandbox is worth. -/
noncomputable def Tryd.pinned : Pinned := { name := "ytdojfdjokggaiaadoor", sum := "04127f8f3b24e3b65b32972c4f23ca07333581ad35a095403238ae9458a3db70", checked := Tryd.checked }
namespace Rows
def none {H : Type} : Left H := { results := [], args := [] }

/- WHAT THE LISTED PACKAGE-LEVEL VARIABLES READ AS WHEN THE CALL BEGINS. Each datum BY PROGRAM (the guide's laid-datum.mjs) off the statement by which the dump's own 'gosem.cut.vars' lays the variable. In a bare row this is a premise. The card (YtdojfdjokggaiaaDoorCards.lean) ties it to the program's text. -/
def laid_attestor_field_fields {H : Type} : DataW H := .agg [.agg [.lit (.int .u64 97), .lit (.int .u64 5), .lit (.int .i64 5), .lit (.int .i64 5), .slice [.lit (.int .u64 3)] []], .agg [.lit (.int .u64 257), .lit (.int .u64 3), .lit (.int .i64 8), .lit (.int .i64 3), .nil], .agg [.lit (.int .u64 12289), .lit (.int .u64 11), .lit (.int .i64 12), .lit (.int .i64 5), .slice [.lit (.int .u64 3)] []], .agg [.lit (.int .u64 998244353), .lit (.int .u64 3), .lit (.int .i64 23), .lit (.int .i64 3), .slice [.lit (.int .u64 7), .lit (.int .u64 17)] []]]

/-- 'attestorlaw01.FieldOrders': WHATEVER THE INPUT: true; the input reads as it did. -/
def fieldOrdersSpec : ChangeSpec := { name := "fieldOrders", fn := fun _ => fun
  | [d1, d2, d3] => { results := [.lit (.bool true)], args := [d1, d2, d3] }
  | _ => none }
def fieldOrdersRow : OpenClaim := { program := "ytdojfdjokggaiaadoor", sum := "04127f8f3b24e3b65b32972c4f23ca07333581ad35a095403238ae9458a3db70", func := "attestor/attestorlaw01.FieldOrders", spec := "fieldOrders", recurses := true, named := ["attestor/field.fields"], apart := false, laid := [("attestor/field.fields", laid_attestor_field_fields)] }
def FieldOrdersSaid : Prop := fieldOrdersRow.holds Tryd.pinned (OpenSpec.ofChange fieldOrdersSpec)

/-- ITS FALSE NEIGHBOUR: 'it returns false'. Refute it at one input. -/
def fieldOrdersWrong : ChangeSpec := { name := "fieldOrders", fn := fun _ => fun
  | [d1, d2, d3] => { results := [.lit (.bool false)], args := [d1, d2, d3] }
  | _ => none }
def FieldOrdersWrongFalsely : Prop := fieldOrdersRow.holds Tryd.pinned (OpenSpec.ofChange fieldOrdersWrong)

/-- 'attestorlaw01.FieldLists': WHATEVER THE INPUT: true; the input reads as it did. -/
def fieldListsSpec : ChangeSpec := { name := "fieldLists", fn := fun _ => fun
  | [d1, d2, d3] => { results := [.lit (.bool true)], args := [d1, d2, d3] }
  | _ => none }
def fieldListsRow : OpenClaim := { program := "ytdojfdjokggaiaadoor", sum := "04127f8f3b24e3b65b32972c4f23ca07333581ad35a095403238ae9458a3db70", func := "attestor/attestorlaw01.FieldLists", spec := "fieldLists", recurses := true, named := ["attestor/field.fields"], apart := false, laid := [("attestor/field.fields", laid_attestor_field_fields)] }
def FieldListsSaid : Prop := fieldListsRow.holds Tryd.pinned (OpenSpec.ofChange fieldListsSpec)

/-- ITS FALSE NEIGHBOUR: 'it returns false'. Refute it at one input. -/
def fieldListsWrong : ChangeSpec := { name := "fieldLists", fn := fun _ => fun
  | [d1, d2, d3] => { results := [.lit (.bool false)], args := [d1, d2, d3] }
  | _ => none }
def FieldListsWrongFalsely : Prop := fieldListsRow.holds Tryd.pinned (OpenSpec.ofChange fieldListsWrong)

/-- 'attestorlaw01.FieldRing': WHATEVER THE INPUT: true; the input reads as it did. -/
def fieldRingSpec : ChangeSpec := { name := "fieldRing", fn := fun _ => fun
  | [d1, d2, d3, d4] => { results := [.lit (.bool true)], args := [d1, d2, d3, d4] }
  | _ => none }
def fieldRingRow : OpenClaim := { program := "ytdojfdjokggaiaadoor", sum := "04127f8f3b24e3b65b32972c4f23ca07333581ad35a095403238ae9458a3db70", func := "attestor/attestorlaw01.FieldRing", spec := "fieldRing", named := ["attestor/field.fields"], apart := false, laid := [("attestor/field.fields", laid_attestor_field_fields)] }
def FieldRingSaid : Prop := fieldRingRow.holds Tryd.pinned (OpenSpec.ofChange fieldRingSpec)

/-- ITS FALSE NEIGHBOUR: 'it returns false'. Refute it at one input. -/
def fieldRingWrong : ChangeSpec := { name := "fieldRing", fn := fun _ => fun
  | [d1, d2, d3, d4] => { results := [.lit (.bool false)], args := [d1, d2, d3, d4] }
  | _ => none }
def FieldRingWrongFalsely : Prop := fieldRingRow.holds Tryd.pinned (OpenSpec.ofChange fieldRingWrong)

/-- 'attestorlaw01.FieldSums': WHATEVER THE INPUT: true; the input reads as it did. -/
def fieldSumsSpec : ChangeSpec := { name := "fieldSums", fn := fun _ => fun
  | [d1, d2, d3, d4] => { results := [.lit (.bool true)], args := [d1, d2, d3, d4] }
  | _ => none }
def fieldSumsRow : OpenClaim := { program := "ytdojfdjokggaiaadoor", sum := "04127f8f3b24e3b65b32972c4f23ca07333581ad35a095403238ae9458a3db70", func := "attestor/attestorlaw01.FieldSums", spec := "fieldSums", named := ["attestor/field.fields"], apart := false, laid := [("attestor/field.fields", laid_attestor_field_fields)] }
def FieldSumsSaid : Prop := fieldSumsRow.holds Tryd.pinned (OpenSpec.ofChange fieldSumsSpec)

/-- ITS FALSE NEIGHBOUR: 'it returns false'. Refute it at one input. -/
def fieldSumsWrong : ChangeSpec := { name := "fieldSums", fn := fun _ => fun
  | [d1, d2, d3, d4] => { results := [.lit (.bool false)], args := [d1, d2, d3, d4] }
  | _ => none }
def FieldSumsWrongFalsely : Prop := fieldSumsRow.holds Tryd.pinned (OpenSpec.ofChange fieldSumsWrong)

/-- 'attestorlaw01.FieldPowers': WHATEVER THE INPUT: true; the input reads as it did. -/
def fieldPowersSpec : ChangeSpec := { name := "fieldPowers", fn := fun _ => fun
  | [d1, d2, d3, d4] => { results := [.lit (.bool true)], args := [d1, d2, d3, d4] }
  | _ => none }
def fieldPowersRow : OpenClaim := { program := "ytdojfdjokggaiaadoor", sum := "04127f8f3b24e3b65b32972c4f23ca07333581ad35a095403238ae9458a3db70", func := "attestor/attestorlaw01.FieldPowers", spec := "fieldPowers", named := ["attestor/field.fields"], apart := false, laid := [("attestor/field.fields", laid_attestor_field_fields)] }
def FieldPowersSaid : Prop := fieldPowersRow.holds Tryd.pinned (OpenSpec.ofChange fieldPowersSpec)

/-- ITS FALSE NEIGHBOUR: 'it returns false'. Refute it at one input. -/
def fieldPowersWrong : ChangeSpec := { name := "fieldPowers", fn := fun _ => fun
  | [d1, d2, d3, d4] => { results := [.lit (.bool false)], args := [d1, d2, d3, d4] }
  | _ => none }
def FieldPowersWrongFalsely : Prop := fieldPowersRow.holds Tryd.pinned (OpenSpec.ofChange fieldPowersWrong)

/-- 'attestorlaw01.FieldRoots': WHATEVER THE INPUT: true; the input reads as it did. -/
def fieldRootsSpec : ChangeSpec := { name := "fieldRoots", fn := fun _ => fun
  | [d1, d2] => { results := [.lit (.bool true)], args := [d1, d2] }
  | _ => none }
def fieldRootsRow : OpenClaim := { program := "ytdojfdjokggaiaadoor", sum := "04127f8f3b24e3b65b32972c4f23ca07333581ad35a095403238ae9458a3db70", func := "attestor/attestorlaw01.FieldRoots", spec := "fieldRoots", named := ["attestor/field.fields"], apart := false, laid := [("attestor/field.fields", laid_attestor_field_fields)] }
def FieldRootsSaid : Prop := fieldRootsRow.holds Tryd.pinned (OpenSpec.ofChange fieldRootsSpec)

/-- ITS FALSE NEIGHBOUR: 'it returns false'. Refute it at one input. -/
def fieldRootsWrong : ChangeSpec := { name := "fieldRoots", fn := fun _ => fun
  | [d1, d2] => { results := [.lit (.bool false)], args := [d1, d2] }
  | _ => none }
def FieldRootsWrongFalsely : Prop := fieldRootsRow.holds Tryd.pinned (OpenSpec.ofChange fieldRootsWrong)

/-- 'attestorlaw01.FieldAll': WHATEVER THE INPUT: true; the input reads as it did. -/
def fieldAllSpec : ChangeSpec := { name := "fieldAll", fn := fun _ => fun
  | [] => { results := [.lit (.bool true)], args := [] }
  | _ => none }
def fieldAllRow : OpenClaim := { program := "ytdojfdjokggaiaadoor", sum := "04127f8f3b24e3b65b32972c4f23ca07333581ad35a095403238ae9458a3db70", func := "attestor/attestorlaw01.FieldAll", spec := "fieldAll", named := ["attestor/field.fields"], apart := false, laid := [("attestor/field.fields", laid_attestor_field_fields)] }
def FieldAllSaid : Prop := fieldAllRow.holds Tryd.pinned (OpenSpec.ofChange fieldAllSpec)

/-- ITS FALSE NEIGHBOUR: 'it returns false'. Refute it at one input. -/
def fieldAllWrong : ChangeSpec := { name := "fieldAll", fn := fun _ => fun
  | [] => { results := [.lit (.bool false)], args := [] }
  | _ => none }
def FieldAllWrongFalsely : Prop := fieldAllRow.holds Tryd.pinned (OpenSpec.ofChange fieldAllWrong)

/-- 'attestorlaw01.FieldKnown': WHATEVER THE INPUT: true; the input reads as it did. -/
def fieldKnownSpec : ChangeSpec := { name := "fieldKnown", fn := fun _ => fun
  | [] => { results := [.lit (.bool true)], args := [] }
  | _ => none }
def fieldKnownRow : OpenClaim := { program := "ytdojfdjokggaiaadoor", sum := "04127f8f3b24e3b65b32972c4f23ca07333581ad35a095403238ae9458a3db70", func := "attestor/attestorlaw01.FieldKnown", spec := "fieldKnown", named := ["attestor/field.fields"], apart := false, laid := [("attestor/field.fields", laid_attestor_field_fields)] }
def FieldKnownSaid : Prop := fieldKnownRow.holds Tryd.pinned (OpenSpec.ofChange fieldKnownSpec)

/-- ITS FALSE NEIGHBOUR: 'it returns false'. Refute it at one input. -/
def fieldKnownWrong : ChangeSpec := { name := "fieldKnown", fn := fun _ => fun
  | [] => { results := [.lit (.bool false)], args := [] }
  | _ => none }
def FieldKnownWrongFalsely : Prop := fieldKnownRow.holds Tryd.pinned (OpenSpec.ofChange fieldKnownWrong)

/-- 'attestorlaw01.FieldOps': WHATEVER THE INPUT: true; the input reads as it did. -/
def fieldOpsSpec : ChangeSpec := { name := "fieldOps", fn := fun _ => fun
  | [d1, d2, d3, d4] => { results := [.lit (.bool true)], args := [d1, d2, d3, d4] }
  | _ => none }
def fieldOpsRow : OpenClaim := { program := "ytdojfdjokggaiaadoor", sum := "04127f8f3b24e3b65b32972c4f23ca07333581ad35a095403238ae9458a3db70", func := "attestor/attestorlaw01.FieldOps", spec := "fieldOps", recurses := true, named := ["attestor/field.fields"], apart := false, laid := [("attestor/field.fields", laid_attestor_field_fields)] }
def FieldOpsSaid : Prop := fieldOpsRow.holds Tryd.pinned (OpenSpec.ofChange fieldOpsSpec)

/-- ITS FALSE NEIGHBOUR: 'it returns false'. Refute it at one input. -/
def fieldOpsWrong : ChangeSpec := { name := "fieldOps", fn := fun _ => fun
  | [d1, d2, d3, d4] => { results := [.lit (.bool false)], args := [d1, d2, d3, d4] }
  | _ => none }
def FieldOpsWrongFalsely : Prop := fieldOpsRow.holds Tryd.pinned (OpenSpec.ofChange fieldOpsWrong)

/- THE SECOND FORM. 'bulk': how many values and letters a reading holds, each counted each time it is reached (what is shared counts as often as it is met; a slice's spare places count too). A statement '..UptoSaid' is the law's where the arguments, and the package variables that the reading takes, are together of bulk at most 1048576: NARROWER than '..Said'. Prove '..Said' where nothing that the law and all that it calls make is longer than what came in: it says more and counts as full. Else prove '..UptoSaid'. A law counts once. -/
mutual
def uptoBulk {H : Type} : DataW H → Nat
  | .lit (.string bytes) => bytes.length + 1
  | .lit _ => 1
  | .nil => 1
  | .ptr d => uptoBulk d + 1
  | .slice elems spare => uptoBulkAll elems + uptoBulkAll spare + 1
  | .agg parts => uptoBulkAll parts + 1
  | .iface _ d => uptoBulk d + 1
  | .map entries => uptoBulkEntries entries + 1
  | .held _ => 1
def uptoBulkAll {H : Type} : List (DataW H) → Nat
  | [] => 0
  | d :: r => uptoBulk d + uptoBulkAll r
def uptoBulkEntries {H : Type} : List (Lit × DataW H) → Nat
  | [] => 0
  | x :: r => uptoBulkEntry x + uptoBulkEntries r
def uptoBulkEntry {H : Type} : Lit × DataW H → Nat
  | (.string bytes, d) => bytes.length + uptoBulk d + 1
  | (_, d) => uptoBulk d + 1
 end
def uptoSmall : (H : Type) → List (DataW H) → Bool := fun _ ds => decide (uptoBulkAll ds ≤ 1048576)
def OpenSpec.upto (s : _root_.Go.ChangeSpec) : _root_.Go.OpenSpec := { _root_.Go.OpenSpec.ofChange s with cond := some uptoSmall }

/-- 'attestorlaw01.FieldOrders', WHERE WHAT IT READS IS OF BULK AT MOST 1048576: true; the input reads as it did. -/
def fieldOrdersUptoRow : OpenClaim := { program := "ytdojfdjokggaiaadoor", sum := "04127f8f3b24e3b65b32972c4f23ca07333581ad35a095403238ae9458a3db70", func := "attestor/attestorlaw01.FieldOrders", spec := "fieldOrders", recurses := true, named := ["attestor/field.fields"], apart := false, laid := [("attestor/field.fields", laid_attestor_field_fields)], narrowed := true }
def FieldOrdersUptoSaid : Prop := fieldOrdersUptoRow.holds Tryd.pinned (OpenSpec.upto fieldOrdersSpec)

/-- 'attestorlaw01.FieldLists', WHERE WHAT IT READS IS OF BULK AT MOST 1048576: true; the input reads as it did. -/
def fieldListsUptoRow : OpenClaim := { program := "ytdojfdjokggaiaadoor", sum := "04127f8f3b24e3b65b32972c4f23ca07333581ad35a095403238ae9458a3db70", func := "attestor/attestorlaw01.FieldLists", spec := "fieldLists", recurses := true, named := ["attestor/field.fields"], apart := false, laid := [("attestor/field.fields", laid_attestor_field_fields)], narrowed := true }
def FieldListsUptoSaid : Prop := fieldListsUptoRow.holds Tryd.pinned (OpenSpec.upto fieldListsSpec)

/-- 'attestorlaw01.FieldRing', WHERE WHAT IT READS IS OF BULK AT MOST 1048576: true; the input reads as it did. -/
def fieldRingUptoRow : OpenClaim := { program := "ytdojfdjokggaiaadoor", sum := "04127f8f3b24e3b65b32972c4f23ca07333581ad35a095403238ae9458a3db70", func := "attestor/attestorlaw01.FieldRing", spec := "fieldRing", named := ["attestor/field.fields"], apart := false, laid := [("attestor/field.fields", laid_attestor_field_fields)], narrowed := true }
def FieldRingUptoSaid : Prop := fieldRingUptoRow.holds Tryd.pinned (OpenSpec.upto fieldRingSpec)

/-- 'attestorlaw01.FieldSums', WHERE WHAT IT READS IS OF BULK AT MOST 1048576: true; the input reads as it did. -/
def fieldSumsUptoRow : OpenClaim := { program := "ytdojfdjokggaiaadoor", sum := "04127f8f3b24e3b65b32972c4f23ca07333581ad35a095403238ae9458a3db70", func := "attestor/attestorlaw01.FieldSums", spec := "fieldSums", named := ["attestor/field.fields"], apart := false, laid := [("attestor/field.fields", laid_attestor_field_fields)], narrowed := true }
def FieldSumsUptoSaid : Prop := fieldSumsUptoRow.holds Tryd.pinned (OpenSpec.upto fieldSumsSpec)

/-- 'attestorlaw01.FieldPowers', WHERE WHAT IT READS IS OF BULK AT MOST 1048576: true; the input reads as it did. -/
def fieldPowersUptoRow : OpenClaim := { program := "ytdojfdjokggaiaadoor", sum := "04127f8f3b24e3b65b32972c4f23ca07333581ad35a095403238ae9458a3db70", func := "attestor/attestorlaw01.FieldPowers", spec := "fieldPowers", named := ["attestor/field.fields"], apart := false, laid := [("attestor/field.fields", laid_attestor_field_fields)], narrowed := true }
def FieldPowersUptoSaid : Prop := fieldPowersUptoRow.holds Tryd.pinned (OpenSpec.upto fieldPowersSpec)

/-- 'attestorlaw01.FieldRoots', WHERE WHAT IT READS IS OF BULK AT MOST 1048576: true; the input reads as it did. -/
def fieldRootsUptoRow : OpenClaim := { program := "ytdojfdjokggaiaadoor", sum := "04127f8f3b24e3b65b32972c4f23ca07333581ad35a095403238ae9458a3db70", func := "attestor/attestorlaw01.FieldRoots", spec := "fieldRoots", named := ["attestor/field.fields"], apart := false, laid := [("attestor/field.fields", laid_attestor_field_fields)], narrowed := true }
def FieldRootsUptoSaid : Prop := fieldRootsUptoRow.holds Tryd.pinned (OpenSpec.upto fieldRootsSpec)

/-- 'attestorlaw01.FieldAll', WHERE WHAT IT READS IS OF BULK AT MOST 1048576: true; the input reads as it did. -/
def fieldAllUptoRow : OpenClaim := { program := "ytdojfdjokggaiaadoor", sum := "04127f8f3b24e3b65b32972c4f23ca07333581ad35a095403238ae9458a3db70", func := "attestor/attestorlaw01.FieldAll", spec := "fieldAll", named := ["attestor/field.fields"], apart := false, laid := [("attestor/field.fields", laid_attestor_field_fields)], narrowed := true }
def FieldAllUptoSaid : Prop := fieldAllUptoRow.holds Tryd.pinned (OpenSpec.upto fieldAllSpec)

/-- 'attestorlaw01.FieldKnown', WHERE WHAT IT READS IS OF BULK AT MOST 1048576: true; the input reads as it did. -/
def fieldKnownUptoRow : OpenClaim := { program := "ytdojfdjokggaiaadoor", sum := "04127f8f3b24e3b65b32972c4f23ca07333581ad35a095403238ae9458a3db70", func := "attestor/attestorlaw01.FieldKnown", spec := "fieldKnown", named := ["attestor/field.fields"], apart := false, laid := [("attestor/field.fields", laid_attestor_field_fields)], narrowed := true }
def FieldKnownUptoSaid : Prop := fieldKnownUptoRow.holds Tryd.pinned (OpenSpec.upto fieldKnownSpec)

/-- 'attestorlaw01.FieldOps', WHERE WHAT IT READS IS OF BULK AT MOST 1048576: true; the input reads as it did. -/
def fieldOpsUptoRow : OpenClaim := { program := "ytdojfdjokggaiaadoor", sum := "04127f8f3b24e3b65b32972c4f23ca07333581ad35a095403238ae9458a3db70", func := "attestor/attestorlaw01.FieldOps", spec := "fieldOps", recurses := true, named := ["attestor/field.fields"], apart := false, laid := [("attestor/field.fields", laid_attestor_field_fields)], narrowed := true }
def FieldOpsUptoSaid : Prop := fieldOpsUptoRow.holds Tryd.pinned (OpenSpec.upto fieldOpsSpec)

end Rows
end Go.Proofs.YtdojfdjokggaiaaDoor
