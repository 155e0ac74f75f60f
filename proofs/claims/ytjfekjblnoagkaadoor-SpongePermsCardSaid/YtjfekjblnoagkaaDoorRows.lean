/-
  NARROWER THAN 'FOR EVERY INPUT', by the rows' own cells (each row's printed sentence says how): SpongeConstants: laid · SpongeHashes: laid · SpongeRounds: laid · SpongeNodes: laid · SpongeSteps: laid · SpongePerms: laid · SpongeBack: laid · SpongeApart: laid · SpongeKnown: laid.
  DERIVED. THE GIVEN ROWS OF THIS SEAT. 9 by the template 'for every input the law returns true; each argument reads behind the call as it read before'; 0 by the template 'total and deterministic' (their statements: YtjfekjblnoagkaaDoorTotals.lean).
  GIVEN WITH THE SEED: the statements are not yours to turn. If you find one false, say at which input.
  Laid BY PROGRAM, IN A SANDBOX (cutbox-rows.mjs): the forced cells as the released guide's own fill.sh prints them over the translation e1199e3cc290fce3… (all of the seat's roots in one cut). By AI agents, Wed Nov 11 2026. No macro, syntax, notation, axiom, sorry.
-/
import Derived.Test.YtjfekjblnoagkaaDoorChecked
import GoSem.Claim
import GoSem.ClaimJoined
import GoSem.ClaimMapViews
import Derived.JoinedTies
import Derived.KernelRfl
namespace Go.Proofs.YtjfekjblnoagkaaDoor
/- THE CELL 'sum', in the pinned program and in every row, IS THE sha256 OF THE DUMP (.gsa) THAT YtjfekjblnoagkaaDoorProg.lean LOADS. Nothing in Lean hashes anything: it is a label: what it is worth is what the hold of that sum in a sandbox is worth. -/
noncomputable def Tryd.pinned : Pinned := { name := "ytjfekjblnoagkaadoor", sum := "e1199e3cc290fce36ab08b87a72c508025f24d0b21a4f06a54d0e684509aa8ec", checked := Tryd.checked }
namespace Rows
def none {H : Type} : Left H := { results := [], args := [] }

/- WHAT THE LISTED PACKAGE-LEVEL VARIABLES READ AS WHEN THE CALL BEGINS. Each datum BY PROGRAM (the guide's laid-datum.mjs) off the statement by which the dump's own 'gosem.cut.vars' lays the variable. In a bare row this is a premise. The card (YtjfekjblnoagkaaDoorCards.lean) ties it to the program's text. -/
def laid_attestor_field_fields {H : Type} : DataW H := .agg [.agg [.lit (.int .u64 97), .lit (.int .u64 5), .lit (.int .i64 5), .lit (.int .i64 5), .slice [.lit (.int .u64 3)] []], .agg [.lit (.int .u64 257), .lit (.int .u64 3), .lit (.int .i64 8), .lit (.int .i64 3), .nil], .agg [.lit (.int .u64 12289), .lit (.int .u64 11), .lit (.int .i64 12), .lit (.int .i64 5), .slice [.lit (.int .u64 3)] []], .agg [.lit (.int .u64 998244353), .lit (.int .u64 3), .lit (.int .i64 23), .lit (.int .i64 3), .slice [.lit (.int .u64 7), .lit (.int .u64 17)] []]]
def laid_attestor_sponge_undo {H : Type} : DataW H := .agg [.lit (.int .u64 77), .lit (.int .u64 171), .lit (.int .u64 7373), .lit (.int .u64 665496235)]

/-- 'attestorlaw06.SpongeConstants': WHATEVER THE INPUT: true; the input reads as it did. -/
def spongeConstantsSpec : ChangeSpec := { name := "spongeConstants", fn := fun _ => fun
  | [d1, d2, d3, d4] => { results := [.lit (.bool true)], args := [d1, d2, d3, d4] }
  | _ => none }
def spongeConstantsRow : OpenClaim := { program := "ytjfekjblnoagkaadoor", sum := "e1199e3cc290fce36ab08b87a72c508025f24d0b21a4f06a54d0e684509aa8ec", func := "attestor/attestorlaw06.SpongeConstants", spec := "spongeConstants", recurses := true, named := ["attestor/field.fields"], apart := false, laid := [("attestor/field.fields", laid_attestor_field_fields)] }
def SpongeConstantsSaid : Prop := spongeConstantsRow.holds Tryd.pinned (OpenSpec.ofChange spongeConstantsSpec)

/-- ITS FALSE NEIGHBOUR: 'it returns false'. Refute it at one input. -/
def spongeConstantsWrong : ChangeSpec := { name := "spongeConstants", fn := fun _ => fun
  | [d1, d2, d3, d4] => { results := [.lit (.bool false)], args := [d1, d2, d3, d4] }
  | _ => none }
def SpongeConstantsWrongFalsely : Prop := spongeConstantsRow.holds Tryd.pinned (OpenSpec.ofChange spongeConstantsWrong)

/-- 'attestorlaw06.SpongeHashes': WHATEVER THE INPUT: true; the input reads as it did. -/
def spongeHashesSpec : ChangeSpec := { name := "spongeHashes", fn := fun _ => fun
  | [d1, d2] => { results := [.lit (.bool true)], args := [d1, d2] }
  | _ => none }
def spongeHashesRow : OpenClaim := { program := "ytjfekjblnoagkaadoor", sum := "e1199e3cc290fce36ab08b87a72c508025f24d0b21a4f06a54d0e684509aa8ec", func := "attestor/attestorlaw06.SpongeHashes", spec := "spongeHashes", recurses := true, named := ["attestor/field.fields"], apart := false, laid := [("attestor/field.fields", laid_attestor_field_fields)] }
def SpongeHashesSaid : Prop := spongeHashesRow.holds Tryd.pinned (OpenSpec.ofChange spongeHashesSpec)

/-- ITS FALSE NEIGHBOUR: 'it returns false'. Refute it at one input. -/
def spongeHashesWrong : ChangeSpec := { name := "spongeHashes", fn := fun _ => fun
  | [d1, d2] => { results := [.lit (.bool false)], args := [d1, d2] }
  | _ => none }
def SpongeHashesWrongFalsely : Prop := spongeHashesRow.holds Tryd.pinned (OpenSpec.ofChange spongeHashesWrong)

/-- 'attestorlaw06.SpongeRounds': WHATEVER THE INPUT: true; the input reads as it did. -/
def spongeRoundsSpec : ChangeSpec := { name := "spongeRounds", fn := fun _ => fun
  | [d1, d2] => { results := [.lit (.bool true)], args := [d1, d2] }
  | _ => none }
def spongeRoundsRow : OpenClaim := { program := "ytjfekjblnoagkaadoor", sum := "e1199e3cc290fce36ab08b87a72c508025f24d0b21a4f06a54d0e684509aa8ec", func := "attestor/attestorlaw06.SpongeRounds", spec := "spongeRounds", named := ["attestor/field.fields"], apart := false, laid := [("attestor/field.fields", laid_attestor_field_fields)] }
def SpongeRoundsSaid : Prop := spongeRoundsRow.holds Tryd.pinned (OpenSpec.ofChange spongeRoundsSpec)

/-- ITS FALSE NEIGHBOUR: 'it returns false'. Refute it at one input. -/
def spongeRoundsWrong : ChangeSpec := { name := "spongeRounds", fn := fun _ => fun
  | [d1, d2] => { results := [.lit (.bool false)], args := [d1, d2] }
  | _ => none }
def SpongeRoundsWrongFalsely : Prop := spongeRoundsRow.holds Tryd.pinned (OpenSpec.ofChange spongeRoundsWrong)

/-- 'attestorlaw06.SpongeNodes': WHATEVER THE INPUT: true; the input reads as it did. -/
def spongeNodesSpec : ChangeSpec := { name := "spongeNodes", fn := fun _ => fun
  | [d1, d2, d3] => { results := [.lit (.bool true)], args := [d1, d2, d3] }
  | _ => none }
def spongeNodesRow : OpenClaim := { program := "ytjfekjblnoagkaadoor", sum := "e1199e3cc290fce36ab08b87a72c508025f24d0b21a4f06a54d0e684509aa8ec", func := "attestor/attestorlaw06.SpongeNodes", spec := "spongeNodes", recurses := true, named := ["attestor/field.fields"], apart := false, laid := [("attestor/field.fields", laid_attestor_field_fields)] }
def SpongeNodesSaid : Prop := spongeNodesRow.holds Tryd.pinned (OpenSpec.ofChange spongeNodesSpec)

/-- ITS FALSE NEIGHBOUR: 'it returns false'. Refute it at one input. -/
def spongeNodesWrong : ChangeSpec := { name := "spongeNodes", fn := fun _ => fun
  | [d1, d2, d3] => { results := [.lit (.bool false)], args := [d1, d2, d3] }
  | _ => none }
def SpongeNodesWrongFalsely : Prop := spongeNodesRow.holds Tryd.pinned (OpenSpec.ofChange spongeNodesWrong)

/-- 'attestorlaw06.SpongeSteps': WHATEVER THE INPUT: true; the input reads as it did. -/
def spongeStepsSpec : ChangeSpec := { name := "spongeSteps", fn := fun _ => fun
  | [d1, d2, d3, d4] => { results := [.lit (.bool true)], args := [d1, d2, d3, d4] }
  | _ => none }
def spongeStepsRow : OpenClaim := { program := "ytjfekjblnoagkaadoor", sum := "e1199e3cc290fce36ab08b87a72c508025f24d0b21a4f06a54d0e684509aa8ec", func := "attestor/attestorlaw06.SpongeSteps", spec := "spongeSteps", named := ["attestor/field.fields"], apart := false, laid := [("attestor/field.fields", laid_attestor_field_fields)] }
def SpongeStepsSaid : Prop := spongeStepsRow.holds Tryd.pinned (OpenSpec.ofChange spongeStepsSpec)

/-- ITS FALSE NEIGHBOUR: 'it returns false'. Refute it at one input. -/
def spongeStepsWrong : ChangeSpec := { name := "spongeSteps", fn := fun _ => fun
  | [d1, d2, d3, d4] => { results := [.lit (.bool false)], args := [d1, d2, d3, d4] }
  | _ => none }
def SpongeStepsWrongFalsely : Prop := spongeStepsRow.holds Tryd.pinned (OpenSpec.ofChange spongeStepsWrong)

/-- 'attestorlaw06.SpongePerms': WHATEVER THE INPUT: true; the input reads as it did. -/
def spongePermsSpec : ChangeSpec := { name := "spongePerms", fn := fun _ => fun
  | [d1, d2] => { results := [.lit (.bool true)], args := [d1, d2] }
  | _ => none }
def spongePermsRow : OpenClaim := { program := "ytjfekjblnoagkaadoor", sum := "e1199e3cc290fce36ab08b87a72c508025f24d0b21a4f06a54d0e684509aa8ec", func := "attestor/attestorlaw06.SpongePerms", spec := "spongePerms", recurses := true, named := ["attestor/field.fields", "attestor/sponge.undo"], apart := false, laid := [("attestor/field.fields", laid_attestor_field_fields), ("attestor/sponge.undo", laid_attestor_sponge_undo)] }
def SpongePermsSaid : Prop := spongePermsRow.holds Tryd.pinned (OpenSpec.ofChange spongePermsSpec)

/-- ITS FALSE NEIGHBOUR: 'it returns false'. Refute it at one input. -/
def spongePermsWrong : ChangeSpec := { name := "spongePerms", fn := fun _ => fun
  | [d1, d2] => { results := [.lit (.bool false)], args := [d1, d2] }
  | _ => none }
def SpongePermsWrongFalsely : Prop := spongePermsRow.holds Tryd.pinned (OpenSpec.ofChange spongePermsWrong)

/-- 'attestorlaw06.SpongeBack': WHATEVER THE INPUT: true; the input reads as it did. -/
def spongeBackSpec : ChangeSpec := { name := "spongeBack", fn := fun _ => fun
  | [d1, d2] => { results := [.lit (.bool true)], args := [d1, d2] }
  | _ => none }
def spongeBackRow : OpenClaim := { program := "ytjfekjblnoagkaadoor", sum := "e1199e3cc290fce36ab08b87a72c508025f24d0b21a4f06a54d0e684509aa8ec", func := "attestor/attestorlaw06.SpongeBack", spec := "spongeBack", named := ["attestor/field.fields", "attestor/sponge.undo"], apart := false, laid := [("attestor/field.fields", laid_attestor_field_fields), ("attestor/sponge.undo", laid_attestor_sponge_undo)] }
def SpongeBackSaid : Prop := spongeBackRow.holds Tryd.pinned (OpenSpec.ofChange spongeBackSpec)

/-- ITS FALSE NEIGHBOUR: 'it returns false'. Refute it at one input. -/
def spongeBackWrong : ChangeSpec := { name := "spongeBack", fn := fun _ => fun
  | [d1, d2] => { results := [.lit (.bool false)], args := [d1, d2] }
  | _ => none }
def SpongeBackWrongFalsely : Prop := spongeBackRow.holds Tryd.pinned (OpenSpec.ofChange spongeBackWrong)

/-- 'attestorlaw06.SpongeApart': WHATEVER THE INPUT: true; the input reads as it did. -/
def spongeApartSpec : ChangeSpec := { name := "spongeApart", fn := fun _ => fun
  | [d1, d2, d3] => { results := [.lit (.bool true)], args := [d1, d2, d3] }
  | _ => none }
def spongeApartRow : OpenClaim := { program := "ytjfekjblnoagkaadoor", sum := "e1199e3cc290fce36ab08b87a72c508025f24d0b21a4f06a54d0e684509aa8ec", func := "attestor/attestorlaw06.SpongeApart", spec := "spongeApart", named := ["attestor/field.fields", "attestor/sponge.undo"], apart := false, laid := [("attestor/field.fields", laid_attestor_field_fields), ("attestor/sponge.undo", laid_attestor_sponge_undo)] }
def SpongeApartSaid : Prop := spongeApartRow.holds Tryd.pinned (OpenSpec.ofChange spongeApartSpec)

/-- ITS FALSE NEIGHBOUR: 'it returns false'. Refute it at one input. -/
def spongeApartWrong : ChangeSpec := { name := "spongeApart", fn := fun _ => fun
  | [d1, d2, d3] => { results := [.lit (.bool false)], args := [d1, d2, d3] }
  | _ => none }
def SpongeApartWrongFalsely : Prop := spongeApartRow.holds Tryd.pinned (OpenSpec.ofChange spongeApartWrong)

/-- 'attestorlaw06.SpongeKnown': WHATEVER THE INPUT: true; the input reads as it did. -/
def spongeKnownSpec : ChangeSpec := { name := "spongeKnown", fn := fun _ => fun
  | [] => { results := [.lit (.bool true)], args := [] }
  | _ => none }
def spongeKnownRow : OpenClaim := { program := "ytjfekjblnoagkaadoor", sum := "e1199e3cc290fce36ab08b87a72c508025f24d0b21a4f06a54d0e684509aa8ec", func := "attestor/attestorlaw06.SpongeKnown", spec := "spongeKnown", named := ["attestor/field.fields", "attestor/sponge.undo"], apart := false, laid := [("attestor/field.fields", laid_attestor_field_fields), ("attestor/sponge.undo", laid_attestor_sponge_undo)] }
def SpongeKnownSaid : Prop := spongeKnownRow.holds Tryd.pinned (OpenSpec.ofChange spongeKnownSpec)

/-- ITS FALSE NEIGHBOUR: 'it returns false'. Refute it at one input. -/
def spongeKnownWrong : ChangeSpec := { name := "spongeKnown", fn := fun _ => fun
  | [] => { results := [.lit (.bool false)], args := [] }
  | _ => none }
def SpongeKnownWrongFalsely : Prop := spongeKnownRow.holds Tryd.pinned (OpenSpec.ofChange spongeKnownWrong)

/- THE SECOND FORM. 'bulk': how many values and letters a reading holds, each counted each time it is reached (what is shared counts as often as it is met; a slice's spare places count too). A statement '..UptoSaid' is the law's where the arguments, and the package variables that the reading takes, are together of bulk at most 1048576: NARROWER than '..Said'. Prove '..Said' where nothing that the law and all that it calls make is longer than what came in: it says more and counts as full. Else prove '..UptoSaid'. A law counts once. -/
mutual
def uptoBulk {H : Type} : DataW H → Nat
  | .lit (.string bytes) => bytes.length + 1
  | .lit _ => 1
  | .nil => 1
  | .ptr d => uptoBulk d + 1
  | .slice elems spare => uptoBulkAll elems + uptoBulkAll spare + 1
  | .agg parts => uptoBulkAll parts + 1
  | .iface _ d => uptoBulk d + 1
  | .map entries => uptoBulkEntries entries + 1
  | .held _ => 1
def uptoBulkAll {H : Type} : List (DataW H) → Nat
  | [] => 0
  | d :: r => uptoBulk d + uptoBulkAll r
def uptoBulkEntries {H : Type} : List (Lit × DataW H) → Nat
  | [] => 0
  | x :: r => uptoBulkEntry x + uptoBulkEntries r
def uptoBulkEntry {H : Type} : Lit × DataW H → Nat
  | (.string bytes, d) => bytes.length + uptoBulk d + 1
  | (_, d) => uptoBulk d + 1
 end
def uptoSmall : (H : Type) → List (DataW H) → Bool := fun _ ds => decide (uptoBulkAll ds ≤ 1048576)
def OpenSpec.upto (s : _root_.Go.ChangeSpec) : _root_.Go.OpenSpec := { _root_.Go.OpenSpec.ofChange s with cond := some uptoSmall }

/-- 'attestorlaw06.SpongeConstants', WHERE WHAT IT READS IS OF BULK AT MOST 1048576: true; the input reads as it did. -/
def spongeConstantsUptoRow : OpenClaim := { program := "ytjfekjblnoagkaadoor", sum := "e1199e3cc290fce36ab08b87a72c508025f24d0b21a4f06a54d0e684509aa8ec", func := "attestor/attestorlaw06.SpongeConstants", spec := "spongeConstants", recurses := true, named := ["attestor/field.fields"], apart := false, laid := [("attestor/field.fields", laid_attestor_field_fields)], narrowed := true }
def SpongeConstantsUptoSaid : Prop := spongeConstantsUptoRow.holds Tryd.pinned (OpenSpec.upto spongeConstantsSpec)

/-- 'attestorlaw06.SpongeHashes', WHERE WHAT IT READS IS OF BULK AT MOST 1048576: true; the input reads as it did. -/
def spongeHashesUptoRow : OpenClaim := { program := "ytjfekjblnoagkaadoor", sum := "e1199e3cc290fce36ab08b87a72c508025f24d0b21a4f06a54d0e684509aa8ec", func := "attestor/attestorlaw06.SpongeHashes", spec := "spongeHashes", recurses := true, named := ["attestor/field.fields"], apart := false, laid := [("attestor/field.fields", laid_attestor_field_fields)], narrowed := true }
def SpongeHashesUptoSaid : Prop := spongeHashesUptoRow.holds Tryd.pinned (OpenSpec.upto spongeHashesSpec)

/-- 'attestorlaw06.SpongeRounds', WHERE WHAT IT READS IS OF BULK AT MOST 1048576: true; the input reads as it did. -/
def spongeRoundsUptoRow : OpenClaim := { program := "ytjfekjblnoagkaadoor", sum := "e1199e3cc290fce36ab08b87a72c508025f24d0b21a4f06a54d0e684509aa8ec", func := "attestor/attestorlaw06.SpongeRounds", spec := "spongeRounds", named := ["attestor/field.fields"], apart := false, laid := [("attestor/field.fields", laid_attestor_field_fields)], narrowed := true }
def SpongeRoundsUptoSaid : Prop := spongeRoundsUptoRow.holds Tryd.pinned (OpenSpec.upto spongeRoundsSpec)

/-- 'attestorlaw06.SpongeNodes', WHERE WHAT IT READS IS OF BULK AT MOST 1048576: true; the input reads as it did. -/
def spongeNodesUptoRow : OpenClaim := { program := "ytjfekjblnoagkaadoor", sum := "e1199e3cc290fce36ab08b87a72c508025f24d0b21a4f06a54d0e684509aa8ec", func := "attestor/attestorlaw06.SpongeNodes", spec := "spongeNodes", recurses := true, named := ["attestor/field.fields"], apart := false, laid := [("attestor/field.fields", laid_attestor_field_fields)], narrowed := true }
def SpongeNodesUptoSaid : Prop := spongeNodesUptoRow.holds Tryd.pinned (OpenSpec.upto spongeNodesSpec)

/-- 'attestorlaw06.SpongeSteps', WHERE WHAT IT READS IS OF BULK AT MOST 1048576: true; the input reads as it did. -/
def spongeStepsUptoRow : OpenClaim := { program := "ytjfekjblnoagkaadoor", sum := "e1199e3cc290fce36ab08b87a72c508025f24d0b21a4f06a54d0e684509aa8ec", func := "attestor/attestorlaw06.SpongeSteps", spec := "spongeSteps", named := ["attestor/field.fields"], apart := false, laid := [("attestor/field.fields", laid_attestor_field_fields)], narrowed := true }
def SpongeStepsUptoSaid : Prop := spongeStepsUptoRow.holds Tryd.pinned (OpenSpec.upto spongeStepsSpec)

/-- 'attestorlaw06.SpongePerms', WHERE WHAT IT READS IS OF BULK AT MOST 1048576: true; the input reads as it did. -/
def spongePermsUptoRow : OpenClaim := { program := "ytjfekjblnoagkaadoor", sum := "e1199e3cc290fce36ab08b87a72c508025f24d0b21a4f06a54d0e684509aa8ec", func := "attestor/attestorlaw06.SpongePerms", spec := "spongePerms", recurses := true, named := ["attestor/field.fields", "attestor/sponge.undo"], apart := false, laid := [("attestor/field.fields", laid_attestor_field_fields), ("attestor/sponge.undo", laid_attestor_sponge_undo)], narrowed := true }
def SpongePermsUptoSaid : Prop := spongePermsUptoRow.holds Tryd.pinned (OpenSpec.upto spongePermsSpec)

/-- 'attestorlaw06.SpongeBack', WHERE WHAT IT READS IS OF BULK AT MOST 1048576: true; the input reads as it did. -/
def spongeBackUptoRow : OpenClaim := { program := "ytjfekjblnoagkaadoor", sum := "e1199e3cc290fce36ab08b87a72c508025f24d0b21a4f06a54d0e684509aa8ec", func := "attestor/attestorlaw06.SpongeBack", spec := "spongeBack", named := ["attestor/field.fields", "attestor/sponge.undo"], apart := false, laid := [("attestor/field.fields", laid_attestor_field_fields), ("attestor/sponge.undo", laid_attestor_sponge_undo)], narrowed := true }
def SpongeBackUptoSaid : Prop := spongeBackUptoRow.holds Tryd.pinned (OpenSpec.upto spongeBackSpec)

/-- 'attestorlaw06.SpongeApart', WHERE WHAT IT READS IS OF BULK AT MOST 1048576: true; the input reads as it did. -/
def spongeApartUptoRow : OpenClaim := { program := "ytjfekjblnoagkaadoor", sum := "e1199e3cc290fce36ab08b87a72c508025f24d0b21a4f06a54d0e684509aa8ec", func := "attestor/attestorlaw06.SpongeApart", spec := "spongeApart", named := ["attestor/field.fields", "attestor/sponge.undo"], apart := false, laid := [("attestor/field.fields", laid_attestor_field_fields), ("attestor/sponge.undo", laid_attestor_sponge_undo)], narrowed := true }
def SpongeApartUptoSaid : Prop := spongeApartUptoRow.holds Tryd.pinned (OpenSpec.upto spongeApartSpec)

/-- 'attestorlaw06.SpongeKnown', WHERE WHAT IT READS IS OF BULK AT MOST 1048576: true; the input reads as it did. -/
def spongeKnownUptoRow : OpenClaim := { program := "ytjfekjblnoagkaadoor", sum := "e1199e3cc290fce36ab08b87a72c508025f24d0b21a4f06a54d0e684509aa8ec", func := "attestor/attestorlaw06.SpongeKnown", spec := "spongeKnown", named := ["attestor/field.fields", "attestor/sponge.undo"], apart := false, laid := [("attestor/field.fields", laid_attestor_field_fields), ("attestor/sponge.undo", laid_attestor_sponge_undo)], narrowed := true }
def SpongeKnownUptoSaid : Prop := spongeKnownUptoRow.holds Tryd.pinned (OpenSpec.upto spongeKnownSpec)

end Rows
end Go.Proofs.YtjfekjblnoagkaaDoor
