/-
  NARROWER THAN 'FOR EVERY INPUT', by the rows' own cells (each row's printed sentence says how): TreeBuilds: laid · TreeCaps: laid · TreeChecks: laid · TreeOpens: laid · TreeClashes: laid · TreePaths: laid · TreeReplaces: laid · TreeBinds: laid · TreeKnown: laid.
  DERIVED. THE GIVEN ROWS OF THIS SEAT. 9 by the template 'for every input the law returns true; each argument reads behind the call as it read before'; 0 by the template 'total and deterministic' (their statements: YtpnpmeogffodgaaDoorTotals.lean).
  GIVEN WITH THE SEED: the statements are not yours to turn. If you find one false, say at which input.
  Laid BY PROGRAM, IN A SANDBOX (cutbox-rows.mjs): the forced cells as the released guide's own fill.sh prints them over the translation 9c63c6514ee600dd… (all of the seat's roots in one cut). By AI agents, Wed Nov 11 2026. No macro, syntax, notation, axiom, sorry.
-/
import Derived.Test.YtpnpmeogffodgaaDoorChecked
import GoSem.Claim
import GoSem.ClaimJoined
import GoSem.ClaimMapViews
import Derived.JoinedTies
import Derived.KernelRfl
namespace Go.Proofs.YtpnpmeogffodgaaDoor
/- THE CELL 'sum', in the pinned program and in every row, IS THE sha256 OF THE DUMP (.gsa) THAT YtpnpmeogffodgaaDoorProg.lean LOADS. Nothing in Lean hashes anything: it is a label: what it is worth is what the hold of that sum in a sandbox is worth. -/
noncomputable def Tryd.pinned : Pinned := { name := "ytpnpmeogffodgaadoor", sum := "9c63c6514ee600dda4f0cc1ee38c322f0a924d0edd18097d4fe38a86126bb7f5", checked := Tryd.checked }
namespace Rows
def none {H : Type} : Left H := { results := [], args := [] }

/- WHAT THE LISTED PACKAGE-LEVEL VARIABLES READ AS WHEN THE CALL BEGINS. Each datum BY PROGRAM (the guide's laid-datum.mjs) off the statement by which the dump's own 'gosem.cut.vars' lays the variable. In a bare row this is a premise. The card (YtpnpmeogffodgaaDoorCards.lean) ties it to the program's text. -/
def laid_attestor_field_fields {H : Type} : DataW H := .agg [.agg [.lit (.int .u64 97), .lit (.int .u64 5), .lit (.int .i64 5), .lit (.int .i64 5), .slice [.lit (.int .u64 3)] []], .agg [.lit (.int .u64 257), .lit (.int .u64 3), .lit (.int .i64 8), .lit (.int .i64 3), .nil], .agg [.lit (.int .u64 12289), .lit (.int .u64 11), .lit (.int .i64 12), .lit (.int .i64 5), .slice [.lit (.int .u64 3)] []], .agg [.lit (.int .u64 998244353), .lit (.int .u64 3), .lit (.int .i64 23), .lit (.int .i64 3), .slice [.lit (.int .u64 7), .lit (.int .u64 17)] []]]
def laid_math_bits_deBruijn32tab {H : Type} : DataW H := .agg [.lit (.int .u8 0), .lit (.int .u8 1), .lit (.int .u8 28), .lit (.int .u8 2), .lit (.int .u8 29), .lit (.int .u8 14), .lit (.int .u8 24), .lit (.int .u8 3), .lit (.int .u8 30), .lit (.int .u8 22), .lit (.int .u8 20), .lit (.int .u8 15), .lit (.int .u8 25), .lit (.int .u8 17), .lit (.int .u8 4), .lit (.int .u8 8), .lit (.int .u8 31), .lit (.int .u8 27), .lit (.int .u8 13), .lit (.int .u8 23), .lit (.int .u8 21), .lit (.int .u8 19), .lit (.int .u8 16), .lit (.int .u8 7), .lit (.int .u8 26), .lit (.int .u8 12), .lit (.int .u8 18), .lit (.int .u8 6), .lit (.int .u8 11), .lit (.int .u8 5), .lit (.int .u8 10), .lit (.int .u8 9)]
def laid_math_bits_deBruijn64tab {H : Type} : DataW H := .agg [.lit (.int .u8 0), .lit (.int .u8 1), .lit (.int .u8 56), .lit (.int .u8 2), .lit (.int .u8 57), .lit (.int .u8 49), .lit (.int .u8 28), .lit (.int .u8 3), .lit (.int .u8 61), .lit (.int .u8 58), .lit (.int .u8 42), .lit (.int .u8 50), .lit (.int .u8 38), .lit (.int .u8 29), .lit (.int .u8 17), .lit (.int .u8 4), .lit (.int .u8 62), .lit (.int .u8 47), .lit (.int .u8 59), .lit (.int .u8 36), .lit (.int .u8 45), .lit (.int .u8 43), .lit (.int .u8 51), .lit (.int .u8 22), .lit (.int .u8 53), .lit (.int .u8 39), .lit (.int .u8 33), .lit (.int .u8 30), .lit (.int .u8 24), .lit (.int .u8 18), .lit (.int .u8 12), .lit (.int .u8 5), .lit (.int .u8 63), .lit (.int .u8 55), .lit (.int .u8 48), .lit (.int .u8 27), .lit (.int .u8 60), .lit (.int .u8 41), .lit (.int .u8 37), .lit (.int .u8 16), .lit (.int .u8 46), .lit (.int .u8 35), .lit (.int .u8 44), .lit (.int .u8 21), .lit (.int .u8 52), .lit (.int .u8 32), .lit (.int .u8 23), .lit (.int .u8 11), .lit (.int .u8 54), .lit (.int .u8 26), .lit (.int .u8 40), .lit (.int .u8 15), .lit (.int .u8 34), .lit (.int .u8 20), .lit (.int .u8 31), .lit (.int .u8 10), .lit (.int .u8 25), .lit (.int .u8 14), .lit (.int .u8 19), .lit (.int .u8 9), .lit (.int .u8 13), .lit (.int .u8 8), .lit (.int .u8 7), .lit (.int .u8 6)]

/-- 'attestorlaw07.TreeBuilds': WHATEVER THE INPUT: true; the input reads as it did. -/
def treeBuildsSpec : ChangeSpec := { name := "treeBuilds", fn := fun _ => fun
  | [d1, d2, d3] => { results := [.lit (.bool true)], args := [d1, d2, d3] }
  | _ => none }
def treeBuildsRow : OpenClaim := { program := "ytpnpmeogffodgaadoor", sum := "9c63c6514ee600dda4f0cc1ee38c322f0a924d0edd18097d4fe38a86126bb7f5", func := "attestor/attestorlaw07.TreeBuilds", spec := "treeBuilds", unfollowed := true, recurses := true, named := ["math/bits.deBruijn32tab", "math/bits.deBruijn64tab", "attestor/field.fields"], apart := false, laid := [("attestor/field.fields", laid_attestor_field_fields), ("math/bits.deBruijn32tab", laid_math_bits_deBruijn32tab), ("math/bits.deBruijn64tab", laid_math_bits_deBruijn64tab)] }
def TreeBuildsSaid : Prop := treeBuildsRow.holds Tryd.pinned (OpenSpec.ofChange treeBuildsSpec)

/-- ITS FALSE NEIGHBOUR: 'it returns false'. Refute it at one input. -/
def treeBuildsWrong : ChangeSpec := { name := "treeBuilds", fn := fun _ => fun
  | [d1, d2, d3] => { results := [.lit (.bool false)], args := [d1, d2, d3] }
  | _ => none }
def TreeBuildsWrongFalsely : Prop := treeBuildsRow.holds Tryd.pinned (OpenSpec.ofChange treeBuildsWrong)

/-- 'attestorlaw07.TreeCaps': WHATEVER THE INPUT: true; the input reads as it did. -/
def treeCapsSpec : ChangeSpec := { name := "treeCaps", fn := fun _ => fun
  | [d1, d2, d3, d4] => { results := [.lit (.bool true)], args := [d1, d2, d3, d4] }
  | _ => none }
def treeCapsRow : OpenClaim := { program := "ytpnpmeogffodgaadoor", sum := "9c63c6514ee600dda4f0cc1ee38c322f0a924d0edd18097d4fe38a86126bb7f5", func := "attestor/attestorlaw07.TreeCaps", spec := "treeCaps", unfollowed := true, recurses := true, named := ["math/bits.deBruijn32tab", "math/bits.deBruijn64tab", "attestor/field.fields"], apart := false, laid := [("attestor/field.fields", laid_attestor_field_fields), ("math/bits.deBruijn32tab", laid_math_bits_deBruijn32tab), ("math/bits.deBruijn64tab", laid_math_bits_deBruijn64tab)] }
def TreeCapsSaid : Prop := treeCapsRow.holds Tryd.pinned (OpenSpec.ofChange treeCapsSpec)

/-- ITS FALSE NEIGHBOUR: 'it returns false'. Refute it at one input. -/
def treeCapsWrong : ChangeSpec := { name := "treeCaps", fn := fun _ => fun
  | [d1, d2, d3, d4] => { results := [.lit (.bool false)], args := [d1, d2, d3, d4] }
  | _ => none }
def TreeCapsWrongFalsely : Prop := treeCapsRow.holds Tryd.pinned (OpenSpec.ofChange treeCapsWrong)

/-- 'attestorlaw07.TreeChecks': WHATEVER THE INPUT: true; the input reads as it did. -/
def treeChecksSpec : ChangeSpec := { name := "treeChecks", fn := fun _ => fun
  | [d1, d2, d3, d4, d5] => { results := [.lit (.bool true)], args := [d1, d2, d3, d4, d5] }
  | _ => none }
def treeChecksRow : OpenClaim := { program := "ytpnpmeogffodgaadoor", sum := "9c63c6514ee600dda4f0cc1ee38c322f0a924d0edd18097d4fe38a86126bb7f5", func := "attestor/attestorlaw07.TreeChecks", spec := "treeChecks", unfollowed := true, recurses := true, named := ["attestor/field.fields", "math/bits.deBruijn32tab", "math/bits.deBruijn64tab"], apart := false, laid := [("attestor/field.fields", laid_attestor_field_fields), ("math/bits.deBruijn32tab", laid_math_bits_deBruijn32tab), ("math/bits.deBruijn64tab", laid_math_bits_deBruijn64tab)] }
def TreeChecksSaid : Prop := treeChecksRow.holds Tryd.pinned (OpenSpec.ofChange treeChecksSpec)

/-- ITS FALSE NEIGHBOUR: 'it returns false'. Refute it at one input. -/
def treeChecksWrong : ChangeSpec := { name := "treeChecks", fn := fun _ => fun
  | [d1, d2, d3, d4, d5] => { results := [.lit (.bool false)], args := [d1, d2, d3, d4, d5] }
  | _ => none }
def TreeChecksWrongFalsely : Prop := treeChecksRow.holds Tryd.pinned (OpenSpec.ofChange treeChecksWrong)

/-- 'attestorlaw07.TreeOpens': WHATEVER THE INPUT: true; the input reads as it did. -/
def treeOpensSpec : ChangeSpec := { name := "treeOpens", fn := fun _ => fun
  | [d1, d2, d3, d4] => { results := [.lit (.bool true)], args := [d1, d2, d3, d4] }
  | _ => none }
def treeOpensRow : OpenClaim := { program := "ytpnpmeogffodgaadoor", sum := "9c63c6514ee600dda4f0cc1ee38c322f0a924d0edd18097d4fe38a86126bb7f5", func := "attestor/attestorlaw07.TreeOpens", spec := "treeOpens", unfollowed := true, recurses := true, named := ["math/bits.deBruijn32tab", "math/bits.deBruijn64tab", "attestor/field.fields"], apart := false, laid := [("attestor/field.fields", laid_attestor_field_fields), ("math/bits.deBruijn32tab", laid_math_bits_deBruijn32tab), ("math/bits.deBruijn64tab", laid_math_bits_deBruijn64tab)] }
def TreeOpensSaid : Prop := treeOpensRow.holds Tryd.pinned (OpenSpec.ofChange treeOpensSpec)

/-- ITS FALSE NEIGHBOUR: 'it returns false'. Refute it at one input. -/
def treeOpensWrong : ChangeSpec := { name := "treeOpens", fn := fun _ => fun
  | [d1, d2, d3, d4] => { results := [.lit (.bool false)], args := [d1, d2, d3, d4] }
  | _ => none }
def TreeOpensWrongFalsely : Prop := treeOpensRow.holds Tryd.pinned (OpenSpec.ofChange treeOpensWrong)

/-- 'attestorlaw07.TreeClashes': WHATEVER THE INPUT: true; the input reads as it did. -/
def treeClashesSpec : ChangeSpec := { name := "treeClashes", fn := fun _ => fun
  | [d1, d2] => { results := [.lit (.bool true)], args := [d1, d2] }
  | _ => none }
def treeClashesRow : OpenClaim := { program := "ytpnpmeogffodgaadoor", sum := "9c63c6514ee600dda4f0cc1ee38c322f0a924d0edd18097d4fe38a86126bb7f5", func := "attestor/attestorlaw07.TreeClashes", spec := "treeClashes", unfollowed := true, recurses := true, named := ["attestor/field.fields", "math/bits.deBruijn32tab", "math/bits.deBruijn64tab"], apart := false, laid := [("attestor/field.fields", laid_attestor_field_fields), ("math/bits.deBruijn32tab", laid_math_bits_deBruijn32tab), ("math/bits.deBruijn64tab", laid_math_bits_deBruijn64tab)] }
def TreeClashesSaid : Prop := treeClashesRow.holds Tryd.pinned (OpenSpec.ofChange treeClashesSpec)

/-- ITS FALSE NEIGHBOUR: 'it returns false'. Refute it at one input. -/
def treeClashesWrong : ChangeSpec := { name := "treeClashes", fn := fun _ => fun
  | [d1, d2] => { results := [.lit (.bool false)], args := [d1, d2] }
  | _ => none }
def TreeClashesWrongFalsely : Prop := treeClashesRow.holds Tryd.pinned (OpenSpec.ofChange treeClashesWrong)

/-- 'attestorlaw07.TreePaths': WHATEVER THE INPUT: true; the input reads as it did. -/
def treePathsSpec : ChangeSpec := { name := "treePaths", fn := fun _ => fun
  | [d1, d2, d3] => { results := [.lit (.bool true)], args := [d1, d2, d3] }
  | _ => none }
def treePathsRow : OpenClaim := { program := "ytpnpmeogffodgaadoor", sum := "9c63c6514ee600dda4f0cc1ee38c322f0a924d0edd18097d4fe38a86126bb7f5", func := "attestor/attestorlaw07.TreePaths", spec := "treePaths", unfollowed := true, recurses := true, named := ["attestor/field.fields", "math/bits.deBruijn32tab", "math/bits.deBruijn64tab"], apart := false, laid := [("attestor/field.fields", laid_attestor_field_fields), ("math/bits.deBruijn32tab", laid_math_bits_deBruijn32tab), ("math/bits.deBruijn64tab", laid_math_bits_deBruijn64tab)] }
def TreePathsSaid : Prop := treePathsRow.holds Tryd.pinned (OpenSpec.ofChange treePathsSpec)

/-- ITS FALSE NEIGHBOUR: 'it returns false'. Refute it at one input. -/
def treePathsWrong : ChangeSpec := { name := "treePaths", fn := fun _ => fun
  | [d1, d2, d3] => { results := [.lit (.bool false)], args := [d1, d2, d3] }
  | _ => none }
def TreePathsWrongFalsely : Prop := treePathsRow.holds Tryd.pinned (OpenSpec.ofChange treePathsWrong)

/-- 'attestorlaw07.TreeReplaces': WHATEVER THE INPUT: true; the input reads as it did. -/
def treeReplacesSpec : ChangeSpec := { name := "treeReplaces", fn := fun _ => fun
  | [d1, d2, d3, d4, d5] => { results := [.lit (.bool true)], args := [d1, d2, d3, d4, d5] }
  | _ => none }
def treeReplacesRow : OpenClaim := { program := "ytpnpmeogffodgaadoor", sum := "9c63c6514ee600dda4f0cc1ee38c322f0a924d0edd18097d4fe38a86126bb7f5", func := "attestor/attestorlaw07.TreeReplaces", spec := "treeReplaces", unfollowed := true, recurses := true, named := ["math/bits.deBruijn32tab", "math/bits.deBruijn64tab", "attestor/field.fields"], apart := false, laid := [("attestor/field.fields", laid_attestor_field_fields), ("math/bits.deBruijn32tab", laid_math_bits_deBruijn32tab), ("math/bits.deBruijn64tab", laid_math_bits_deBruijn64tab)] }
def TreeReplacesSaid : Prop := treeReplacesRow.holds Tryd.pinned (OpenSpec.ofChange treeReplacesSpec)

/-- ITS FALSE NEIGHBOUR: 'it returns false'. Refute it at one input. -/
def treeReplacesWrong : ChangeSpec := { name := "treeReplaces", fn := fun _ => fun
  | [d1, d2, d3, d4, d5] => { results := [.lit (.bool false)], args := [d1, d2, d3, d4, d5] }
  | _ => none }
def TreeReplacesWrongFalsely : Prop := treeReplacesRow.holds Tryd.pinned (OpenSpec.ofChange treeReplacesWrong)

/-- 'attestorlaw07.TreeBinds': WHATEVER THE INPUT: true; the input reads as it did. -/
def treeBindsSpec : ChangeSpec := { name := "treeBinds", fn := fun _ => fun
  | [d1, d2, d3] => { results := [.lit (.bool true)], args := [d1, d2, d3] }
  | _ => none }
def treeBindsRow : OpenClaim := { program := "ytpnpmeogffodgaadoor", sum := "9c63c6514ee600dda4f0cc1ee38c322f0a924d0edd18097d4fe38a86126bb7f5", func := "attestor/attestorlaw07.TreeBinds", spec := "treeBinds", unfollowed := true, recurses := true, named := ["math/bits.deBruijn32tab", "math/bits.deBruijn64tab", "attestor/field.fields"], apart := false, laid := [("attestor/field.fields", laid_attestor_field_fields), ("math/bits.deBruijn32tab", laid_math_bits_deBruijn32tab), ("math/bits.deBruijn64tab", laid_math_bits_deBruijn64tab)] }
def TreeBindsSaid : Prop := treeBindsRow.holds Tryd.pinned (OpenSpec.ofChange treeBindsSpec)

/-- ITS FALSE NEIGHBOUR: 'it returns false'. Refute it at one input. -/
def treeBindsWrong : ChangeSpec := { name := "treeBinds", fn := fun _ => fun
  | [d1, d2, d3] => { results := [.lit (.bool false)], args := [d1, d2, d3] }
  | _ => none }
def TreeBindsWrongFalsely : Prop := treeBindsRow.holds Tryd.pinned (OpenSpec.ofChange treeBindsWrong)

/-- 'attestorlaw07.TreeKnown': WHATEVER THE INPUT: true; the input reads as it did. -/
def treeKnownSpec : ChangeSpec := { name := "treeKnown", fn := fun _ => fun
  | [] => { results := [.lit (.bool true)], args := [] }
  | _ => none }
def treeKnownRow : OpenClaim := { program := "ytpnpmeogffodgaadoor", sum := "9c63c6514ee600dda4f0cc1ee38c322f0a924d0edd18097d4fe38a86126bb7f5", func := "attestor/attestorlaw07.TreeKnown", spec := "treeKnown", unfollowed := true, recurses := true, named := ["math/bits.deBruijn32tab", "math/bits.deBruijn64tab", "attestor/field.fields"], apart := false, laid := [("attestor/field.fields", laid_attestor_field_fields), ("math/bits.deBruijn32tab", laid_math_bits_deBruijn32tab), ("math/bits.deBruijn64tab", laid_math_bits_deBruijn64tab)] }
def TreeKnownSaid : Prop := treeKnownRow.holds Tryd.pinned (OpenSpec.ofChange treeKnownSpec)

/-- ITS FALSE NEIGHBOUR: 'it returns false'. Refute it at one input. -/
def treeKnownWrong : ChangeSpec := { name := "treeKnown", fn := fun _ => fun
  | [] => { results := [.lit (.bool false)], args := [] }
  | _ => none }
def TreeKnownWrongFalsely : Prop := treeKnownRow.holds Tryd.pinned (OpenSpec.ofChange treeKnownWrong)

/- THE SECOND FORM. 'bulk': how many values and letters a reading holds, each counted each time it is reached (what is shared counts as often as it is met; a slice's spare places count too). A statement '..UptoSaid' is the law's where the arguments, and the package variables that the reading takes, are together of bulk at most 1048576: NARROWER than '..Said'. Prove '..Said' where nothing that the law and all that it calls make is longer than what came in: it says more and counts as full. Else prove '..UptoSaid'. A law counts once. -/
mutual
def uptoBulk {H : Type} : DataW H → Nat
  | .lit (.string bytes) => bytes.length + 1
  | .lit _ => 1
  | .nil => 1
  | .ptr d => uptoBulk d + 1
  | .slice elems spare => uptoBulkAll elems + uptoBulkAll spare + 1
  | .agg parts => uptoBulkAll parts + 1
  | .iface _ d => uptoBulk d + 1
  | .map entries => uptoBulkEntries entries + 1
  | .held _ => 1
def uptoBulkAll {H : Type} : List (DataW H) → Nat
  | [] => 0
  | d :: r => uptoBulk d + uptoBulkAll r
def uptoBulkEntries {H : Type} : List (Lit × DataW H) → Nat
  | [] => 0
  | x :: r => uptoBulkEntry x + uptoBulkEntries r
def uptoBulkEntry {H : Type} : Lit × DataW H → Nat
  | (.string bytes, d) => bytes.length + uptoBulk d + 1
  | (_, d) => uptoBulk d + 1
 end
def uptoSmall : (H : Type) → List (DataW H) → Bool := fun _ ds => decide (uptoBulkAll ds ≤ 1048576)
def OpenSpec.upto (s : _root_.Go.ChangeSpec) : _root_.Go.OpenSpec := { _root_.Go.OpenSpec.ofChange s with cond := some uptoSmall }

/-- 'attestorlaw07.TreeBuilds', WHERE WHAT IT READS IS OF BULK AT MOST 1048576: true; the input reads as it did. -/
def treeBuildsUptoRow : OpenClaim := { program := "ytpnpmeogffodgaadoor", sum := "9c63c6514ee600dda4f0cc1ee38c322f0a924d0edd18097d4fe38a86126bb7f5", func := "attestor/attestorlaw07.TreeBuilds", spec := "treeBuilds", unfollowed := true, recurses := true, named := ["math/bits.deBruijn32tab", "math/bits.deBruijn64tab", "attestor/field.fields"], apart := false, laid := [("attestor/field.fields", laid_attestor_field_fields), ("math/bits.deBruijn32tab", laid_math_bits_deBruijn32tab), ("math/bits.deBruijn64tab", laid_math_bits_deBruijn64tab)], narrowed := true }
def TreeBuildsUptoSaid : Prop := treeBuildsUptoRow.holds Tryd.pinned (OpenSpec.upto treeBuildsSpec)

/-- 'attestorlaw07.TreeCaps', WHERE WHAT IT READS IS OF BULK AT MOST 1048576: true; the input reads as it did. -/
def treeCapsUptoRow : OpenClaim := { program := "ytpnpmeogffodgaadoor", sum := "9c63c6514ee600dda4f0cc1ee38c322f0a924d0edd18097d4fe38a86126bb7f5", func := "attestor/attestorlaw07.TreeCaps", spec := "treeCaps", unfollowed := true, recurses := true, named := ["math/bits.deBruijn32tab", "math/bits.deBruijn64tab", "attestor/field.fields"], apart := false, laid := [("attestor/field.fields", laid_attestor_field_fields), ("math/bits.deBruijn32tab", laid_math_bits_deBruijn32tab), ("math/bits.deBruijn64tab", laid_math_bits_deBruijn64tab)], narrowed := true }
def TreeCapsUptoSaid : Prop := treeCapsUptoRow.holds Tryd.pinned (OpenSpec.upto treeCapsSpec)

/-- 'attestorlaw07.TreeChecks', WHERE WHAT IT READS IS OF BULK AT MOST 1048576: true; the input reads as it did. -/
def treeChecksUptoRow : OpenClaim := { program := "ytpnpmeogffodgaadoor", sum := "9c63c6514ee600dda4f0cc1ee38c322f0a924d0edd18097d4fe38a86126bb7f5", func := "attestor/attestorlaw07.TreeChecks", spec := "treeChecks", unfollowed := true, recurses := true, named := ["attestor/field.fields", "math/bits.deBruijn32tab", "math/bits.deBruijn64tab"], apart := false, laid := [("attestor/field.fields", laid_attestor_field_fields), ("math/bits.deBruijn32tab", laid_math_bits_deBruijn32tab), ("math/bits.deBruijn64tab", laid_math_bits_deBruijn64tab)], narrowed := true }
def TreeChecksUptoSaid : Prop := treeChecksUptoRow.holds Tryd.pinned (OpenSpec.upto treeChecksSpec)

/-- 'attestorlaw07.TreeOpens', WHERE WHAT IT READS IS OF BULK AT MOST 1048576: true; the input reads as it did. -/
def treeOpensUptoRow : OpenClaim := { program := "ytpnpmeogffodgaadoor", sum := "9c63c6514ee600dda4f0cc1ee38c322f0a924d0edd18097d4fe38a86126bb7f5", func := "attestor/attestorlaw07.TreeOpens", spec := "treeOpens", unfollowed := true, recurses := true, named := ["math/bits.deBruijn32tab", "math/bits.deBruijn64tab", "attestor/field.fields"], apart := false, laid := [("attestor/field.fields", laid_attestor_field_fields), ("math/bits.deBruijn32tab", laid_math_bits_deBruijn32tab), ("math/bits.deBruijn64tab", laid_math_bits_deBruijn64tab)], narrowed := true }
def TreeOpensUptoSaid : Prop := treeOpensUptoRow.holds Tryd.pinned (OpenSpec.upto treeOpensSpec)

/-- 'attestorlaw07.TreeClashes', WHERE WHAT IT READS IS OF BULK AT MOST 1048576: true; the input reads as it did. -/
def treeClashesUptoRow : OpenClaim := { program := "ytpnpmeogffodgaadoor", sum := "9c63c6514ee600dda4f0cc1ee38c322f0a924d0edd18097d4fe38a86126bb7f5", func := "attestor/attestorlaw07.TreeClashes", spec := "treeClashes", unfollowed := true, recurses := true, named := ["attestor/field.fields", "math/bits.deBruijn32tab", "math/bits.deBruijn64tab"], apart := false, laid := [("attestor/field.fields", laid_attestor_field_fields), ("math/bits.deBruijn32tab", laid_math_bits_deBruijn32tab), ("math/bits.deBruijn64tab", laid_math_bits_deBruijn64tab)], narrowed := true }
def TreeClashesUptoSaid : Prop := treeClashesUptoRow.holds Tryd.pinned (OpenSpec.upto treeClashesSpec)

/-- 'attestorlaw07.TreePaths', WHERE WHAT IT READS IS OF BULK AT MOST 1048576: true; the input reads as it did. -/
def treePathsUptoRow : OpenClaim := { program := "ytpnpmeogffodgaadoor", sum := "9c63c6514ee600dda4f0cc1ee38c322f0a924d0edd18097d4fe38a86126bb7f5", func := "attestor/attestorlaw07.TreePaths", spec := "treePaths", unfollowed := true, recurses := true, named := ["attestor/field.fields", "math/bits.deBruijn32tab", "math/bits.deBruijn64tab"], apart := false, laid := [("attestor/field.fields", laid_attestor_field_fields), ("math/bits.deBruijn32tab", laid_math_bits_deBruijn32tab), ("math/bits.deBruijn64tab", laid_math_bits_deBruijn64tab)], narrowed := true }
def TreePathsUptoSaid : Prop := treePathsUptoRow.holds Tryd.pinned (OpenSpec.upto treePathsSpec)

/-- 'attestorlaw07.TreeReplaces', WHERE WHAT IT READS IS OF BULK AT MOST 1048576: true; the input reads as it did. -/
def treeReplacesUptoRow : OpenClaim := { program := "ytpnpmeogffodgaadoor", sum := "9c63c6514ee600dda4f0cc1ee38c322f0a924d0edd18097d4fe38a86126bb7f5", func := "attestor/attestorlaw07.TreeReplaces", spec := "treeReplaces", unfollowed := true, recurses := true, named := ["math/bits.deBruijn32tab", "math/bits.deBruijn64tab", "attestor/field.fields"], apart := false, laid := [("attestor/field.fields", laid_attestor_field_fields), ("math/bits.deBruijn32tab", laid_math_bits_deBruijn32tab), ("math/bits.deBruijn64tab", laid_math_bits_deBruijn64tab)], narrowed := true }
def TreeReplacesUptoSaid : Prop := treeReplacesUptoRow.holds Tryd.pinned (OpenSpec.upto treeReplacesSpec)

/-- 'attestorlaw07.TreeBinds', WHERE WHAT IT READS IS OF BULK AT MOST 1048576: true; the input reads as it did. -/
def treeBindsUptoRow : OpenClaim := { program := "ytpnpmeogffodgaadoor", sum := "9c63c6514ee600dda4f0cc1ee38c322f0a924d0edd18097d4fe38a86126bb7f5", func := "attestor/attestorlaw07.TreeBinds", spec := "treeBinds", unfollowed := true, recurses := true, named := ["math/bits.deBruijn32tab", "math/bits.deBruijn64tab", "attestor/field.fields"], apart := false, laid := [("attestor/field.fields", laid_attestor_field_fields), ("math/bits.deBruijn32tab", laid_math_bits_deBruijn32tab), ("math/bits.deBruijn64tab", laid_math_bits_deBruijn64tab)], narrowed := true }
def TreeBindsUptoSaid : Prop := treeBindsUptoRow.holds Tryd.pinned (OpenSpec.upto treeBindsSpec)

/-- 'attestorlaw07.TreeKnown', WHERE WHAT IT READS IS OF BULK AT MOST 1048576: true; the input reads as it did. -/
def treeKnownUptoRow : OpenClaim := { program := "ytpnpmeogffodgaadoor", sum := "9c63c6514ee600dda4f0cc1ee38c322f0a924d0edd18097d4fe38a86126bb7f5", func := "attestor/attestorlaw07.TreeKnown", spec := "treeKnown", unfollowed := true, recurses := true, named := ["math/bits.deBruijn32tab", "math/bits.deBruijn64tab", "attestor/field.fields"], apart := false, laid := [("attestor/field.fields", laid_attestor_field_fields), ("math/bits.deBruijn32tab", laid_math_bits_deBruijn32tab), ("math/bits.deBruijn64tab", laid_math_bits_deBruijn64tab)], narrowed := true }
def TreeKnownUptoSaid : Prop := treeKnownUptoRow.holds Tryd.pinned (OpenSpec.upto treeKnownSpec)

end Rows
end Go.Proofs.YtpnpmeogffodgaaDoor
