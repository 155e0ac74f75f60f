/-
  No cell of these rows narrows 'for every input' (looked for: loops, veiled, ifaces, maps, wideKeys, modest, calm, conditions, laid).
  DERIVED. THE GIVEN ROWS OF THIS SEAT. 7 by the template 'for every input the law returns true; each argument reads behind the call as it read before'; 0 by the template 'total and deterministic' (their statements: YtddjlnoafakijaaTotals.lean).
  GIVEN WITH THE SEED: the statements are not yours to turn. If you find one false, say at which input.
  Laid BY PROGRAM, IN A SANDBOX (cutbox-rows.mjs): the forced cells as the released guide's own fill.sh prints them over the translation 4ca5b63f75a94d06… (all of the seat's roots in one cut). By AI agents, Wed Nov 11 2026. No macro, syntax, notation, axiom, sorry.
-/
import Derived.Test.YtddjlnoafakijaaChecked
import GoSem.Claim
import GoSem.ClaimJoined
import GoSem.ClaimMapViews
import Derived.JoinedTies
import Derived.KernelRfl
namespace Go.Proofs.Ytddjlnoafakijaa
/- THE CELL 'sum', in the pinned program and in every row, IS THE sha256 OF THE DUMP (.gsa) THAT YtddjlnoafakijaaProg.lean LOADS. Nothing in Lean hashes anything: it is a label: what it is worth is what the hold of that sum in a sandbox is worth. -/
noncomputable def Try.pinned : Pinned := { name := "ytddjlnoafakijaa", sum := "4ca5b63f75a94d0645466af38bc693afc6ffbabb029d878d4dd7d96574c160c8", checked := Try.checked }
namespace Rows
def none {H : Type} : Left H := { results := [], args := [] }

/-- 'attestorlaw34.FramesEncodes': WHATEVER THE INPUT: true; the input reads as it did. -/
def framesEncodesSpec : ChangeSpec := { name := "framesEncodes", fn := fun _ => fun
  | [d1, d2] => { results := [.lit (.bool true)], args := [d1, d2] }
  | _ => none }
def framesEncodesRow : OpenClaim := { program := "ytddjlnoafakijaa", sum := "4ca5b63f75a94d0645466af38bc693afc6ffbabb029d878d4dd7d96574c160c8", func := "attestor/attestorlaw34.FramesEncodes", spec := "framesEncodes", unfollowed := true, recurses := true, apart := false }
def FramesEncodesSaid : Prop := framesEncodesRow.holds Try.pinned (OpenSpec.ofChange framesEncodesSpec)

/-- ITS FALSE NEIGHBOUR: 'it returns false'. Refute it at one input. -/
def framesEncodesWrong : ChangeSpec := { name := "framesEncodes", fn := fun _ => fun
  | [d1, d2] => { results := [.lit (.bool false)], args := [d1, d2] }
  | _ => none }
def FramesEncodesWrongFalsely : Prop := framesEncodesRow.holds Try.pinned (OpenSpec.ofChange framesEncodesWrong)

/-- 'attestorlaw34.FramesRound': WHATEVER THE INPUT: true; the input reads as it did. -/
def framesRoundSpec : ChangeSpec := { name := "framesRound", fn := fun _ => fun
  | [d1, d2] => { results := [.lit (.bool true)], args := [d1, d2] }
  | _ => none }
def framesRoundRow : OpenClaim := { program := "ytddjlnoafakijaa", sum := "4ca5b63f75a94d0645466af38bc693afc6ffbabb029d878d4dd7d96574c160c8", func := "attestor/attestorlaw34.FramesRound", spec := "framesRound", unfollowed := true, recurses := true, apart := false }
def FramesRoundSaid : Prop := framesRoundRow.holds Try.pinned (OpenSpec.ofChange framesRoundSpec)

/-- ITS FALSE NEIGHBOUR: 'it returns false'. Refute it at one input. -/
def framesRoundWrong : ChangeSpec := { name := "framesRound", fn := fun _ => fun
  | [d1, d2] => { results := [.lit (.bool false)], args := [d1, d2] }
  | _ => none }
def FramesRoundWrongFalsely : Prop := framesRoundRow.holds Try.pinned (OpenSpec.ofChange framesRoundWrong)

/-- 'attestorlaw34.FramesDecodes': WHATEVER THE INPUT: true; the input reads as it did. -/
def framesDecodesSpec : ChangeSpec := { name := "framesDecodes", fn := fun _ => fun
  | [d] => { results := [.lit (.bool true)], args := [d] }
  | _ => none }
def framesDecodesRow : OpenClaim := { program := "ytddjlnoafakijaa", sum := "4ca5b63f75a94d0645466af38bc693afc6ffbabb029d878d4dd7d96574c160c8", func := "attestor/attestorlaw34.FramesDecodes", spec := "framesDecodes", unfollowed := true, recurses := true, apart := false }
def FramesDecodesSaid : Prop := framesDecodesRow.holds Try.pinned (OpenSpec.ofChange framesDecodesSpec)

/-- ITS FALSE NEIGHBOUR: 'it returns false'. Refute it at one input. -/
def framesDecodesWrong : ChangeSpec := { name := "framesDecodes", fn := fun _ => fun
  | [d] => { results := [.lit (.bool false)], args := [d] }
  | _ => none }
def FramesDecodesWrongFalsely : Prop := framesDecodesRow.holds Try.pinned (OpenSpec.ofChange framesDecodesWrong)

/-- 'attestorlaw34.FramesChanged': WHATEVER THE INPUT: true; the input reads as it did. -/
def framesChangedSpec : ChangeSpec := { name := "framesChanged", fn := fun _ => fun
  | [d1, d2, d3] => { results := [.lit (.bool true)], args := [d1, d2, d3] }
  | _ => none }
def framesChangedRow : OpenClaim := { program := "ytddjlnoafakijaa", sum := "4ca5b63f75a94d0645466af38bc693afc6ffbabb029d878d4dd7d96574c160c8", func := "attestor/attestorlaw34.FramesChanged", spec := "framesChanged", unfollowed := true, recurses := true, apart := false }
def FramesChangedSaid : Prop := framesChangedRow.holds Try.pinned (OpenSpec.ofChange framesChangedSpec)

/-- ITS FALSE NEIGHBOUR: 'it returns false'. Refute it at one input. -/
def framesChangedWrong : ChangeSpec := { name := "framesChanged", fn := fun _ => fun
  | [d1, d2, d3] => { results := [.lit (.bool false)], args := [d1, d2, d3] }
  | _ => none }
def FramesChangedWrongFalsely : Prop := framesChangedRow.holds Try.pinned (OpenSpec.ofChange framesChangedWrong)

/-- 'attestorlaw34.FramesKnown': WHATEVER THE INPUT: true; the input reads as it did. -/
def framesKnownSpec : ChangeSpec := { name := "framesKnown", fn := fun _ => fun
  | [] => { results := [.lit (.bool true)], args := [] }
  | _ => none }
def framesKnownRow : OpenClaim := { program := "ytddjlnoafakijaa", sum := "4ca5b63f75a94d0645466af38bc693afc6ffbabb029d878d4dd7d96574c160c8", func := "attestor/attestorlaw34.FramesKnown", spec := "framesKnown", unfollowed := true, recurses := true, apart := false }
def FramesKnownSaid : Prop := framesKnownRow.holds Try.pinned (OpenSpec.ofChange framesKnownSpec)

/-- ITS FALSE NEIGHBOUR: 'it returns false'. Refute it at one input. -/
def framesKnownWrong : ChangeSpec := { name := "framesKnown", fn := fun _ => fun
  | [] => { results := [.lit (.bool false)], args := [] }
  | _ => none }
def FramesKnownWrongFalsely : Prop := framesKnownRow.holds Try.pinned (OpenSpec.ofChange framesKnownWrong)

/-- 'attestorlaw34.FramesWrites': WHATEVER THE INPUT: true; the input reads as it did. -/
def framesWritesSpec : ChangeSpec := { name := "framesWrites", fn := fun _ => fun
  | [d] => { results := [.lit (.bool true)], args := [d] }
  | _ => none }
def framesWritesRow : OpenClaim := { program := "ytddjlnoafakijaa", sum := "4ca5b63f75a94d0645466af38bc693afc6ffbabb029d878d4dd7d96574c160c8", func := "attestor/attestorlaw34.FramesWrites", spec := "framesWrites", unfollowed := true, recurses := true, apart := false }
def FramesWritesSaid : Prop := framesWritesRow.holds Try.pinned (OpenSpec.ofChange framesWritesSpec)

/-- ITS FALSE NEIGHBOUR: 'it returns false'. Refute it at one input. -/
def framesWritesWrong : ChangeSpec := { name := "framesWrites", fn := fun _ => fun
  | [d] => { results := [.lit (.bool false)], args := [d] }
  | _ => none }
def FramesWritesWrongFalsely : Prop := framesWritesRow.holds Try.pinned (OpenSpec.ofChange framesWritesWrong)

/-- 'attestorlaw34.FramesCuts': WHATEVER THE INPUT: true; the input reads as it did. -/
def framesCutsSpec : ChangeSpec := { name := "framesCuts", fn := fun _ => fun
  | [d1, d2, d3] => { results := [.lit (.bool true)], args := [d1, d2, d3] }
  | _ => none }
def framesCutsRow : OpenClaim := { program := "ytddjlnoafakijaa", sum := "4ca5b63f75a94d0645466af38bc693afc6ffbabb029d878d4dd7d96574c160c8", func := "attestor/attestorlaw34.FramesCuts", spec := "framesCuts", unfollowed := true, recurses := true, apart := false }
def FramesCutsSaid : Prop := framesCutsRow.holds Try.pinned (OpenSpec.ofChange framesCutsSpec)

/-- ITS FALSE NEIGHBOUR: 'it returns false'. Refute it at one input. -/
def framesCutsWrong : ChangeSpec := { name := "framesCuts", fn := fun _ => fun
  | [d1, d2, d3] => { results := [.lit (.bool false)], args := [d1, d2, d3] }
  | _ => none }
def FramesCutsWrongFalsely : Prop := framesCutsRow.holds Try.pinned (OpenSpec.ofChange framesCutsWrong)

/- THE SECOND FORM. 'bulk': how many values and letters a reading holds, each counted each time it is reached (what is shared counts as often as it is met; a slice's spare places count too). A statement '..UptoSaid' is the law's where the arguments, and the package variables that the reading takes, are together of bulk at most 1048576: NARROWER than '..Said'. Prove '..Said' where nothing that the law and all that it calls make is longer than what came in: it says more and counts as full. Else prove '..UptoSaid'. A law counts once. -/
mutual
def uptoBulk {H : Type} : DataW H → Nat
  | .lit (.string bytes) => bytes.length + 1
  | .lit _ => 1
  | .nil => 1
  | .ptr d => uptoBulk d + 1
  | .slice elems spare => uptoBulkAll elems + uptoBulkAll spare + 1
  | .agg parts => uptoBulkAll parts + 1
  | .iface _ d => uptoBulk d + 1
  | .map entries => uptoBulkEntries entries + 1
  | .held _ => 1
def uptoBulkAll {H : Type} : List (DataW H) → Nat
  | [] => 0
  | d :: r => uptoBulk d + uptoBulkAll r
def uptoBulkEntries {H : Type} : List (Lit × DataW H) → Nat
  | [] => 0
  | x :: r => uptoBulkEntry x + uptoBulkEntries r
def uptoBulkEntry {H : Type} : Lit × DataW H → Nat
  | (.string bytes, d) => bytes.length + uptoBulk d + 1
  | (_, d) => uptoBulk d + 1
 end
def uptoSmall : (H : Type) → List (DataW H) → Bool := fun _ ds => decide (uptoBulkAll ds ≤ 1048576)
def OpenSpec.upto (s : _root_.Go.ChangeSpec) : _root_.Go.OpenSpec := { _root_.Go.OpenSpec.ofChange s with cond := some uptoSmall }

/-- 'attestorlaw34.FramesEncodes', WHERE WHAT IT READS IS OF BULK AT MOST 1048576: true; the input reads as it did. -/
def framesEncodesUptoRow : OpenClaim := { program := "ytddjlnoafakijaa", sum := "4ca5b63f75a94d0645466af38bc693afc6ffbabb029d878d4dd7d96574c160c8", func := "attestor/attestorlaw34.FramesEncodes", spec := "framesEncodes", unfollowed := true, recurses := true, apart := false, narrowed := true }
def FramesEncodesUptoSaid : Prop := framesEncodesUptoRow.holds Try.pinned (OpenSpec.upto framesEncodesSpec)

/-- 'attestorlaw34.FramesRound', WHERE WHAT IT READS IS OF BULK AT MOST 1048576: true; the input reads as it did. -/
def framesRoundUptoRow : OpenClaim := { program := "ytddjlnoafakijaa", sum := "4ca5b63f75a94d0645466af38bc693afc6ffbabb029d878d4dd7d96574c160c8", func := "attestor/attestorlaw34.FramesRound", spec := "framesRound", unfollowed := true, recurses := true, apart := false, narrowed := true }
def FramesRoundUptoSaid : Prop := framesRoundUptoRow.holds Try.pinned (OpenSpec.upto framesRoundSpec)

/-- 'attestorlaw34.FramesDecodes', WHERE WHAT IT READS IS OF BULK AT MOST 1048576: true; the input reads as it did. -/
def framesDecodesUptoRow : OpenClaim := { program := "ytddjlnoafakijaa", sum := "4ca5b63f75a94d0645466af38bc693afc6ffbabb029d878d4dd7d96574c160c8", func := "attestor/attestorlaw34.FramesDecodes", spec := "framesDecodes", unfollowed := true, recurses := true, apart := false, narrowed := true }
def FramesDecodesUptoSaid : Prop := framesDecodesUptoRow.holds Try.pinned (OpenSpec.upto framesDecodesSpec)

/-- 'attestorlaw34.FramesChanged', WHERE WHAT IT READS IS OF BULK AT MOST 1048576: true; the input reads as it did. -/
def framesChangedUptoRow : OpenClaim := { program := "ytddjlnoafakijaa", sum := "4ca5b63f75a94d0645466af38bc693afc6ffbabb029d878d4dd7d96574c160c8", func := "attestor/attestorlaw34.FramesChanged", spec := "framesChanged", unfollowed := true, recurses := true, apart := false, narrowed := true }
def FramesChangedUptoSaid : Prop := framesChangedUptoRow.holds Try.pinned (OpenSpec.upto framesChangedSpec)

/-- 'attestorlaw34.FramesKnown', WHERE WHAT IT READS IS OF BULK AT MOST 1048576: true; the input reads as it did. -/
def framesKnownUptoRow : OpenClaim := { program := "ytddjlnoafakijaa", sum := "4ca5b63f75a94d0645466af38bc693afc6ffbabb029d878d4dd7d96574c160c8", func := "attestor/attestorlaw34.FramesKnown", spec := "framesKnown", unfollowed := true, recurses := true, apart := false, narrowed := true }
def FramesKnownUptoSaid : Prop := framesKnownUptoRow.holds Try.pinned (OpenSpec.upto framesKnownSpec)

/-- 'attestorlaw34.FramesWrites', WHERE WHAT IT READS IS OF BULK AT MOST 1048576: true; the input reads as it did. -/
def framesWritesUptoRow : OpenClaim := { program := "ytddjlnoafakijaa", sum := "4ca5b63f75a94d0645466af38bc693afc6ffbabb029d878d4dd7d96574c160c8", func := "attestor/attestorlaw34.FramesWrites", spec := "framesWrites", unfollowed := true, recurses := true, apart := false, narrowed := true }
def FramesWritesUptoSaid : Prop := framesWritesUptoRow.holds Try.pinned (OpenSpec.upto framesWritesSpec)

/-- 'attestorlaw34.FramesCuts', WHERE WHAT IT READS IS OF BULK AT MOST 1048576: true; the input reads as it did. -/
def framesCutsUptoRow : OpenClaim := { program := "ytddjlnoafakijaa", sum := "4ca5b63f75a94d0645466af38bc693afc6ffbabb029d878d4dd7d96574c160c8", func := "attestor/attestorlaw34.FramesCuts", spec := "framesCuts", unfollowed := true, recurses := true, apart := false, narrowed := true }
def FramesCutsUptoSaid : Prop := framesCutsUptoRow.holds Try.pinned (OpenSpec.upto framesCutsSpec)

end Rows
end Go.Proofs.Ytddjlnoafakijaa
