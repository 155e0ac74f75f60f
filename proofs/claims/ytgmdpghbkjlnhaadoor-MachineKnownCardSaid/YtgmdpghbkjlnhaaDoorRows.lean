/-
  NARROWER THAN 'FOR EVERY INPUT', by the rows' own cells (each row's printed sentence says how): MachineSteps: laid · MachineRuns: laid · MachineParts: laid · MachineLoops: laid · MachineKnown: laid · MachineChanges: laid.
  DERIVED. THE GIVEN ROWS OF THIS SEAT. 6 by the template 'for every input the law returns true; each argument reads behind the call as it read before'; 0 by the template 'total and deterministic' (their statements: YtgmdpghbkjlnhaaDoorTotals.lean).
  GIVEN WITH THE SEED: the statements are not yours to turn. If you find one false, say at which input.
  Laid BY PROGRAM, IN A SANDBOX (cutbox-rows.mjs): the forced cells as the released guide's own fill.sh prints them over the translation 130798ab26f8138b… (all of the seat's roots in one cut). By AI agents, Wed Nov 11 2026. No macro, syntax, notation, axiom, sorry.
-/
import Derived.Test.YtgmdpghbkjlnhaaDoorChecked
import GoSem.Claim
import GoSem.ClaimJoined
import GoSem.ClaimMapViews
import Derived.JoinedTies
import Derived.KernelRfl
namespace Go.Proofs.YtgmdpghbkjlnhaaDoor
/- THE CELL 'sum', in the pinned program and in every row, IS THE sha256 OF THE DUMP (.gsa) THAT YtgmdpghbkjlnhaaDoorProg.lean LOADS. Nothing in Lean hashes anything: it is a label: what it is worth is what the hold of that sum in a sandbox is worth. -/
noncomputable def Tryd.pinned : Pinned := { name := "ytgmdpghbkjlnhaadoor", sum := "130798ab26f8138b90fc45066558ef7fd0a31155e897fab49e6836e41cd02344", checked := Tryd.checked }
namespace Rows
def none {H : Type} : Left H := { results := [], args := [] }

/- WHAT THE LISTED PACKAGE-LEVEL VARIABLES READ AS WHEN THE CALL BEGINS. Each datum BY PROGRAM (the guide's laid-datum.mjs) off the statement by which the dump's own 'gosem.cut.vars' lays the variable. In a bare row this is a premise. The card (YtgmdpghbkjlnhaaDoorCards.lean) ties it to the program's text. -/
def laid_attestor_isa_uses {H : Type} : DataW H := .agg [.lit (.int .u8 0), .lit (.int .u8 5), .lit (.int .u8 3), .lit (.int .u8 3), .lit (.int .u8 3), .lit (.int .u8 3), .lit (.int .u8 3), .lit (.int .u8 3), .lit (.int .u8 5)]

/-- 'attestorlaw28.MachineSteps': WHATEVER THE INPUT: true; the input reads as it did. -/
def machineStepsSpec : ChangeSpec := { name := "machineSteps", fn := fun _ => fun
  | [d1, d2, d3] => { results := [.lit (.bool true)], args := [d1, d2, d3] }
  | _ => none }
def machineStepsRow : OpenClaim := { program := "ytgmdpghbkjlnhaadoor", sum := "130798ab26f8138b90fc45066558ef7fd0a31155e897fab49e6836e41cd02344", func := "attestor/attestorlaw28.MachineSteps", spec := "machineSteps", unfollowed := true, recurses := true, named := ["attestor/isa.uses"], apart := false, laid := [("attestor/isa.uses", laid_attestor_isa_uses)] }
def MachineStepsSaid : Prop := machineStepsRow.holds Tryd.pinned (OpenSpec.ofChange machineStepsSpec)

/-- ITS FALSE NEIGHBOUR: 'it returns false'. Refute it at one input. -/
def machineStepsWrong : ChangeSpec := { name := "machineSteps", fn := fun _ => fun
  | [d1, d2, d3] => { results := [.lit (.bool false)], args := [d1, d2, d3] }
  | _ => none }
def MachineStepsWrongFalsely : Prop := machineStepsRow.holds Tryd.pinned (OpenSpec.ofChange machineStepsWrong)

/-- 'attestorlaw28.MachineRuns': WHATEVER THE INPUT: true; the input reads as it did. -/
def machineRunsSpec : ChangeSpec := { name := "machineRuns", fn := fun _ => fun
  | [d1, d2, d3] => { results := [.lit (.bool true)], args := [d1, d2, d3] }
  | _ => none }
def machineRunsRow : OpenClaim := { program := "ytgmdpghbkjlnhaadoor", sum := "130798ab26f8138b90fc45066558ef7fd0a31155e897fab49e6836e41cd02344", func := "attestor/attestorlaw28.MachineRuns", spec := "machineRuns", unfollowed := true, recurses := true, named := ["attestor/isa.uses"], apart := false, laid := [("attestor/isa.uses", laid_attestor_isa_uses)] }
def MachineRunsSaid : Prop := machineRunsRow.holds Tryd.pinned (OpenSpec.ofChange machineRunsSpec)

/-- ITS FALSE NEIGHBOUR: 'it returns false'. Refute it at one input. -/
def machineRunsWrong : ChangeSpec := { name := "machineRuns", fn := fun _ => fun
  | [d1, d2, d3] => { results := [.lit (.bool false)], args := [d1, d2, d3] }
  | _ => none }
def MachineRunsWrongFalsely : Prop := machineRunsRow.holds Tryd.pinned (OpenSpec.ofChange machineRunsWrong)

/-- 'attestorlaw28.MachineParts': WHATEVER THE INPUT: true; the input reads as it did. -/
def machinePartsSpec : ChangeSpec := { name := "machineParts", fn := fun _ => fun
  | [d1, d2, d3, d4] => { results := [.lit (.bool true)], args := [d1, d2, d3, d4] }
  | _ => none }
def machinePartsRow : OpenClaim := { program := "ytgmdpghbkjlnhaadoor", sum := "130798ab26f8138b90fc45066558ef7fd0a31155e897fab49e6836e41cd02344", func := "attestor/attestorlaw28.MachineParts", spec := "machineParts", unfollowed := true, recurses := true, named := ["attestor/isa.uses"], apart := false, laid := [("attestor/isa.uses", laid_attestor_isa_uses)] }
def MachinePartsSaid : Prop := machinePartsRow.holds Tryd.pinned (OpenSpec.ofChange machinePartsSpec)

/-- ITS FALSE NEIGHBOUR: 'it returns false'. Refute it at one input. -/
def machinePartsWrong : ChangeSpec := { name := "machineParts", fn := fun _ => fun
  | [d1, d2, d3, d4] => { results := [.lit (.bool false)], args := [d1, d2, d3, d4] }
  | _ => none }
def MachinePartsWrongFalsely : Prop := machinePartsRow.holds Tryd.pinned (OpenSpec.ofChange machinePartsWrong)

/-- 'attestorlaw28.MachineLoops': WHATEVER THE INPUT: true; the input reads as it did. -/
def machineLoopsSpec : ChangeSpec := { name := "machineLoops", fn := fun _ => fun
  | [d1, d2] => { results := [.lit (.bool true)], args := [d1, d2] }
  | _ => none }
def machineLoopsRow : OpenClaim := { program := "ytgmdpghbkjlnhaadoor", sum := "130798ab26f8138b90fc45066558ef7fd0a31155e897fab49e6836e41cd02344", func := "attestor/attestorlaw28.MachineLoops", spec := "machineLoops", unfollowed := true, recurses := true, named := ["attestor/isa.uses"], apart := false, laid := [("attestor/isa.uses", laid_attestor_isa_uses)] }
def MachineLoopsSaid : Prop := machineLoopsRow.holds Tryd.pinned (OpenSpec.ofChange machineLoopsSpec)

/-- ITS FALSE NEIGHBOUR: 'it returns false'. Refute it at one input. -/
def machineLoopsWrong : ChangeSpec := { name := "machineLoops", fn := fun _ => fun
  | [d1, d2] => { results := [.lit (.bool false)], args := [d1, d2] }
  | _ => none }
def MachineLoopsWrongFalsely : Prop := machineLoopsRow.holds Tryd.pinned (OpenSpec.ofChange machineLoopsWrong)

/-- 'attestorlaw28.MachineKnown': WHATEVER THE INPUT: true; the input reads as it did. -/
def machineKnownSpec : ChangeSpec := { name := "machineKnown", fn := fun _ => fun
  | [] => { results := [.lit (.bool true)], args := [] }
  | _ => none }
def machineKnownRow : OpenClaim := { program := "ytgmdpghbkjlnhaadoor", sum := "130798ab26f8138b90fc45066558ef7fd0a31155e897fab49e6836e41cd02344", func := "attestor/attestorlaw28.MachineKnown", spec := "machineKnown", unfollowed := true, recurses := true, named := ["attestor/isa.uses"], apart := false, laid := [("attestor/isa.uses", laid_attestor_isa_uses)] }
def MachineKnownSaid : Prop := machineKnownRow.holds Tryd.pinned (OpenSpec.ofChange machineKnownSpec)

/-- ITS FALSE NEIGHBOUR: 'it returns false'. Refute it at one input. -/
def machineKnownWrong : ChangeSpec := { name := "machineKnown", fn := fun _ => fun
  | [] => { results := [.lit (.bool false)], args := [] }
  | _ => none }
def MachineKnownWrongFalsely : Prop := machineKnownRow.holds Tryd.pinned (OpenSpec.ofChange machineKnownWrong)

/-- 'attestorlaw28.MachineChanges': WHATEVER THE INPUT: true; the input reads as it did. -/
def machineChangesSpec : ChangeSpec := { name := "machineChanges", fn := fun _ => fun
  | [d1, d2] => { results := [.lit (.bool true)], args := [d1, d2] }
  | _ => none }
def machineChangesRow : OpenClaim := { program := "ytgmdpghbkjlnhaadoor", sum := "130798ab26f8138b90fc45066558ef7fd0a31155e897fab49e6836e41cd02344", func := "attestor/attestorlaw28.MachineChanges", spec := "machineChanges", unfollowed := true, recurses := true, named := ["attestor/isa.uses"], apart := false, laid := [("attestor/isa.uses", laid_attestor_isa_uses)] }
def MachineChangesSaid : Prop := machineChangesRow.holds Tryd.pinned (OpenSpec.ofChange machineChangesSpec)

/-- ITS FALSE NEIGHBOUR: 'it returns false'. Refute it at one input. -/
def machineChangesWrong : ChangeSpec := { name := "machineChanges", fn := fun _ => fun
  | [d1, d2] => { results := [.lit (.bool false)], args := [d1, d2] }
  | _ => none }
def MachineChangesWrongFalsely : Prop := machineChangesRow.holds Tryd.pinned (OpenSpec.ofChange machineChangesWrong)

/- THE SECOND FORM. 'bulk': how many values and letters a reading holds, each counted each time it is reached (what is shared counts as often as it is met; a slice's spare places count too). A statement '..UptoSaid' is the law's where the arguments, and the package variables that the reading takes, are together of bulk at most 1048576: NARROWER than '..Said'. Prove '..Said' where nothing that the law and all that it calls make is longer than what came in: it says more and counts as full. Else prove '..UptoSaid'. A law counts once. -/
mutual
def uptoBulk {H : Type} : DataW H → Nat
  | .lit (.string bytes) => bytes.length + 1
  | .lit _ => 1
  | .nil => 1
  | .ptr d => uptoBulk d + 1
  | .slice elems spare => uptoBulkAll elems + uptoBulkAll spare + 1
  | .agg parts => uptoBulkAll parts + 1
  | .iface _ d => uptoBulk d + 1
  | .map entries => uptoBulkEntries entries + 1
  | .held _ => 1
def uptoBulkAll {H : Type} : List (DataW H) → Nat
  | [] => 0
  | d :: r => uptoBulk d + uptoBulkAll r
def uptoBulkEntries {H : Type} : List (Lit × DataW H) → Nat
  | [] => 0
  | x :: r => uptoBulkEntry x + uptoBulkEntries r
def uptoBulkEntry {H : Type} : Lit × DataW H → Nat
  | (.string bytes, d) => bytes.length + uptoBulk d + 1
  | (_, d) => uptoBulk d + 1
 end
def uptoSmall : (H : Type) → List (DataW H) → Bool := fun _ ds => decide (uptoBulkAll ds ≤ 1048576)
def OpenSpec.upto (s : _root_.Go.ChangeSpec) : _root_.Go.OpenSpec := { _root_.Go.OpenSpec.ofChange s with cond := some uptoSmall }

/-- 'attestorlaw28.MachineSteps', WHERE WHAT IT READS IS OF BULK AT MOST 1048576: true; the input reads as it did. -/
def machineStepsUptoRow : OpenClaim := { program := "ytgmdpghbkjlnhaadoor", sum := "130798ab26f8138b90fc45066558ef7fd0a31155e897fab49e6836e41cd02344", func := "attestor/attestorlaw28.MachineSteps", spec := "machineSteps", unfollowed := true, recurses := true, named := ["attestor/isa.uses"], apart := false, laid := [("attestor/isa.uses", laid_attestor_isa_uses)], narrowed := true }
def MachineStepsUptoSaid : Prop := machineStepsUptoRow.holds Tryd.pinned (OpenSpec.upto machineStepsSpec)

/-- 'attestorlaw28.MachineRuns', WHERE WHAT IT READS IS OF BULK AT MOST 1048576: true; the input reads as it did. -/
def machineRunsUptoRow : OpenClaim := { program := "ytgmdpghbkjlnhaadoor", sum := "130798ab26f8138b90fc45066558ef7fd0a31155e897fab49e6836e41cd02344", func := "attestor/attestorlaw28.MachineRuns", spec := "machineRuns", unfollowed := true, recurses := true, named := ["attestor/isa.uses"], apart := false, laid := [("attestor/isa.uses", laid_attestor_isa_uses)], narrowed := true }
def MachineRunsUptoSaid : Prop := machineRunsUptoRow.holds Tryd.pinned (OpenSpec.upto machineRunsSpec)

/-- 'attestorlaw28.MachineParts', WHERE WHAT IT READS IS OF BULK AT MOST 1048576: true; the input reads as it did. -/
def machinePartsUptoRow : OpenClaim := { program := "ytgmdpghbkjlnhaadoor", sum := "130798ab26f8138b90fc45066558ef7fd0a31155e897fab49e6836e41cd02344", func := "attestor/attestorlaw28.MachineParts", spec := "machineParts", unfollowed := true, recurses := true, named := ["attestor/isa.uses"], apart := false, laid := [("attestor/isa.uses", laid_attestor_isa_uses)], narrowed := true }
def MachinePartsUptoSaid : Prop := machinePartsUptoRow.holds Tryd.pinned (OpenSpec.upto machinePartsSpec)

/-- 'attestorlaw28.MachineLoops', WHERE WHAT IT READS IS OF BULK AT MOST 1048576: true; the input reads as it did. -/
def machineLoopsUptoRow : OpenClaim := { program := "ytgmdpghbkjlnhaadoor", sum := "130798ab26f8138b90fc45066558ef7fd0a31155e897fab49e6836e41cd02344", func := "attestor/attestorlaw28.MachineLoops", spec := "machineLoops", unfollowed := true, recurses := true, named := ["attestor/isa.uses"], apart := false, laid := [("attestor/isa.uses", laid_attestor_isa_uses)], narrowed := true }
def MachineLoopsUptoSaid : Prop := machineLoopsUptoRow.holds Tryd.pinned (OpenSpec.upto machineLoopsSpec)

/-- 'attestorlaw28.MachineKnown', WHERE WHAT IT READS IS OF BULK AT MOST 1048576: true; the input reads as it did. -/
def machineKnownUptoRow : OpenClaim := { program := "ytgmdpghbkjlnhaadoor", sum := "130798ab26f8138b90fc45066558ef7fd0a31155e897fab49e6836e41cd02344", func := "attestor/attestorlaw28.MachineKnown", spec := "machineKnown", unfollowed := true, recurses := true, named := ["attestor/isa.uses"], apart := false, laid := [("attestor/isa.uses", laid_attestor_isa_uses)], narrowed := true }
def MachineKnownUptoSaid : Prop := machineKnownUptoRow.holds Tryd.pinned (OpenSpec.upto machineKnownSpec)

/-- 'attestorlaw28.MachineChanges', WHERE WHAT IT READS IS OF BULK AT MOST 1048576: true; the input reads as it did. -/
def machineChangesUptoRow : OpenClaim := { program := "ytgmdpghbkjlnhaadoor", sum := "130798ab26f8138b90fc45066558ef7fd0a31155e897fab49e6836e41cd02344", func := "attestor/attestorlaw28.MachineChanges", spec := "machineChanges", unfollowed := true, recurses := true, named := ["attestor/isa.uses"], apart := false, laid := [("attestor/isa.uses", laid_attestor_isa_uses)], narrowed := true }
def MachineChangesUptoSaid : Prop := machineChangesUptoRow.holds Tryd.pinned (OpenSpec.upto machineChangesSpec)

end Rows
end Go.Proofs.YtgmdpghbkjlnhaaDoor
