/-
  DERIVED. GIVEN WITH THE SEED: THE CARDS: each row of YtgmdpghbkjlnhaaDoorRows.lean that lists a variable, with what it lists TIED to the program's text (the seventh form; the later family's looks); each row that meets fmt, with fmt's text TOLD by the authors' own Lean function (tested against real Go, not proved from fmt's source: count such statements apart). THE CARD IS WHAT COUNTS. Prove the row's statement (the work); the ties are given (YtgmdpghbkjlnhaaDoorTie.lean); close each card by the builder's one call (the guide's Derived/Test/ToyasCard.lean, 'card_holds'). Laid BY PROGRAM, IN A SANDBOX (cutbox-door.mjs). By AI agents, Wed Nov 11 2026. No macro, syntax, notation, axiom, sorry.
-/
import Derived.Test.YtgmdpghbkjlnhaaDoorRows
import GoSem.ClaimSeven
namespace Go.Proofs.YtgmdpghbkjlnhaaDoor
namespace Rows

/-- THE TIED CARD OF 'attestorlaw28.MachineSteps'. -/
def machineStepsCard : Claim7 := { stood := { row := machineStepsRow, standIns := [], harness := (true, "97156e192a02d72ec0eb3519941189043a72d60d0faaf2d6e38708e5db89a3ca"), looks := false }, kinds := [], alts := [], laidByText := true, laidKinds := [.data], laidTests := true, laidLooks := .later }
def MachineStepsCardSaid : Prop := Claim7.holds Tryd.pinned (.plain (OpenSpec.ofChange machineStepsSpec)) machineStepsCard

/-- THE TIED CARD OF 'attestorlaw28.MachineRuns'. -/
def machineRunsCard : Claim7 := { stood := { row := machineRunsRow, standIns := [], harness := (true, "97156e192a02d72ec0eb3519941189043a72d60d0faaf2d6e38708e5db89a3ca"), looks := false }, kinds := [], alts := [], laidByText := true, laidKinds := [.data], laidTests := true, laidLooks := .later }
def MachineRunsCardSaid : Prop := Claim7.holds Tryd.pinned (.plain (OpenSpec.ofChange machineRunsSpec)) machineRunsCard

/-- THE TIED CARD OF 'attestorlaw28.MachineParts'. -/
def machinePartsCard : Claim7 := { stood := { row := machinePartsRow, standIns := [], harness := (true, "97156e192a02d72ec0eb3519941189043a72d60d0faaf2d6e38708e5db89a3ca"), looks := false }, kinds := [], alts := [], laidByText := true, laidKinds := [.data], laidTests := true, laidLooks := .later }
def MachinePartsCardSaid : Prop := Claim7.holds Tryd.pinned (.plain (OpenSpec.ofChange machinePartsSpec)) machinePartsCard

/-- THE TIED CARD OF 'attestorlaw28.MachineLoops'. -/
def machineLoopsCard : Claim7 := { stood := { row := machineLoopsRow, standIns := [], harness := (true, "97156e192a02d72ec0eb3519941189043a72d60d0faaf2d6e38708e5db89a3ca"), looks := false }, kinds := [], alts := [], laidByText := true, laidKinds := [.data], laidTests := true, laidLooks := .later }
def MachineLoopsCardSaid : Prop := Claim7.holds Tryd.pinned (.plain (OpenSpec.ofChange machineLoopsSpec)) machineLoopsCard

/-- THE TIED CARD OF 'attestorlaw28.MachineKnown'. -/
def machineKnownCard : Claim7 := { stood := { row := machineKnownRow, standIns := [], harness := (true, "97156e192a02d72ec0eb3519941189043a72d60d0faaf2d6e38708e5db89a3ca"), looks := false }, kinds := [], alts := [], laidByText := true, laidKinds := [.data], laidTests := true, laidLooks := .later }
def MachineKnownCardSaid : Prop := Claim7.holds Tryd.pinned (.plain (OpenSpec.ofChange machineKnownSpec)) machineKnownCard

/-- THE TIED CARD OF 'attestorlaw28.MachineChanges'. -/
def machineChangesCard : Claim7 := { stood := { row := machineChangesRow, standIns := [], harness := (true, "97156e192a02d72ec0eb3519941189043a72d60d0faaf2d6e38708e5db89a3ca"), looks := false }, kinds := [], alts := [], laidByText := true, laidKinds := [.data], laidTests := true, laidLooks := .later }
def MachineChangesCardSaid : Prop := Claim7.holds Tryd.pinned (.plain (OpenSpec.ofChange machineChangesSpec)) machineChangesCard

/-- THE SECOND FORM's CARD OF 'attestorlaw28.MachineSteps'. -/
def machineStepsUptoCard : Claim7 := { stood := { row := machineStepsUptoRow, standIns := [], harness := (true, "97156e192a02d72ec0eb3519941189043a72d60d0faaf2d6e38708e5db89a3ca"), looks := false }, kinds := [], alts := [], laidByText := true, laidKinds := [.data], laidTests := true, laidLooks := .later }
def MachineStepsUptoCardSaid : Prop := Claim7.holds Tryd.pinned (.plain (OpenSpec.upto machineStepsSpec)) machineStepsUptoCard

/-- THE SECOND FORM's CARD OF 'attestorlaw28.MachineRuns'. -/
def machineRunsUptoCard : Claim7 := { stood := { row := machineRunsUptoRow, standIns := [], harness := (true, "97156e192a02d72ec0eb3519941189043a72d60d0faaf2d6e38708e5db89a3ca"), looks := false }, kinds := [], alts := [], laidByText := true, laidKinds := [.data], laidTests := true, laidLooks := .later }
def MachineRunsUptoCardSaid : Prop := Claim7.holds Tryd.pinned (.plain (OpenSpec.upto machineRunsSpec)) machineRunsUptoCard

/-- THE SECOND FORM's CARD OF 'attestorlaw28.MachineParts'. -/
def machinePartsUptoCard : Claim7 := { stood := { row := machinePartsUptoRow, standIns := [], harness := (true, "97156e192a02d72ec0eb3519941189043a72d60d0faaf2d6e38708e5db89a3ca"), looks := false }, kinds := [], alts := [], laidByText := true, laidKinds := [.data], laidTests := true, laidLooks := .later }
def MachinePartsUptoCardSaid : Prop := Claim7.holds Tryd.pinned (.plain (OpenSpec.upto machinePartsSpec)) machinePartsUptoCard

/-- THE SECOND FORM's CARD OF 'attestorlaw28.MachineLoops'. -/
def machineLoopsUptoCard : Claim7 := { stood := { row := machineLoopsUptoRow, standIns := [], harness := (true, "97156e192a02d72ec0eb3519941189043a72d60d0faaf2d6e38708e5db89a3ca"), looks := false }, kinds := [], alts := [], laidByText := true, laidKinds := [.data], laidTests := true, laidLooks := .later }
def MachineLoopsUptoCardSaid : Prop := Claim7.holds Tryd.pinned (.plain (OpenSpec.upto machineLoopsSpec)) machineLoopsUptoCard

/-- THE SECOND FORM's CARD OF 'attestorlaw28.MachineKnown'. -/
def machineKnownUptoCard : Claim7 := { stood := { row := machineKnownUptoRow, standIns := [], harness := (true, "97156e192a02d72ec0eb3519941189043a72d60d0faaf2d6e38708e5db89a3ca"), looks := false }, kinds := [], alts := [], laidByText := true, laidKinds := [.data], laidTests := true, laidLooks := .later }
def MachineKnownUptoCardSaid : Prop := Claim7.holds Tryd.pinned (.plain (OpenSpec.upto machineKnownSpec)) machineKnownUptoCard

/-- THE SECOND FORM's CARD OF 'attestorlaw28.MachineChanges'. -/
def machineChangesUptoCard : Claim7 := { stood := { row := machineChangesUptoRow, standIns := [], harness := (true, "97156e192a02d72ec0eb3519941189043a72d60d0faaf2d6e38708e5db89a3ca"), looks := false }, kinds := [], alts := [], laidByText := true, laidKinds := [.data], laidTests := true, laidLooks := .later }
def MachineChangesUptoCardSaid : Prop := Claim7.holds Tryd.pinned (.plain (OpenSpec.upto machineChangesSpec)) machineChangesUptoCard
end Rows
end Go.Proofs.YtgmdpghbkjlnhaaDoor
