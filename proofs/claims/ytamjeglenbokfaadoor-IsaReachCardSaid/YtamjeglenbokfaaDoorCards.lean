/-
  DERIVED. GIVEN WITH THE SEED: THE CARDS: each row of YtamjeglenbokfaaDoorRows.lean that lists a variable, with what it lists TIED to the program's text (the seventh form; the later family's looks); each row that meets fmt, with fmt's text TOLD by the authors' own Lean function (tested against real Go, not proved from fmt's source: count such statements apart). THE CARD IS WHAT COUNTS. Prove the row's statement (the work); the ties are given (YtamjeglenbokfaaDoorTie.lean); close each card by the builder's one call (the guide's Derived/Test/ToyasCard.lean, 'card_holds'). Laid BY PROGRAM, IN A SANDBOX (cutbox-door.mjs). By AI agents, Wed Nov 11 2026. No macro, syntax, notation, axiom, sorry.
-/
import Derived.Test.YtamjeglenbokfaaDoorRows
import GoSem.ClaimSeven
namespace Go.Proofs.YtamjeglenbokfaaDoor
namespace Rows

/-- THE TIED CARD OF 'attestorlaw26.IsaDecodes'. -/
def isaDecodesCard : Claim7 := { stood := { row := isaDecodesRow, standIns := [], harness := (true, "cd139e2ed54d28e102e80529a9cda915a80f41a8e43b8d2fbc00692e2946c026"), looks := false }, kinds := [], alts := [], laidByText := true, laidKinds := [.data], laidTests := true, laidLooks := .later }
def IsaDecodesCardSaid : Prop := Claim7.holds Tryd.pinned (.plain (OpenSpec.ofChange isaDecodesSpec)) isaDecodesCard

/-- THE TIED CARD OF 'attestorlaw26.IsaRound'. -/
def isaRoundCard : Claim7 := { stood := { row := isaRoundRow, standIns := [], harness := (true, "cd139e2ed54d28e102e80529a9cda915a80f41a8e43b8d2fbc00692e2946c026"), looks := false }, kinds := [], alts := [], laidByText := true, laidKinds := [.data], laidTests := true, laidLooks := .later }
def IsaRoundCardSaid : Prop := Claim7.holds Tryd.pinned (.plain (OpenSpec.ofChange isaRoundSpec)) isaRoundCard

/-- THE TIED CARD OF 'attestorlaw26.IsaAgain'. -/
def isaAgainCard : Claim7 := { stood := { row := isaAgainRow, standIns := [], harness := (true, "cd139e2ed54d28e102e80529a9cda915a80f41a8e43b8d2fbc00692e2946c026"), looks := false }, kinds := [], alts := [], laidByText := true, laidKinds := [.data], laidTests := true, laidLooks := .later }
def IsaAgainCardSaid : Prop := Claim7.holds Tryd.pinned (.plain (OpenSpec.ofChange isaAgainSpec)) isaAgainCard

/-- THE TIED CARD OF 'attestorlaw26.IsaValids'. -/
def isaValidsCard : Claim7 := { stood := { row := isaValidsRow, standIns := [], harness := (true, "cd139e2ed54d28e102e80529a9cda915a80f41a8e43b8d2fbc00692e2946c026"), looks := false }, kinds := [], alts := [], laidByText := true, laidKinds := [.data], laidTests := true, laidLooks := .later }
def IsaValidsCardSaid : Prop := Claim7.holds Tryd.pinned (.plain (OpenSpec.ofChange isaValidsSpec)) isaValidsCard

/-- THE TIED CARD OF 'attestorlaw26.IsaReach'. -/
def isaReachCard : Claim7 := { stood := { row := isaReachRow, standIns := [], harness := (true, "cd139e2ed54d28e102e80529a9cda915a80f41a8e43b8d2fbc00692e2946c026"), looks := false }, kinds := [], alts := [], laidByText := true, laidKinds := [.data], laidTests := true, laidLooks := .later }
def IsaReachCardSaid : Prop := Claim7.holds Tryd.pinned (.plain (OpenSpec.ofChange isaReachSpec)) isaReachCard

/-- THE TIED CARD OF 'attestorlaw26.IsaKnown'. -/
def isaKnownCard : Claim7 := { stood := { row := isaKnownRow, standIns := [], harness := (true, "cd139e2ed54d28e102e80529a9cda915a80f41a8e43b8d2fbc00692e2946c026"), looks := false }, kinds := [], alts := [], laidByText := true, laidKinds := [.data], laidTests := true, laidLooks := .later }
def IsaKnownCardSaid : Prop := Claim7.holds Tryd.pinned (.plain (OpenSpec.ofChange isaKnownSpec)) isaKnownCard

/-- THE TIED CARD OF 'attestorlaw26.IsaEncodes'. -/
def isaEncodesCard : Claim7 := { stood := { row := isaEncodesRow, standIns := [], harness := (true, "cd139e2ed54d28e102e80529a9cda915a80f41a8e43b8d2fbc00692e2946c026"), looks := false }, kinds := [], alts := [], laidByText := true, laidKinds := [.widerDeep, .data], laidTests := true, laidLooks := .later }
def IsaEncodesCardSaid : Prop := Claim7.holds Tryd.pinned (.plain (OpenSpec.ofChange isaEncodesSpec)) isaEncodesCard

/-- THE SECOND FORM's CARD OF 'attestorlaw26.IsaDecodes'. -/
def isaDecodesUptoCard : Claim7 := { stood := { row := isaDecodesUptoRow, standIns := [], harness := (true, "cd139e2ed54d28e102e80529a9cda915a80f41a8e43b8d2fbc00692e2946c026"), looks := false }, kinds := [], alts := [], laidByText := true, laidKinds := [.data], laidTests := true, laidLooks := .later }
def IsaDecodesUptoCardSaid : Prop := Claim7.holds Tryd.pinned (.plain (OpenSpec.upto isaDecodesSpec)) isaDecodesUptoCard

/-- THE SECOND FORM's CARD OF 'attestorlaw26.IsaRound'. -/
def isaRoundUptoCard : Claim7 := { stood := { row := isaRoundUptoRow, standIns := [], harness := (true, "cd139e2ed54d28e102e80529a9cda915a80f41a8e43b8d2fbc00692e2946c026"), looks := false }, kinds := [], alts := [], laidByText := true, laidKinds := [.data], laidTests := true, laidLooks := .later }
def IsaRoundUptoCardSaid : Prop := Claim7.holds Tryd.pinned (.plain (OpenSpec.upto isaRoundSpec)) isaRoundUptoCard

/-- THE SECOND FORM's CARD OF 'attestorlaw26.IsaAgain'. -/
def isaAgainUptoCard : Claim7 := { stood := { row := isaAgainUptoRow, standIns := [], harness := (true, "cd139e2ed54d28e102e80529a9cda915a80f41a8e43b8d2fbc00692e2946c026"), looks := false }, kinds := [], alts := [], laidByText := true, laidKinds := [.data], laidTests := true, laidLooks := .later }
def IsaAgainUptoCardSaid : Prop := Claim7.holds Tryd.pinned (.plain (OpenSpec.upto isaAgainSpec)) isaAgainUptoCard

/-- THE SECOND FORM's CARD OF 'attestorlaw26.IsaValids'. -/
def isaValidsUptoCard : Claim7 := { stood := { row := isaValidsUptoRow, standIns := [], harness := (true, "cd139e2ed54d28e102e80529a9cda915a80f41a8e43b8d2fbc00692e2946c026"), looks := false }, kinds := [], alts := [], laidByText := true, laidKinds := [.data], laidTests := true, laidLooks := .later }
def IsaValidsUptoCardSaid : Prop := Claim7.holds Tryd.pinned (.plain (OpenSpec.upto isaValidsSpec)) isaValidsUptoCard

/-- THE SECOND FORM's CARD OF 'attestorlaw26.IsaReach'. -/
def isaReachUptoCard : Claim7 := { stood := { row := isaReachUptoRow, standIns := [], harness := (true, "cd139e2ed54d28e102e80529a9cda915a80f41a8e43b8d2fbc00692e2946c026"), looks := false }, kinds := [], alts := [], laidByText := true, laidKinds := [.data], laidTests := true, laidLooks := .later }
def IsaReachUptoCardSaid : Prop := Claim7.holds Tryd.pinned (.plain (OpenSpec.upto isaReachSpec)) isaReachUptoCard

/-- THE SECOND FORM's CARD OF 'attestorlaw26.IsaKnown'. -/
def isaKnownUptoCard : Claim7 := { stood := { row := isaKnownUptoRow, standIns := [], harness := (true, "cd139e2ed54d28e102e80529a9cda915a80f41a8e43b8d2fbc00692e2946c026"), looks := false }, kinds := [], alts := [], laidByText := true, laidKinds := [.data], laidTests := true, laidLooks := .later }
def IsaKnownUptoCardSaid : Prop := Claim7.holds Tryd.pinned (.plain (OpenSpec.upto isaKnownSpec)) isaKnownUptoCard

/-- THE SECOND FORM's CARD OF 'attestorlaw26.IsaEncodes'. -/
def isaEncodesUptoCard : Claim7 := { stood := { row := isaEncodesUptoRow, standIns := [], harness := (true, "cd139e2ed54d28e102e80529a9cda915a80f41a8e43b8d2fbc00692e2946c026"), looks := false }, kinds := [], alts := [], laidByText := true, laidKinds := [.widerDeep, .data], laidTests := true, laidLooks := .later }
def IsaEncodesUptoCardSaid : Prop := Claim7.holds Tryd.pinned (.plain (OpenSpec.upto isaEncodesSpec)) isaEncodesUptoCard
end Rows
end Go.Proofs.YtamjeglenbokfaaDoor
