/-
  DERIVED. GIVEN WITH THE SEED: THE CARDS: each row of YtdojfdjokggaiaaDoorRows.lean that lists a variable, with what it lists TIED to the program's text (the seventh form; the later family's looks); each row that meets fmt, with fmt's text TOLD by the authors' own Lean function (tested against real Go, not proved from fmt's source: count such statements apart). THE CARD IS WHAT COUNTS. Prove the row's statement (the work); the ties are given (YtdojfdjokggaiaaDoorTie.lean); close each card by the builder's one call (the guide's Derived/Test/ToyasCard.lean, 'card_holds'). Laid BY PROGRAM, IN A SANDBOX (cutbox-door.mjs). By AI agents, Wed Nov 11 2026. No macro, syntax, notation, axiom, sorry.
-/
import Derived.Test.YtdojfdjokggaiaaDoorRows
import GoSem.ClaimSeven
namespace Go.Proofs.YtdojfdjokggaiaaDoor
namespace Rows

/-- THE TIED CARD OF 'attestorlaw01.FieldOrders'. -/
def fieldOrdersCard : Claim7 := { stood := { row := fieldOrdersRow, standIns := [], harness := (true, "25060c0930ef7282a0743e17640c299c6aaa72174bacf15d3bf93797b1e37300"), looks := false }, kinds := [], alts := [], laidByText := true, laidKinds := [.widerDeep], laidTests := true, laidLooks := .later }
def FieldOrdersCardSaid : Prop := Claim7.holds Tryd.pinned (.plain (OpenSpec.ofChange fieldOrdersSpec)) fieldOrdersCard

/-- THE TIED CARD OF 'attestorlaw01.FieldLists'. -/
def fieldListsCard : Claim7 := { stood := { row := fieldListsRow, standIns := [], harness := (true, "25060c0930ef7282a0743e17640c299c6aaa72174bacf15d3bf93797b1e37300"), looks := false }, kinds := [], alts := [], laidByText := true, laidKinds := [.widerDeep], laidTests := true, laidLooks := .later }
def FieldListsCardSaid : Prop := Claim7.holds Tryd.pinned (.plain (OpenSpec.ofChange fieldListsSpec)) fieldListsCard

/-- THE TIED CARD OF 'attestorlaw01.FieldRing'. -/
def fieldRingCard : Claim7 := { stood := { row := fieldRingRow, standIns := [], harness := (true, "25060c0930ef7282a0743e17640c299c6aaa72174bacf15d3bf93797b1e37300"), looks := false }, kinds := [], alts := [], laidByText := true, laidKinds := [.widerDeep], laidTests := true, laidLooks := .later }
def FieldRingCardSaid : Prop := Claim7.holds Tryd.pinned (.plain (OpenSpec.ofChange fieldRingSpec)) fieldRingCard

/-- THE TIED CARD OF 'attestorlaw01.FieldSums'. -/
def fieldSumsCard : Claim7 := { stood := { row := fieldSumsRow, standIns := [], harness := (true, "25060c0930ef7282a0743e17640c299c6aaa72174bacf15d3bf93797b1e37300"), looks := false }, kinds := [], alts := [], laidByText := true, laidKinds := [.widerDeep], laidTests := true, laidLooks := .later }
def FieldSumsCardSaid : Prop := Claim7.holds Tryd.pinned (.plain (OpenSpec.ofChange fieldSumsSpec)) fieldSumsCard

/-- THE TIED CARD OF 'attestorlaw01.FieldPowers'. -/
def fieldPowersCard : Claim7 := { stood := { row := fieldPowersRow, standIns := [], harness := (true, "25060c0930ef7282a0743e17640c299c6aaa72174bacf15d3bf93797b1e37300"), looks := false }, kinds := [], alts := [], laidByText := true, laidKinds := [.widerDeep], laidTests := true, laidLooks := .later }
def FieldPowersCardSaid : Prop := Claim7.holds Tryd.pinned (.plain (OpenSpec.ofChange fieldPowersSpec)) fieldPowersCard

/-- THE TIED CARD OF 'attestorlaw01.FieldRoots'. -/
def fieldRootsCard : Claim7 := { stood := { row := fieldRootsRow, standIns := [], harness := (true, "25060c0930ef7282a0743e17640c299c6aaa72174bacf15d3bf93797b1e37300"), looks := false }, kinds := [], alts := [], laidByText := true, laidKinds := [.widerDeep], laidTests := true, laidLooks := .later }
def FieldRootsCardSaid : Prop := Claim7.holds Tryd.pinned (.plain (OpenSpec.ofChange fieldRootsSpec)) fieldRootsCard

/-- THE TIED CARD OF 'attestorlaw01.FieldAll'. -/
def fieldAllCard : Claim7 := { stood := { row := fieldAllRow, standIns := [], harness := (true, "25060c0930ef7282a0743e17640c299c6aaa72174bacf15d3bf93797b1e37300"), looks := false }, kinds := [], alts := [], laidByText := true, laidKinds := [.widerDeep], laidTests := true, laidLooks := .later }
def FieldAllCardSaid : Prop := Claim7.holds Tryd.pinned (.plain (OpenSpec.ofChange fieldAllSpec)) fieldAllCard

/-- THE TIED CARD OF 'attestorlaw01.FieldKnown'. -/
def fieldKnownCard : Claim7 := { stood := { row := fieldKnownRow, standIns := [], harness := (true, "25060c0930ef7282a0743e17640c299c6aaa72174bacf15d3bf93797b1e37300"), looks := false }, kinds := [], alts := [], laidByText := true, laidKinds := [.widerDeep], laidTests := true, laidLooks := .later }
def FieldKnownCardSaid : Prop := Claim7.holds Tryd.pinned (.plain (OpenSpec.ofChange fieldKnownSpec)) fieldKnownCard

/-- THE TIED CARD OF 'attestorlaw01.FieldOps'. -/
def fieldOpsCard : Claim7 := { stood := { row := fieldOpsRow, standIns := [], harness := (true, "25060c0930ef7282a0743e17640c299c6aaa72174bacf15d3bf93797b1e37300"), looks := false }, kinds := [], alts := [], laidByText := true, laidKinds := [.widerDeep], laidTests := true, laidLooks := .later }
def FieldOpsCardSaid : Prop := Claim7.holds Tryd.pinned (.plain (OpenSpec.ofChange fieldOpsSpec)) fieldOpsCard

/-- THE SECOND FORM's CARD OF 'attestorlaw01.FieldOrders'. -/
def fieldOrdersUptoCard : Claim7 := { stood := { row := fieldOrdersUptoRow, standIns := [], harness := (true, "25060c0930ef7282a0743e17640c299c6aaa72174bacf15d3bf93797b1e37300"), looks := false }, kinds := [], alts := [], laidByText := true, laidKinds := [.widerDeep], laidTests := true, laidLooks := .later }
def FieldOrdersUptoCardSaid : Prop := Claim7.holds Tryd.pinned (.plain (OpenSpec.upto fieldOrdersSpec)) fieldOrdersUptoCard

/-- THE SECOND FORM's CARD OF 'attestorlaw01.FieldLists'. -/
def fieldListsUptoCard : Claim7 := { stood := { row := fieldListsUptoRow, standIns := [], harness := (true, "25060c0930ef7282a0743e17640c299c6aaa72174bacf15d3bf93797b1e37300"), looks := false }, kinds := [], alts := [], laidByText := true, laidKinds := [.widerDeep], laidTests := true, laidLooks := .later }
def FieldListsUptoCardSaid : Prop := Claim7.holds Tryd.pinned (.plain (OpenSpec.upto fieldListsSpec)) fieldListsUptoCard

/-- THE SECOND FORM's CARD OF 'attestorlaw01.FieldRing'. -/
def fieldRingUptoCard : Claim7 := { stood := { row := fieldRingUptoRow, standIns := [], harness := (true, "25060c0930ef7282a0743e17640c299c6aaa72174bacf15d3bf93797b1e37300"), looks := false }, kinds := [], alts := [], laidByText := true, laidKinds := [.widerDeep], laidTests := true, laidLooks := .later }
def FieldRingUptoCardSaid : Prop := Claim7.holds Tryd.pinned (.plain (OpenSpec.upto fieldRingSpec)) fieldRingUptoCard

/-- THE SECOND FORM's CARD OF 'attestorlaw01.FieldSums'. -/
def fieldSumsUptoCard : Claim7 := { stood := { row := fieldSumsUptoRow, standIns := [], harness := (true, "25060c0930ef7282a0743e17640c299c6aaa72174bacf15d3bf93797b1e37300"), looks := false }, kinds := [], alts := [], laidByText := true, laidKinds := [.widerDeep], laidTests := true, laidLooks := .later }
def FieldSumsUptoCardSaid : Prop := Claim7.holds Tryd.pinned (.plain (OpenSpec.upto fieldSumsSpec)) fieldSumsUptoCard

/-- THE SECOND FORM's CARD OF 'attestorlaw01.FieldPowers'. -/
def fieldPowersUptoCard : Claim7 := { stood := { row := fieldPowersUptoRow, standIns := [], harness := (true, "25060c0930ef7282a0743e17640c299c6aaa72174bacf15d3bf93797b1e37300"), looks := false }, kinds := [], alts := [], laidByText := true, laidKinds := [.widerDeep], laidTests := true, laidLooks := .later }
def FieldPowersUptoCardSaid : Prop := Claim7.holds Tryd.pinned (.plain (OpenSpec.upto fieldPowersSpec)) fieldPowersUptoCard

/-- THE SECOND FORM's CARD OF 'attestorlaw01.FieldRoots'. -/
def fieldRootsUptoCard : Claim7 := { stood := { row := fieldRootsUptoRow, standIns := [], harness := (true, "25060c0930ef7282a0743e17640c299c6aaa72174bacf15d3bf93797b1e37300"), looks := false }, kinds := [], alts := [], laidByText := true, laidKinds := [.widerDeep], laidTests := true, laidLooks := .later }
def FieldRootsUptoCardSaid : Prop := Claim7.holds Tryd.pinned (.plain (OpenSpec.upto fieldRootsSpec)) fieldRootsUptoCard

/-- THE SECOND FORM's CARD OF 'attestorlaw01.FieldAll'. -/
def fieldAllUptoCard : Claim7 := { stood := { row := fieldAllUptoRow, standIns := [], harness := (true, "25060c0930ef7282a0743e17640c299c6aaa72174bacf15d3bf93797b1e37300"), looks := false }, kinds := [], alts := [], laidByText := true, laidKinds := [.widerDeep], laidTests := true, laidLooks := .later }
def FieldAllUptoCardSaid : Prop := Claim7.holds Tryd.pinned (.plain (OpenSpec.upto fieldAllSpec)) fieldAllUptoCard

/-- THE SECOND FORM's CARD OF 'attestorlaw01.FieldKnown'. -/
def fieldKnownUptoCard : Claim7 := { stood := { row := fieldKnownUptoRow, standIns := [], harness := (true, "25060c0930ef7282a0743e17640c299c6aaa72174bacf15d3bf93797b1e37300"), looks := false }, kinds := [], alts := [], laidByText := true, laidKinds := [.widerDeep], laidTests := true, laidLooks := .later }
def FieldKnownUptoCardSaid : Prop := Claim7.holds Tryd.pinned (.plain (OpenSpec.upto fieldKnownSpec)) fieldKnownUptoCard

/-- THE SECOND FORM's CARD OF 'attestorlaw01.FieldOps'. -/
def fieldOpsUptoCard : Claim7 := { stood := { row := fieldOpsUptoRow, standIns := [], harness := (true, "25060c0930ef7282a0743e17640c299c6aaa72174bacf15d3bf93797b1e37300"), looks := false }, kinds := [], alts := [], laidByText := true, laidKinds := [.widerDeep], laidTests := true, laidLooks := .later }
def FieldOpsUptoCardSaid : Prop := Claim7.holds Tryd.pinned (.plain (OpenSpec.upto fieldOpsSpec)) fieldOpsUptoCard
end Rows
end Go.Proofs.YtdojfdjokggaiaaDoor
