/-
  DERIVED. GIVEN WITH THE SEED: THE CARDS: each row of YtjfekjblnoagkaaDoorRows.lean that lists a variable, with what it lists TIED to the program's text (the seventh form; the later family's looks); each row that meets fmt, with fmt's text TOLD by the authors' own Lean function (tested against real Go, not proved from fmt's source: count such statements apart). THE CARD IS WHAT COUNTS. Prove the row's statement (the work); the ties are given (YtjfekjblnoagkaaDoorTie.lean); close each card by the builder's one call (the guide's Derived/Test/ToyasCard.lean, 'card_holds'). Laid BY PROGRAM, IN A SANDBOX (cutbox-door.mjs). By AI agents, Wed Nov 11 2026. No macro, syntax, notation, axiom, sorry.
-/
import Derived.Test.YtjfekjblnoagkaaDoorRows
import GoSem.ClaimSeven
namespace Go.Proofs.YtjfekjblnoagkaaDoor
namespace Rows

/-- THE TIED CARD OF 'attestorlaw06.SpongeConstants'. -/
def spongeConstantsCard : Claim7 := { stood := { row := spongeConstantsRow, standIns := [], harness := (true, "49163838b94383c29a4488c30cded33f743e297dacb46d7a72f2bb3215695c8e"), looks := false }, kinds := [], alts := [], laidByText := true, laidKinds := [.widerDeep], laidTests := true, laidLooks := .later }
def SpongeConstantsCardSaid : Prop := Claim7.holds Tryd.pinned (.plain (OpenSpec.ofChange spongeConstantsSpec)) spongeConstantsCard

/-- THE TIED CARD OF 'attestorlaw06.SpongeHashes'. -/
def spongeHashesCard : Claim7 := { stood := { row := spongeHashesRow, standIns := [], harness := (true, "49163838b94383c29a4488c30cded33f743e297dacb46d7a72f2bb3215695c8e"), looks := false }, kinds := [], alts := [], laidByText := true, laidKinds := [.widerDeep], laidTests := true, laidLooks := .later }
def SpongeHashesCardSaid : Prop := Claim7.holds Tryd.pinned (.plain (OpenSpec.ofChange spongeHashesSpec)) spongeHashesCard

/-- THE TIED CARD OF 'attestorlaw06.SpongeRounds'. -/
def spongeRoundsCard : Claim7 := { stood := { row := spongeRoundsRow, standIns := [], harness := (true, "49163838b94383c29a4488c30cded33f743e297dacb46d7a72f2bb3215695c8e"), looks := false }, kinds := [], alts := [], laidByText := true, laidKinds := [.widerDeep], laidTests := true, laidLooks := .later }
def SpongeRoundsCardSaid : Prop := Claim7.holds Tryd.pinned (.plain (OpenSpec.ofChange spongeRoundsSpec)) spongeRoundsCard

/-- THE TIED CARD OF 'attestorlaw06.SpongeNodes'. -/
def spongeNodesCard : Claim7 := { stood := { row := spongeNodesRow, standIns := [], harness := (true, "49163838b94383c29a4488c30cded33f743e297dacb46d7a72f2bb3215695c8e"), looks := false }, kinds := [], alts := [], laidByText := true, laidKinds := [.widerDeep], laidTests := true, laidLooks := .later }
def SpongeNodesCardSaid : Prop := Claim7.holds Tryd.pinned (.plain (OpenSpec.ofChange spongeNodesSpec)) spongeNodesCard

/-- THE TIED CARD OF 'attestorlaw06.SpongeSteps'. -/
def spongeStepsCard : Claim7 := { stood := { row := spongeStepsRow, standIns := [], harness := (true, "49163838b94383c29a4488c30cded33f743e297dacb46d7a72f2bb3215695c8e"), looks := false }, kinds := [], alts := [], laidByText := true, laidKinds := [.widerDeep], laidTests := true, laidLooks := .later }
def SpongeStepsCardSaid : Prop := Claim7.holds Tryd.pinned (.plain (OpenSpec.ofChange spongeStepsSpec)) spongeStepsCard

/-- THE TIED CARD OF 'attestorlaw06.SpongePerms'. -/
def spongePermsCard : Claim7 := { stood := { row := spongePermsRow, standIns := [], harness := (true, "49163838b94383c29a4488c30cded33f743e297dacb46d7a72f2bb3215695c8e"), looks := false }, kinds := [], alts := [], laidByText := true, laidKinds := [.widerDeep, .data], laidTests := true, laidLooks := .later }
def SpongePermsCardSaid : Prop := Claim7.holds Tryd.pinned (.plain (OpenSpec.ofChange spongePermsSpec)) spongePermsCard

/-- THE TIED CARD OF 'attestorlaw06.SpongeBack'. -/
def spongeBackCard : Claim7 := { stood := { row := spongeBackRow, standIns := [], harness := (true, "49163838b94383c29a4488c30cded33f743e297dacb46d7a72f2bb3215695c8e"), looks := false }, kinds := [], alts := [], laidByText := true, laidKinds := [.widerDeep, .data], laidTests := true, laidLooks := .later }
def SpongeBackCardSaid : Prop := Claim7.holds Tryd.pinned (.plain (OpenSpec.ofChange spongeBackSpec)) spongeBackCard

/-- THE TIED CARD OF 'attestorlaw06.SpongeApart'. -/
def spongeApartCard : Claim7 := { stood := { row := spongeApartRow, standIns := [], harness := (true, "49163838b94383c29a4488c30cded33f743e297dacb46d7a72f2bb3215695c8e"), looks := false }, kinds := [], alts := [], laidByText := true, laidKinds := [.widerDeep, .data], laidTests := true, laidLooks := .later }
def SpongeApartCardSaid : Prop := Claim7.holds Tryd.pinned (.plain (OpenSpec.ofChange spongeApartSpec)) spongeApartCard

/-- THE TIED CARD OF 'attestorlaw06.SpongeKnown'. -/
def spongeKnownCard : Claim7 := { stood := { row := spongeKnownRow, standIns := [], harness := (true, "49163838b94383c29a4488c30cded33f743e297dacb46d7a72f2bb3215695c8e"), looks := false }, kinds := [], alts := [], laidByText := true, laidKinds := [.widerDeep, .data], laidTests := true, laidLooks := .later }
def SpongeKnownCardSaid : Prop := Claim7.holds Tryd.pinned (.plain (OpenSpec.ofChange spongeKnownSpec)) spongeKnownCard

/-- THE SECOND FORM's CARD OF 'attestorlaw06.SpongeConstants'. -/
def spongeConstantsUptoCard : Claim7 := { stood := { row := spongeConstantsUptoRow, standIns := [], harness := (true, "49163838b94383c29a4488c30cded33f743e297dacb46d7a72f2bb3215695c8e"), looks := false }, kinds := [], alts := [], laidByText := true, laidKinds := [.widerDeep], laidTests := true, laidLooks := .later }
def SpongeConstantsUptoCardSaid : Prop := Claim7.holds Tryd.pinned (.plain (OpenSpec.upto spongeConstantsSpec)) spongeConstantsUptoCard

/-- THE SECOND FORM's CARD OF 'attestorlaw06.SpongeHashes'. -/
def spongeHashesUptoCard : Claim7 := { stood := { row := spongeHashesUptoRow, standIns := [], harness := (true, "49163838b94383c29a4488c30cded33f743e297dacb46d7a72f2bb3215695c8e"), looks := false }, kinds := [], alts := [], laidByText := true, laidKinds := [.widerDeep], laidTests := true, laidLooks := .later }
def SpongeHashesUptoCardSaid : Prop := Claim7.holds Tryd.pinned (.plain (OpenSpec.upto spongeHashesSpec)) spongeHashesUptoCard

/-- THE SECOND FORM's CARD OF 'attestorlaw06.SpongeRounds'. -/
def spongeRoundsUptoCard : Claim7 := { stood := { row := spongeRoundsUptoRow, standIns := [], harness := (true, "49163838b94383c29a4488c30cded33f743e297dacb46d7a72f2bb3215695c8e"), looks := false }, kinds := [], alts := [], laidByText := true, laidKinds := [.widerDeep], laidTests := true, laidLooks := .later }
def SpongeRoundsUptoCardSaid : Prop := Claim7.holds Tryd.pinned (.plain (OpenSpec.upto spongeRoundsSpec)) spongeRoundsUptoCard

/-- THE SECOND FORM's CARD OF 'attestorlaw06.SpongeNodes'. -/
def spongeNodesUptoCard : Claim7 := { stood := { row := spongeNodesUptoRow, standIns := [], harness := (true, "49163838b94383c29a4488c30cded33f743e297dacb46d7a72f2bb3215695c8e"), looks := false }, kinds := [], alts := [], laidByText := true, laidKinds := [.widerDeep], laidTests := true, laidLooks := .later }
def SpongeNodesUptoCardSaid : Prop := Claim7.holds Tryd.pinned (.plain (OpenSpec.upto spongeNodesSpec)) spongeNodesUptoCard

/-- THE SECOND FORM's CARD OF 'attestorlaw06.SpongeSteps'. -/
def spongeStepsUptoCard : Claim7 := { stood := { row := spongeStepsUptoRow, standIns := [], harness := (true, "49163838b94383c29a4488c30cded33f743e297dacb46d7a72f2bb3215695c8e"), looks := false }, kinds := [], alts := [], laidByText := true, laidKinds := [.widerDeep], laidTests := true, laidLooks := .later }
def SpongeStepsUptoCardSaid : Prop := Claim7.holds Tryd.pinned (.plain (OpenSpec.upto spongeStepsSpec)) spongeStepsUptoCard

/-- THE SECOND FORM's CARD OF 'attestorlaw06.SpongePerms'. -/
def spongePermsUptoCard : Claim7 := { stood := { row := spongePermsUptoRow, standIns := [], harness := (true, "49163838b94383c29a4488c30cded33f743e297dacb46d7a72f2bb3215695c8e"), looks := false }, kinds := [], alts := [], laidByText := true, laidKinds := [.widerDeep, .data], laidTests := true, laidLooks := .later }
def SpongePermsUptoCardSaid : Prop := Claim7.holds Tryd.pinned (.plain (OpenSpec.upto spongePermsSpec)) spongePermsUptoCard

/-- THE SECOND FORM's CARD OF 'attestorlaw06.SpongeBack'. -/
def spongeBackUptoCard : Claim7 := { stood := { row := spongeBackUptoRow, standIns := [], harness := (true, "49163838b94383c29a4488c30cded33f743e297dacb46d7a72f2bb3215695c8e"), looks := false }, kinds := [], alts := [], laidByText := true, laidKinds := [.widerDeep, .data], laidTests := true, laidLooks := .later }
def SpongeBackUptoCardSaid : Prop := Claim7.holds Tryd.pinned (.plain (OpenSpec.upto spongeBackSpec)) spongeBackUptoCard

/-- THE SECOND FORM's CARD OF 'attestorlaw06.SpongeApart'. -/
def spongeApartUptoCard : Claim7 := { stood := { row := spongeApartUptoRow, standIns := [], harness := (true, "49163838b94383c29a4488c30cded33f743e297dacb46d7a72f2bb3215695c8e"), looks := false }, kinds := [], alts := [], laidByText := true, laidKinds := [.widerDeep, .data], laidTests := true, laidLooks := .later }
def SpongeApartUptoCardSaid : Prop := Claim7.holds Tryd.pinned (.plain (OpenSpec.upto spongeApartSpec)) spongeApartUptoCard

/-- THE SECOND FORM's CARD OF 'attestorlaw06.SpongeKnown'. -/
def spongeKnownUptoCard : Claim7 := { stood := { row := spongeKnownUptoRow, standIns := [], harness := (true, "49163838b94383c29a4488c30cded33f743e297dacb46d7a72f2bb3215695c8e"), looks := false }, kinds := [], alts := [], laidByText := true, laidKinds := [.widerDeep, .data], laidTests := true, laidLooks := .later }
def SpongeKnownUptoCardSaid : Prop := Claim7.holds Tryd.pinned (.plain (OpenSpec.upto spongeKnownSpec)) spongeKnownUptoCard
end Rows
end Go.Proofs.YtjfekjblnoagkaaDoor
