/-
  DERIVED. GIVEN WITH THE SEED: THE CARDS: each row of YtkailiemikjfbaaDoorRows.lean that lists a variable, with what it lists TIED to the program's text (the seventh form; the later family's looks); each row that meets fmt, with fmt's text TOLD by the authors' own Lean function (tested against real Go, not proved from fmt's source: count such statements apart). THE CARD IS WHAT COUNTS. Prove the row's statement (the work); the ties are given (YtkailiemikjfbaaDoorTie.lean); close each card by the builder's one call (the guide's Derived/Test/ToyasCard.lean, 'card_holds'). Laid BY PROGRAM, IN A SANDBOX (cutbox-door.mjs). By AI agents, Wed Nov 11 2026. No macro, syntax, notation, axiom, sorry.
-/
import Derived.Test.YtkailiemikjfbaaDoorRows
import GoSem.ClaimSeven
namespace Go.Proofs.YtkailiemikjfbaaDoor
namespace Rows

/-- THE TIED CARD OF 'attestorlaw08.ChannelDraws'. -/
def channelDrawsCard : Claim7 := { stood := { row := channelDrawsRow, standIns := [], harness := (true, "6bbe9f482f6fa77c0e518625f4eec01ca1db20fffad7dbaf59180eb2bb674698"), looks := false }, kinds := [], alts := [], laidByText := true, laidKinds := [.widerDeep], laidTests := true, laidLooks := .later }
def ChannelDrawsCardSaid : Prop := Claim7.holds Tryd.pinned (.plain (OpenSpec.ofChange channelDrawsSpec)) channelDrawsCard

/-- THE TIED CARD OF 'attestorlaw08.ChannelGrinds'. -/
def channelGrindsCard : Claim7 := { stood := { row := channelGrindsRow, standIns := [], harness := (true, "6bbe9f482f6fa77c0e518625f4eec01ca1db20fffad7dbaf59180eb2bb674698"), looks := false }, kinds := [], alts := [], laidByText := true, laidKinds := [.widerDeep], laidTests := true, laidLooks := .later }
def ChannelGrindsCardSaid : Prop := Claim7.holds Tryd.pinned (.plain (OpenSpec.ofChange channelGrindsSpec)) channelGrindsCard

/-- THE TIED CARD OF 'attestorlaw08.ChannelApart'. -/
def channelApartCard : Claim7 := { stood := { row := channelApartRow, standIns := [], harness := (true, "6bbe9f482f6fa77c0e518625f4eec01ca1db20fffad7dbaf59180eb2bb674698"), looks := false }, kinds := [], alts := [], laidByText := true, laidKinds := [.widerDeep], laidTests := true, laidLooks := .later }
def ChannelApartCardSaid : Prop := Claim7.holds Tryd.pinned (.plain (OpenSpec.ofChange channelApartSpec)) channelApartCard

/-- THE TIED CARD OF 'attestorlaw08.ChannelLeast'. -/
def channelLeastCard : Claim7 := { stood := { row := channelLeastRow, standIns := [], harness := (true, "6bbe9f482f6fa77c0e518625f4eec01ca1db20fffad7dbaf59180eb2bb674698"), looks := false }, kinds := [], alts := [], laidByText := true, laidKinds := [.widerDeep], laidTests := true, laidLooks := .later }
def ChannelLeastCardSaid : Prop := Claim7.holds Tryd.pinned (.plain (OpenSpec.ofChange channelLeastSpec)) channelLeastCard

/-- THE TIED CARD OF 'attestorlaw08.ChannelPositions'. -/
def channelPositionsCard : Claim7 := { stood := { row := channelPositionsRow, standIns := [], harness := (true, "6bbe9f482f6fa77c0e518625f4eec01ca1db20fffad7dbaf59180eb2bb674698"), looks := false }, kinds := [], alts := [], laidByText := true, laidKinds := [.widerDeep], laidTests := true, laidLooks := .later }
def ChannelPositionsCardSaid : Prop := Claim7.holds Tryd.pinned (.plain (OpenSpec.ofChange channelPositionsSpec)) channelPositionsCard

/-- THE TIED CARD OF 'attestorlaw08.ChannelKnown'. -/
def channelKnownCard : Claim7 := { stood := { row := channelKnownRow, standIns := [], harness := (true, "6bbe9f482f6fa77c0e518625f4eec01ca1db20fffad7dbaf59180eb2bb674698"), looks := false }, kinds := [], alts := [], laidByText := true, laidKinds := [.widerDeep], laidTests := true, laidLooks := .later }
def ChannelKnownCardSaid : Prop := Claim7.holds Tryd.pinned (.plain (OpenSpec.ofChange channelKnownSpec)) channelKnownCard

/-- THE TIED CARD OF 'attestorlaw08.ChannelOrder'. -/
def channelOrderCard : Claim7 := { stood := { row := channelOrderRow, standIns := [], harness := (true, "6bbe9f482f6fa77c0e518625f4eec01ca1db20fffad7dbaf59180eb2bb674698"), looks := false }, kinds := [], alts := [], laidByText := true, laidKinds := [.widerDeep], laidTests := true, laidLooks := .later }
def ChannelOrderCardSaid : Prop := Claim7.holds Tryd.pinned (.plain (OpenSpec.ofChange channelOrderSpec)) channelOrderCard

/-- THE SECOND FORM's CARD OF 'attestorlaw08.ChannelDraws'. -/
def channelDrawsUptoCard : Claim7 := { stood := { row := channelDrawsUptoRow, standIns := [], harness := (true, "6bbe9f482f6fa77c0e518625f4eec01ca1db20fffad7dbaf59180eb2bb674698"), looks := false }, kinds := [], alts := [], laidByText := true, laidKinds := [.widerDeep], laidTests := true, laidLooks := .later }
def ChannelDrawsUptoCardSaid : Prop := Claim7.holds Tryd.pinned (.plain (OpenSpec.upto channelDrawsSpec)) channelDrawsUptoCard

/-- THE SECOND FORM's CARD OF 'attestorlaw08.ChannelGrinds'. -/
def channelGrindsUptoCard : Claim7 := { stood := { row := channelGrindsUptoRow, standIns := [], harness := (true, "6bbe9f482f6fa77c0e518625f4eec01ca1db20fffad7dbaf59180eb2bb674698"), looks := false }, kinds := [], alts := [], laidByText := true, laidKinds := [.widerDeep], laidTests := true, laidLooks := .later }
def ChannelGrindsUptoCardSaid : Prop := Claim7.holds Tryd.pinned (.plain (OpenSpec.upto channelGrindsSpec)) channelGrindsUptoCard

/-- THE SECOND FORM's CARD OF 'attestorlaw08.ChannelApart'. -/
def channelApartUptoCard : Claim7 := { stood := { row := channelApartUptoRow, standIns := [], harness := (true, "6bbe9f482f6fa77c0e518625f4eec01ca1db20fffad7dbaf59180eb2bb674698"), looks := false }, kinds := [], alts := [], laidByText := true, laidKinds := [.widerDeep], laidTests := true, laidLooks := .later }
def ChannelApartUptoCardSaid : Prop := Claim7.holds Tryd.pinned (.plain (OpenSpec.upto channelApartSpec)) channelApartUptoCard

/-- THE SECOND FORM's CARD OF 'attestorlaw08.ChannelLeast'. -/
def channelLeastUptoCard : Claim7 := { stood := { row := channelLeastUptoRow, standIns := [], harness := (true, "6bbe9f482f6fa77c0e518625f4eec01ca1db20fffad7dbaf59180eb2bb674698"), looks := false }, kinds := [], alts := [], laidByText := true, laidKinds := [.widerDeep], laidTests := true, laidLooks := .later }
def ChannelLeastUptoCardSaid : Prop := Claim7.holds Tryd.pinned (.plain (OpenSpec.upto channelLeastSpec)) channelLeastUptoCard

/-- THE SECOND FORM's CARD OF 'attestorlaw08.ChannelPositions'. -/
def channelPositionsUptoCard : Claim7 := { stood := { row := channelPositionsUptoRow, standIns := [], harness := (true, "6bbe9f482f6fa77c0e518625f4eec01ca1db20fffad7dbaf59180eb2bb674698"), looks := false }, kinds := [], alts := [], laidByText := true, laidKinds := [.widerDeep], laidTests := true, laidLooks := .later }
def ChannelPositionsUptoCardSaid : Prop := Claim7.holds Tryd.pinned (.plain (OpenSpec.upto channelPositionsSpec)) channelPositionsUptoCard

/-- THE SECOND FORM's CARD OF 'attestorlaw08.ChannelKnown'. -/
def channelKnownUptoCard : Claim7 := { stood := { row := channelKnownUptoRow, standIns := [], harness := (true, "6bbe9f482f6fa77c0e518625f4eec01ca1db20fffad7dbaf59180eb2bb674698"), looks := false }, kinds := [], alts := [], laidByText := true, laidKinds := [.widerDeep], laidTests := true, laidLooks := .later }
def ChannelKnownUptoCardSaid : Prop := Claim7.holds Tryd.pinned (.plain (OpenSpec.upto channelKnownSpec)) channelKnownUptoCard

/-- THE SECOND FORM's CARD OF 'attestorlaw08.ChannelOrder'. -/
def channelOrderUptoCard : Claim7 := { stood := { row := channelOrderUptoRow, standIns := [], harness := (true, "6bbe9f482f6fa77c0e518625f4eec01ca1db20fffad7dbaf59180eb2bb674698"), looks := false }, kinds := [], alts := [], laidByText := true, laidKinds := [.widerDeep], laidTests := true, laidLooks := .later }
def ChannelOrderUptoCardSaid : Prop := Claim7.holds Tryd.pinned (.plain (OpenSpec.upto channelOrderSpec)) channelOrderUptoCard
end Rows
end Go.Proofs.YtkailiemikjfbaaDoor
