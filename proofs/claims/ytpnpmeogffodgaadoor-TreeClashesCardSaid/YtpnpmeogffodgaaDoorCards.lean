/-
  DERIVED. GIVEN WITH THE SEED: THE CARDS: each row of YtpnpmeogffodgaaDoorRows.lean that lists a variable, with what it lists TIED to the program's text (the seventh form; the later family's looks); each row that meets fmt, with fmt's text TOLD by the authors' own Lean function (tested against real Go, not proved from fmt's source: count such statements apart). THE CARD IS WHAT COUNTS. Prove the row's statement (the work); the ties are given (YtpnpmeogffodgaaDoorTie.lean); close each card by the builder's one call (the guide's Derived/Test/ToyasCard.lean, 'card_holds'). Laid BY PROGRAM, IN A SANDBOX (cutbox-door.mjs). By AI agents, Wed Nov 11 2026. No macro, syntax, notation, axiom, sorry.
-/
import Derived.Test.YtpnpmeogffodgaaDoorRows
import GoSem.ClaimSeven
namespace Go.Proofs.YtpnpmeogffodgaaDoor
namespace Rows

/-- THE TIED CARD OF 'attestorlaw07.TreeBuilds'. -/
def treeBuildsCard : Claim7 := { stood := { row := treeBuildsRow, standIns := [], harness := (true, "478d7b01f41daa04286dab56f07dbb2029a09c9bac70ac24a59c8eb39c113c76"), looks := false }, kinds := [], alts := [], laidByText := true, laidKinds := [.widerDeep, .data, .data], laidTests := true, laidLooks := .later }
def TreeBuildsCardSaid : Prop := Claim7.holds Tryd.pinned (.plain (OpenSpec.ofChange treeBuildsSpec)) treeBuildsCard

/-- THE TIED CARD OF 'attestorlaw07.TreeCaps'. -/
def treeCapsCard : Claim7 := { stood := { row := treeCapsRow, standIns := [], harness := (true, "478d7b01f41daa04286dab56f07dbb2029a09c9bac70ac24a59c8eb39c113c76"), looks := false }, kinds := [], alts := [], laidByText := true, laidKinds := [.widerDeep, .data, .data], laidTests := true, laidLooks := .later }
def TreeCapsCardSaid : Prop := Claim7.holds Tryd.pinned (.plain (OpenSpec.ofChange treeCapsSpec)) treeCapsCard

/-- THE TIED CARD OF 'attestorlaw07.TreeChecks'. -/
def treeChecksCard : Claim7 := { stood := { row := treeChecksRow, standIns := [], harness := (true, "478d7b01f41daa04286dab56f07dbb2029a09c9bac70ac24a59c8eb39c113c76"), looks := false }, kinds := [], alts := [], laidByText := true, laidKinds := [.widerDeep, .data, .data], laidTests := true, laidLooks := .later }
def TreeChecksCardSaid : Prop := Claim7.holds Tryd.pinned (.plain (OpenSpec.ofChange treeChecksSpec)) treeChecksCard

/-- THE TIED CARD OF 'attestorlaw07.TreeOpens'. -/
def treeOpensCard : Claim7 := { stood := { row := treeOpensRow, standIns := [], harness := (true, "478d7b01f41daa04286dab56f07dbb2029a09c9bac70ac24a59c8eb39c113c76"), looks := false }, kinds := [], alts := [], laidByText := true, laidKinds := [.widerDeep, .data, .data], laidTests := true, laidLooks := .later }
def TreeOpensCardSaid : Prop := Claim7.holds Tryd.pinned (.plain (OpenSpec.ofChange treeOpensSpec)) treeOpensCard

/-- THE TIED CARD OF 'attestorlaw07.TreeClashes'. -/
def treeClashesCard : Claim7 := { stood := { row := treeClashesRow, standIns := [], harness := (true, "478d7b01f41daa04286dab56f07dbb2029a09c9bac70ac24a59c8eb39c113c76"), looks := false }, kinds := [], alts := [], laidByText := true, laidKinds := [.widerDeep, .data, .data], laidTests := true, laidLooks := .later }
def TreeClashesCardSaid : Prop := Claim7.holds Tryd.pinned (.plain (OpenSpec.ofChange treeClashesSpec)) treeClashesCard

/-- THE TIED CARD OF 'attestorlaw07.TreePaths'. -/
def treePathsCard : Claim7 := { stood := { row := treePathsRow, standIns := [], harness := (true, "478d7b01f41daa04286dab56f07dbb2029a09c9bac70ac24a59c8eb39c113c76"), looks := false }, kinds := [], alts := [], laidByText := true, laidKinds := [.widerDeep, .data, .data], laidTests := true, laidLooks := .later }
def TreePathsCardSaid : Prop := Claim7.holds Tryd.pinned (.plain (OpenSpec.ofChange treePathsSpec)) treePathsCard

/-- THE TIED CARD OF 'attestorlaw07.TreeReplaces'. -/
def treeReplacesCard : Claim7 := { stood := { row := treeReplacesRow, standIns := [], harness := (true, "478d7b01f41daa04286dab56f07dbb2029a09c9bac70ac24a59c8eb39c113c76"), looks := false }, kinds := [], alts := [], laidByText := true, laidKinds := [.widerDeep, .data, .data], laidTests := true, laidLooks := .later }
def TreeReplacesCardSaid : Prop := Claim7.holds Tryd.pinned (.plain (OpenSpec.ofChange treeReplacesSpec)) treeReplacesCard

/-- THE TIED CARD OF 'attestorlaw07.TreeBinds'. -/
def treeBindsCard : Claim7 := { stood := { row := treeBindsRow, standIns := [], harness := (true, "478d7b01f41daa04286dab56f07dbb2029a09c9bac70ac24a59c8eb39c113c76"), looks := false }, kinds := [], alts := [], laidByText := true, laidKinds := [.widerDeep, .data, .data], laidTests := true, laidLooks := .later }
def TreeBindsCardSaid : Prop := Claim7.holds Tryd.pinned (.plain (OpenSpec.ofChange treeBindsSpec)) treeBindsCard

/-- THE TIED CARD OF 'attestorlaw07.TreeKnown'. -/
def treeKnownCard : Claim7 := { stood := { row := treeKnownRow, standIns := [], harness := (true, "478d7b01f41daa04286dab56f07dbb2029a09c9bac70ac24a59c8eb39c113c76"), looks := false }, kinds := [], alts := [], laidByText := true, laidKinds := [.widerDeep, .data, .data], laidTests := true, laidLooks := .later }
def TreeKnownCardSaid : Prop := Claim7.holds Tryd.pinned (.plain (OpenSpec.ofChange treeKnownSpec)) treeKnownCard

/-- THE SECOND FORM's CARD OF 'attestorlaw07.TreeBuilds'. -/
def treeBuildsUptoCard : Claim7 := { stood := { row := treeBuildsUptoRow, standIns := [], harness := (true, "478d7b01f41daa04286dab56f07dbb2029a09c9bac70ac24a59c8eb39c113c76"), looks := false }, kinds := [], alts := [], laidByText := true, laidKinds := [.widerDeep, .data, .data], laidTests := true, laidLooks := .later }
def TreeBuildsUptoCardSaid : Prop := Claim7.holds Tryd.pinned (.plain (OpenSpec.upto treeBuildsSpec)) treeBuildsUptoCard

/-- THE SECOND FORM's CARD OF 'attestorlaw07.TreeCaps'. -/
def treeCapsUptoCard : Claim7 := { stood := { row := treeCapsUptoRow, standIns := [], harness := (true, "478d7b01f41daa04286dab56f07dbb2029a09c9bac70ac24a59c8eb39c113c76"), looks := false }, kinds := [], alts := [], laidByText := true, laidKinds := [.widerDeep, .data, .data], laidTests := true, laidLooks := .later }
def TreeCapsUptoCardSaid : Prop := Claim7.holds Tryd.pinned (.plain (OpenSpec.upto treeCapsSpec)) treeCapsUptoCard

/-- THE SECOND FORM's CARD OF 'attestorlaw07.TreeChecks'. -/
def treeChecksUptoCard : Claim7 := { stood := { row := treeChecksUptoRow, standIns := [], harness := (true, "478d7b01f41daa04286dab56f07dbb2029a09c9bac70ac24a59c8eb39c113c76"), looks := false }, kinds := [], alts := [], laidByText := true, laidKinds := [.widerDeep, .data, .data], laidTests := true, laidLooks := .later }
def TreeChecksUptoCardSaid : Prop := Claim7.holds Tryd.pinned (.plain (OpenSpec.upto treeChecksSpec)) treeChecksUptoCard

/-- THE SECOND FORM's CARD OF 'attestorlaw07.TreeOpens'. -/
def treeOpensUptoCard : Claim7 := { stood := { row := treeOpensUptoRow, standIns := [], harness := (true, "478d7b01f41daa04286dab56f07dbb2029a09c9bac70ac24a59c8eb39c113c76"), looks := false }, kinds := [], alts := [], laidByText := true, laidKinds := [.widerDeep, .data, .data], laidTests := true, laidLooks := .later }
def TreeOpensUptoCardSaid : Prop := Claim7.holds Tryd.pinned (.plain (OpenSpec.upto treeOpensSpec)) treeOpensUptoCard

/-- THE SECOND FORM's CARD OF 'attestorlaw07.TreeClashes'. -/
def treeClashesUptoCard : Claim7 := { stood := { row := treeClashesUptoRow, standIns := [], harness := (true, "478d7b01f41daa04286dab56f07dbb2029a09c9bac70ac24a59c8eb39c113c76"), looks := false }, kinds := [], alts := [], laidByText := true, laidKinds := [.widerDeep, .data, .data], laidTests := true, laidLooks := .later }
def TreeClashesUptoCardSaid : Prop := Claim7.holds Tryd.pinned (.plain (OpenSpec.upto treeClashesSpec)) treeClashesUptoCard

/-- THE SECOND FORM's CARD OF 'attestorlaw07.TreePaths'. -/
def treePathsUptoCard : Claim7 := { stood := { row := treePathsUptoRow, standIns := [], harness := (true, "478d7b01f41daa04286dab56f07dbb2029a09c9bac70ac24a59c8eb39c113c76"), looks := false }, kinds := [], alts := [], laidByText := true, laidKinds := [.widerDeep, .data, .data], laidTests := true, laidLooks := .later }
def TreePathsUptoCardSaid : Prop := Claim7.holds Tryd.pinned (.plain (OpenSpec.upto treePathsSpec)) treePathsUptoCard

/-- THE SECOND FORM's CARD OF 'attestorlaw07.TreeReplaces'. -/
def treeReplacesUptoCard : Claim7 := { stood := { row := treeReplacesUptoRow, standIns := [], harness := (true, "478d7b01f41daa04286dab56f07dbb2029a09c9bac70ac24a59c8eb39c113c76"), looks := false }, kinds := [], alts := [], laidByText := true, laidKinds := [.widerDeep, .data, .data], laidTests := true, laidLooks := .later }
def TreeReplacesUptoCardSaid : Prop := Claim7.holds Tryd.pinned (.plain (OpenSpec.upto treeReplacesSpec)) treeReplacesUptoCard

/-- THE SECOND FORM's CARD OF 'attestorlaw07.TreeBinds'. -/
def treeBindsUptoCard : Claim7 := { stood := { row := treeBindsUptoRow, standIns := [], harness := (true, "478d7b01f41daa04286dab56f07dbb2029a09c9bac70ac24a59c8eb39c113c76"), looks := false }, kinds := [], alts := [], laidByText := true, laidKinds := [.widerDeep, .data, .data], laidTests := true, laidLooks := .later }
def TreeBindsUptoCardSaid : Prop := Claim7.holds Tryd.pinned (.plain (OpenSpec.upto treeBindsSpec)) treeBindsUptoCard

/-- THE SECOND FORM's CARD OF 'attestorlaw07.TreeKnown'. -/
def treeKnownUptoCard : Claim7 := { stood := { row := treeKnownUptoRow, standIns := [], harness := (true, "478d7b01f41daa04286dab56f07dbb2029a09c9bac70ac24a59c8eb39c113c76"), looks := false }, kinds := [], alts := [], laidByText := true, laidKinds := [.widerDeep, .data, .data], laidTests := true, laidLooks := .later }
def TreeKnownUptoCardSaid : Prop := Claim7.holds Tryd.pinned (.plain (OpenSpec.upto treeKnownSpec)) treeKnownUptoCard
end Rows
end Go.Proofs.YtpnpmeogffodgaaDoor
