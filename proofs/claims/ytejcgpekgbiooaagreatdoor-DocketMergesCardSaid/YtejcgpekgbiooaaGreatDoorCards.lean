/-
  DERIVED. GIVEN WITH THE SEED: THE CARDS: each row of YtejcgpekgbiooaaGreatDoorRows.lean that lists a variable, with what it lists TIED to the program's text (the seventh form; the later family's looks); each row that meets fmt, with fmt's text TOLD by the authors' own Lean function (tested against real Go, not proved from fmt's source: count such statements apart). THE CARD IS WHAT COUNTS. Prove the row's statement (the work); the ties are given (YtejcgpekgbiooaaGreatDoorTie.lean); close each card by the builder's one call (the guide's Derived/Test/ToyasCard.lean, 'card_holds'). Laid BY PROGRAM, IN A SANDBOX (cutbox-door.mjs). By AI agents, Wed Nov 11 2026. No macro, syntax, notation, axiom, sorry.
-/
import Derived.Test.YtejcgpekgbiooaaGreatDoorRows
import GoSem.ClaimSeven
namespace Go.Proofs.YtejcgpekgbiooaaGreatDoor
namespace Rows

/-- THE TIED CARD OF 'lampblacklaw12.DocketCards'. -/
def docketCardsCard : Claim7 := { stood := { row := docketCardsRow, standIns := [], harness := (true, "b16e5cb346b065c4db0392c113531ca23deb6e839f9963125cbead11609664b1"), looks := true }, kinds := [], alts := [], laidByText := true, laidKinds := [.data, .data, .data, .data, .sentinel, .sentinel, .pinned], laidTests := true, laidLooks := .later }
def DocketCardsCardSaid : Prop := Claim7.holds Tryz.pinned (.plain (OpenSpec.ofChange docketCardsSpec)) docketCardsCard

/-- THE TIED CARD OF 'lampblacklaw12.DocketReplays'. -/
def docketReplaysCard : Claim7 := { stood := { row := docketReplaysRow, standIns := [], harness := (true, "b16e5cb346b065c4db0392c113531ca23deb6e839f9963125cbead11609664b1"), looks := true }, kinds := [], alts := [], laidByText := true, laidKinds := [.data, .data, .data, .data, .sentinel, .sentinel, .pinned], laidTests := true, laidLooks := .later }
def DocketReplaysCardSaid : Prop := Claim7.holds Tryz.pinned (.plain (OpenSpec.ofChange docketReplaysSpec)) docketReplaysCard

/-- THE TIED CARD OF 'lampblacklaw12.DocketOrders'. -/
def docketOrdersCard : Claim7 := { stood := { row := docketOrdersRow, standIns := [], harness := (true, "b16e5cb346b065c4db0392c113531ca23deb6e839f9963125cbead11609664b1"), looks := true }, kinds := [], alts := [], laidByText := true, laidKinds := [.data, .data, .data, .data, .sentinel, .sentinel, .pinned], laidTests := true, laidLooks := .later }
def DocketOrdersCardSaid : Prop := Claim7.holds Tryz.pinned (.plain (OpenSpec.ofChange docketOrdersSpec)) docketOrdersCard

/-- THE TIED CARD OF 'lampblacklaw12.DocketFiles'. -/
def docketFilesCard : Claim7 := { stood := { row := docketFilesRow, standIns := [], harness := (true, "b16e5cb346b065c4db0392c113531ca23deb6e839f9963125cbead11609664b1"), looks := true }, kinds := [], alts := [], laidByText := true, laidKinds := [.data, .data, .data, .data, .sentinel, .sentinel, .pinned], laidTests := true, laidLooks := .later }
def DocketFilesCardSaid : Prop := Claim7.holds Tryz.pinned (.plain (OpenSpec.ofChange docketFilesSpec)) docketFilesCard

/-- THE TIED CARD OF 'lampblacklaw12.DocketOne'. -/
def docketOneCard : Claim7 := { stood := { row := docketOneRow, standIns := [], harness := (true, "b16e5cb346b065c4db0392c113531ca23deb6e839f9963125cbead11609664b1"), looks := true }, kinds := [], alts := [], laidByText := true, laidKinds := [.data, .data, .data, .data, .sentinel, .sentinel, .pinned], laidTests := true, laidLooks := .later }
def DocketOneCardSaid : Prop := Claim7.holds Tryz.pinned (.plain (OpenSpec.ofChange docketOneSpec)) docketOneCard

/-- THE TIED CARD OF 'lampblacklaw12.DocketRounds'. -/
def docketRoundsCard : Claim7 := { stood := { row := docketRoundsRow, standIns := [], harness := (true, "b16e5cb346b065c4db0392c113531ca23deb6e839f9963125cbead11609664b1"), looks := true }, kinds := [], alts := [], laidByText := true, laidKinds := [.data, .data, .data, .data, .sentinel, .sentinel, .pinned], laidTests := true, laidLooks := .later }
def DocketRoundsCardSaid : Prop := Claim7.holds Tryz.pinned (.plain (OpenSpec.ofChange docketRoundsSpec)) docketRoundsCard

/-- THE TIED CARD OF 'lampblacklaw12.DocketDiffer'. -/
def docketDifferCard : Claim7 := { stood := { row := docketDifferRow, standIns := [], harness := (true, "b16e5cb346b065c4db0392c113531ca23deb6e839f9963125cbead11609664b1"), looks := true }, kinds := [], alts := [], laidByText := true, laidKinds := [.data, .data, .data, .data, .sentinel, .sentinel, .pinned], laidTests := true, laidLooks := .later }
def DocketDifferCardSaid : Prop := Claim7.holds Tryz.pinned (.plain (OpenSpec.ofChange docketDifferSpec)) docketDifferCard

/-- THE TIED CARD OF 'lampblacklaw12.DocketPast'. -/
def docketPastCard : Claim7 := { stood := { row := docketPastRow, standIns := [], harness := (true, "b16e5cb346b065c4db0392c113531ca23deb6e839f9963125cbead11609664b1"), looks := true }, kinds := [], alts := [], laidByText := true, laidKinds := [.data, .data, .data, .data, .sentinel, .sentinel, .pinned], laidTests := true, laidLooks := .later }
def DocketPastCardSaid : Prop := Claim7.holds Tryz.pinned (.plain (OpenSpec.ofChange docketPastSpec)) docketPastCard

/-- THE TIED CARD OF 'lampblacklaw12.DocketFiled'. -/
def docketFiledCard : Claim7 := { stood := { row := docketFiledRow, standIns := [], harness := (true, "b16e5cb346b065c4db0392c113531ca23deb6e839f9963125cbead11609664b1"), looks := true }, kinds := [], alts := [], laidByText := true, laidKinds := [.data, .data, .data, .data, .sentinel, .sentinel, .pinned], laidTests := true, laidLooks := .later }
def DocketFiledCardSaid : Prop := Claim7.holds Tryz.pinned (.plain (OpenSpec.ofChange docketFiledSpec)) docketFiledCard

/-- THE TIED CARD OF 'lampblacklaw12.DocketMerges'. -/
def docketMergesCard : Claim7 := { stood := { row := docketMergesRow, standIns := [], harness := (true, "b16e5cb346b065c4db0392c113531ca23deb6e839f9963125cbead11609664b1"), looks := true }, kinds := [], alts := [], laidByText := true, laidKinds := [.data, .data, .data, .data, .sentinel, .sentinel, .pinned], laidTests := true, laidLooks := .later }
def DocketMergesCardSaid : Prop := Claim7.holds Tryz.pinned (.plain (OpenSpec.ofChange docketMergesSpec)) docketMergesCard

/-- THE TIED CARD OF 'lampblacklaw12.DocketMerged'. -/
def docketMergedCard : Claim7 := { stood := { row := docketMergedRow, standIns := [], harness := (true, "b16e5cb346b065c4db0392c113531ca23deb6e839f9963125cbead11609664b1"), looks := true }, kinds := [], alts := [], laidByText := true, laidKinds := [.data, .data, .data, .data, .sentinel, .sentinel, .pinned], laidTests := true, laidLooks := .later }
def DocketMergedCardSaid : Prop := Claim7.holds Tryz.pinned (.plain (OpenSpec.ofChange docketMergedSpec)) docketMergedCard

/-- THE TIED CARD OF 'lampblacklaw12.DocketKnown'. -/
def docketKnownCard : Claim7 := { stood := { row := docketKnownRow, standIns := [], harness := (true, "b16e5cb346b065c4db0392c113531ca23deb6e839f9963125cbead11609664b1"), looks := true }, kinds := [], alts := [], laidByText := true, laidKinds := [.data, .data, .data, .data, .sentinel, .sentinel, .pinned], laidTests := true, laidLooks := .later }
def DocketKnownCardSaid : Prop := Claim7.holds Tryz.pinned (.plain (OpenSpec.ofChange docketKnownSpec)) docketKnownCard

/-- THE SECOND FORM's CARD OF 'lampblacklaw12.DocketCards'. -/
def docketCardsUptoCard : Claim7 := { stood := { row := docketCardsUptoRow, standIns := [], harness := (true, "b16e5cb346b065c4db0392c113531ca23deb6e839f9963125cbead11609664b1"), looks := true }, kinds := [], alts := [], laidByText := true, laidKinds := [.data, .data, .data, .data, .sentinel, .sentinel, .pinned], laidTests := true, laidLooks := .later }
def DocketCardsUptoCardSaid : Prop := Claim7.holds Tryz.pinned (.plain (OpenSpec.upto docketCardsSpec)) docketCardsUptoCard

/-- THE SECOND FORM's CARD OF 'lampblacklaw12.DocketReplays'. -/
def docketReplaysUptoCard : Claim7 := { stood := { row := docketReplaysUptoRow, standIns := [], harness := (true, "b16e5cb346b065c4db0392c113531ca23deb6e839f9963125cbead11609664b1"), looks := true }, kinds := [], alts := [], laidByText := true, laidKinds := [.data, .data, .data, .data, .sentinel, .sentinel, .pinned], laidTests := true, laidLooks := .later }
def DocketReplaysUptoCardSaid : Prop := Claim7.holds Tryz.pinned (.plain (OpenSpec.upto docketReplaysSpec)) docketReplaysUptoCard

/-- THE SECOND FORM's CARD OF 'lampblacklaw12.DocketOrders'. -/
def docketOrdersUptoCard : Claim7 := { stood := { row := docketOrdersUptoRow, standIns := [], harness := (true, "b16e5cb346b065c4db0392c113531ca23deb6e839f9963125cbead11609664b1"), looks := true }, kinds := [], alts := [], laidByText := true, laidKinds := [.data, .data, .data, .data, .sentinel, .sentinel, .pinned], laidTests := true, laidLooks := .later }
def DocketOrdersUptoCardSaid : Prop := Claim7.holds Tryz.pinned (.plain (OpenSpec.upto docketOrdersSpec)) docketOrdersUptoCard

/-- THE SECOND FORM's CARD OF 'lampblacklaw12.DocketFiles'. -/
def docketFilesUptoCard : Claim7 := { stood := { row := docketFilesUptoRow, standIns := [], harness := (true, "b16e5cb346b065c4db0392c113531ca23deb6e839f9963125cbead11609664b1"), looks := true }, kinds := [], alts := [], laidByText := true, laidKinds := [.data, .data, .data, .data, .sentinel, .sentinel, .pinned], laidTests := true, laidLooks := .later }
def DocketFilesUptoCardSaid : Prop := Claim7.holds Tryz.pinned (.plain (OpenSpec.upto docketFilesSpec)) docketFilesUptoCard

/-- THE SECOND FORM's CARD OF 'lampblacklaw12.DocketOne'. -/
def docketOneUptoCard : Claim7 := { stood := { row := docketOneUptoRow, standIns := [], harness := (true, "b16e5cb346b065c4db0392c113531ca23deb6e839f9963125cbead11609664b1"), looks := true }, kinds := [], alts := [], laidByText := true, laidKinds := [.data, .data, .data, .data, .sentinel, .sentinel, .pinned], laidTests := true, laidLooks := .later }
def DocketOneUptoCardSaid : Prop := Claim7.holds Tryz.pinned (.plain (OpenSpec.upto docketOneSpec)) docketOneUptoCard

/-- THE SECOND FORM's CARD OF 'lampblacklaw12.DocketRounds'. -/
def docketRoundsUptoCard : Claim7 := { stood := { row := docketRoundsUptoRow, standIns := [], harness := (true, "b16e5cb346b065c4db0392c113531ca23deb6e839f9963125cbead11609664b1"), looks := true }, kinds := [], alts := [], laidByText := true, laidKinds := [.data, .data, .data, .data, .sentinel, .sentinel, .pinned], laidTests := true, laidLooks := .later }
def DocketRoundsUptoCardSaid : Prop := Claim7.holds Tryz.pinned (.plain (OpenSpec.upto docketRoundsSpec)) docketRoundsUptoCard

/-- THE SECOND FORM's CARD OF 'lampblacklaw12.DocketDiffer'. -/
def docketDifferUptoCard : Claim7 := { stood := { row := docketDifferUptoRow, standIns := [], harness := (true, "b16e5cb346b065c4db0392c113531ca23deb6e839f9963125cbead11609664b1"), looks := true }, kinds := [], alts := [], laidByText := true, laidKinds := [.data, .data, .data, .data, .sentinel, .sentinel, .pinned], laidTests := true, laidLooks := .later }
def DocketDifferUptoCardSaid : Prop := Claim7.holds Tryz.pinned (.plain (OpenSpec.upto docketDifferSpec)) docketDifferUptoCard

/-- THE SECOND FORM's CARD OF 'lampblacklaw12.DocketPast'. -/
def docketPastUptoCard : Claim7 := { stood := { row := docketPastUptoRow, standIns := [], harness := (true, "b16e5cb346b065c4db0392c113531ca23deb6e839f9963125cbead11609664b1"), looks := true }, kinds := [], alts := [], laidByText := true, laidKinds := [.data, .data, .data, .data, .sentinel, .sentinel, .pinned], laidTests := true, laidLooks := .later }
def DocketPastUptoCardSaid : Prop := Claim7.holds Tryz.pinned (.plain (OpenSpec.upto docketPastSpec)) docketPastUptoCard

/-- THE SECOND FORM's CARD OF 'lampblacklaw12.DocketFiled'. -/
def docketFiledUptoCard : Claim7 := { stood := { row := docketFiledUptoRow, standIns := [], harness := (true, "b16e5cb346b065c4db0392c113531ca23deb6e839f9963125cbead11609664b1"), looks := true }, kinds := [], alts := [], laidByText := true, laidKinds := [.data, .data, .data, .data, .sentinel, .sentinel, .pinned], laidTests := true, laidLooks := .later }
def DocketFiledUptoCardSaid : Prop := Claim7.holds Tryz.pinned (.plain (OpenSpec.upto docketFiledSpec)) docketFiledUptoCard

/-- THE SECOND FORM's CARD OF 'lampblacklaw12.DocketMerges'. -/
def docketMergesUptoCard : Claim7 := { stood := { row := docketMergesUptoRow, standIns := [], harness := (true, "b16e5cb346b065c4db0392c113531ca23deb6e839f9963125cbead11609664b1"), looks := true }, kinds := [], alts := [], laidByText := true, laidKinds := [.data, .data, .data, .data, .sentinel, .sentinel, .pinned], laidTests := true, laidLooks := .later }
def DocketMergesUptoCardSaid : Prop := Claim7.holds Tryz.pinned (.plain (OpenSpec.upto docketMergesSpec)) docketMergesUptoCard

/-- THE SECOND FORM's CARD OF 'lampblacklaw12.DocketMerged'. -/
def docketMergedUptoCard : Claim7 := { stood := { row := docketMergedUptoRow, standIns := [], harness := (true, "b16e5cb346b065c4db0392c113531ca23deb6e839f9963125cbead11609664b1"), looks := true }, kinds := [], alts := [], laidByText := true, laidKinds := [.data, .data, .data, .data, .sentinel, .sentinel, .pinned], laidTests := true, laidLooks := .later }
def DocketMergedUptoCardSaid : Prop := Claim7.holds Tryz.pinned (.plain (OpenSpec.upto docketMergedSpec)) docketMergedUptoCard

/-- THE SECOND FORM's CARD OF 'lampblacklaw12.DocketKnown'. -/
def docketKnownUptoCard : Claim7 := { stood := { row := docketKnownUptoRow, standIns := [], harness := (true, "b16e5cb346b065c4db0392c113531ca23deb6e839f9963125cbead11609664b1"), looks := true }, kinds := [], alts := [], laidByText := true, laidKinds := [.data, .data, .data, .data, .sentinel, .sentinel, .pinned], laidTests := true, laidLooks := .later }
def DocketKnownUptoCardSaid : Prop := Claim7.holds Tryz.pinned (.plain (OpenSpec.upto docketKnownSpec)) docketKnownUptoCard
end Rows
end Go.Proofs.YtejcgpekgbiooaaGreatDoor
