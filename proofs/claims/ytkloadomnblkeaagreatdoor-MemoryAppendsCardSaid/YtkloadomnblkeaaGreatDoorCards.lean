/-
  DERIVED. GIVEN WITH THE SEED: THE CARDS: each row of YtkloadomnblkeaaGreatDoorRows.lean that lists a variable, with what it lists TIED to the program's text (the seventh form; the later family's looks); each row that meets fmt, with fmt's text TOLD by the authors' own Lean function (tested against real Go, not proved from fmt's source: count such statements apart). THE CARD IS WHAT COUNTS. Prove the row's statement (the work); the ties are given (YtkloadomnblkeaaGreatDoorTie.lean); close each card by the builder's one call (the guide's Derived/Test/ToyasCard.lean, 'card_holds'). Laid BY PROGRAM, IN A SANDBOX (cutbox-door.mjs). By AI agents, Wed Nov 11 2026. No macro, syntax, notation, axiom, sorry.
-/
import Derived.Test.YtkloadomnblkeaaGreatDoorRows
import GoSem.ClaimSeven
namespace Go.Proofs.YtkloadomnblkeaaGreatDoor
namespace Rows

/-- THE TIED CARD OF 'strobelaw09.MemoryBuilds'. -/
def memoryBuildsCard : Claim7 := { stood := { row := memoryBuildsRow, standIns := [], harness := (true, "b92acb95501a6ab3a323da7eab3ca000d69f70ca013ac318829e2c2bb8aea44d"), looks := true }, kinds := [], alts := [], laidByText := true, laidKinds := [.data, .data, .data, .data, .sentinel, .sentinel, .pinned], laidTests := true, laidLooks := .later }
def MemoryBuildsCardSaid : Prop := Claim7.holds Tryz.pinned (.plain (OpenSpec.ofChange memoryBuildsSpec)) memoryBuildsCard

/-- THE TIED CARD OF 'strobelaw09.MemoryCovers'. -/
def memoryCoversCard : Claim7 := { stood := { row := memoryCoversRow, standIns := [], harness := (true, "b92acb95501a6ab3a323da7eab3ca000d69f70ca013ac318829e2c2bb8aea44d"), looks := true }, kinds := [], alts := [], laidByText := true, laidKinds := [.data, .data, .data, .data, .sentinel, .sentinel, .pinned], laidTests := true, laidLooks := .later }
def MemoryCoversCardSaid : Prop := Claim7.holds Tryz.pinned (.plain (OpenSpec.ofChange memoryCoversSpec)) memoryCoversCard

/-- THE TIED CARD OF 'strobelaw09.MemoryRanges'. -/
def memoryRangesCard : Claim7 := { stood := { row := memoryRangesRow, standIns := [], harness := (true, "b92acb95501a6ab3a323da7eab3ca000d69f70ca013ac318829e2c2bb8aea44d"), looks := true }, kinds := [], alts := [], laidByText := true, laidKinds := [.data, .data, .data, .data, .sentinel, .sentinel, .pinned], laidTests := true, laidLooks := .later }
def MemoryRangesCardSaid : Prop := Claim7.holds Tryz.pinned (.plain (OpenSpec.ofChange memoryRangesSpec)) memoryRangesCard

/-- THE TIED CARD OF 'strobelaw09.MemorySearches'. -/
def memorySearchesCard : Claim7 := { stood := { row := memorySearchesRow, standIns := [], harness := (true, "b92acb95501a6ab3a323da7eab3ca000d69f70ca013ac318829e2c2bb8aea44d"), looks := true }, kinds := [], alts := [], laidByText := true, laidKinds := [.data, .data, .data, .data, .sentinel, .sentinel, .pinned], laidTests := true, laidLooks := .later }
def MemorySearchesCardSaid : Prop := Claim7.holds Tryz.pinned (.plain (OpenSpec.ofChange memorySearchesSpec)) memorySearchesCard

/-- THE TIED CARD OF 'strobelaw09.MemoryCounts'. -/
def memoryCountsCard : Claim7 := { stood := { row := memoryCountsRow, standIns := [], harness := (true, "b92acb95501a6ab3a323da7eab3ca000d69f70ca013ac318829e2c2bb8aea44d"), looks := true }, kinds := [], alts := [], laidByText := true, laidKinds := [.data, .data, .data, .data, .sentinel, .sentinel, .pinned], laidTests := true, laidLooks := .later }
def MemoryCountsCardSaid : Prop := Claim7.holds Tryz.pinned (.plain (OpenSpec.ofChange memoryCountsSpec)) memoryCountsCard

/-- THE TIED CARD OF 'strobelaw09.MemoryFinds'. -/
def memoryFindsCard : Claim7 := { stood := { row := memoryFindsRow, standIns := [], harness := (true, "b92acb95501a6ab3a323da7eab3ca000d69f70ca013ac318829e2c2bb8aea44d"), looks := true }, kinds := [], alts := [], laidByText := true, laidKinds := [.data, .data, .data, .data, .sentinel, .sentinel, .pinned], laidTests := true, laidLooks := .later }
def MemoryFindsCardSaid : Prop := Claim7.holds Tryz.pinned (.plain (OpenSpec.ofChange memoryFindsSpec)) memoryFindsCard

/-- THE TIED CARD OF 'strobelaw09.MemoryPacks'. -/
def memoryPacksCard : Claim7 := { stood := { row := memoryPacksRow, standIns := [], harness := (true, "b92acb95501a6ab3a323da7eab3ca000d69f70ca013ac318829e2c2bb8aea44d"), looks := true }, kinds := [], alts := [], laidByText := true, laidKinds := [.data, .data, .data, .data, .sentinel, .sentinel, .pinned], laidTests := true, laidLooks := .later }
def MemoryPacksCardSaid : Prop := Claim7.holds Tryz.pinned (.plain (OpenSpec.ofChange memoryPacksSpec)) memoryPacksCard

/-- THE TIED CARD OF 'strobelaw09.MemoryWords'. -/
def memoryWordsCard : Claim7 := { stood := { row := memoryWordsRow, standIns := [], harness := (true, "b92acb95501a6ab3a323da7eab3ca000d69f70ca013ac318829e2c2bb8aea44d"), looks := true }, kinds := [], alts := [], laidByText := true, laidKinds := [.data, .data, .data, .data, .sentinel, .sentinel, .pinned], laidTests := true, laidLooks := .later }
def MemoryWordsCardSaid : Prop := Claim7.holds Tryz.pinned (.plain (OpenSpec.ofChange memoryWordsSpec)) memoryWordsCard

/-- THE TIED CARD OF 'strobelaw09.MemoryEnvelopes'. -/
def memoryEnvelopesCard : Claim7 := { stood := { row := memoryEnvelopesRow, standIns := [], harness := (true, "b92acb95501a6ab3a323da7eab3ca000d69f70ca013ac318829e2c2bb8aea44d"), looks := true }, kinds := [], alts := [], laidByText := true, laidKinds := [.data, .data, .data, .data, .sentinel, .sentinel, .pinned], laidTests := true, laidLooks := .later }
def MemoryEnvelopesCardSaid : Prop := Claim7.holds Tryz.pinned (.plain (OpenSpec.ofChange memoryEnvelopesSpec)) memoryEnvelopesCard

/-- THE TIED CARD OF 'strobelaw09.MemoryParts'. -/
def memoryPartsCard : Claim7 := { stood := { row := memoryPartsRow, standIns := [], harness := (true, "b92acb95501a6ab3a323da7eab3ca000d69f70ca013ac318829e2c2bb8aea44d"), looks := true }, kinds := [], alts := [], laidByText := true, laidKinds := [.data, .data, .data, .data, .sentinel, .sentinel, .pinned], laidTests := true, laidLooks := .later }
def MemoryPartsCardSaid : Prop := Claim7.holds Tryz.pinned (.plain (OpenSpec.ofChange memoryPartsSpec)) memoryPartsCard

/-- THE TIED CARD OF 'strobelaw09.MemoryHits'. -/
def memoryHitsCard : Claim7 := { stood := { row := memoryHitsRow, standIns := [], harness := (true, "b92acb95501a6ab3a323da7eab3ca000d69f70ca013ac318829e2c2bb8aea44d"), looks := true }, kinds := [], alts := [], laidByText := true, laidKinds := [.data, .data, .data, .data, .sentinel, .sentinel, .pinned], laidTests := true, laidLooks := .later }
def MemoryHitsCardSaid : Prop := Claim7.holds Tryz.pinned (.plain (OpenSpec.ofChange memoryHitsSpec)) memoryHitsCard

/-- THE TIED CARD OF 'strobelaw09.MemoryKeeps'. -/
def memoryKeepsCard : Claim7 := { stood := { row := memoryKeepsRow, standIns := [], harness := (true, "b92acb95501a6ab3a323da7eab3ca000d69f70ca013ac318829e2c2bb8aea44d"), looks := true }, kinds := [], alts := [], laidByText := true, laidKinds := [.data, .data, .data, .data, .sentinel, .sentinel, .pinned], laidTests := true, laidLooks := .later }
def MemoryKeepsCardSaid : Prop := Claim7.holds Tryz.pinned (.plain (OpenSpec.ofChange memoryKeepsSpec)) memoryKeepsCard

/-- THE TIED CARD OF 'strobelaw09.MemoryAppends'. -/
def memoryAppendsCard : Claim7 := { stood := { row := memoryAppendsRow, standIns := [], harness := (true, "b92acb95501a6ab3a323da7eab3ca000d69f70ca013ac318829e2c2bb8aea44d"), looks := true }, kinds := [], alts := [], laidByText := true, laidKinds := [.data, .data, .data, .data, .sentinel, .sentinel, .pinned], laidTests := true, laidLooks := .later }
def MemoryAppendsCardSaid : Prop := Claim7.holds Tryz.pinned (.plain (OpenSpec.ofChange memoryAppendsSpec)) memoryAppendsCard

/-- THE TIED CARD OF 'strobelaw09.MemoryGrows'. -/
def memoryGrowsCard : Claim7 := { stood := { row := memoryGrowsRow, standIns := [], harness := (true, "b92acb95501a6ab3a323da7eab3ca000d69f70ca013ac318829e2c2bb8aea44d"), looks := true }, kinds := [], alts := [], laidByText := true, laidKinds := [.data, .data, .data, .data, .sentinel, .sentinel, .pinned], laidTests := true, laidLooks := .later }
def MemoryGrowsCardSaid : Prop := Claim7.holds Tryz.pinned (.plain (OpenSpec.ofChange memoryGrowsSpec)) memoryGrowsCard

/-- THE SECOND FORM's CARD OF 'strobelaw09.MemoryBuilds'. -/
def memoryBuildsUptoCard : Claim7 := { stood := { row := memoryBuildsUptoRow, standIns := [], harness := (true, "b92acb95501a6ab3a323da7eab3ca000d69f70ca013ac318829e2c2bb8aea44d"), looks := true }, kinds := [], alts := [], laidByText := true, laidKinds := [.data, .data, .data, .data, .sentinel, .sentinel, .pinned], laidTests := true, laidLooks := .later }
def MemoryBuildsUptoCardSaid : Prop := Claim7.holds Tryz.pinned (.plain (OpenSpec.upto memoryBuildsSpec)) memoryBuildsUptoCard

/-- THE SECOND FORM's CARD OF 'strobelaw09.MemoryCovers'. -/
def memoryCoversUptoCard : Claim7 := { stood := { row := memoryCoversUptoRow, standIns := [], harness := (true, "b92acb95501a6ab3a323da7eab3ca000d69f70ca013ac318829e2c2bb8aea44d"), looks := true }, kinds := [], alts := [], laidByText := true, laidKinds := [.data, .data, .data, .data, .sentinel, .sentinel, .pinned], laidTests := true, laidLooks := .later }
def MemoryCoversUptoCardSaid : Prop := Claim7.holds Tryz.pinned (.plain (OpenSpec.upto memoryCoversSpec)) memoryCoversUptoCard

/-- THE SECOND FORM's CARD OF 'strobelaw09.MemoryRanges'. -/
def memoryRangesUptoCard : Claim7 := { stood := { row := memoryRangesUptoRow, standIns := [], harness := (true, "b92acb95501a6ab3a323da7eab3ca000d69f70ca013ac318829e2c2bb8aea44d"), looks := true }, kinds := [], alts := [], laidByText := true, laidKinds := [.data, .data, .data, .data, .sentinel, .sentinel, .pinned], laidTests := true, laidLooks := .later }
def MemoryRangesUptoCardSaid : Prop := Claim7.holds Tryz.pinned (.plain (OpenSpec.upto memoryRangesSpec)) memoryRangesUptoCard

/-- THE SECOND FORM's CARD OF 'strobelaw09.MemorySearches'. -/
def memorySearchesUptoCard : Claim7 := { stood := { row := memorySearchesUptoRow, standIns := [], harness := (true, "b92acb95501a6ab3a323da7eab3ca000d69f70ca013ac318829e2c2bb8aea44d"), looks := true }, kinds := [], alts := [], laidByText := true, laidKinds := [.data, .data, .data, .data, .sentinel, .sentinel, .pinned], laidTests := true, laidLooks := .later }
def MemorySearchesUptoCardSaid : Prop := Claim7.holds Tryz.pinned (.plain (OpenSpec.upto memorySearchesSpec)) memorySearchesUptoCard

/-- THE SECOND FORM's CARD OF 'strobelaw09.MemoryCounts'. -/
def memoryCountsUptoCard : Claim7 := { stood := { row := memoryCountsUptoRow, standIns := [], harness := (true, "b92acb95501a6ab3a323da7eab3ca000d69f70ca013ac318829e2c2bb8aea44d"), looks := true }, kinds := [], alts := [], laidByText := true, laidKinds := [.data, .data, .data, .data, .sentinel, .sentinel, .pinned], laidTests := true, laidLooks := .later }
def MemoryCountsUptoCardSaid : Prop := Claim7.holds Tryz.pinned (.plain (OpenSpec.upto memoryCountsSpec)) memoryCountsUptoCard

/-- THE SECOND FORM's CARD OF 'strobelaw09.MemoryFinds'. -/
def memoryFindsUptoCard : Claim7 := { stood := { row := memoryFindsUptoRow, standIns := [], harness := (true, "b92acb95501a6ab3a323da7eab3ca000d69f70ca013ac318829e2c2bb8aea44d"), looks := true }, kinds := [], alts := [], laidByText := true, laidKinds := [.data, .data, .data, .data, .sentinel, .sentinel, .pinned], laidTests := true, laidLooks := .later }
def MemoryFindsUptoCardSaid : Prop := Claim7.holds Tryz.pinned (.plain (OpenSpec.upto memoryFindsSpec)) memoryFindsUptoCard

/-- THE SECOND FORM's CARD OF 'strobelaw09.MemoryPacks'. -/
def memoryPacksUptoCard : Claim7 := { stood := { row := memoryPacksUptoRow, standIns := [], harness := (true, "b92acb95501a6ab3a323da7eab3ca000d69f70ca013ac318829e2c2bb8aea44d"), looks := true }, kinds := [], alts := [], laidByText := true, laidKinds := [.data, .data, .data, .data, .sentinel, .sentinel, .pinned], laidTests := true, laidLooks := .later }
def MemoryPacksUptoCardSaid : Prop := Claim7.holds Tryz.pinned (.plain (OpenSpec.upto memoryPacksSpec)) memoryPacksUptoCard

/-- THE SECOND FORM's CARD OF 'strobelaw09.MemoryWords'. -/
def memoryWordsUptoCard : Claim7 := { stood := { row := memoryWordsUptoRow, standIns := [], harness := (true, "b92acb95501a6ab3a323da7eab3ca000d69f70ca013ac318829e2c2bb8aea44d"), looks := true }, kinds := [], alts := [], laidByText := true, laidKinds := [.data, .data, .data, .data, .sentinel, .sentinel, .pinned], laidTests := true, laidLooks := .later }
def MemoryWordsUptoCardSaid : Prop := Claim7.holds Tryz.pinned (.plain (OpenSpec.upto memoryWordsSpec)) memoryWordsUptoCard

/-- THE SECOND FORM's CARD OF 'strobelaw09.MemoryEnvelopes'. -/
def memoryEnvelopesUptoCard : Claim7 := { stood := { row := memoryEnvelopesUptoRow, standIns := [], harness := (true, "b92acb95501a6ab3a323da7eab3ca000d69f70ca013ac318829e2c2bb8aea44d"), looks := true }, kinds := [], alts := [], laidByText := true, laidKinds := [.data, .data, .data, .data, .sentinel, .sentinel, .pinned], laidTests := true, laidLooks := .later }
def MemoryEnvelopesUptoCardSaid : Prop := Claim7.holds Tryz.pinned (.plain (OpenSpec.upto memoryEnvelopesSpec)) memoryEnvelopesUptoCard

/-- THE SECOND FORM's CARD OF 'strobelaw09.MemoryParts'. -/
def memoryPartsUptoCard : Claim7 := { stood := { row := memoryPartsUptoRow, standIns := [], harness := (true, "b92acb95501a6ab3a323da7eab3ca000d69f70ca013ac318829e2c2bb8aea44d"), looks := true }, kinds := [], alts := [], laidByText := true, laidKinds := [.data, .data, .data, .data, .sentinel, .sentinel, .pinned], laidTests := true, laidLooks := .later }
def MemoryPartsUptoCardSaid : Prop := Claim7.holds Tryz.pinned (.plain (OpenSpec.upto memoryPartsSpec)) memoryPartsUptoCard

/-- THE SECOND FORM's CARD OF 'strobelaw09.MemoryHits'. -/
def memoryHitsUptoCard : Claim7 := { stood := { row := memoryHitsUptoRow, standIns := [], harness := (true, "b92acb95501a6ab3a323da7eab3ca000d69f70ca013ac318829e2c2bb8aea44d"), looks := true }, kinds := [], alts := [], laidByText := true, laidKinds := [.data, .data, .data, .data, .sentinel, .sentinel, .pinned], laidTests := true, laidLooks := .later }
def MemoryHitsUptoCardSaid : Prop := Claim7.holds Tryz.pinned (.plain (OpenSpec.upto memoryHitsSpec)) memoryHitsUptoCard

/-- THE SECOND FORM's CARD OF 'strobelaw09.MemoryKeeps'. -/
def memoryKeepsUptoCard : Claim7 := { stood := { row := memoryKeepsUptoRow, standIns := [], harness := (true, "b92acb95501a6ab3a323da7eab3ca000d69f70ca013ac318829e2c2bb8aea44d"), looks := true }, kinds := [], alts := [], laidByText := true, laidKinds := [.data, .data, .data, .data, .sentinel, .sentinel, .pinned], laidTests := true, laidLooks := .later }
def MemoryKeepsUptoCardSaid : Prop := Claim7.holds Tryz.pinned (.plain (OpenSpec.upto memoryKeepsSpec)) memoryKeepsUptoCard

/-- THE SECOND FORM's CARD OF 'strobelaw09.MemoryAppends'. -/
def memoryAppendsUptoCard : Claim7 := { stood := { row := memoryAppendsUptoRow, standIns := [], harness := (true, "b92acb95501a6ab3a323da7eab3ca000d69f70ca013ac318829e2c2bb8aea44d"), looks := true }, kinds := [], alts := [], laidByText := true, laidKinds := [.data, .data, .data, .data, .sentinel, .sentinel, .pinned], laidTests := true, laidLooks := .later }
def MemoryAppendsUptoCardSaid : Prop := Claim7.holds Tryz.pinned (.plain (OpenSpec.upto memoryAppendsSpec)) memoryAppendsUptoCard

/-- THE SECOND FORM's CARD OF 'strobelaw09.MemoryGrows'. -/
def memoryGrowsUptoCard : Claim7 := { stood := { row := memoryGrowsUptoRow, standIns := [], harness := (true, "b92acb95501a6ab3a323da7eab3ca000d69f70ca013ac318829e2c2bb8aea44d"), looks := true }, kinds := [], alts := [], laidByText := true, laidKinds := [.data, .data, .data, .data, .sentinel, .sentinel, .pinned], laidTests := true, laidLooks := .later }
def MemoryGrowsUptoCardSaid : Prop := Claim7.holds Tryz.pinned (.plain (OpenSpec.upto memoryGrowsSpec)) memoryGrowsUptoCard
end Rows
end Go.Proofs.YtkloadomnblkeaaGreatDoor
