/-
  DERIVED. GIVEN WITH THE SEED: THE CARDS: each row of YtaejnfdlolfpkaaGreatDoorRows.lean that lists a variable, with what it lists TIED to the program's text (the seventh form; the later family's looks); each row that meets fmt, with fmt's text TOLD by the authors' own Lean function (tested against real Go, not proved from fmt's source: count such statements apart). THE CARD IS WHAT COUNTS. Prove the row's statement (the work); the ties are given (YtaejnfdlolfpkaaGreatDoorTie.lean); close each card by the builder's one call (the guide's Derived/Test/ToyasCard.lean, 'card_holds'). Laid BY PROGRAM, IN A SANDBOX (cutbox-door.mjs). By AI agents, Wed Nov 11 2026. No macro, syntax, notation, axiom, sorry.
-/
import Derived.Test.YtaejnfdlolfpkaaGreatDoorRows
import GoSem.ClaimSeven
namespace Go.Proofs.YtaejnfdlolfpkaaGreatDoor
namespace Rows

/-- THE TIED CARD OF 'strobelaw03.AcquireMachines'. -/
def acquireMachinesCard : Claim7 := { stood := { row := acquireMachinesRow, standIns := [], harness := (true, "c37dd2f4fcff1fd73480eedc05b8eb5a92f02b9dc4bdc5033d8d0a622140ce3c"), looks := true }, kinds := [], alts := [], laidByText := true, laidKinds := [.data, .data, .data, .data, .sentinel, .sentinel, .pinned], laidTests := true, laidLooks := .later }
def AcquireMachinesCardSaid : Prop := Claim7.holds Tryz.pinned (.plain (OpenSpec.ofChange acquireMachinesSpec)) acquireMachinesCard

/-- THE TIED CARD OF 'strobelaw03.AcquireStreams'. -/
def acquireStreamsCard : Claim7 := { stood := { row := acquireStreamsRow, standIns := [], harness := (true, "c37dd2f4fcff1fd73480eedc05b8eb5a92f02b9dc4bdc5033d8d0a622140ce3c"), looks := true }, kinds := [], alts := [], laidByText := true, laidKinds := [.data, .data, .data, .data, .sentinel, .sentinel, .pinned], laidTests := true, laidLooks := .later }
def AcquireStreamsCardSaid : Prop := Claim7.holds Tryz.pinned (.plain (OpenSpec.ofChange acquireStreamsSpec)) acquireStreamsCard

/-- THE TIED CARD OF 'strobelaw03.AcquireCovers'. -/
def acquireCoversCard : Claim7 := { stood := { row := acquireCoversRow, standIns := [], harness := (true, "c37dd2f4fcff1fd73480eedc05b8eb5a92f02b9dc4bdc5033d8d0a622140ce3c"), looks := true }, kinds := [], alts := [], laidByText := true, laidKinds := [.data, .data, .data, .data, .sentinel, .sentinel, .pinned], laidTests := true, laidLooks := .later }
def AcquireCoversCardSaid : Prop := Claim7.holds Tryz.pinned (.plain (OpenSpec.ofChange acquireCoversSpec)) acquireCoversCard

/-- THE TIED CARD OF 'strobelaw03.AcquireStamps'. -/
def acquireStampsCard : Claim7 := { stood := { row := acquireStampsRow, standIns := [], harness := (true, "c37dd2f4fcff1fd73480eedc05b8eb5a92f02b9dc4bdc5033d8d0a622140ce3c"), looks := true }, kinds := [], alts := [], laidByText := true, laidKinds := [.data, .data, .data, .data, .sentinel, .sentinel, .pinned], laidTests := true, laidLooks := .later }
def AcquireStampsCardSaid : Prop := Claim7.holds Tryz.pinned (.plain (OpenSpec.ofChange acquireStampsSpec)) acquireStampsCard

/-- THE TIED CARD OF 'strobelaw03.AcquireFlags'. -/
def acquireFlagsCard : Claim7 := { stood := { row := acquireFlagsRow, standIns := [], harness := (true, "c37dd2f4fcff1fd73480eedc05b8eb5a92f02b9dc4bdc5033d8d0a622140ce3c"), looks := true }, kinds := [], alts := [], laidByText := true, laidKinds := [.data, .data, .data, .data, .sentinel, .sentinel, .pinned], laidTests := true, laidLooks := .later }
def AcquireFlagsCardSaid : Prop := Claim7.holds Tryz.pinned (.plain (OpenSpec.ofChange acquireFlagsSpec)) acquireFlagsCard

/-- THE TIED CARD OF 'strobelaw03.AcquirePieces'. -/
def acquirePiecesCard : Claim7 := { stood := { row := acquirePiecesRow, standIns := [], harness := (true, "c37dd2f4fcff1fd73480eedc05b8eb5a92f02b9dc4bdc5033d8d0a622140ce3c"), looks := true }, kinds := [], alts := [], laidByText := true, laidKinds := [.data, .data, .data, .data, .sentinel, .sentinel, .pinned], laidTests := true, laidLooks := .later }
def AcquirePiecesCardSaid : Prop := Claim7.holds Tryz.pinned (.plain (OpenSpec.ofChange acquirePiecesSpec)) acquirePiecesCard

/-- THE TIED CARD OF 'strobelaw03.AcquireAccounts'. -/
def acquireAccountsCard : Claim7 := { stood := { row := acquireAccountsRow, standIns := [], harness := (true, "c37dd2f4fcff1fd73480eedc05b8eb5a92f02b9dc4bdc5033d8d0a622140ce3c"), looks := true }, kinds := [], alts := [], laidByText := true, laidKinds := [.data, .data, .data, .data, .sentinel, .sentinel, .pinned], laidTests := true, laidLooks := .later }
def AcquireAccountsCardSaid : Prop := Claim7.holds Tryz.pinned (.plain (OpenSpec.ofChange acquireAccountsSpec)) acquireAccountsCard

/-- THE TIED CARD OF 'strobelaw03.AcquireClocks'. -/
def acquireClocksCard : Claim7 := { stood := { row := acquireClocksRow, standIns := [], harness := (true, "c37dd2f4fcff1fd73480eedc05b8eb5a92f02b9dc4bdc5033d8d0a622140ce3c"), looks := true }, kinds := [], alts := [], laidByText := true, laidKinds := [.data, .data, .data, .data, .sentinel, .sentinel, .pinned], laidTests := true, laidLooks := .later }
def AcquireClocksCardSaid : Prop := Claim7.holds Tryz.pinned (.plain (OpenSpec.ofChange acquireClocksSpec)) acquireClocksCard

/-- THE TIED CARD OF 'strobelaw03.AcquireBlocks'. -/
def acquireBlocksCard : Claim7 := { stood := { row := acquireBlocksRow, standIns := [], harness := (true, "c37dd2f4fcff1fd73480eedc05b8eb5a92f02b9dc4bdc5033d8d0a622140ce3c"), looks := true }, kinds := [], alts := [], laidByText := true, laidKinds := [.data, .data, .data, .data, .sentinel, .sentinel, .pinned], laidTests := true, laidLooks := .later }
def AcquireBlocksCardSaid : Prop := Claim7.holds Tryz.pinned (.plain (OpenSpec.ofChange acquireBlocksSpec)) acquireBlocksCard

/-- THE TIED CARD OF 'strobelaw03.AcquireEdges'. -/
def acquireEdgesCard : Claim7 := { stood := { row := acquireEdgesRow, standIns := [], harness := (true, "c37dd2f4fcff1fd73480eedc05b8eb5a92f02b9dc4bdc5033d8d0a622140ce3c"), looks := true }, kinds := [], alts := [], laidByText := true, laidKinds := [.data, .data, .data, .data, .sentinel, .sentinel, .pinned], laidTests := true, laidLooks := .later }
def AcquireEdgesCardSaid : Prop := Claim7.holds Tryz.pinned (.plain (OpenSpec.ofChange acquireEdgesSpec)) acquireEdgesCard

/-- THE TIED CARD OF 'strobelaw03.AcquireMeans'. -/
def acquireMeansCard : Claim7 := { stood := { row := acquireMeansRow, standIns := [], harness := (true, "c37dd2f4fcff1fd73480eedc05b8eb5a92f02b9dc4bdc5033d8d0a622140ce3c"), looks := true }, kinds := [], alts := [], laidByText := true, laidKinds := [.data, .data, .data, .data, .sentinel, .sentinel, .pinned], laidTests := true, laidLooks := .later }
def AcquireMeansCardSaid : Prop := Claim7.holds Tryz.pinned (.plain (OpenSpec.ofChange acquireMeansSpec)) acquireMeansCard

/-- THE TIED CARD OF 'strobelaw03.AcquireOrders'. -/
def acquireOrdersCard : Claim7 := { stood := { row := acquireOrdersRow, standIns := [], harness := (true, "c37dd2f4fcff1fd73480eedc05b8eb5a92f02b9dc4bdc5033d8d0a622140ce3c"), looks := true }, kinds := [], alts := [], laidByText := true, laidKinds := [.data, .data, .data, .data, .sentinel, .sentinel, .pinned], laidTests := true, laidLooks := .later }
def AcquireOrdersCardSaid : Prop := Claim7.holds Tryz.pinned (.plain (OpenSpec.ofChange acquireOrdersSpec)) acquireOrdersCard

/-- THE SECOND FORM's CARD OF 'strobelaw03.AcquireMachines'. -/
def acquireMachinesUptoCard : Claim7 := { stood := { row := acquireMachinesUptoRow, standIns := [], harness := (true, "c37dd2f4fcff1fd73480eedc05b8eb5a92f02b9dc4bdc5033d8d0a622140ce3c"), looks := true }, kinds := [], alts := [], laidByText := true, laidKinds := [.data, .data, .data, .data, .sentinel, .sentinel, .pinned], laidTests := true, laidLooks := .later }
def AcquireMachinesUptoCardSaid : Prop := Claim7.holds Tryz.pinned (.plain (OpenSpec.upto acquireMachinesSpec)) acquireMachinesUptoCard

/-- THE SECOND FORM's CARD OF 'strobelaw03.AcquireStreams'. -/
def acquireStreamsUptoCard : Claim7 := { stood := { row := acquireStreamsUptoRow, standIns := [], harness := (true, "c37dd2f4fcff1fd73480eedc05b8eb5a92f02b9dc4bdc5033d8d0a622140ce3c"), looks := true }, kinds := [], alts := [], laidByText := true, laidKinds := [.data, .data, .data, .data, .sentinel, .sentinel, .pinned], laidTests := true, laidLooks := .later }
def AcquireStreamsUptoCardSaid : Prop := Claim7.holds Tryz.pinned (.plain (OpenSpec.upto acquireStreamsSpec)) acquireStreamsUptoCard

/-- THE SECOND FORM's CARD OF 'strobelaw03.AcquireCovers'. -/
def acquireCoversUptoCard : Claim7 := { stood := { row := acquireCoversUptoRow, standIns := [], harness := (true, "c37dd2f4fcff1fd73480eedc05b8eb5a92f02b9dc4bdc5033d8d0a622140ce3c"), looks := true }, kinds := [], alts := [], laidByText := true, laidKinds := [.data, .data, .data, .data, .sentinel, .sentinel, .pinned], laidTests := true, laidLooks := .later }
def AcquireCoversUptoCardSaid : Prop := Claim7.holds Tryz.pinned (.plain (OpenSpec.upto acquireCoversSpec)) acquireCoversUptoCard

/-- THE SECOND FORM's CARD OF 'strobelaw03.AcquireStamps'. -/
def acquireStampsUptoCard : Claim7 := { stood := { row := acquireStampsUptoRow, standIns := [], harness := (true, "c37dd2f4fcff1fd73480eedc05b8eb5a92f02b9dc4bdc5033d8d0a622140ce3c"), looks := true }, kinds := [], alts := [], laidByText := true, laidKinds := [.data, .data, .data, .data, .sentinel, .sentinel, .pinned], laidTests := true, laidLooks := .later }
def AcquireStampsUptoCardSaid : Prop := Claim7.holds Tryz.pinned (.plain (OpenSpec.upto acquireStampsSpec)) acquireStampsUptoCard

/-- THE SECOND FORM's CARD OF 'strobelaw03.AcquireFlags'. -/
def acquireFlagsUptoCard : Claim7 := { stood := { row := acquireFlagsUptoRow, standIns := [], harness := (true, "c37dd2f4fcff1fd73480eedc05b8eb5a92f02b9dc4bdc5033d8d0a622140ce3c"), looks := true }, kinds := [], alts := [], laidByText := true, laidKinds := [.data, .data, .data, .data, .sentinel, .sentinel, .pinned], laidTests := true, laidLooks := .later }
def AcquireFlagsUptoCardSaid : Prop := Claim7.holds Tryz.pinned (.plain (OpenSpec.upto acquireFlagsSpec)) acquireFlagsUptoCard

/-- THE SECOND FORM's CARD OF 'strobelaw03.AcquirePieces'. -/
def acquirePiecesUptoCard : Claim7 := { stood := { row := acquirePiecesUptoRow, standIns := [], harness := (true, "c37dd2f4fcff1fd73480eedc05b8eb5a92f02b9dc4bdc5033d8d0a622140ce3c"), looks := true }, kinds := [], alts := [], laidByText := true, laidKinds := [.data, .data, .data, .data, .sentinel, .sentinel, .pinned], laidTests := true, laidLooks := .later }
def AcquirePiecesUptoCardSaid : Prop := Claim7.holds Tryz.pinned (.plain (OpenSpec.upto acquirePiecesSpec)) acquirePiecesUptoCard

/-- THE SECOND FORM's CARD OF 'strobelaw03.AcquireAccounts'. -/
def acquireAccountsUptoCard : Claim7 := { stood := { row := acquireAccountsUptoRow, standIns := [], harness := (true, "c37dd2f4fcff1fd73480eedc05b8eb5a92f02b9dc4bdc5033d8d0a622140ce3c"), looks := true }, kinds := [], alts := [], laidByText := true, laidKinds := [.data, .data, .data, .data, .sentinel, .sentinel, .pinned], laidTests := true, laidLooks := .later }
def AcquireAccountsUptoCardSaid : Prop := Claim7.holds Tryz.pinned (.plain (OpenSpec.upto acquireAccountsSpec)) acquireAccountsUptoCard

/-- THE SECOND FORM's CARD OF 'strobelaw03.AcquireClocks'. -/
def acquireClocksUptoCard : Claim7 := { stood := { row := acquireClocksUptoRow, standIns := [], harness := (true, "c37dd2f4fcff1fd73480eedc05b8eb5a92f02b9dc4bdc5033d8d0a622140ce3c"), looks := true }, kinds := [], alts := [], laidByText := true, laidKinds := [.data, .data, .data, .data, .sentinel, .sentinel, .pinned], laidTests := true, laidLooks := .later }
def AcquireClocksUptoCardSaid : Prop := Claim7.holds Tryz.pinned (.plain (OpenSpec.upto acquireClocksSpec)) acquireClocksUptoCard

/-- THE SECOND FORM's CARD OF 'strobelaw03.AcquireBlocks'. -/
def acquireBlocksUptoCard : Claim7 := { stood := { row := acquireBlocksUptoRow, standIns := [], harness := (true, "c37dd2f4fcff1fd73480eedc05b8eb5a92f02b9dc4bdc5033d8d0a622140ce3c"), looks := true }, kinds := [], alts := [], laidByText := true, laidKinds := [.data, .data, .data, .data, .sentinel, .sentinel, .pinned], laidTests := true, laidLooks := .later }
def AcquireBlocksUptoCardSaid : Prop := Claim7.holds Tryz.pinned (.plain (OpenSpec.upto acquireBlocksSpec)) acquireBlocksUptoCard

/-- THE SECOND FORM's CARD OF 'strobelaw03.AcquireEdges'. -/
def acquireEdgesUptoCard : Claim7 := { stood := { row := acquireEdgesUptoRow, standIns := [], harness := (true, "c37dd2f4fcff1fd73480eedc05b8eb5a92f02b9dc4bdc5033d8d0a622140ce3c"), looks := true }, kinds := [], alts := [], laidByText := true, laidKinds := [.data, .data, .data, .data, .sentinel, .sentinel, .pinned], laidTests := true, laidLooks := .later }
def AcquireEdgesUptoCardSaid : Prop := Claim7.holds Tryz.pinned (.plain (OpenSpec.upto acquireEdgesSpec)) acquireEdgesUptoCard

/-- THE SECOND FORM's CARD OF 'strobelaw03.AcquireMeans'. -/
def acquireMeansUptoCard : Claim7 := { stood := { row := acquireMeansUptoRow, standIns := [], harness := (true, "c37dd2f4fcff1fd73480eedc05b8eb5a92f02b9dc4bdc5033d8d0a622140ce3c"), looks := true }, kinds := [], alts := [], laidByText := true, laidKinds := [.data, .data, .data, .data, .sentinel, .sentinel, .pinned], laidTests := true, laidLooks := .later }
def AcquireMeansUptoCardSaid : Prop := Claim7.holds Tryz.pinned (.plain (OpenSpec.upto acquireMeansSpec)) acquireMeansUptoCard

/-- THE SECOND FORM's CARD OF 'strobelaw03.AcquireOrders'. -/
def acquireOrdersUptoCard : Claim7 := { stood := { row := acquireOrdersUptoRow, standIns := [], harness := (true, "c37dd2f4fcff1fd73480eedc05b8eb5a92f02b9dc4bdc5033d8d0a622140ce3c"), looks := true }, kinds := [], alts := [], laidByText := true, laidKinds := [.data, .data, .data, .data, .sentinel, .sentinel, .pinned], laidTests := true, laidLooks := .later }
def AcquireOrdersUptoCardSaid : Prop := Claim7.holds Tryz.pinned (.plain (OpenSpec.upto acquireOrdersSpec)) acquireOrdersUptoCard
end Rows
end Go.Proofs.YtaejnfdlolfpkaaGreatDoor
