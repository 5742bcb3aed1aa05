/-
  DERIVED. GIVEN WITH THE SEED: THE CARDS: each row of YtpcmbndoagafmaaGreatDoorRows.lean that lists a variable, with what it lists TIED to the program's text (the seventh form; the later family's looks); each row that meets fmt, with fmt's text TOLD by the authors' own Lean function (tested against real Go, not proved from fmt's source: count such statements apart). THE CARD IS WHAT COUNTS. Prove the row's statement (the work); the ties are given (YtpcmbndoagafmaaGreatDoorTie.lean); close each card by the builder's one call (the guide's Derived/Test/ToyasCard.lean, 'card_holds'). Laid BY PROGRAM, IN A SANDBOX (cutbox-door.mjs). By AI agents, Wed Nov 11 2026. No macro, syntax, notation, axiom, sorry.
-/
import Derived.Test.YtpcmbndoagafmaaGreatDoorRows
import GoSem.ClaimSeven
namespace Go.Proofs.YtpcmbndoagafmaaGreatDoor
namespace Rows

/-- THE TIED CARD OF 'loupelaw17.QueryReads'. -/
def queryReadsCard : Claim7 := { stood := { row := queryReadsRow, standIns := [], harness := (true, "ed934b322182789cd1b2ca7b5d9d76963ef97a1afd434386eb9fcc7101f5ff84"), looks := true }, kinds := [], alts := [], laidByText := true, laidKinds := [.data, .data, .data, .data, .sentinel, .sentinel, .pinned], laidTests := true, laidLooks := .later }
def QueryReadsCardSaid : Prop := Claim7.holds Tryz.pinned (.plain (OpenSpec.ofChange queryReadsSpec)) queryReadsCard

/-- THE TIED CARD OF 'loupelaw17.QueryMany'. -/
def queryManyCard : Claim7 := { stood := { row := queryManyRow, standIns := [], harness := (true, "ed934b322182789cd1b2ca7b5d9d76963ef97a1afd434386eb9fcc7101f5ff84"), looks := true }, kinds := [], alts := [], laidByText := true, laidKinds := [.data, .data, .data, .data, .sentinel, .sentinel, .pinned], laidTests := true, laidLooks := .later }
def QueryManyCardSaid : Prop := Claim7.holds Tryz.pinned (.plain (OpenSpec.ofChange queryManySpec)) queryManyCard

/-- THE TIED CARD OF 'loupelaw17.QueryHolds'. -/
def queryHoldsCard : Claim7 := { stood := { row := queryHoldsRow, standIns := [], harness := (true, "ed934b322182789cd1b2ca7b5d9d76963ef97a1afd434386eb9fcc7101f5ff84"), looks := true }, kinds := [], alts := [], laidByText := true, laidKinds := [.data, .data, .data, .data, .sentinel, .sentinel, .pinned], laidTests := true, laidLooks := .later }
def QueryHoldsCardSaid : Prop := Claim7.holds Tryz.pinned (.plain (OpenSpec.ofChange queryHoldsSpec)) queryHoldsCard

/-- THE TIED CARD OF 'loupelaw17.QueryStreams'. -/
def queryStreamsCard : Claim7 := { stood := { row := queryStreamsRow, standIns := [], harness := (true, "ed934b322182789cd1b2ca7b5d9d76963ef97a1afd434386eb9fcc7101f5ff84"), looks := true }, kinds := [], alts := [], laidByText := true, laidKinds := [.data, .data, .data, .data, .sentinel, .sentinel, .pinned], laidTests := true, laidLooks := .later }
def QueryStreamsCardSaid : Prop := Claim7.holds Tryz.pinned (.plain (OpenSpec.ofChange queryStreamsSpec)) queryStreamsCard

/-- THE TIED CARD OF 'loupelaw17.QueryTexts'. -/
def queryTextsCard : Claim7 := { stood := { row := queryTextsRow, standIns := [], harness := (true, "ed934b322182789cd1b2ca7b5d9d76963ef97a1afd434386eb9fcc7101f5ff84"), looks := true }, kinds := [], alts := [], laidByText := true, laidKinds := [.data, .data, .data, .data, .sentinel, .sentinel, .pinned], laidTests := true, laidLooks := .later }
def QueryTextsCardSaid : Prop := Claim7.holds Tryz.pinned (.plain (OpenSpec.ofChange queryTextsSpec)) queryTextsCard

/-- THE SECOND FORM's CARD OF 'loupelaw17.QueryReads'. -/
def queryReadsUptoCard : Claim7 := { stood := { row := queryReadsUptoRow, standIns := [], harness := (true, "ed934b322182789cd1b2ca7b5d9d76963ef97a1afd434386eb9fcc7101f5ff84"), looks := true }, kinds := [], alts := [], laidByText := true, laidKinds := [.data, .data, .data, .data, .sentinel, .sentinel, .pinned], laidTests := true, laidLooks := .later }
def QueryReadsUptoCardSaid : Prop := Claim7.holds Tryz.pinned (.plain (OpenSpec.upto queryReadsSpec)) queryReadsUptoCard

/-- THE SECOND FORM's CARD OF 'loupelaw17.QueryMany'. -/
def queryManyUptoCard : Claim7 := { stood := { row := queryManyUptoRow, standIns := [], harness := (true, "ed934b322182789cd1b2ca7b5d9d76963ef97a1afd434386eb9fcc7101f5ff84"), looks := true }, kinds := [], alts := [], laidByText := true, laidKinds := [.data, .data, .data, .data, .sentinel, .sentinel, .pinned], laidTests := true, laidLooks := .later }
def QueryManyUptoCardSaid : Prop := Claim7.holds Tryz.pinned (.plain (OpenSpec.upto queryManySpec)) queryManyUptoCard

/-- THE SECOND FORM's CARD OF 'loupelaw17.QueryHolds'. -/
def queryHoldsUptoCard : Claim7 := { stood := { row := queryHoldsUptoRow, standIns := [], harness := (true, "ed934b322182789cd1b2ca7b5d9d76963ef97a1afd434386eb9fcc7101f5ff84"), looks := true }, kinds := [], alts := [], laidByText := true, laidKinds := [.data, .data, .data, .data, .sentinel, .sentinel, .pinned], laidTests := true, laidLooks := .later }
def QueryHoldsUptoCardSaid : Prop := Claim7.holds Tryz.pinned (.plain (OpenSpec.upto queryHoldsSpec)) queryHoldsUptoCard

/-- THE SECOND FORM's CARD OF 'loupelaw17.QueryStreams'. -/
def queryStreamsUptoCard : Claim7 := { stood := { row := queryStreamsUptoRow, standIns := [], harness := (true, "ed934b322182789cd1b2ca7b5d9d76963ef97a1afd434386eb9fcc7101f5ff84"), looks := true }, kinds := [], alts := [], laidByText := true, laidKinds := [.data, .data, .data, .data, .sentinel, .sentinel, .pinned], laidTests := true, laidLooks := .later }
def QueryStreamsUptoCardSaid : Prop := Claim7.holds Tryz.pinned (.plain (OpenSpec.upto queryStreamsSpec)) queryStreamsUptoCard

/-- THE SECOND FORM's CARD OF 'loupelaw17.QueryTexts'. -/
def queryTextsUptoCard : Claim7 := { stood := { row := queryTextsUptoRow, standIns := [], harness := (true, "ed934b322182789cd1b2ca7b5d9d76963ef97a1afd434386eb9fcc7101f5ff84"), looks := true }, kinds := [], alts := [], laidByText := true, laidKinds := [.data, .data, .data, .data, .sentinel, .sentinel, .pinned], laidTests := true, laidLooks := .later }
def QueryTextsUptoCardSaid : Prop := Claim7.holds Tryz.pinned (.plain (OpenSpec.upto queryTextsSpec)) queryTextsUptoCard
end Rows
end Go.Proofs.YtpcmbndoagafmaaGreatDoor
