/-
  DERIVED. GIVEN WITH THE SEED: THE CARDS: each row of YtfkekkgfmhcanaaGreatDoorRows.lean that lists a variable, with what it lists TIED to the program's text (the seventh form; the later family's looks); each row that meets fmt, with fmt's text TOLD by the authors' own Lean function (tested against real Go, not proved from fmt's source: count such statements apart). THE CARD IS WHAT COUNTS. Prove the row's statement (the work); the ties are given (YtfkekkgfmhcanaaGreatDoorTie.lean); close each card by the builder's one call (the guide's Derived/Test/ToyasCard.lean, 'card_holds'). Laid BY PROGRAM, IN A SANDBOX (cutbox-door.mjs). By AI agents, Wed Nov 11 2026. No macro, syntax, notation, axiom, sorry.
-/
import Derived.Test.YtfkekkgfmhcanaaGreatDoorRows
import GoSem.ClaimSeven
namespace Go.Proofs.YtfkekkgfmhcanaaGreatDoor
namespace Rows

/-- THE TIED CARD OF 'loupelaw17.QueryHolds'. -/
def queryHoldsCard : Claim7 := { stood := { row := queryHoldsRow, standIns := [], harness := (true, "f506ce53bf96ba29cde67cf16f7e2b75cd2a103f4fb9dcb260d82ee61f2e41f0"), looks := true }, kinds := [], alts := [], laidByText := true, laidKinds := [.data, .data, .data, .data, .sentinel, .sentinel, .pinned], laidTests := true, laidLooks := .later }
def QueryHoldsCardSaid : Prop := Claim7.holds Tryz.pinned (.plain (OpenSpec.ofChange queryHoldsSpec)) queryHoldsCard

/-- THE TIED CARD OF 'loupelaw17.QueryStreams'. -/
def queryStreamsCard : Claim7 := { stood := { row := queryStreamsRow, standIns := [], harness := (true, "f506ce53bf96ba29cde67cf16f7e2b75cd2a103f4fb9dcb260d82ee61f2e41f0"), looks := true }, kinds := [], alts := [], laidByText := true, laidKinds := [.data, .data, .data, .data, .sentinel, .sentinel, .pinned], laidTests := true, laidLooks := .later }
def QueryStreamsCardSaid : Prop := Claim7.holds Tryz.pinned (.plain (OpenSpec.ofChange queryStreamsSpec)) queryStreamsCard

/-- THE TIED CARD OF 'loupelaw17.QueryTexts'. -/
def queryTextsCard : Claim7 := { stood := { row := queryTextsRow, standIns := [], harness := (true, "f506ce53bf96ba29cde67cf16f7e2b75cd2a103f4fb9dcb260d82ee61f2e41f0"), looks := true }, kinds := [], alts := [], laidByText := true, laidKinds := [.data, .data, .data, .data, .sentinel, .sentinel, .pinned], laidTests := true, laidLooks := .later }
def QueryTextsCardSaid : Prop := Claim7.holds Tryz.pinned (.plain (OpenSpec.ofChange queryTextsSpec)) queryTextsCard

/-- THE SECOND FORM's CARD OF 'loupelaw17.QueryHolds'. -/
def queryHoldsUptoCard : Claim7 := { stood := { row := queryHoldsUptoRow, standIns := [], harness := (true, "f506ce53bf96ba29cde67cf16f7e2b75cd2a103f4fb9dcb260d82ee61f2e41f0"), looks := true }, kinds := [], alts := [], laidByText := true, laidKinds := [.data, .data, .data, .data, .sentinel, .sentinel, .pinned], laidTests := true, laidLooks := .later }
def QueryHoldsUptoCardSaid : Prop := Claim7.holds Tryz.pinned (.plain (OpenSpec.upto queryHoldsSpec)) queryHoldsUptoCard

/-- THE SECOND FORM's CARD OF 'loupelaw17.QueryStreams'. -/
def queryStreamsUptoCard : Claim7 := { stood := { row := queryStreamsUptoRow, standIns := [], harness := (true, "f506ce53bf96ba29cde67cf16f7e2b75cd2a103f4fb9dcb260d82ee61f2e41f0"), looks := true }, kinds := [], alts := [], laidByText := true, laidKinds := [.data, .data, .data, .data, .sentinel, .sentinel, .pinned], laidTests := true, laidLooks := .later }
def QueryStreamsUptoCardSaid : Prop := Claim7.holds Tryz.pinned (.plain (OpenSpec.upto queryStreamsSpec)) queryStreamsUptoCard

/-- THE SECOND FORM's CARD OF 'loupelaw17.QueryTexts'. -/
def queryTextsUptoCard : Claim7 := { stood := { row := queryTextsUptoRow, standIns := [], harness := (true, "f506ce53bf96ba29cde67cf16f7e2b75cd2a103f4fb9dcb260d82ee61f2e41f0"), looks := true }, kinds := [], alts := [], laidByText := true, laidKinds := [.data, .data, .data, .data, .sentinel, .sentinel, .pinned], laidTests := true, laidLooks := .later }
def QueryTextsUptoCardSaid : Prop := Claim7.holds Tryz.pinned (.plain (OpenSpec.upto queryTextsSpec)) queryTextsUptoCard
end Rows
end Go.Proofs.YtfkekkgfmhcanaaGreatDoor
