/-
  DERIVED. GIVEN WITH THE SEED: THE CARDS: each row of YtdhaddldmooniaaGreatDoorRows.lean that lists a variable, with what it lists TIED to the program's text (the seventh form; the later family's looks); each row that meets fmt, with fmt's text TOLD by the authors' own Lean function (tested against real Go, not proved from fmt's source: count such statements apart). THE CARD IS WHAT COUNTS. Prove the row's statement (the work); the ties are given (YtdhaddldmooniaaGreatDoorTie.lean); close each card by the builder's one call (the guide's Derived/Test/ToyasCard.lean, 'card_holds'). Laid BY PROGRAM, IN A SANDBOX (cutbox-door.mjs). By AI agents, Wed Nov 11 2026. No macro, syntax, notation, axiom, sorry.
-/
import Derived.Test.YtdhaddldmooniaaGreatDoorRows
import GoSem.ClaimSeven
namespace Go.Proofs.YtdhaddldmooniaaGreatDoor
namespace Rows

/-- THE TIED CARD OF 'loupelaw15.TokenHolds'. -/
def tokenHoldsCard : Claim7 := { stood := { row := tokenHoldsRow, standIns := [], harness := (true, "e0d50948adb0a8a2074d2881482a92948cb40a4a19c6b8d797d4e68ca11a932f"), looks := true }, kinds := [], alts := [], laidByText := true, laidKinds := [.data, .data, .data, .data, .sentinel, .sentinel, .pinned], laidTests := true, laidLooks := .later }
def TokenHoldsCardSaid : Prop := Claim7.holds Tryz.pinned (.plain (OpenSpec.ofChange tokenHoldsSpec)) tokenHoldsCard

/-- THE TIED CARD OF 'loupelaw15.TokenStreams'. -/
def tokenStreamsCard : Claim7 := { stood := { row := tokenStreamsRow, standIns := [], harness := (true, "e0d50948adb0a8a2074d2881482a92948cb40a4a19c6b8d797d4e68ca11a932f"), looks := true }, kinds := [], alts := [], laidByText := true, laidKinds := [.data, .data, .data, .data, .sentinel, .sentinel, .pinned], laidTests := true, laidLooks := .later }
def TokenStreamsCardSaid : Prop := Claim7.holds Tryz.pinned (.plain (OpenSpec.ofChange tokenStreamsSpec)) tokenStreamsCard

/-- THE SECOND FORM's CARD OF 'loupelaw15.TokenHolds'. -/
def tokenHoldsUptoCard : Claim7 := { stood := { row := tokenHoldsUptoRow, standIns := [], harness := (true, "e0d50948adb0a8a2074d2881482a92948cb40a4a19c6b8d797d4e68ca11a932f"), looks := true }, kinds := [], alts := [], laidByText := true, laidKinds := [.data, .data, .data, .data, .sentinel, .sentinel, .pinned], laidTests := true, laidLooks := .later }
def TokenHoldsUptoCardSaid : Prop := Claim7.holds Tryz.pinned (.plain (OpenSpec.upto tokenHoldsSpec)) tokenHoldsUptoCard

/-- THE SECOND FORM's CARD OF 'loupelaw15.TokenStreams'. -/
def tokenStreamsUptoCard : Claim7 := { stood := { row := tokenStreamsUptoRow, standIns := [], harness := (true, "e0d50948adb0a8a2074d2881482a92948cb40a4a19c6b8d797d4e68ca11a932f"), looks := true }, kinds := [], alts := [], laidByText := true, laidKinds := [.data, .data, .data, .data, .sentinel, .sentinel, .pinned], laidTests := true, laidLooks := .later }
def TokenStreamsUptoCardSaid : Prop := Claim7.holds Tryz.pinned (.plain (OpenSpec.upto tokenStreamsSpec)) tokenStreamsUptoCard
end Rows
end Go.Proofs.YtdhaddldmooniaaGreatDoor
