/-
  DERIVED. GIVEN WITH THE SEED: THE CARDS: each row of YtohlomdapelgeaaGreatDoorRows.lean that lists a variable, with what it lists TIED to the program's text (the seventh form; the later family's looks); each row that meets fmt, with fmt's text TOLD by the authors' own Lean function (tested against real Go, not proved from fmt's source: count such statements apart). THE CARD IS WHAT COUNTS. Prove the row's statement (the work); the ties are given (YtohlomdapelgeaaGreatDoorTie.lean); close each card by the builder's one call (the guide's Derived/Test/ToyasCard.lean, 'card_holds'). Laid BY PROGRAM, IN A SANDBOX (cutbox-door.mjs). By AI agents, Wed Nov 11 2026. No macro, syntax, notation, axiom, sorry.
-/
import Derived.Test.YtohlomdapelgeaaGreatDoorRows
import GoSem.ClaimSeven
namespace Go.Proofs.YtohlomdapelgeaaGreatDoor
namespace Rows

/-- THE TIED CARD OF 'loupelaw18.WriteMany'. -/
def writeManyCard : Claim7 := { stood := { row := writeManyRow, standIns := [], harness := (true, "a98867a61ffe8fb7130863a4d7398173077bf35dab8b26dddef8cc03d44643ef"), looks := true }, kinds := [], alts := [], laidByText := true, laidKinds := [.data, .data, .data, .data, .sentinel, .sentinel, .pinned], laidTests := true, laidLooks := .later }
def WriteManyCardSaid : Prop := Claim7.holds Tryz.pinned (.plain (OpenSpec.ofChange writeManySpec)) writeManyCard

/-- THE TIED CARD OF 'loupelaw18.WriteHolds'. -/
def writeHoldsCard : Claim7 := { stood := { row := writeHoldsRow, standIns := [], harness := (true, "a98867a61ffe8fb7130863a4d7398173077bf35dab8b26dddef8cc03d44643ef"), looks := true }, kinds := [], alts := [], laidByText := true, laidKinds := [.data, .data, .data, .data, .sentinel, .sentinel, .pinned], laidTests := true, laidLooks := .later }
def WriteHoldsCardSaid : Prop := Claim7.holds Tryz.pinned (.plain (OpenSpec.ofChange writeHoldsSpec)) writeHoldsCard

/-- THE TIED CARD OF 'loupelaw18.WriteSets'. -/
def writeSetsCard : Claim7 := { stood := { row := writeSetsRow, standIns := [], harness := (true, "a98867a61ffe8fb7130863a4d7398173077bf35dab8b26dddef8cc03d44643ef"), looks := true }, kinds := [], alts := [], laidByText := true, laidKinds := [.data, .data, .data, .data, .sentinel, .sentinel, .pinned], laidTests := true, laidLooks := .later }
def WriteSetsCardSaid : Prop := Claim7.holds Tryz.pinned (.plain (OpenSpec.ofChange writeSetsSpec)) writeSetsCard

/-- THE SECOND FORM's CARD OF 'loupelaw18.WriteMany'. -/
def writeManyUptoCard : Claim7 := { stood := { row := writeManyUptoRow, standIns := [], harness := (true, "a98867a61ffe8fb7130863a4d7398173077bf35dab8b26dddef8cc03d44643ef"), looks := true }, kinds := [], alts := [], laidByText := true, laidKinds := [.data, .data, .data, .data, .sentinel, .sentinel, .pinned], laidTests := true, laidLooks := .later }
def WriteManyUptoCardSaid : Prop := Claim7.holds Tryz.pinned (.plain (OpenSpec.upto writeManySpec)) writeManyUptoCard

/-- THE SECOND FORM's CARD OF 'loupelaw18.WriteHolds'. -/
def writeHoldsUptoCard : Claim7 := { stood := { row := writeHoldsUptoRow, standIns := [], harness := (true, "a98867a61ffe8fb7130863a4d7398173077bf35dab8b26dddef8cc03d44643ef"), looks := true }, kinds := [], alts := [], laidByText := true, laidKinds := [.data, .data, .data, .data, .sentinel, .sentinel, .pinned], laidTests := true, laidLooks := .later }
def WriteHoldsUptoCardSaid : Prop := Claim7.holds Tryz.pinned (.plain (OpenSpec.upto writeHoldsSpec)) writeHoldsUptoCard

/-- THE SECOND FORM's CARD OF 'loupelaw18.WriteSets'. -/
def writeSetsUptoCard : Claim7 := { stood := { row := writeSetsUptoRow, standIns := [], harness := (true, "a98867a61ffe8fb7130863a4d7398173077bf35dab8b26dddef8cc03d44643ef"), looks := true }, kinds := [], alts := [], laidByText := true, laidKinds := [.data, .data, .data, .data, .sentinel, .sentinel, .pinned], laidTests := true, laidLooks := .later }
def WriteSetsUptoCardSaid : Prop := Claim7.holds Tryz.pinned (.plain (OpenSpec.upto writeSetsSpec)) writeSetsUptoCard
end Rows
end Go.Proofs.YtohlomdapelgeaaGreatDoor
