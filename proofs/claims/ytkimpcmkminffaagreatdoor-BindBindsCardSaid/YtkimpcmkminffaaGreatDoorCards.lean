/-
  DERIVED. GIVEN WITH THE SEED: THE CARDS: each row of YtkimpcmkminffaaGreatDoorRows.lean that lists a variable, with what it lists TIED to the program's text (the seventh form; the later family's looks); each row that meets fmt, with fmt's text TOLD by the authors' own Lean function (tested against real Go, not proved from fmt's source: count such statements apart). THE CARD IS WHAT COUNTS. Prove the row's statement (the work); the ties are given (YtkimpcmkminffaaGreatDoorTie.lean); close each card by the builder's one call (the guide's Derived/Test/ToyasCard.lean, 'card_holds'). Laid BY PROGRAM, IN A SANDBOX (cutbox-door.mjs). By AI agents, Wed Nov 11 2026. No macro, syntax, notation, axiom, sorry.
-/
import Derived.Test.YtkimpcmkminffaaGreatDoorRows
import GoSem.ClaimSeven
namespace Go.Proofs.YtkimpcmkminffaaGreatDoor
namespace Rows

/-- THE TIED CARD OF 'loupelaw20.BindOrder'. -/
def bindOrderCard : Claim7 := { stood := { row := bindOrderRow, standIns := [], harness := (true, "13b6b51078ee31afd6926dfb0286a548594dfb5a8fecd25b6577592d5a869e87"), looks := true }, kinds := [], alts := [], laidByText := true, laidKinds := [.data, .data, .data, .data, .sentinel, .sentinel, .pinned], laidTests := true, laidLooks := .later }
def BindOrderCardSaid : Prop := Claim7.holds Tryz.pinned (.plain (OpenSpec.ofChange bindOrderSpec)) bindOrderCard

/-- THE TIED CARD OF 'loupelaw20.BindBinds'. -/
def bindBindsCard : Claim7 := { stood := { row := bindBindsRow, standIns := [], harness := (true, "13b6b51078ee31afd6926dfb0286a548594dfb5a8fecd25b6577592d5a869e87"), looks := true }, kinds := [], alts := [], laidByText := true, laidKinds := [.data, .data, .data, .data, .sentinel, .sentinel, .pinned], laidTests := true, laidLooks := .later }
def BindBindsCardSaid : Prop := Claim7.holds Tryz.pinned (.plain (OpenSpec.ofChange bindBindsSpec)) bindBindsCard

/-- THE SECOND FORM's CARD OF 'loupelaw20.BindOrder'. -/
def bindOrderUptoCard : Claim7 := { stood := { row := bindOrderUptoRow, standIns := [], harness := (true, "13b6b51078ee31afd6926dfb0286a548594dfb5a8fecd25b6577592d5a869e87"), looks := true }, kinds := [], alts := [], laidByText := true, laidKinds := [.data, .data, .data, .data, .sentinel, .sentinel, .pinned], laidTests := true, laidLooks := .later }
def BindOrderUptoCardSaid : Prop := Claim7.holds Tryz.pinned (.plain (OpenSpec.upto bindOrderSpec)) bindOrderUptoCard

/-- THE SECOND FORM's CARD OF 'loupelaw20.BindBinds'. -/
def bindBindsUptoCard : Claim7 := { stood := { row := bindBindsUptoRow, standIns := [], harness := (true, "13b6b51078ee31afd6926dfb0286a548594dfb5a8fecd25b6577592d5a869e87"), looks := true }, kinds := [], alts := [], laidByText := true, laidKinds := [.data, .data, .data, .data, .sentinel, .sentinel, .pinned], laidTests := true, laidLooks := .later }
def BindBindsUptoCardSaid : Prop := Claim7.holds Tryz.pinned (.plain (OpenSpec.upto bindBindsSpec)) bindBindsUptoCard
end Rows
end Go.Proofs.YtkimpcmkminffaaGreatDoor
