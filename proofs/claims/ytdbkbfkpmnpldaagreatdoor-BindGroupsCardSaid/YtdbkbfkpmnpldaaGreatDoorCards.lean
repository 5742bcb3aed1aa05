/-
  DERIVED. GIVEN WITH THE SEED: THE CARDS: each row of YtdbkbfkpmnpldaaGreatDoorRows.lean that lists a variable, with what it lists TIED to the program's text (the seventh form; the later family's looks); each row that meets fmt, with fmt's text TOLD by the authors' own Lean function (tested against real Go, not proved from fmt's source: count such statements apart). THE CARD IS WHAT COUNTS. Prove the row's statement (the work); the ties are given (YtdbkbfkpmnpldaaGreatDoorTie.lean); close each card by the builder's one call (the guide's Derived/Test/ToyasCard.lean, 'card_holds'). Laid BY PROGRAM, IN A SANDBOX (cutbox-door.mjs). By AI agents, Wed Nov 11 2026. No macro, syntax, notation, axiom, sorry.
-/
import Derived.Test.YtdbkbfkpmnpldaaGreatDoorRows
import GoSem.ClaimSeven
namespace Go.Proofs.YtdbkbfkpmnpldaaGreatDoor
namespace Rows

/-- THE TIED CARD OF 'loupelaw20.BindChecks'. -/
def bindChecksCard : Claim7 := { stood := { row := bindChecksRow, standIns := [], harness := (true, "b6a6201a0ce90aa89303d21ae0ce0d7b2f20c8e264bad93012977ffbaa0ae5cf"), looks := true }, kinds := [], alts := [], laidByText := true, laidKinds := [.data, .data, .data, .data, .sentinel, .sentinel, .pinned], laidTests := true, laidLooks := .later }
def BindChecksCardSaid : Prop := Claim7.holds Tryz.pinned (.plain (OpenSpec.ofChange bindChecksSpec)) bindChecksCard

/-- THE TIED CARD OF 'loupelaw20.BindGroups'. -/
def bindGroupsCard : Claim7 := { stood := { row := bindGroupsRow, standIns := [], harness := (true, "b6a6201a0ce90aa89303d21ae0ce0d7b2f20c8e264bad93012977ffbaa0ae5cf"), looks := true }, kinds := [], alts := [], laidByText := true, laidKinds := [.data, .data, .data, .data, .sentinel, .sentinel, .pinned], laidTests := true, laidLooks := .later }
def BindGroupsCardSaid : Prop := Claim7.holds Tryz.pinned (.plain (OpenSpec.ofChange bindGroupsSpec)) bindGroupsCard

/-- THE TIED CARD OF 'loupelaw20.BindOrder'. -/
def bindOrderCard : Claim7 := { stood := { row := bindOrderRow, standIns := [], harness := (true, "b6a6201a0ce90aa89303d21ae0ce0d7b2f20c8e264bad93012977ffbaa0ae5cf"), looks := true }, kinds := [], alts := [], laidByText := true, laidKinds := [.data, .data, .data, .data, .sentinel, .sentinel, .pinned], laidTests := true, laidLooks := .later }
def BindOrderCardSaid : Prop := Claim7.holds Tryz.pinned (.plain (OpenSpec.ofChange bindOrderSpec)) bindOrderCard

/-- THE TIED CARD OF 'loupelaw20.BindEvals'. -/
def bindEvalsCard : Claim7 := { stood := { row := bindEvalsRow, standIns := [], harness := (true, "b6a6201a0ce90aa89303d21ae0ce0d7b2f20c8e264bad93012977ffbaa0ae5cf"), looks := true }, kinds := [], alts := [], laidByText := true, laidKinds := [.data, .data, .data, .data, .sentinel, .sentinel, .pinned], laidTests := true, laidLooks := .later }
def BindEvalsCardSaid : Prop := Claim7.holds Tryz.pinned (.plain (OpenSpec.ofChange bindEvalsSpec)) bindEvalsCard

/-- THE TIED CARD OF 'loupelaw20.BindBinds'. -/
def bindBindsCard : Claim7 := { stood := { row := bindBindsRow, standIns := [], harness := (true, "b6a6201a0ce90aa89303d21ae0ce0d7b2f20c8e264bad93012977ffbaa0ae5cf"), looks := true }, kinds := [], alts := [], laidByText := true, laidKinds := [.data, .data, .data, .data, .sentinel, .sentinel, .pinned], laidTests := true, laidLooks := .later }
def BindBindsCardSaid : Prop := Claim7.holds Tryz.pinned (.plain (OpenSpec.ofChange bindBindsSpec)) bindBindsCard

/-- THE SECOND FORM's CARD OF 'loupelaw20.BindChecks'. -/
def bindChecksUptoCard : Claim7 := { stood := { row := bindChecksUptoRow, standIns := [], harness := (true, "b6a6201a0ce90aa89303d21ae0ce0d7b2f20c8e264bad93012977ffbaa0ae5cf"), looks := true }, kinds := [], alts := [], laidByText := true, laidKinds := [.data, .data, .data, .data, .sentinel, .sentinel, .pinned], laidTests := true, laidLooks := .later }
def BindChecksUptoCardSaid : Prop := Claim7.holds Tryz.pinned (.plain (OpenSpec.upto bindChecksSpec)) bindChecksUptoCard

/-- THE SECOND FORM's CARD OF 'loupelaw20.BindGroups'. -/
def bindGroupsUptoCard : Claim7 := { stood := { row := bindGroupsUptoRow, standIns := [], harness := (true, "b6a6201a0ce90aa89303d21ae0ce0d7b2f20c8e264bad93012977ffbaa0ae5cf"), looks := true }, kinds := [], alts := [], laidByText := true, laidKinds := [.data, .data, .data, .data, .sentinel, .sentinel, .pinned], laidTests := true, laidLooks := .later }
def BindGroupsUptoCardSaid : Prop := Claim7.holds Tryz.pinned (.plain (OpenSpec.upto bindGroupsSpec)) bindGroupsUptoCard

/-- THE SECOND FORM's CARD OF 'loupelaw20.BindOrder'. -/
def bindOrderUptoCard : Claim7 := { stood := { row := bindOrderUptoRow, standIns := [], harness := (true, "b6a6201a0ce90aa89303d21ae0ce0d7b2f20c8e264bad93012977ffbaa0ae5cf"), looks := true }, kinds := [], alts := [], laidByText := true, laidKinds := [.data, .data, .data, .data, .sentinel, .sentinel, .pinned], laidTests := true, laidLooks := .later }
def BindOrderUptoCardSaid : Prop := Claim7.holds Tryz.pinned (.plain (OpenSpec.upto bindOrderSpec)) bindOrderUptoCard

/-- THE SECOND FORM's CARD OF 'loupelaw20.BindEvals'. -/
def bindEvalsUptoCard : Claim7 := { stood := { row := bindEvalsUptoRow, standIns := [], harness := (true, "b6a6201a0ce90aa89303d21ae0ce0d7b2f20c8e264bad93012977ffbaa0ae5cf"), looks := true }, kinds := [], alts := [], laidByText := true, laidKinds := [.data, .data, .data, .data, .sentinel, .sentinel, .pinned], laidTests := true, laidLooks := .later }
def BindEvalsUptoCardSaid : Prop := Claim7.holds Tryz.pinned (.plain (OpenSpec.upto bindEvalsSpec)) bindEvalsUptoCard

/-- THE SECOND FORM's CARD OF 'loupelaw20.BindBinds'. -/
def bindBindsUptoCard : Claim7 := { stood := { row := bindBindsUptoRow, standIns := [], harness := (true, "b6a6201a0ce90aa89303d21ae0ce0d7b2f20c8e264bad93012977ffbaa0ae5cf"), looks := true }, kinds := [], alts := [], laidByText := true, laidKinds := [.data, .data, .data, .data, .sentinel, .sentinel, .pinned], laidTests := true, laidLooks := .later }
def BindBindsUptoCardSaid : Prop := Claim7.holds Tryz.pinned (.plain (OpenSpec.upto bindBindsSpec)) bindBindsUptoCard
end Rows
end Go.Proofs.YtdbkbfkpmnpldaaGreatDoor
