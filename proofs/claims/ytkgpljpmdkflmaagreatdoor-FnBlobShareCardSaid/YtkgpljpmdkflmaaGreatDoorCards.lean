/-
  DERIVED. GIVEN WITH THE SEED: THE CARDS: each row of YtkgpljpmdkflmaaGreatDoorRows.lean that lists a variable, with what it lists TIED to the program's text (the seventh form; the later family's looks); each row that meets fmt, with fmt's text TOLD by the authors' own Lean function (tested against real Go, not proved from fmt's source: count such statements apart). THE CARD IS WHAT COUNTS. Prove the row's statement (the work); the ties are given (YtkgpljpmdkflmaaGreatDoorTie.lean); close each card by the builder's one call (the guide's Derived/Test/ToyasCard.lean, 'card_holds'). Laid BY PROGRAM, IN A SANDBOX (cutbox-door.mjs). By AI agents, Wed Nov 11 2026. No macro, syntax, notation, axiom, sorry.
-/
import Derived.Test.YtkgpljpmdkflmaaGreatDoorRows
import GoSem.ClaimSeven
namespace Go.Proofs.YtkgpljpmdkflmaaGreatDoor
namespace Rows

/-- THE TIED CARD OF 'laws.FnTreeLeaves'. -/
def fnTreeLeavesCard : Claim7 := { stood := { row := fnTreeLeavesRow, standIns := [], harness := (true, "91914b1adf739445fb7f3ae597d2c5da6844ed860058ebb3120e229a49c14890"), looks := true }, kinds := [], alts := [], laidByText := true, laidKinds := [.data, .data, .data, .data, .sentinel, .sentinel, .pinned], laidTests := true, laidLooks := .later }
def FnTreeLeavesCardSaid : Prop := Claim7.holds Tryz.pinned (.plain (OpenSpec.ofChange fnTreeLeavesSpec)) fnTreeLeavesCard

/-- THE TIED CARD OF 'laws.FnTreeAll'. -/
def fnTreeAllCard : Claim7 := { stood := { row := fnTreeAllRow, standIns := [], harness := (true, "91914b1adf739445fb7f3ae597d2c5da6844ed860058ebb3120e229a49c14890"), looks := true }, kinds := [], alts := [], laidByText := true, laidKinds := [.data, .data, .data, .data, .sentinel, .sentinel, .pinned], laidTests := true, laidLooks := .later }
def FnTreeAllCardSaid : Prop := Claim7.holds Tryz.pinned (.plain (OpenSpec.ofChange fnTreeAllSpec)) fnTreeAllCard

/-- THE TIED CARD OF 'laws.FnTreeDiff'. -/
def fnTreeDiffCard : Claim7 := { stood := { row := fnTreeDiffRow, standIns := [], harness := (true, "91914b1adf739445fb7f3ae597d2c5da6844ed860058ebb3120e229a49c14890"), looks := true }, kinds := [], alts := [], laidByText := true, laidKinds := [.data, .data, .data, .data, .sentinel, .sentinel, .pinned], laidTests := true, laidLooks := .later }
def FnTreeDiffCardSaid : Prop := Claim7.holds Tryz.pinned (.plain (OpenSpec.ofChange fnTreeDiffSpec)) fnTreeDiffCard

/-- THE TIED CARD OF 'laws.FnBlobSame'. -/
def fnBlobSameCard : Claim7 := { stood := { row := fnBlobSameRow, standIns := [], harness := (true, "91914b1adf739445fb7f3ae597d2c5da6844ed860058ebb3120e229a49c14890"), looks := true }, kinds := [], alts := [], laidByText := true, laidKinds := [.data, .data, .data, .data, .sentinel, .sentinel, .pinned], laidTests := true, laidLooks := .later }
def FnBlobSameCardSaid : Prop := Claim7.holds Tryz.pinned (.plain (OpenSpec.ofChange fnBlobSameSpec)) fnBlobSameCard

/-- THE TIED CARD OF 'laws.FnBlobShare'. -/
def fnBlobShareCard : Claim7 := { stood := { row := fnBlobShareRow, standIns := [], harness := (true, "91914b1adf739445fb7f3ae597d2c5da6844ed860058ebb3120e229a49c14890"), looks := true }, kinds := [], alts := [], laidByText := true, laidKinds := [.data, .data, .data, .data, .sentinel, .sentinel, .pinned], laidTests := true, laidLooks := .later }
def FnBlobShareCardSaid : Prop := Claim7.holds Tryz.pinned (.plain (OpenSpec.ofChange fnBlobShareSpec)) fnBlobShareCard

/-- THE TIED CARD OF 'laws.FnTableFree'. -/
def fnTableFreeCard : Claim7 := { stood := { row := fnTableFreeRow, standIns := [], harness := (true, "91914b1adf739445fb7f3ae597d2c5da6844ed860058ebb3120e229a49c14890"), looks := true }, kinds := [], alts := [], laidByText := true, laidKinds := [.data, .data, .data, .data, .sentinel, .sentinel, .pinned], laidTests := true, laidLooks := .later }
def FnTableFreeCardSaid : Prop := Claim7.holds Tryz.pinned (.plain (OpenSpec.ofChange fnTableFreeSpec)) fnTableFreeCard

/-- THE TIED CARD OF 'laws.FnTableOk'. -/
def fnTableOkCard : Claim7 := { stood := { row := fnTableOkRow, standIns := [], harness := (true, "91914b1adf739445fb7f3ae597d2c5da6844ed860058ebb3120e229a49c14890"), looks := true }, kinds := [], alts := [], laidByText := true, laidKinds := [.data, .data, .data, .data, .sentinel, .sentinel, .pinned], laidTests := true, laidLooks := .later }
def FnTableOkCardSaid : Prop := Claim7.holds Tryz.pinned (.plain (OpenSpec.ofChange fnTableOkSpec)) fnTableOkCard

/-- THE TIED CARD OF 'laws.FnTableList'. -/
def fnTableListCard : Claim7 := { stood := { row := fnTableListRow, standIns := [], harness := (true, "91914b1adf739445fb7f3ae597d2c5da6844ed860058ebb3120e229a49c14890"), looks := true }, kinds := [], alts := [], laidByText := true, laidKinds := [.data, .data, .data, .data, .sentinel, .sentinel, .pinned], laidTests := true, laidLooks := .later }
def FnTableListCardSaid : Prop := Claim7.holds Tryz.pinned (.plain (OpenSpec.ofChange fnTableListSpec)) fnTableListCard

/-- THE TIED CARD OF 'laws.FnTableAll'. -/
def fnTableAllCard : Claim7 := { stood := { row := fnTableAllRow, standIns := [], harness := (true, "91914b1adf739445fb7f3ae597d2c5da6844ed860058ebb3120e229a49c14890"), looks := true }, kinds := [], alts := [], laidByText := true, laidKinds := [.data, .data, .data, .data, .sentinel, .sentinel, .pinned], laidTests := true, laidLooks := .later }
def FnTableAllCardSaid : Prop := Claim7.holds Tryz.pinned (.plain (OpenSpec.ofChange fnTableAllSpec)) fnTableAllCard

/-- THE TIED CARD OF 'laws.FnFileRead'. -/
def fnFileReadCard : Claim7 := { stood := { row := fnFileReadRow, standIns := [], harness := (true, "91914b1adf739445fb7f3ae597d2c5da6844ed860058ebb3120e229a49c14890"), looks := true }, kinds := [], alts := [], laidByText := true, laidKinds := [.data, .data, .data, .data, .sentinel, .sentinel, .pinned], laidTests := true, laidLooks := .later }
def FnFileReadCardSaid : Prop := Claim7.holds Tryz.pinned (.plain (OpenSpec.ofChange fnFileReadSpec)) fnFileReadCard

/-- THE TIED CARD OF 'laws.FnFileHoles'. -/
def fnFileHolesCard : Claim7 := { stood := { row := fnFileHolesRow, standIns := [], harness := (true, "91914b1adf739445fb7f3ae597d2c5da6844ed860058ebb3120e229a49c14890"), looks := true }, kinds := [], alts := [], laidByText := true, laidKinds := [.data, .data, .data, .data, .sentinel, .sentinel, .pinned], laidTests := true, laidLooks := .later }
def FnFileHolesCardSaid : Prop := Claim7.holds Tryz.pinned (.plain (OpenSpec.ofChange fnFileHolesSpec)) fnFileHolesCard

/-- THE SECOND FORM's CARD OF 'laws.FnTreeLeaves'. -/
def fnTreeLeavesUptoCard : Claim7 := { stood := { row := fnTreeLeavesUptoRow, standIns := [], harness := (true, "91914b1adf739445fb7f3ae597d2c5da6844ed860058ebb3120e229a49c14890"), looks := true }, kinds := [], alts := [], laidByText := true, laidKinds := [.data, .data, .data, .data, .sentinel, .sentinel, .pinned], laidTests := true, laidLooks := .later }
def FnTreeLeavesUptoCardSaid : Prop := Claim7.holds Tryz.pinned (.plain (OpenSpec.upto fnTreeLeavesSpec)) fnTreeLeavesUptoCard

/-- THE SECOND FORM's CARD OF 'laws.FnTreeAll'. -/
def fnTreeAllUptoCard : Claim7 := { stood := { row := fnTreeAllUptoRow, standIns := [], harness := (true, "91914b1adf739445fb7f3ae597d2c5da6844ed860058ebb3120e229a49c14890"), looks := true }, kinds := [], alts := [], laidByText := true, laidKinds := [.data, .data, .data, .data, .sentinel, .sentinel, .pinned], laidTests := true, laidLooks := .later }
def FnTreeAllUptoCardSaid : Prop := Claim7.holds Tryz.pinned (.plain (OpenSpec.upto fnTreeAllSpec)) fnTreeAllUptoCard

/-- THE SECOND FORM's CARD OF 'laws.FnTreeDiff'. -/
def fnTreeDiffUptoCard : Claim7 := { stood := { row := fnTreeDiffUptoRow, standIns := [], harness := (true, "91914b1adf739445fb7f3ae597d2c5da6844ed860058ebb3120e229a49c14890"), looks := true }, kinds := [], alts := [], laidByText := true, laidKinds := [.data, .data, .data, .data, .sentinel, .sentinel, .pinned], laidTests := true, laidLooks := .later }
def FnTreeDiffUptoCardSaid : Prop := Claim7.holds Tryz.pinned (.plain (OpenSpec.upto fnTreeDiffSpec)) fnTreeDiffUptoCard

/-- THE SECOND FORM's CARD OF 'laws.FnBlobSame'. -/
def fnBlobSameUptoCard : Claim7 := { stood := { row := fnBlobSameUptoRow, standIns := [], harness := (true, "91914b1adf739445fb7f3ae597d2c5da6844ed860058ebb3120e229a49c14890"), looks := true }, kinds := [], alts := [], laidByText := true, laidKinds := [.data, .data, .data, .data, .sentinel, .sentinel, .pinned], laidTests := true, laidLooks := .later }
def FnBlobSameUptoCardSaid : Prop := Claim7.holds Tryz.pinned (.plain (OpenSpec.upto fnBlobSameSpec)) fnBlobSameUptoCard

/-- THE SECOND FORM's CARD OF 'laws.FnBlobShare'. -/
def fnBlobShareUptoCard : Claim7 := { stood := { row := fnBlobShareUptoRow, standIns := [], harness := (true, "91914b1adf739445fb7f3ae597d2c5da6844ed860058ebb3120e229a49c14890"), looks := true }, kinds := [], alts := [], laidByText := true, laidKinds := [.data, .data, .data, .data, .sentinel, .sentinel, .pinned], laidTests := true, laidLooks := .later }
def FnBlobShareUptoCardSaid : Prop := Claim7.holds Tryz.pinned (.plain (OpenSpec.upto fnBlobShareSpec)) fnBlobShareUptoCard

/-- THE SECOND FORM's CARD OF 'laws.FnTableFree'. -/
def fnTableFreeUptoCard : Claim7 := { stood := { row := fnTableFreeUptoRow, standIns := [], harness := (true, "91914b1adf739445fb7f3ae597d2c5da6844ed860058ebb3120e229a49c14890"), looks := true }, kinds := [], alts := [], laidByText := true, laidKinds := [.data, .data, .data, .data, .sentinel, .sentinel, .pinned], laidTests := true, laidLooks := .later }
def FnTableFreeUptoCardSaid : Prop := Claim7.holds Tryz.pinned (.plain (OpenSpec.upto fnTableFreeSpec)) fnTableFreeUptoCard

/-- THE SECOND FORM's CARD OF 'laws.FnTableOk'. -/
def fnTableOkUptoCard : Claim7 := { stood := { row := fnTableOkUptoRow, standIns := [], harness := (true, "91914b1adf739445fb7f3ae597d2c5da6844ed860058ebb3120e229a49c14890"), looks := true }, kinds := [], alts := [], laidByText := true, laidKinds := [.data, .data, .data, .data, .sentinel, .sentinel, .pinned], laidTests := true, laidLooks := .later }
def FnTableOkUptoCardSaid : Prop := Claim7.holds Tryz.pinned (.plain (OpenSpec.upto fnTableOkSpec)) fnTableOkUptoCard

/-- THE SECOND FORM's CARD OF 'laws.FnTableList'. -/
def fnTableListUptoCard : Claim7 := { stood := { row := fnTableListUptoRow, standIns := [], harness := (true, "91914b1adf739445fb7f3ae597d2c5da6844ed860058ebb3120e229a49c14890"), looks := true }, kinds := [], alts := [], laidByText := true, laidKinds := [.data, .data, .data, .data, .sentinel, .sentinel, .pinned], laidTests := true, laidLooks := .later }
def FnTableListUptoCardSaid : Prop := Claim7.holds Tryz.pinned (.plain (OpenSpec.upto fnTableListSpec)) fnTableListUptoCard

/-- THE SECOND FORM's CARD OF 'laws.FnTableAll'. -/
def fnTableAllUptoCard : Claim7 := { stood := { row := fnTableAllUptoRow, standIns := [], harness := (true, "91914b1adf739445fb7f3ae597d2c5da6844ed860058ebb3120e229a49c14890"), looks := true }, kinds := [], alts := [], laidByText := true, laidKinds := [.data, .data, .data, .data, .sentinel, .sentinel, .pinned], laidTests := true, laidLooks := .later }
def FnTableAllUptoCardSaid : Prop := Claim7.holds Tryz.pinned (.plain (OpenSpec.upto fnTableAllSpec)) fnTableAllUptoCard

/-- THE SECOND FORM's CARD OF 'laws.FnFileRead'. -/
def fnFileReadUptoCard : Claim7 := { stood := { row := fnFileReadUptoRow, standIns := [], harness := (true, "91914b1adf739445fb7f3ae597d2c5da6844ed860058ebb3120e229a49c14890"), looks := true }, kinds := [], alts := [], laidByText := true, laidKinds := [.data, .data, .data, .data, .sentinel, .sentinel, .pinned], laidTests := true, laidLooks := .later }
def FnFileReadUptoCardSaid : Prop := Claim7.holds Tryz.pinned (.plain (OpenSpec.upto fnFileReadSpec)) fnFileReadUptoCard

/-- THE SECOND FORM's CARD OF 'laws.FnFileHoles'. -/
def fnFileHolesUptoCard : Claim7 := { stood := { row := fnFileHolesUptoRow, standIns := [], harness := (true, "91914b1adf739445fb7f3ae597d2c5da6844ed860058ebb3120e229a49c14890"), looks := true }, kinds := [], alts := [], laidByText := true, laidKinds := [.data, .data, .data, .data, .sentinel, .sentinel, .pinned], laidTests := true, laidLooks := .later }
def FnFileHolesUptoCardSaid : Prop := Claim7.holds Tryz.pinned (.plain (OpenSpec.upto fnFileHolesSpec)) fnFileHolesUptoCard
end Rows
end Go.Proofs.YtkgpljpmdkflmaaGreatDoor
