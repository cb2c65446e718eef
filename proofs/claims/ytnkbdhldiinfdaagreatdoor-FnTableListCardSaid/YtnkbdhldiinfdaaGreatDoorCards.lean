/-
  DERIVED. GIVEN WITH THE SEED: THE CARDS: each row of YtnkbdhldiinfdaaGreatDoorRows.lean that lists a variable, with what it lists TIED to the program's text (the seventh form; the later family's looks); each row that meets fmt, with fmt's text TOLD by the authors' own Lean function (tested against real Go, not proved from fmt's source: count such statements apart). THE CARD IS WHAT COUNTS. Prove the row's statement (the work); the ties are given (YtnkbdhldiinfdaaGreatDoorTie.lean); close each card by the builder's one call (the guide's Derived/Test/ToyasCard.lean, 'card_holds'). Laid BY PROGRAM, IN A SANDBOX (cutbox-door.mjs). By AI agents, Wed Nov 11 2026. No macro, syntax, notation, axiom, sorry.
-/
import Derived.Test.YtnkbdhldiinfdaaGreatDoorRows
import GoSem.ClaimSeven
namespace Go.Proofs.YtnkbdhldiinfdaaGreatDoor
namespace Rows

/-- THE TIED CARD OF 'laws.FnTreeGet'. -/
def fnTreeGetCard : Claim7 := { stood := { row := fnTreeGetRow, standIns := [], harness := (true, "eaa0742e907348102ec3026a2f2efc365c8b72a6cc690d23fc708df6a9cbaf29"), looks := true }, kinds := [], alts := [], laidByText := true, laidKinds := [.data, .data, .data, .data, .sentinel, .sentinel, .pinned], laidTests := true, laidLooks := .later }
def FnTreeGetCardSaid : Prop := Claim7.holds Tryz.pinned (.plain (OpenSpec.ofChange fnTreeGetSpec)) fnTreeGetCard

/-- THE TIED CARD OF 'laws.FnTableOk'. -/
def fnTableOkCard : Claim7 := { stood := { row := fnTableOkRow, standIns := [], harness := (true, "eaa0742e907348102ec3026a2f2efc365c8b72a6cc690d23fc708df6a9cbaf29"), looks := true }, kinds := [], alts := [], laidByText := true, laidKinds := [.data, .data, .data, .data, .sentinel, .sentinel, .pinned], laidTests := true, laidLooks := .later }
def FnTableOkCardSaid : Prop := Claim7.holds Tryz.pinned (.plain (OpenSpec.ofChange fnTableOkSpec)) fnTableOkCard

/-- THE TIED CARD OF 'laws.FnTableFree'. -/
def fnTableFreeCard : Claim7 := { stood := { row := fnTableFreeRow, standIns := [], harness := (true, "eaa0742e907348102ec3026a2f2efc365c8b72a6cc690d23fc708df6a9cbaf29"), looks := true }, kinds := [], alts := [], laidByText := true, laidKinds := [.data, .data, .data, .data, .sentinel, .sentinel, .pinned], laidTests := true, laidLooks := .later }
def FnTableFreeCardSaid : Prop := Claim7.holds Tryz.pinned (.plain (OpenSpec.ofChange fnTableFreeSpec)) fnTableFreeCard

/-- THE TIED CARD OF 'laws.FnTableList'. -/
def fnTableListCard : Claim7 := { stood := { row := fnTableListRow, standIns := [], harness := (true, "eaa0742e907348102ec3026a2f2efc365c8b72a6cc690d23fc708df6a9cbaf29"), looks := true }, kinds := [], alts := [], laidByText := true, laidKinds := [.data, .data, .data, .data, .sentinel, .sentinel, .pinned], laidTests := true, laidLooks := .later }
def FnTableListCardSaid : Prop := Claim7.holds Tryz.pinned (.plain (OpenSpec.ofChange fnTableListSpec)) fnTableListCard

/-- THE TIED CARD OF 'laws.FnTableGet'. -/
def fnTableGetCard : Claim7 := { stood := { row := fnTableGetRow, standIns := [], harness := (true, "eaa0742e907348102ec3026a2f2efc365c8b72a6cc690d23fc708df6a9cbaf29"), looks := true }, kinds := [], alts := [], laidByText := true, laidKinds := [.data, .data, .data, .data, .sentinel, .sentinel, .pinned], laidTests := true, laidLooks := .later }
def FnTableGetCardSaid : Prop := Claim7.holds Tryz.pinned (.plain (OpenSpec.ofChange fnTableGetSpec)) fnTableGetCard

/-- THE SECOND FORM's CARD OF 'laws.FnTreeGet'. -/
def fnTreeGetUptoCard : Claim7 := { stood := { row := fnTreeGetUptoRow, standIns := [], harness := (true, "eaa0742e907348102ec3026a2f2efc365c8b72a6cc690d23fc708df6a9cbaf29"), looks := true }, kinds := [], alts := [], laidByText := true, laidKinds := [.data, .data, .data, .data, .sentinel, .sentinel, .pinned], laidTests := true, laidLooks := .later }
def FnTreeGetUptoCardSaid : Prop := Claim7.holds Tryz.pinned (.plain (OpenSpec.upto fnTreeGetSpec)) fnTreeGetUptoCard

/-- THE SECOND FORM's CARD OF 'laws.FnTableOk'. -/
def fnTableOkUptoCard : Claim7 := { stood := { row := fnTableOkUptoRow, standIns := [], harness := (true, "eaa0742e907348102ec3026a2f2efc365c8b72a6cc690d23fc708df6a9cbaf29"), looks := true }, kinds := [], alts := [], laidByText := true, laidKinds := [.data, .data, .data, .data, .sentinel, .sentinel, .pinned], laidTests := true, laidLooks := .later }
def FnTableOkUptoCardSaid : Prop := Claim7.holds Tryz.pinned (.plain (OpenSpec.upto fnTableOkSpec)) fnTableOkUptoCard

/-- THE SECOND FORM's CARD OF 'laws.FnTableFree'. -/
def fnTableFreeUptoCard : Claim7 := { stood := { row := fnTableFreeUptoRow, standIns := [], harness := (true, "eaa0742e907348102ec3026a2f2efc365c8b72a6cc690d23fc708df6a9cbaf29"), looks := true }, kinds := [], alts := [], laidByText := true, laidKinds := [.data, .data, .data, .data, .sentinel, .sentinel, .pinned], laidTests := true, laidLooks := .later }
def FnTableFreeUptoCardSaid : Prop := Claim7.holds Tryz.pinned (.plain (OpenSpec.upto fnTableFreeSpec)) fnTableFreeUptoCard

/-- THE SECOND FORM's CARD OF 'laws.FnTableList'. -/
def fnTableListUptoCard : Claim7 := { stood := { row := fnTableListUptoRow, standIns := [], harness := (true, "eaa0742e907348102ec3026a2f2efc365c8b72a6cc690d23fc708df6a9cbaf29"), looks := true }, kinds := [], alts := [], laidByText := true, laidKinds := [.data, .data, .data, .data, .sentinel, .sentinel, .pinned], laidTests := true, laidLooks := .later }
def FnTableListUptoCardSaid : Prop := Claim7.holds Tryz.pinned (.plain (OpenSpec.upto fnTableListSpec)) fnTableListUptoCard

/-- THE SECOND FORM's CARD OF 'laws.FnTableGet'. -/
def fnTableGetUptoCard : Claim7 := { stood := { row := fnTableGetUptoRow, standIns := [], harness := (true, "eaa0742e907348102ec3026a2f2efc365c8b72a6cc690d23fc708df6a9cbaf29"), looks := true }, kinds := [], alts := [], laidByText := true, laidKinds := [.data, .data, .data, .data, .sentinel, .sentinel, .pinned], laidTests := true, laidLooks := .later }
def FnTableGetUptoCardSaid : Prop := Claim7.holds Tryz.pinned (.plain (OpenSpec.upto fnTableGetSpec)) fnTableGetUptoCard
end Rows
end Go.Proofs.YtnkbdhldiinfdaaGreatDoor
