/-
  DERIVED. GIVEN WITH THE SEED: THE CARDS: each row of YtndmmmcglebllaaGreatDoorRows.lean that lists a variable, with what it lists TIED to the program's text (the seventh form; the later family's looks); each row that meets fmt, with fmt's text TOLD by the authors' own Lean function (tested against real Go, not proved from fmt's source: count such statements apart). THE CARD IS WHAT COUNTS. Prove the row's statement (the work); the ties are given (YtndmmmcglebllaaGreatDoorTie.lean); close each card by the builder's one call (the guide's Derived/Test/ToyasCard.lean, 'card_holds'). Laid BY PROGRAM, IN A SANDBOX (cutbox-door.mjs). By AI agents, Wed Nov 11 2026. No macro, syntax, notation, axiom, sorry.
-/
import Derived.Test.YtndmmmcglebllaaGreatDoorRows
import GoSem.ClaimSeven
namespace Go.Proofs.YtndmmmcglebllaaGreatDoor
namespace Rows

/-- THE TIED CARD OF 'laws.FnTableAll'. -/
def fnTableAllCard : Claim7 := { stood := { row := fnTableAllRow, standIns := [], harness := (true, "d100747de7a173f6d8502c8e0bb533edcb8db230ddbe460badfe1ca83a0b985c"), looks := true }, kinds := [], alts := [], laidByText := true, laidKinds := [.data, .data, .data, .data, .sentinel, .sentinel, .pinned], laidTests := true, laidLooks := .later }
def FnTableAllCardSaid : Prop := Claim7.holds Tryz.pinned (.plain (OpenSpec.ofChange fnTableAllSpec)) fnTableAllCard

/-- THE SECOND FORM's CARD OF 'laws.FnTableAll'. -/
def fnTableAllUptoCard : Claim7 := { stood := { row := fnTableAllUptoRow, standIns := [], harness := (true, "d100747de7a173f6d8502c8e0bb533edcb8db230ddbe460badfe1ca83a0b985c"), looks := true }, kinds := [], alts := [], laidByText := true, laidKinds := [.data, .data, .data, .data, .sentinel, .sentinel, .pinned], laidTests := true, laidLooks := .later }
def FnTableAllUptoCardSaid : Prop := Claim7.holds Tryz.pinned (.plain (OpenSpec.upto fnTableAllSpec)) fnTableAllUptoCard
end Rows
end Go.Proofs.YtndmmmcglebllaaGreatDoor
