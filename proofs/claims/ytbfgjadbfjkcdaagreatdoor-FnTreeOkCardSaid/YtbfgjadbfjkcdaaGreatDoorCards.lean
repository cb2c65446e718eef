/-
  DERIVED. GIVEN WITH THE SEED: THE CARDS: each row of YtbfgjadbfjkcdaaGreatDoorRows.lean that lists a variable, with what it lists TIED to the program's text (the seventh form; the later family's looks); each row that meets fmt, with fmt's text TOLD by the authors' own Lean function (tested against real Go, not proved from fmt's source: count such statements apart). THE CARD IS WHAT COUNTS. Prove the row's statement (the work); the ties are given (YtbfgjadbfjkcdaaGreatDoorTie.lean); close each card by the builder's one call (the guide's Derived/Test/ToyasCard.lean, 'card_holds'). Laid BY PROGRAM, IN A SANDBOX (cutbox-door.mjs). By AI agents, Wed Nov 11 2026. No macro, syntax, notation, axiom, sorry.
-/
import Derived.Test.YtbfgjadbfjkcdaaGreatDoorRows
import GoSem.ClaimSeven
namespace Go.Proofs.YtbfgjadbfjkcdaaGreatDoor
namespace Rows

/-- THE TIED CARD OF 'laws.FnTreeOk'. -/
def fnTreeOkCard : Claim7 := { stood := { row := fnTreeOkRow, standIns := [], harness := (true, "eb720ad75bf9e053e8ab8d91ff51f8b6b83a0ac5bf943802e3daabdbacafcd86"), looks := true }, kinds := [], alts := [], laidByText := true, laidKinds := [.data, .data, .data, .data, .sentinel, .sentinel, .pinned], laidTests := true, laidLooks := .later }
def FnTreeOkCardSaid : Prop := Claim7.holds Tryz.pinned (.plain (OpenSpec.ofChange fnTreeOkSpec)) fnTreeOkCard

/-- THE SECOND FORM's CARD OF 'laws.FnTreeOk'. -/
def fnTreeOkUptoCard : Claim7 := { stood := { row := fnTreeOkUptoRow, standIns := [], harness := (true, "eb720ad75bf9e053e8ab8d91ff51f8b6b83a0ac5bf943802e3daabdbacafcd86"), looks := true }, kinds := [], alts := [], laidByText := true, laidKinds := [.data, .data, .data, .data, .sentinel, .sentinel, .pinned], laidTests := true, laidLooks := .later }
def FnTreeOkUptoCardSaid : Prop := Claim7.holds Tryz.pinned (.plain (OpenSpec.upto fnTreeOkSpec)) fnTreeOkUptoCard
end Rows
end Go.Proofs.YtbfgjadbfjkcdaaGreatDoor
