/-
  DERIVED. GIVEN WITH THE SEED: THE CARDS: each row of YtmfljpjdpfbfoaaGreatDoorRows.lean that lists a variable, with what it lists TIED to the program's text (the seventh form; the later family's looks); each row that meets fmt, with fmt's text TOLD by the authors' own Lean function (tested against real Go, not proved from fmt's source: count such statements apart). THE CARD IS WHAT COUNTS. Prove the row's statement (the work); the ties are given (YtmfljpjdpfbfoaaGreatDoorTie.lean); close each card by the builder's one call (the guide's Derived/Test/ToyasCard.lean, 'card_holds'). Laid BY PROGRAM, IN A SANDBOX (cutbox-door.mjs). By AI agents, Wed Nov 11 2026. No macro, syntax, notation, axiom, sorry.
-/
import Derived.Test.YtmfljpjdpfbfoaaGreatDoorRows
import GoSem.ClaimSeven
namespace Go.Proofs.YtmfljpjdpfbfoaaGreatDoor
namespace Rows

/-- THE TIED CARD OF 'laws.FnExactBayNew'. -/
def fnExactBayNewCard : Claim7 := { stood := { row := fnExactBayNewRow, standIns := [], harness := (true, "930b28ef5e815b4415193cfb3e2e472ba81fd84d865d7801175b6df8e234e5e4"), looks := true }, kinds := [], alts := [], laidByText := true, laidKinds := [.data, .data, .data, .data, .sentinel, .sentinel, .pinned], laidTests := true, laidLooks := .later }
def FnExactBayNewCardSaid : Prop := Claim7.holds Tryz.pinned (.plain (OpenSpec.ofChange fnExactBayNewSpec)) fnExactBayNewCard

/-- THE TIED CARD OF 'laws.FnBayNew'. -/
def fnBayNewCard : Claim7 := { stood := { row := fnBayNewRow, standIns := [], harness := (true, "930b28ef5e815b4415193cfb3e2e472ba81fd84d865d7801175b6df8e234e5e4"), looks := true }, kinds := [], alts := [], laidByText := true, laidKinds := [.data, .data, .data, .data, .sentinel, .sentinel, .pinned], laidTests := true, laidLooks := .later }
def FnBayNewCardSaid : Prop := Claim7.holds Tryz.pinned (.plain (OpenSpec.ofChange fnBayNewSpec)) fnBayNewCard

/-- THE SECOND FORM's CARD OF 'laws.FnExactBayNew'. -/
def fnExactBayNewUptoCard : Claim7 := { stood := { row := fnExactBayNewUptoRow, standIns := [], harness := (true, "930b28ef5e815b4415193cfb3e2e472ba81fd84d865d7801175b6df8e234e5e4"), looks := true }, kinds := [], alts := [], laidByText := true, laidKinds := [.data, .data, .data, .data, .sentinel, .sentinel, .pinned], laidTests := true, laidLooks := .later }
def FnExactBayNewUptoCardSaid : Prop := Claim7.holds Tryz.pinned (.plain (OpenSpec.upto fnExactBayNewSpec)) fnExactBayNewUptoCard

/-- THE SECOND FORM's CARD OF 'laws.FnBayNew'. -/
def fnBayNewUptoCard : Claim7 := { stood := { row := fnBayNewUptoRow, standIns := [], harness := (true, "930b28ef5e815b4415193cfb3e2e472ba81fd84d865d7801175b6df8e234e5e4"), looks := true }, kinds := [], alts := [], laidByText := true, laidKinds := [.data, .data, .data, .data, .sentinel, .sentinel, .pinned], laidTests := true, laidLooks := .later }
def FnBayNewUptoCardSaid : Prop := Claim7.holds Tryz.pinned (.plain (OpenSpec.upto fnBayNewSpec)) fnBayNewUptoCard
end Rows
end Go.Proofs.YtmfljpjdpfbfoaaGreatDoor
