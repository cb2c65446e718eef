/-
  DERIVED. GIVEN WITH THE SEED: THE CARDS: each row of YtclcgjhhehbdeaaGreatDoorRows.lean that lists a variable, with what it lists TIED to the program's text (the seventh form; the later family's looks); each row that meets fmt, with fmt's text TOLD by the authors' own Lean function (tested against real Go, not proved from fmt's source: count such statements apart). THE CARD IS WHAT COUNTS. Prove the row's statement (the work); the ties are given (YtclcgjhhehbdeaaGreatDoorTie.lean); close each card by the builder's one call (the guide's Derived/Test/ToyasCard.lean, 'card_holds'). Laid BY PROGRAM, IN A SANDBOX (cutbox-door.mjs). By AI agents, Wed Nov 11 2026. No macro, syntax, notation, axiom, sorry.
-/
import Derived.Test.YtclcgjhhehbdeaaGreatDoorRows
import GoSem.ClaimSeven
namespace Go.Proofs.YtclcgjhhehbdeaaGreatDoor
namespace Rows

/-- THE TIED CARD OF 'laws.FnTreeDiff'. -/
def fnTreeDiffCard : Claim7 := { stood := { row := fnTreeDiffRow, standIns := [], harness := (true, "a5c1020147605b2ce802af284dba9b61cf49ec5fab08d131c1520ff231e11d50"), looks := true }, kinds := [], alts := [], laidByText := true, laidKinds := [.data, .data, .data, .data, .sentinel, .sentinel, .pinned], laidTests := true, laidLooks := .later }
def FnTreeDiffCardSaid : Prop := Claim7.holds Tryz.pinned (.plain (OpenSpec.ofChange fnTreeDiffSpec)) fnTreeDiffCard

/-- THE TIED CARD OF 'laws.FnBlobSame'. -/
def fnBlobSameCard : Claim7 := { stood := { row := fnBlobSameRow, standIns := [], harness := (true, "a5c1020147605b2ce802af284dba9b61cf49ec5fab08d131c1520ff231e11d50"), looks := true }, kinds := [], alts := [], laidByText := true, laidKinds := [.data, .data, .data, .data, .sentinel, .sentinel, .pinned], laidTests := true, laidLooks := .later }
def FnBlobSameCardSaid : Prop := Claim7.holds Tryz.pinned (.plain (OpenSpec.ofChange fnBlobSameSpec)) fnBlobSameCard

/-- THE TIED CARD OF 'laws.FnTreeGet'. -/
def fnTreeGetCard : Claim7 := { stood := { row := fnTreeGetRow, standIns := [], harness := (true, "a5c1020147605b2ce802af284dba9b61cf49ec5fab08d131c1520ff231e11d50"), looks := true }, kinds := [], alts := [], laidByText := true, laidKinds := [.data, .data, .data, .data, .sentinel, .sentinel, .pinned], laidTests := true, laidLooks := .later }
def FnTreeGetCardSaid : Prop := Claim7.holds Tryz.pinned (.plain (OpenSpec.ofChange fnTreeGetSpec)) fnTreeGetCard

/-- THE SECOND FORM's CARD OF 'laws.FnTreeDiff'. -/
def fnTreeDiffUptoCard : Claim7 := { stood := { row := fnTreeDiffUptoRow, standIns := [], harness := (true, "a5c1020147605b2ce802af284dba9b61cf49ec5fab08d131c1520ff231e11d50"), looks := true }, kinds := [], alts := [], laidByText := true, laidKinds := [.data, .data, .data, .data, .sentinel, .sentinel, .pinned], laidTests := true, laidLooks := .later }
def FnTreeDiffUptoCardSaid : Prop := Claim7.holds Tryz.pinned (.plain (OpenSpec.upto fnTreeDiffSpec)) fnTreeDiffUptoCard

/-- THE SECOND FORM's CARD OF 'laws.FnBlobSame'. -/
def fnBlobSameUptoCard : Claim7 := { stood := { row := fnBlobSameUptoRow, standIns := [], harness := (true, "a5c1020147605b2ce802af284dba9b61cf49ec5fab08d131c1520ff231e11d50"), looks := true }, kinds := [], alts := [], laidByText := true, laidKinds := [.data, .data, .data, .data, .sentinel, .sentinel, .pinned], laidTests := true, laidLooks := .later }
def FnBlobSameUptoCardSaid : Prop := Claim7.holds Tryz.pinned (.plain (OpenSpec.upto fnBlobSameSpec)) fnBlobSameUptoCard

/-- THE SECOND FORM's CARD OF 'laws.FnTreeGet'. -/
def fnTreeGetUptoCard : Claim7 := { stood := { row := fnTreeGetUptoRow, standIns := [], harness := (true, "a5c1020147605b2ce802af284dba9b61cf49ec5fab08d131c1520ff231e11d50"), looks := true }, kinds := [], alts := [], laidByText := true, laidKinds := [.data, .data, .data, .data, .sentinel, .sentinel, .pinned], laidTests := true, laidLooks := .later }
def FnTreeGetUptoCardSaid : Prop := Claim7.holds Tryz.pinned (.plain (OpenSpec.upto fnTreeGetSpec)) fnTreeGetUptoCard
end Rows
end Go.Proofs.YtclcgjhhehbdeaaGreatDoor
