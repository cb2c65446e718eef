/- A drawn law returns true for every code (its row lists package variables, tied by the card): part 52. -/
import Derived.Test.YtkgpljpmdkflmaaGreatDoorPbv
import Derived.Test.YtkgpljpmdkflmaaGreatDoorPby
set_option maxHeartbeats 20000000
set_option maxRecDepth 100000
set_option linter.all false
namespace Go.Proofs.YtkgpljpmdkflmaaGreatDoor
open Go
theorem walked:amX:=fun W l v hv hb hg=>
 GL.aiq (l:=l) ((GL.aoc.1 l () ⟨hb⟩)) (fun r os h=>by obtain⟨_,_,h1,_⟩:=h;exact h1) hv hg
theorem fnBlobShare_card_holds:Rows.FnBlobShareCardSaid:=anj walked
#print axioms fnBlobShare_card_holds
end Go.Proofs.YtkgpljpmdkflmaaGreatDoor
