/- A drawn law returns true for every code (its row lists package variables, tied by the card): part 51. -/
import Derived.Test.YtkgpljpmdkflmaaGreatDoorPbu
import Derived.Test.YtkgpljpmdkflmaaGreatDoorPbx
set_option maxHeartbeats 20000000
set_option maxRecDepth 100000
set_option linter.all false
namespace Go.Proofs.YtkgpljpmdkflmaaGreatDoor
open Go
theorem walked:amX:=fun W l v hv hb hg=>
 GL.aiq (l:=l) ((GL.amR.1 l () ⟨hb⟩)) (fun r os h=>by obtain⟨_,_,h1,_⟩:=h;exact h1) hv hg
theorem fnTreeLeaves_card_holds:Rows.FnTreeLeavesCardSaid:=anj walked
#print axioms fnTreeLeaves_card_holds
end Go.Proofs.YtkgpljpmdkflmaaGreatDoor
