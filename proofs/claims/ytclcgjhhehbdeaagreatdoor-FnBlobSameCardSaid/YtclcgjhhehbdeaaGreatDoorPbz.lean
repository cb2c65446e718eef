/- A drawn law returns true for every code (its row lists package variables, tied by the card): part 52. -/
import Derived.Test.YtclcgjhhehbdeaaGreatDoorPbv
import Derived.Test.YtclcgjhhehbdeaaGreatDoorPby
set_option maxHeartbeats 20000000
set_option maxRecDepth 100000
set_option linter.all false
namespace Go.Proofs.YtclcgjhhehbdeaaGreatDoor
open Go
theorem walked:an2:=fun W l v hv hb hg=>
 GL.aip (l:=l) ((GL.anX.1 l () ⟨hb⟩)) (fun r os h=>by obtain⟨_,_,h1,_⟩:=h;exact h1) hv hg
theorem fnBlobSame_card_holds:Rows.FnBlobSameCardSaid:=aoO walked
#print axioms fnBlobSame_card_holds
end Go.Proofs.YtclcgjhhehbdeaaGreatDoor
