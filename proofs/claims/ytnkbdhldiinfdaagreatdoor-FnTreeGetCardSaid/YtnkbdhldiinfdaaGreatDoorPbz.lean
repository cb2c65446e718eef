/- A drawn law returns true for every code (its row lists package variables, tied by the card): part 52. -/
import Derived.Test.YtnkbdhldiinfdaaGreatDoorPbv
import Derived.Test.YtnkbdhldiinfdaaGreatDoorPby
set_option maxHeartbeats 20000000
set_option maxRecDepth 100000
set_option linter.all false
namespace Go.Proofs.YtnkbdhldiinfdaaGreatDoor
open Go
theorem walked:anY:=fun W l v hv hb hg=>
 GL.aix (l:=l) ((GL.an6.1 l () ⟨hb⟩)) (fun r os h=>by obtain⟨_,_,h1,_⟩:=h;exact h1) hv hg
theorem fnTreeGet_card_holds:Rows.FnTreeGetCardSaid:=ao1 walked
#print axioms fnTreeGet_card_holds
end Go.Proofs.YtnkbdhldiinfdaaGreatDoor
