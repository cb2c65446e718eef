/- A drawn law returns true for every code (its row lists package variables, tied by the card): part 35. -/
import Derived.Test.YtnkbdhldiinfdaaGreatDoorPbe
import Derived.Test.YtnkbdhldiinfdaaGreatDoorPbh
set_option maxHeartbeats 20000000
set_option maxRecDepth 100000
set_option linter.all false
namespace Go.Proofs.YtnkbdhldiinfdaaGreatDoor
open Go
theorem walked:apX:=λW l v hv hb hg=>
 GL.aix (l:=l) ((GL.apS.1 l () ⟨hb⟩)) (λr os h=>by obtain⟨_,_,h1,_⟩:=h;exact h1) hv hg
theorem fnTableGet_card_holds:Rows.FnTableGetCardSaid:=arF walked
#print axioms fnTableGet_card_holds
end Go.Proofs.YtnkbdhldiinfdaaGreatDoor
