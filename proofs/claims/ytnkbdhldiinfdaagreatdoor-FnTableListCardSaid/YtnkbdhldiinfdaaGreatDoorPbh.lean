/- A drawn law returns true for every code (its row lists package variables, tied by the card): part 34. -/
import Derived.Test.YtnkbdhldiinfdaaGreatDoorPbd
import Derived.Test.YtnkbdhldiinfdaaGreatDoorPbg
set_option maxHeartbeats 20000000
set_option maxRecDepth 100000
set_option linter.all false
namespace Go.Proofs.YtnkbdhldiinfdaaGreatDoor
open Go
theorem walked:apm:=λW l v hv hb hg=>
 GL.aix (l:=l) ((GL.aoW.1 l () ⟨hb⟩)) (λr os h=>by obtain⟨_,_,h1,_⟩:=h;exact h1) hv hg
theorem fnTableList_card_holds:Rows.FnTableListCardSaid:=aqJ walked
#print axioms fnTableList_card_holds
end Go.Proofs.YtnkbdhldiinfdaaGreatDoor
