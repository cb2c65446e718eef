/- FnTableAll returns true for every code (its row lists package variables, tied by the card): part 17. -/
import Derived.Test.YtndmmmcglebllaaGreatDoorRam
import Derived.Test.YtndmmmcglebllaaGreatDoorRap
set_option maxHeartbeats 20000000
set_option maxRecDepth 100000
set_option linter.all false
namespace Go.Proofs.YtndmmmcglebllaaGreatDoor
open Go
theorem walked:XA:=λW l v hv hb hg=>
 GL.agt (l:=l) ((GL.WC.1 l () ⟨hb⟩)) (λr os h=>by obtain⟨_,_,h1,_⟩:=h;exact h1) hv hg
theorem fnTableAll_card_holds:Rows.FnTableAllCardSaid:=alS walked
#print axioms fnTableAll_card_holds
end Go.Proofs.YtndmmmcglebllaaGreatDoor
