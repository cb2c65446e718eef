/- FnBayNew's body behind the draw, evaluated for both truths. -/
import Derived.Test.YtmfljpjdpfbfoaaGreatDoorDy
namespace Go.Proofs.YtmfljpjdpfbfoaaGreatDoor
namespace DX
open Go
set_option maxRecDepth 100000
theorem ev_f : yes ((evN Lf 5000 58 lawRest (fs0 false) (fin Lf [.tmp 2])).run noSt) = true := by kernel_rfl
theorem ev_t : yes ((evN Lt 5000 58 lawRest (fs0 true) (fin Lt [.tmp 2])).run noSt) = true := by kernel_rfl

end DX
end Go.Proofs.YtmfljpjdpfbfoaaGreatDoor
