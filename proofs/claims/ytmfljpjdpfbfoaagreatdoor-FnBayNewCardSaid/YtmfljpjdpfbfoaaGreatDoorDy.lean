/- FnBayNew: what is evaluated, with what. -/
import Derived.Test.YtmfljpjdpfbfoaaGreatDoorDtAf
import Derived.Test.YtmfljpjdpfbfoaaGreatDoorDtAt
import Derived.Test.YtmfljpjdpfbfoaaGreatDoorDtMf
import Derived.Test.YtmfljpjdpfbfoaaGreatDoorDtMt
namespace Go.Proofs.YtmfljpjdpfbfoaaGreatDoor
namespace DX
open Go
set_option maxRecDepth 100000
noncomputable def lawBody : Code := Tryz.f4.body.getD .skip
/-- Behind the first three parts. -/
def restOf : Code → Code
  | .seq _ (.seq _ (.seq _ c)) => c
  | c => c
noncomputable def lawRest : Code := restOf lawBody

noncomputable def Lf : Env := withC EI [(5, fun _ args => (litQ false Af_n Af_x args).map (reck 100000)), (6, fun _ args => litQ false Bf_n Bf_x args), (13, fun ck args => memoQ [valOf Bf_x] Mf_s Mf_n true ck args)]
noncomputable def Lt : Env := withC EI [(5, fun _ args => (litQ true At_n At_x args).map (reck 100000)), (6, fun _ args => litQ true Bt_n Bt_x args), (13, fun ck args => memoQ [valOf Bt_x] Mt_s Mt_n true ck args)]

theorem Lf_ok : EnvOK Tryz.prog Lf := withC_ok EI_ok fun p hp ck args => by
  simp only [List.mem_cons, List.not_mem_nil, or_false] at hp
  rcases hp with rfl | rfl | rfl
  · exact reck_ok (lit_ok EE_ok mixed Af_ok args) 100000
  · exact lit_ok EE_ok mixed Bf_ok args
  · exact memo_ok EI_ok mixed Mf_ok ck args

theorem Lt_ok : EnvOK Tryz.prog Lt := withC_ok EI_ok fun p hp ck args => by
  simp only [List.mem_cons, List.not_mem_nil, or_false] at hp
  rcases hp with rfl | rfl | rfl
  · exact reck_ok (lit_ok EE_ok mixed At_ok args) 100000
  · exact lit_ok EE_ok mixed Bt_ok args
  · exact memo_ok EI_ok mixed Mt_ok ck args

/-- Did it return true? -/
def yes : Rf → Bool
  | some (.o (.s (.v (.bool true))), _, _) => true
  | _ => false

theorem yes_at {r : Rf} (h : yes r = true) : ∃ u ck, r = some (.q true, u, ck) := by
  unfold yes at h
  split at h
  · exact ⟨_, _, rfl⟩
  · cases h

/-- Of the slots, only the drawn truth's is known. -/
noncomputable def fs0 (b : Bool) : FS := ⟨Tri.put .lf 3 (.x (.q b)), .lf, [], 1⟩

end DX
end Go.Proofs.YtmfljpjdpfbfoaaGreatDoor
