/- The law evaluated. -/
import Derived.Test.YtmfljpjdpfbfoaaGreatDoorDtAf
import Derived.Test.YtmfljpjdpfbfoaaGreatDoorDtAt
import Derived.Test.YtmfljpjdpfbfoaaGreatDoorDtBf
import Derived.Test.YtmfljpjdpfbfoaaGreatDoorDtBt
import Derived.Test.YtmfljpjdpfbfoaaGreatDoorDtCf
import Derived.Test.YtmfljpjdpfbfoaaGreatDoorDtCt
namespace Go.Proofs.YtmfljpjdpfbfoaaGreatDoor
namespace DX
open Go
set_option maxRecDepth 100000
noncomputable def lawBody : Code := Tryz.f3.body.getD .skip

noncomputable def pick2 (ck : Nat) (a b : Q Rf) : Q Rf := Bool.rec (motive := fun _ => Q Rf) b a (Nat.ble ck (nat_lit 30000))

noncomputable def Ef : Env := withC EE [(5, fun _ args => litQ false Af_n Af_x args), (6, fun ck args => pick2 ck (litQ false Bf_n Bf_x args) (litQ false Cf_n Cf_x args))]
noncomputable def Et : Env := withC EE [(5, fun _ args => litQ true At_n At_x args), (6, fun ck args => pick2 ck (litQ true Bt_n Bt_x args) (litQ true Ct_n Ct_x args))]

theorem pick2_ok {P : Program} {f ck : Nat} {args : List AV} {a b : Q Rf} (ha : CallOK P f args a) (hb : CallOK P f args b) : CallOK P f args (pick2 ck a b) := by
  unfold pick2
  cases Nat.ble ck (nat_lit 30000) with
  | true => exact ha
  | false => exact hb

theorem Ef_ok : EnvOK Tryz.prog Ef := withC_ok EE_ok fun p hp ck args => by
  simp only [List.mem_cons, List.not_mem_nil, or_false] at hp
  rcases hp with rfl | rfl
  · exact lit_ok EE_ok mixed Af_ok args
  · exact pick2_ok (lit_ok EE_ok mixed Bf_ok args) (lit_ok EE_ok mixed Cf_ok args)

theorem Et_ok : EnvOK Tryz.prog Et := withC_ok EE_ok fun p hp ck args => by
  simp only [List.mem_cons, List.not_mem_nil, or_false] at hp
  rcases hp with rfl | rfl
  · exact lit_ok EE_ok mixed At_ok args
  · exact pick2_ok (lit_ok EE_ok mixed Bt_ok args) (lit_ok EE_ok mixed Ct_ok args)

/-- Did it return true? -/
def yes : Rf → Bool
  | some (.o (.s (.v (.bool true))), _, _) => true
  | _ => false

theorem yes_at {r : Rf} (h : yes r = true) : ∃ u ck, r = some (.q true, u, ck) := by
  unfold yes at h
  split at h
  · exact ⟨_, _, rfl⟩
  · cases h

theorem ev_f : yes ((callF Ef (evN Ef 5000) 1 3 [.q false]).run noSt) = true := by kernel_rfl
theorem ev_t : yes ((callF Et (evN Et 5000) 1 3 [.q true]).run noSt) = true := by kernel_rfl

end DX
end Go.Proofs.YtmfljpjdpfbfoaaGreatDoor
