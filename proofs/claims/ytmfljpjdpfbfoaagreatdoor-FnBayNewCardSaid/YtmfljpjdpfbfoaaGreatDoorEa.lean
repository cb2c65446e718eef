/- spec.DrawBayNew draws some truth, and leaves all memory as it was. -/
import Derived.Test.YtmfljpjdpfbfoaaGreatDoorProg
import Derived.WalkKit
import Derived.BigCall
import Derived.ProofKit
namespace Go.Proofs.YtmfljpjdpfbfoaaGreatDoor
open Go

/-- What lay there lies there still. -/
structure Ext (W w : World) : Prop where
  os : w.os = W.os
  tape : w.tape = W.tape
  output : w.output = W.output
  size : W.heap.size ≤ w.heap.size
  old : ∀ i, i < W.heap.size → w.heap[i]? = W.heap[i]?

theorem ext_alloc (W : World) (o : Obj) : Ext W (W.alloc o) where
  os := rfl
  tape := rfl
  output := rfl
  size := by show W.heap.size ≤ (W.heap.push o).size; simp
  old := fun i hi => by show (W.heap.push o)[i]? = _; rw [Array.getElem?_push_lt hi, Array.getElem?_eq_getElem hi]

theorem draw_none (p : Option Addr) (cap : Nat) (W : World) : Calls Tryz.prog 10 #[.slice p 0 cap] W fun e w' => (∃ b, e = .returned (.bool b)) ∧ Ext W w' := by
  go_enter Tryz.func10, Tryz.ntmps10
  go_wp2
  go_ret
  exact ⟨⟨true, rfl⟩, ext_alloc _ _⟩

theorem draw_some (b o len cap : Nat) (n : Int) (W : World) (h0 : 0 < len) (h1 : len ≤ 2000) (h2 : len ≤ cap) (hlt : b < W.heap.size) (hc : W.cell? ⟨b, o, none⟩ = some (.int .u8 n)) (hn0 : 0 ≤ n) (hn1 : n ≤ 255) :
    Calls Tryz.prog 10 #[.slice (some ⟨b, o, none⟩) len cap] W fun e w' => (∃ b, e = .returned (.bool b)) ∧ Ext W w' := by
  go_enter Tryz.func10, Tryz.ntmps10
  go_wp2
  go_ret
  exact ⟨⟨_, rfl⟩, ext_alloc _ _⟩

theorem draw_long (b o len cap : Nat) (n : Int) (W : World) (h1 : 2000 < len) (h2 : len ≤ cap) (hlt : b < W.heap.size) (hc : W.cell? ⟨b, o, none⟩ = some (.int .u8 n)) (hn0 : 0 ≤ n) (hn1 : n ≤ 255) :
    Calls Tryz.prog 10 #[.slice (some ⟨b, o, none⟩) len cap] W fun e w' => (∃ b, e = .returned (.bool b)) ∧ Ext W w' := by
  go_enter Tryz.func10, Tryz.ntmps10
  go_wp2
  go_ret
  exact ⟨⟨_, rfl⟩, ext_alloc _ _⟩

end Go.Proofs.YtmfljpjdpfbfoaaGreatDoor
