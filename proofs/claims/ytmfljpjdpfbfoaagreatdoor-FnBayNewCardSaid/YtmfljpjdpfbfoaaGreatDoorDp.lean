/- A deterministic evaluator of the model's code, part p: this program's tables; a run from the top. -/
import Derived.Test.YtmfljpjdpfbfoaaGreatDoorDo
import Derived.Test.YtmfljpjdpfbfoaaGreatDoorProg
import Derived.KernelRfl
import Derived.Laws.Externs
namespace Go.Proofs.YtmfljpjdpfbfoaaGreatDoor
namespace DX
open Go

/-- A function's text. -/
def fnOf (P : Program) (ne : Nat) (f : Nat) : Option FI := match P.funcs[f]? with
  | some fn => match fn.body with
    | some b => bif fn.name == "runtime.NumGoroutine" then none else some (.code fn.ntmps b fn.results.toList)
    | none => bif Nat.beq f ne then some .same else none
  | none => none

theorem fnOf_ok {P : Program} {ne : Nat} (hne : FIok P ne .same) {f : Nat} {i : FI} (h : fnOf P ne f = some i) : FIok P f i := by
  unfold fnOf at h
  split at h
  · rename_i fn hf
    split at h
    · rename_i b hb
      cases hn : fn.name == "runtime.NumGoroutine" with
      | true => rw [hn] at h; cases h
      | false =>
        rw [hn] at h; cases h
        exact ⟨fn, hf, hb, rfl, rfl, by simpa using hn⟩
    · cases hx : Nat.beq f ne with
      | false => rw [hx] at h; cases h
      | true =>
        rw [hx] at h; cases h
        have : f = ne := by simpa using hx
        subst this
        exact hne
  · cases h

set_option maxRecDepth 100000
theorem ne1 : (Tryz.f224.name == "runtime.NumGoroutine") = false := by kernel_rfl
theorem ne2 : Tryz.f224.body.isNone = true := by kernel_rfl
theorem ne3 : Extern.findNext Tryz.f224 = none := by kernel_rfl
theorem ne4 : Extern.find Tryz.f224 = some Extern.AbiNoEscape.same := by kernel_rfl
theorem same_of {P : Program} {f : Nat} {fn : Func} (h : P.funcs[f]? = some fn) (h1 : (fn.name == "runtime.NumGoroutine") = false) (h2 : fn.body.isNone = true) (h3 : Extern.findNext fn = none) (h4 : Extern.find fn = some Extern.AbiNoEscape.same) : FIok P f .same := ⟨fn, h, h1, h2, h3, h4⟩
theorem noEscape_ok : FIok Tryz.prog 224 .same := same_of Tryz.func224 ne1 ne2 ne3 ne4

noncomputable def EE : Env := ⟨mkTI Tryz.prog, fnOf Tryz.prog 224⟩

theorem EE_ok : EnvOK Tryz.prog EE := ⟨fun _ _ h => mkTI_ok h, fun _ _ h => fnOf_ok noEscape_ok h⟩

theorem mixed : Tryz.prog.follows .mixedOrders = true := by kernel_rfl

def noSt : St := fun _ => none

/-- A run from the top: nothing that lay there is touched. -/
theorem top_ok {P : Program} {E : Env} (hE : EnvOK P E) (hm : P.follows .mixedOrders = true) {n ck f : Nat} {args : List AV} {vs : List Value} (hv : ∀ M, relV M args vs) (hids : idsV args = []) {r : AV} {u : Upd} {ck' : Nat} (h : (callF E (evN E n) ck f args).run noSt = some (r, u, ck'))
    {fn : Func} {cd : Code} (hf : P.funcs[f]? = some fn) (hb : fn.body = some cd) (hn : fn.name ≠ "runtime.NumGoroutine") (W : World) :
    Calls P f vs.toArray W fun e w' => ∃ v M, e = .returned v ∧ r.rel M v ∧ w'.os = W.os ∧ w'.output = W.output ∧ W.heap.size ≤ w'.heap.size ∧ ∀ i, i < W.heap.size → w'.heap[i]? = W.heap[i]? := by
  let M0 : Mp := ⟨fun _ _ => (0, 0), fun _ _ => 0⟩
  have hh : Holds 0 ⟨W, fun _ => False, M0, fun _ => False⟩ M0 noSt { tmps := #[], defers := [] } W := {
    defs := rfl
    size := rfl
    slots := fun i x h => by cases h
    blks := fun i B h => by cases h
    own := fun i u h => by obtain ⟨B, hi, h, _⟩ := h; cases h
    apart := fun i j u v _ h _ => by obtain ⟨B, hi, h, _⟩ := h; cases h
    named := fun r x h => by cases h
    sorts := fun j x h => by cases h
    frame := fun _ _ _ => rfl
    grows := Nat.le_refl _
    os := rfl
    tape := rfl
    output := rfl
    keep := fun p h => h.elim }
  have := callN_ok hE hm n ck f args 0 _ M0 noSt _ W hh vs (hv M0) (fun p hp => by rw [hids] at hp; cases hp) r u ck' h (fun v w' => ∃ M, r.rel M v ∧ w'.os = W.os ∧ w'.output = W.output ∧ W.heap.size ≤ w'.heap.size ∧ ∀ i, i < W.heap.size → w'.heap[i]? = W.heap[i]?) (fun v w' M' h1 _ h2 => ⟨M', h1, h2.os, h2.output, h2.grows, fun i hi => h2.frame i hi (fun h => h)⟩)
  rcases this with ⟨v, w', hrun, _⟩ | ⟨_, hc⟩
  · rw [run_callFunc_enter hf hb hn] at hrun
    cases hrun
  · refine hc.mono ?_
    rintro e w' ⟨v, rfl, M, h1, h2, h3, h4, h5⟩
    exact ⟨v, M, rfl, h1, h2, h3, h4, h5⟩

end DX
end Go.Proofs.YtmfljpjdpfbfoaaGreatDoor
