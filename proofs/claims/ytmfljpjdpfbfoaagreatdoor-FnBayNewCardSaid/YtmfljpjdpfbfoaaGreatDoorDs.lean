/- A deterministic evaluator of the model's code, part s: what one evaluation has shown of a call serves in another. -/
import Derived.Test.YtmfljpjdpfbfoaaGreatDoorDp
namespace Go.Proofs.YtmfljpjdpfbfoaaGreatDoor
namespace DX
open Go

/-- A byte. -/
abbrev u8 (n : Nat) : UInt8 := UInt8.ofNat n

/-- Evaluated where nothing lies yet; and what was asked. -/
noncomputable def Q.runN {α β : Type} (q : Q α) : List Reg → (α → List Reg → β) → β := Q.rec (motive := fun _ => List Reg → (α → List Reg → β) → β) (fun a T c => c a T) (fun r _ ih T c => ih none (r :: T) c) q

theorem runN_eq {α β : Type} : ∀ (q : Q α) (T : List Reg) (c : α → List Reg → β), q.runN T c = c (q.run noSt) ((q.tr noSt).reverse ++ T)
  | .ret a, T, c => rfl
  | .ask r k, T, c => by
    show (k none).runN (r :: T) c = c ((k none).run noSt) ((r :: (k none).tr noSt).reverse ++ T)
    rw [runN_eq (k none)]
    simp

/-- Are they all blocks? -/
noncomputable def noS (l : List Reg) : Bool := List.rec (motive := fun _ => Bool) true (fun r _ ih => Reg.rec (motive := fun _ => Bool) (fun _ => false) (fun _ => ih) r) l
theorem noS_at {l : List Reg} (h : noS l = true) : ∀ r ∈ l, ∃ n, r = .b n := by
  induction l with
  | nil => intro r hr; cases hr
  | cons q l ih =>
    intro r hr
    cases q with
    | s n => cases h
    | b n =>
      rcases List.mem_cons.1 hr with rfl | hr
      · exact ⟨n, rfl⟩
      · exact ih h r hr

noncomputable def askNone (l : List Nat) (x : Rf) : Q Rf := List.rec (motive := fun _ => Q Rf) (.ret x) (fun n _ ih => .ask (.b n) fun o => Option.rec (motive := fun _ => Q Rf) ih (fun _ => .ret none) o) l
theorem askNone_run {l : List Nat} {x : Rf} {τ : St} {p : AV × Upd × Nat} (h : (askNone l x).run τ = some p) : x = some p ∧ ∀ n ∈ l, τ (.b n) = none := by
  induction l with
  | nil => exact ⟨h, fun n hn => (by cases hn)⟩
  | cons m l ih =>
    have h : (Option.rec (motive := fun _ => Q Rf) (askNone l x) (fun _ => .ret none) (τ (.b m)) : Q Rf).run τ = some p := h
    cases hm : τ (.b m) with
    | some _ => rw [hm] at h; cases h
    | none =>
      rw [hm] at h
      obtain ⟨h1, h2⟩ := ih h
      refine ⟨h1, fun n hn => ?_⟩
      rcases List.mem_cons.1 hn with rfl | hn
      · exact hm
      · exact h2 n hn

/-- What is known of a call with one truth. -/
noncomputable def litQ (b : Bool) (names : List Nat) (x : Rf) (args : List AV) : Q Rf := match args with
  | [.o (.s (.v (.bool c)))] => (match c == b with
    | true => askNone names x
    | false => .ret none)
  | _ => .ret none

theorem lit_ok {P : Program} {E : Env} (hE : EnvOK P E) (hm : P.follows .mixedOrders = true) {n ck f : Nat} {b : Bool} {names : List Nat} {x : Rf} (h : (callF E (evN E n) ck f [.q b]).runN [] (fun a T => (a, bsR T, noS T)) = (x, names, true)) (args : List AV) : CallOK P f args (litQ b names x args) := by
  rw [runN_eq] at h
  simp only [List.append_nil, Prod.mk.injEq] at h
  obtain ⟨h1, h2, h3⟩ := h
  intro N c M τ a w hh vs hrel hnm r u ck' hq K hK
  unfold litQ at hq
  split at hq
  · rename_i c0
    split at hq
    · rename_i hc
      have : c0 = b := by simpa using hc
      subst this
      obtain ⟨hx, hfree⟩ := askNone_run hq
      refine callN_ok hE hm n ck f _ N c M τ a w hh vs hrel hnm r u ck' ?_ K hK
      have hag : agree ((callF E (evN E n) ck f [.q c0]).tr noSt) noSt τ := fun q hqr => by
        obtain ⟨m, rfl⟩ := noS_at h3 q (by simpa using hqr)
        have : m ∈ names := by rw [← h2, mem_bsR]; simpa using hqr
        rw [hfree m this]; rfl
      rw [(Q.loc _ hag).1, h1]
      exact hx
    · cases hq
  · cases hq

/-- With what is known of some calls. -/
noncomputable def withC (E : Env) (l : List (Nat × (Nat → List AV → Q Rf))) : Env := ⟨E.tab, fun f => List.rec (motive := fun _ => Option FI) (E.fn f) (fun p _ ih => Bool.rec (motive := fun _ => Option FI) ih (some (.con p.2)) (Nat.beq f p.1)) l⟩

theorem withC_ok {P : Program} {E : Env} (hE : EnvOK P E) {l : List (Nat × (Nat → List AV → Q Rf))} (hl : ∀ p ∈ l, ∀ ck args, CallOK P p.1 args (p.2 ck args)) : EnvOK P (withC E l) := by
  refine ⟨hE.tab, fun f i h => ?_⟩
  induction l with
  | nil => exact hE.fn f i h
  | cons p l ih =>
    have h : Bool.rec (motive := fun _ => Option FI) ((withC E l).fn f) (some (.con p.2)) (Nat.beq f p.1) = some i := h
    cases hb : Nat.beq f p.1 with
    | true =>
      rw [hb] at h; cases h
      have : f = p.1 := by simpa using hb
      subst this
      exact hl p (by simp)
    | false =>
      rw [hb] at h
      exact ih (fun q hq => hl q (by simp [hq])) h

end DX
end Go.Proofs.YtmfljpjdpfbfoaaGreatDoor
