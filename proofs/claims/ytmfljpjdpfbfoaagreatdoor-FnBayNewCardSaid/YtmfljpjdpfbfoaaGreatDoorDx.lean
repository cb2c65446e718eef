/- A deterministic evaluator of the model's code, part x: a call that was evaluated once, in a state that is known, serves wherever that state is met again. -/
import Derived.Test.YtmfljpjdpfbfoaaGreatDoorDw
namespace Go.Proofs.YtmfljpjdpfbfoaaGreatDoor
namespace DX
open Go

/-! ### Are two things the same? -/
theorem nbE (a b : Nat) : (Nat.beq a b = true) = (a = b) := by simp
def eqB (a b : Bool) : Bool := match a, b with
  | true, true => true
  | false, false => true
  | _, _ => false
theorem eqB_eq {a b : Bool} (h : eqB a b = true) : a = b := by cases a <;> cases b <;> first | rfl | cases h

def eqI (a b : Int) : Bool := match a, b with
  | .ofNat m, .ofNat n => Nat.beq m n
  | .negSucc m, .negSucc n => Nat.beq m n
  | _, _ => false
theorem eqI_eq {a b : Int} (h : eqI a b = true) : a = b := by
  cases a <;> cases b <;> simp [eqI] at h <;> simp [h]

def eqBs : List UInt8 → List UInt8 → Bool
  | [], [] => true
  | a :: l, b :: m => Nat.beq a.toNat b.toNat && eqBs l m
  | _, _ => false
theorem eqBs_eq : ∀ {l m : List UInt8}, eqBs l m = true → l = m
  | [], [], _ => rfl
  | [], _ :: _, h => by cases h
  | _ :: _, [], h => by cases h
  | a :: l, b :: m, h => by
    simp only [eqBs, Bool.and_eq_true] at h
    have : a = b := UInt8.toNat_inj.1 (by simpa using h.1)
    rw [this, eqBs_eq h.2]

def eqV (a b : Value) : Bool := match a, b with
  | .int k m, .int k' n => beqIK k k' && eqI m n
  | .bool a, .bool b => eqB a b
  | .string s, .string t => eqBs s.data.toList t.data.toList
  | .slice none 0 0, .slice none 0 0 => true
  | .pointer none, .pointer none => true
  | .nilIface, .nilIface => true
  | _, _ => false
theorem eqV_eq {a b : Value} (h : eqV a b = true) : a = b := by
  unfold eqV at h
  split at h
  · simp only [Bool.and_eq_true] at h
    rw [beqIK_eq h.1, eqI_eq h.2]
  · rw [eqB_eq h]
  · rename_i s t
    have := eqBs_eq h
    obtain ⟨⟨l⟩⟩ := s
    obtain ⟨⟨m⟩⟩ := t
    simp only at this
    rw [this]
  · rfl
  · rfl
  · rfl
  · cases h

def eqO (a b : Option Nat) : Bool := match a, b with
  | none, none => true
  | some m, some n => Nat.beq m n
  | _, _ => false
theorem eqO_eq {a b : Option Nat} (h : eqO a b = true) : a = b := by
  cases a <;> cases b <;> simp [eqO] at h <;> simp [h]

def eqS (a b : SV) : Bool := match a, b with
  | .v x, .v y => eqV x y
  | .p i u k sz j, .p i' u' k' sz' j' => (Nat.beq i i' && Nat.beq u u') && ((Nat.beq k k' && Nat.beq sz sz') && Nat.beq j j')
  | .s i u sz o n cp, .s i' u' sz' o' n' cp' => ((Nat.beq i i' && Nat.beq u u') && (Nat.beq sz sz' && Nat.beq o o')) && (Nat.beq n n' && eqO cp cp')
  | .m i u, .m i' u' => Nat.beq i i' && Nat.beq u u'
  | _, _ => false
theorem eqS_eq {a b : SV} (h : eqS a b = true) : a = b := by
  unfold eqS at h
  split at h
  · rw [eqV_eq h]
  · simp only [Bool.and_eq_true, nbE] at h
    obtain ⟨⟨rfl, rfl⟩, ⟨rfl, rfl⟩, rfl⟩ := h; rfl
  · simp only [Bool.and_eq_true, nbE] at h
    obtain ⟨⟨⟨rfl, rfl⟩, rfl, rfl⟩, rfl, h⟩ := h
    rw [eqO_eq h]
  · simp only [Bool.and_eq_true, nbE] at h
    obtain ⟨rfl, rfl⟩ := h; rfl
  · cases h

def eqL : List SV → List SV → Bool
  | [], [] => true
  | a :: l, b :: m => eqS a b && eqL l m
  | _, _ => false
theorem eqL_eq : ∀ {l m : List SV}, eqL l m = true → l = m
  | [], [], _ => rfl
  | [], _ :: _, h => by cases h
  | _ :: _, [], h => by cases h
  | a :: l, b :: m, h => by
    simp only [eqL, Bool.and_eq_true] at h
    rw [eqS_eq h.1, eqL_eq h.2]

def eqA0 (a b : A0) : Bool := match a, b with
  | .s x, .s y => eqS x y
  | .a l, .a m => eqL l m
  | _, _ => false
theorem eqA0_eq {a b : A0} (h : eqA0 a b = true) : a = b := by
  unfold eqA0 at h
  split at h
  · rw [eqS_eq h]
  · rw [eqL_eq h]
  · cases h

def eqAs : List AV → List AV → Bool
  | [], [] => true
  | .o a :: l, .o b :: m => eqA0 a b && eqAs l m
  | _, _ => false
theorem eqAs_eq : ∀ {l m : List AV}, eqAs l m = true → l = m
  | [], [], _ => rfl
  | [], _ :: _, h => by cases h
  | .o a :: l, .o b :: m, h => by
    simp only [eqAs, Bool.and_eq_true] at h
    rw [eqA0_eq h.1, eqAs_eq h.2]
  | .t _ :: _, _, h => by simp [eqAs] at h
  | .o _ :: _, .t _ :: _, h => by simp [eqAs] at h
  | .o _ :: _, [], h => by cases h

def eqVs : List (Nat × Nat) → List (Nat × Nat) → Bool
  | [], [] => true
  | a :: l, b :: m => (Nat.beq a.1 b.1 && Nat.beq a.2 b.2) && eqVs l m
  | _, _ => false
theorem eqVs_eq : ∀ {l m : List (Nat × Nat)}, eqVs l m = true → l = m
  | [], [], _ => rfl
  | [], _ :: _, h => by cases h
  | _ :: _, [], h => by cases h
  | (a, b) :: l, (c, d) :: m, h => by
    simp only [eqVs, Bool.and_eq_true, nbE] at h
    obtain ⟨⟨rfl, rfl⟩, h⟩ := h
    rw [eqVs_eq h]

def eqR (a b : RV) : Bool := match a, b with
  | .b ⟨t, .c l, vs, nx, ro⟩, .b ⟨t', .c l', vs', nx', ro'⟩ => ((Nat.beq t t' && eqL l l') && eqVs vs vs') && (Nat.beq nx nx' && eqB ro ro')
  | _, _ => false
theorem eqR_eq {a b : RV} (h : eqR a b = true) : a = b := by
  unfold eqR at h
  split at h
  · simp only [Bool.and_eq_true, nbE] at h
    obtain ⟨⟨⟨rfl, h1⟩, h2⟩, rfl, h3⟩ := h
    rw [eqL_eq h1, eqVs_eq h2, eqB_eq h3]
  · cases h

/-! ### A state that is known -/
def stL : List (Nat × RV) → St
  | [], _ => none
  | p :: l, r => bif Reg.beq (.b p.1) r then some p.2 else stL l r

/-- Evaluated there; and what was asked. -/
noncomputable def Q.runU {α β : Type} (τ0 : St) (q : Q α) : List Reg → (α → List Reg → β) → β := Q.rec (motive := fun _ => List Reg → (α → List Reg → β) → β) (fun a T c => c a T) (fun r _ ih T c => ih (τ0 r) (r :: T) c) q

theorem runU_eq {α β : Type} {τ0 : St} : ∀ (q : Q α) (T : List Reg) (c : α → List Reg → β), q.runU τ0 T c = c (q.run τ0) ((q.tr τ0).reverse ++ T)
  | .ret a, T, c => rfl
  | .ask r k, T, c => by
    show (k (τ0 r)).runU τ0 (r :: T) c = c ((k (τ0 r)).run τ0) ((r :: (k (τ0 r)).tr τ0).reverse ++ T)
    rw [runU_eq (k (τ0 r))]
    simp

/-- A set of names. -/
noncomputable def setN (l : List Nat) : Tri Unit := List.rec (motive := fun _ => Tri Unit) .lf (fun n _ ih => Tri.putK ih n () fun t => t) l
theorem setN_mem {l : List Nat} {n : Nat} (h : (setN l).get n ≠ none) : n ∈ l := by
  induction l with
  | nil => exact absurd rfl h
  | cons m l ih =>
    have e : setN (m :: l) = (setN l).put m () := by
      show Tri.putK (setN l) m () (fun t => t) = _
      exact putK_eq _ _ _ _
    rw [e, get_put] at h
    by_cases hn : n = m
    · simp [hn]
    · rw [if_neg hn] at h
      simp [ih h]

noncomputable def inN (t : Tri Unit) (n : Nat) : Bool := Option.rec (motive := fun _ => Bool) false (fun _ => true) (t.get n)
theorem inN_mem {l : List Nat} {n : Nat} (h : inN (setN l) n = true) : n ∈ l := by
  refine setN_mem fun e => ?_
  unfold inN at h
  rw [e] at h
  cases h

/-- What was asked: blocks that are known, or names that are new. -/
noncomputable def askedOK (σ : List (Nat × RV)) (t : Tri Unit) (T : List Reg) : Bool := List.rec (motive := fun _ => Bool) true (fun r _ ih => Reg.rec (motive := fun _ => Bool) (fun _ => false) (fun n => Bool.rec (motive := fun _ => Bool) (Option.rec (motive := fun _ => Bool) false (fun _ => ih) (stL σ (.b n))) ih (inN t n)) r) T
theorem askedOK_at {σ : List (Nat × RV)} {l : List Nat} {T : List Reg} (h : askedOK σ (setN l) T = true) : ∀ r ∈ T, ∃ n, r = .b n ∧ (n ∈ l ∨ stL σ (.b n) ≠ none) := by
  induction T with
  | nil => intro r hr; cases hr
  | cons q T ih =>
    cases q with
    | s n => cases h
    | b n =>
      have h : Bool.rec (motive := fun _ => Bool) (Option.rec (motive := fun _ => Bool) false (fun _ => askedOK σ (setN l) T) (stL σ (.b n))) (askedOK σ (setN l) T) (inN (setN l) n) = true := h
      have key : askedOK σ (setN l) T = true ∧ (n ∈ l ∨ stL σ (.b n) ≠ none) := by
        cases hi : inN (setN l) n with
        | true => rw [hi] at h; exact ⟨h, .inl (inN_mem hi)⟩
        | false =>
          rw [hi] at h
          cases hs : stL σ (.b n) with
          | none => rw [hs] at h; cases h
          | some x => rw [hs] at h; exact ⟨h, .inr (by simp)⟩
      intro r hr
      rcases List.mem_cons.1 hr with rfl | hr
      · exact ⟨n, rfl, key.2⟩
      · exact ih key.1 r hr

/-- What was written: new blocks alone. -/
noncomputable def newOK (t : Tri Unit) (u : Upd) : Bool := List.rec (motive := fun _ => Bool) true (fun p _ ih => Reg.rec (motive := fun _ => Bool) (fun _ => false) (fun n => Bool.rec (motive := fun _ => Bool) false ih (inN t n)) p.1) u
theorem newOK_at {l : List Nat} {u : Upd} (h : newOK (setN l) u = true) : ∀ p ∈ u, ∃ n, p.1 = .b n ∧ n ∈ l := by
  induction u with
  | nil => intro p hp; cases hp
  | cons q u ih =>
    obtain ⟨q, x⟩ := q
    cases q with
    | s n => cases h
    | b n =>
      have h : Bool.rec (motive := fun _ => Bool) false (newOK (setN l) u) (inN (setN l) n) = true := h
      cases hi : inN (setN l) n with
      | false => rw [hi] at h; cases h
      | true =>
        rw [hi] at h
        intro p hp
        rcases List.mem_cons.1 hp with rfl | hp
        · exact ⟨n, rfl, inN_mem hi⟩
        · exact ih h p hp

/-- The evaluation gave this truth, wrote nothing but new blocks, and asked nothing else. -/
noncomputable def memoOK (σ : List (Nat × RV)) (l : List Nat) (b : Bool) (a : Rf) (T : List Reg) : Bool := match a with
  | some (.o (.s (.v (.bool c))), u, _) => (eqB b c && askedOK σ (setN l) T) && newOK (setN l) u
  | _ => false

/-! ### Met again -/
noncomputable def askSame (σ : List (Nat × RV)) (q : Q Rf) : Q Rf := List.rec (motive := fun _ => Q Rf) q (fun p _ ih => .ask (.b p.1) fun o => Option.rec (motive := fun _ => Q Rf) (.ret none) (fun x => Bool.rec (motive := fun _ => Q Rf) (.ret none) ih (eqR x p.2)) o) σ
theorem askSame_run {σ : List (Nat × RV)} {q : Q Rf} {τ : St} {p : AV × Upd × Nat} (h : (askSame σ q).run τ = some p) : q.run τ = some p ∧ ∀ n, stL σ (.b n) ≠ none → stL σ (.b n) = τ (.b n) := by
  induction σ with
  | nil => exact ⟨h, fun n hn => absurd rfl hn⟩
  | cons e σ ih =>
    obtain ⟨m, y⟩ := e
    have h : (Option.rec (motive := fun _ => Q Rf) (.ret none) (fun x => Bool.rec (motive := fun _ => Q Rf) (.ret none) (askSame σ q) (eqR x y)) (τ (.b m)) : Q Rf).run τ = some p := h
    cases hm : τ (.b m) with
    | none => rw [hm] at h; cases h
    | some x =>
      rw [hm] at h
      have h : (Bool.rec (motive := fun _ => Q Rf) (.ret none) (askSame σ q) (eqR x y) : Q Rf).run τ = some p := h
      cases he : eqR x y with
      | false => rw [he] at h; cases h
      | true =>
        rw [he] at h
        obtain ⟨h1, h2⟩ := ih h
        refine ⟨h1, fun n hn => ?_⟩
        have hx := eqR_eq he
        unfold stL at hn ⊢
        cases hb : Reg.beq (.b m) (.b n) with
        | true =>
          rw [hb] at hn
          have : m = n := by have := Reg.beq_iff.1 hb; simpa using this
          subst this
          rw [hm, hx]; rfl
        | false =>
          rw [hb] at hn
          exact h2 n hn

noncomputable def memoQ (args0 : List AV) (σ : List (Nat × RV)) (l : List Nat) (b : Bool) (ck : Nat) (args : List AV) : Q Rf := bif eqAs args args0 then askSame σ (askNone l (some (.q b, [], ck))) else .ret none

theorem memo_ok {P : Program} {E : Env} (hE : EnvOK P E) (hm : P.follows .mixedOrders = true) {n ck f : Nat} {args0 : List AV} {σ : List (Nat × RV)} {l : List Nat} {b : Bool} (h : (callF E (evN E n) ck f args0).runU (stL σ) [] (memoOK σ l b) = true) (ck1 : Nat) (args : List AV) : CallOK P f args (memoQ args0 σ l b ck1 args) := by
  rw [runU_eq] at h
  simp only [List.append_nil] at h
  unfold memoOK at h
  split at h
  · rename_i c u0 ck0 hrun
    simp only [Bool.and_eq_true] at h
    obtain ⟨⟨h1, h2⟩, h3⟩ := h
    have hbc := eqB_eq h1
    subst hbc
    intro N c M τ a w hh vs hrel hnm r u ck' hq K hK
    unfold memoQ at hq
    cases he : eqAs args args0 with
    | false => rw [he] at hq; cases hq
    | true =>
      rw [he] at hq
      have := eqAs_eq he
      subst this
      obtain ⟨hq, hsame⟩ := askSame_run hq
      obtain ⟨hx, hfree⟩ := askNone_run hq
      cases hx
      have hag : agree ((callF E (evN E n) ck f args).tr (stL σ)) (stL σ) τ := fun q hqr => by
        obtain ⟨m, rfl, hc⟩ := askedOK_at h2 q (by simpa using hqr)
        by_cases hs : stL σ (.b m) = none
        · rcases hc with hc | hc
          · rw [hs, hfree m hc]
          · exact absurd hs hc
        · exact hsame m hs
      have hrun' := (Q.loc _ hag).1
      rw [hrun] at hrun'
      refine callN_ok hE hm n ck f args N c M τ a w hh vs hrel hnm _ _ _ hrun' K fun v w' M' hv _ hh' => ?_
      -- the new blocks are forgotten
      have hnew : ∀ p ∈ u0, ∃ n, p.1 = .b n ∧ τ (.b n) = none := fun p hp => by
        obtain ⟨n, e, hn⟩ := newOK_at h3 p hp
        exact ⟨n, e, hfree n hn⟩
      have hs : ∀ k, (τ.ap u0) (.s k) = τ (.s k) := fun k => St.ap_out fun p hp e => by
        obtain ⟨n, e', _⟩ := hnew p hp
        rw [e'] at e; cases e
      have hb : ∀ k, τ (.b k) ≠ none → (τ.ap u0) (.b k) = τ (.b k) := fun k hk => St.ap_out fun p hp e => by
        obtain ⟨n, e', hn⟩ := hnew p hp
        rw [e'] at e
        cases e
        exact hk hn
      have hlv : ∀ i u, lv τ i u → lv (τ.ap u0) i u := fun i u ⟨B, hi, hB, hm⟩ => ⟨B, hi, by rw [hb i (by rw [hB]; simp)]; exact hB, hm⟩
      refine hK v w' M' hv (fun p hp => nov hp) ?_
      exact {
        defs := hh'.defs
        size := hh'.size
        slots := fun i x hx => hh'.slots i x (by rw [hs]; exact hx)
        blks := fun i B hB => hh'.blks i B (by
          have hB : τ (.b i) = some (.b B) := hB
          rw [hb i (by rw [hB]; simp)]; exact hB)
        own := fun i u hl => hh'.own i u (hlv i u hl)
        apart := fun i j u v hne h1 h2 => hh'.apart i j u v hne (hlv i u h1) (hlv j v h2)
        named := hh.named
        sorts := hh.sorts
        frame := hh'.frame
        grows := hh'.grows
        os := hh'.os
        tape := hh'.tape
        output := hh'.output
        keep := fun p hp => ⟨(hh.keep p hp).1, (hh'.keep p hp).2⟩ }
  · cases h

/-- Some of the blocks that a call gave. -/
def findU (n : Nat) : Upd → Option RV
  | [] => none
  | (.b m, x) :: u => bif Nat.beq m n then some x else findU n u
  | (.s _, _) :: u => findU n u
def pickU (u : Upd) : List Nat → List (Nat × RV)
  | [] => []
  | n :: l => match findU n u with
    | some x => (n, x) :: pickU u l
    | none => pickU u l
def updsOf (r : Rf) : Upd := match r with
  | some (_, u, _) => u
  | none => []
def valOf (r : Rf) : AV := match r with
  | some (v, _, _) => v
  | none => .t []

/-- The next new name is a matter of choice. -/
noncomputable def reck (k : Nat) (r : Rf) : Rf := match r with
  | some (v, u, _) => some (v, u, k)
  | none => none

theorem reck_ok {P : Program} {f : FuncId} {args : List AV} {q : Q Rf} (h : CallOK P f args q) (k : Nat) : CallOK P f args (q.map (reck k)) := by
  intro N c M τ a w hh vs hrel hnm r u ck' hq K hK
  rw [Q.map_run] at hq
  unfold reck at hq
  split at hq
  · rename_i v0 u0 ck0 hq0
    cases hq
    exact h N c M τ a w hh vs hrel hnm _ _ _ hq0 K hK
  · cases hq

end DX
end Go.Proofs.YtmfljpjdpfbfoaaGreatDoor
