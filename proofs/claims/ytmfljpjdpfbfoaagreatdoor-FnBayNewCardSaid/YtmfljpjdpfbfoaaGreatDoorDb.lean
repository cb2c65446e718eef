/- A deterministic evaluator of the model's code, part b: what a state says of a frame and a world; how a world's changes are followed. -/
import Derived.Test.YtmfljpjdpfbfoaaGreatDoorDa
namespace Go.Proofs.YtmfljpjdpfbfoaaGreatDoor
namespace DX

/-- What is known of a version of a block: its first 'hi' cells. -/
def BC.at (M : Mp) (w : World) (i u hi : Nat) (ro : Bool) (ty : TypeId) : BC → Prop
  | .c l => hi ≤ l.length ∧ ∃ cs fr, w.heap[(M.β i u).1]? = some (.cells cs ty fr) ∧ cs.size = M.Z i u ∧ (ro = false → fr = (0, 0)) ∧ relL M (l.take hi) ((cs.toList.drop (M.β i u).2).take hi) ∧ (M.β i u).2 + hi ≤ cs.size
  | .m l => ∃ es ck, w.heap[(M.β i u).1]? = some (.map es ck) ∧ relM M l es.toList
  | .si s p => w.heap[(M.β i u).1]? = some (.stringIter s p)
  | .mi j v => ∃ since last, w.heap[(M.β i u).1]? = some (.mapIter (some (M.β j v).1) since #[] last)

/-- Where a function began: its world, the blocks in memory that it was handed, where names led, which names there were. -/
structure Ctx where
  W : World
  H : Nat → Prop
  M0 : Mp
  n0 : Nat × Nat → Prop

def lv (τ : St) (i u : Nat) : Prop := ∃ B hi, τ (.b i) = some (.b B) ∧ (u, hi) ∈ B.vs
def nm (τ : St) (p : Nat × Nat) : Prop := τ (.b p.1) = some .z ∨ ∃ B, τ (.b p.1) = some (.b B) ∧ p.2 < B.nx

structure BlkOK (M : Mp) (w : World) (i : Nat) (B : Blk) : Prop where
  low : ∀ v ∈ B.vs, v.1 < B.nx
  at_ : ∀ v ∈ B.vs, B.con.at M w i v.1 v.2 B.ro B.ty
  same : ∀ v ∈ B.vs, ∀ v' ∈ B.vs, (M.β i v.1).1 = (M.β i v'.1).1 → (M.β i v.1).2 = (M.β i v'.1).2
  zero : ∀ v ∈ B.vs, (M.β i v.1).2 = 0

structure Holds (N : Nat) (c : Ctx) (M : Mp) (τ : St) (a : Act) (w : World) : Prop where
  defs : a.defers = []
  size : a.tmps.size = N
  slots : ∀ i av, τ (.s i) = some (.x av) → ∃ v, a.tmps[i]? = some v ∧ av.rel M v
  blks : ∀ i B, τ (.b i) = some (.b B) → BlkOK M w i B
  own : ∀ i u, lv τ i u → c.W.heap.size ≤ (M.β i u).1 ∨ c.H (M.β i u).1
  apart : ∀ i j u v, i ≠ j → lv τ i u → lv τ j v → (M.β i u).1 ≠ (M.β j v).1
  named : ∀ r x, τ r = some x → ∀ p ∈ x.ids, nm τ p
  sorts : ∀ j x, τ (.b j) ≠ some (.x x)
  frame : ∀ b, b < c.W.heap.size → ¬ c.H b → w.heap[b]? = c.W.heap[b]?
  grows : c.W.heap.size ≤ w.heap.size
  os : w.os = c.W.os
  tape : w.tape = c.W.tape
  output : w.output = c.W.output
  keep : ∀ p, c.n0 p → nm τ p ∧ Ag c.M0 M p

def Rel (N : Nat) (c : Ctx) (τ : St) (a : Act) (w : World) : Prop := ∃ M, Holds N c M τ a w

section
variable {N : Nat} {c : Ctx} {M M' : Mp} {τ τ' : St} {a : Act} {w w' : World}

theorem Ag.trans {A B C : Mp} {p : Nat × Nat} (h : Ag A B p) (h' : Ag B C p) : Ag A C p := ⟨h'.1.trans h.1, h'.2.trans h.2⟩

theorem BC.at_heap {i u hi ty : Nat} {ro : Bool} {C : BC} (h : C.at M w i u hi ro ty) (e : w'.heap[(M.β i u).1]? = w.heap[(M.β i u).1]?) : C.at M w' i u hi ro ty := by
  cases C with
  | c l => obtain ⟨h1, cs, fr, h2, h3⟩ := h; exact ⟨h1, cs, fr, by rw [e]; exact h2, h3⟩
  | m l => obtain ⟨es, ck, h2, h3⟩ := h; exact ⟨es, ck, by rw [e]; exact h2, h3⟩
  | si s p => exact e.trans h
  | mi j v => obtain ⟨since, last, h2⟩ := h; exact ⟨since, last, e.trans h2⟩

theorem BC.at_ag {i u hi ty : Nat} {ro : Bool} {C : BC} (h : C.at M w i u hi ro ty) (e : Ag M M' (i, u)) (hc : ∀ p ∈ C.ids, Ag M M' p) : C.at M' w i u hi ro ty := by
  obtain ⟨e1, e2⟩ := e
  simp only at e1 e2
  cases C with
  | c l =>
    obtain ⟨h1, cs, fr, h2, h3, h4, h5, h6⟩ := h
    refine ⟨h1, cs, fr, by rw [e1]; exact h2, by rw [e2]; exact h3, h4, ?_, by rw [e1]; exact h6⟩
    rw [e1]
    refine relL_ag (fun p hp => hc p ?_) h5
    obtain ⟨x, hx, hp⟩ := mem_idsL.1 hp
    exact mem_idsL.2 ⟨x, List.mem_of_mem_take hx, hp⟩
  | m l =>
    obtain ⟨es, ck, h2, h3⟩ := h
    exact ⟨es, ck, by rw [e1]; exact h2, relM_ag hc h3⟩
  | si s p =>
    have h : w.heap[(M.β i u).1]? = _ := h
    show w.heap[(M'.β i u).1]? = _
    rw [e1]; exact h
  | mi j v =>
    obtain ⟨since, last, h2⟩ := h
    have e3 := (hc (j, v) (by simp [BC.ids])).1
    simp only at e3
    exact ⟨since, last, by rw [e1, e3]; exact h2⟩

theorem BC.at_lt {i u hi ty : Nat} {ro : Bool} {C : BC} (h : C.at M w i u hi ro ty) : (M.β i u).1 < w.heap.size := by
  cases C with
  | c l => obtain ⟨_, cs, fr, h2, _⟩ := h; exact (Array.getElem?_eq_some_iff.1 h2).1
  | m l => obtain ⟨es, ck, h2, _⟩ := h; exact (Array.getElem?_eq_some_iff.1 h2).1
  | si s p => exact (Array.getElem?_eq_some_iff.1 h).1
  | mi j v => obtain ⟨since, last, h2⟩ := h; exact (Array.getElem?_eq_some_iff.1 h2).1

theorem Holds.lt (h : Holds N c M τ a w) {i u : Nat} (hi : lv τ i u) : (M.β i u).1 < w.heap.size := by
  obtain ⟨B, hh, hB, hm⟩ := hi
  exact BC.at_lt ((h.blks i B hB).at_ _ hm)

theorem Holds.lv_nm (h : Holds N c M τ a w) {i u : Nat} (hi : lv τ i u) : nm τ (i, u) := by
  obtain ⟨B, hh, hB, hm⟩ := hi
  exact .inr ⟨B, hB, (h.blks i B hB).low _ hm⟩

/-- The world may turn into one with the same memory. -/
theorem Holds.world (h : Holds N c M τ a w) (hh : w'.heap = w.heap) (ho : w'.os = w.os) (ht : w'.tape = w.tape) (hu : w'.output = w.output) : Holds N c M τ a w' :=
  { h with
    blks := fun i B hB => ⟨(h.blks i B hB).low, fun v hv => BC.at_heap ((h.blks i B hB).at_ v hv) (by rw [hh]), (h.blks i B hB).same, (h.blks i B hB).zero⟩
    frame := by rw [hh]; exact h.frame
    grows := by rw [hh]; exact h.grows
    os := ho.trans h.os
    tape := ht.trans h.tape
    output := hu.trans h.output }

theorem Rel.drew (h : Rel N c τ a w) : Rel N c τ a { w with drawn := w.drawn + 1 } := by
  obtain ⟨M, h⟩ := h
  exact ⟨M, h.world rfl rfl rfl rfl⟩

theorem lv_ap_s {d : Nat} {av : RV} {i u : Nat} : lv (τ.ap [(.s d, av)]) i u = lv τ i u := by
  unfold lv
  rw [ap1, if_neg (by simp)]

theorem nm_ap_s {d : Nat} {av : RV} {p : Nat × Nat} : nm (τ.ap [(.s d, av)]) p = nm τ p := by
  unfold nm
  rw [ap1, if_neg (by simp)]

/-- A value into a slot. -/
theorem Holds.put (h : Holds N c M τ a w) {d : Nat} (hd : d < N) {av : AV} {v : Value} (hav : av.rel M v) (hsc : ∀ p ∈ av.ids, nm τ p) :
    Holds N c M (τ.ap [(.s d, .x av)]) (a.put (some d) v) w where
  defs := h.defs
  size := by simp [Act.put, h.size]
  slots := fun i x hx => by
    rw [ap1] at hx
    by_cases e : i = d
    · subst e
      rw [if_pos rfl] at hx; cases hx
      refine ⟨v, ?_, hav⟩
      simp [Act.put, h.size, hd]
    · rw [if_neg (by simp [e])] at hx
      obtain ⟨y, hy, hr⟩ := h.slots i x hx
      refine ⟨y, ?_, hr⟩
      simp only [Act.put]
      rw [Array.getElem?_setIfInBounds_ne (by omega)]
      exact hy
  blks := fun i B hB => h.blks i B (by rwa [ap1, if_neg (by simp)] at hB)
  own := fun i u hi => h.own i u (by rwa [lv_ap_s] at hi)
  apart := fun i j u v hne hi hj => h.apart i j u v hne (by rwa [lv_ap_s] at hi) (by rwa [lv_ap_s] at hj)
  named := fun r x hx p hp => by
    rw [nm_ap_s]
    rw [ap1] at hx
    by_cases e : r = .s d
    · rw [if_pos e] at hx; cases hx; exact hsc p hp
    · rw [if_neg e] at hx; exact h.named r x hx p hp
  sorts := fun j x => by rw [ap1, if_neg (by simp)]; exact h.sorts j x
  frame := h.frame
  grows := h.grows
  os := h.os
  tape := h.tape
  output := h.output
  keep := fun p hp => ⟨by rw [nm_ap_s]; exact (h.keep p hp).1, (h.keep p hp).2⟩

/-- A slot of which nothing is known any more. -/
theorem Holds.forget (h : Holds N c M τ a w) {d : Nat} {v : Value} : Holds N c M (τ.ap [(.s d, .z)]) (a.put (some d) v) w where
  defs := h.defs
  size := by simp [Act.put, h.size]
  slots := fun i x hx => by
    rw [ap1] at hx
    by_cases e : i = d
    · subst e
      rw [if_pos rfl] at hx; cases hx
    · rw [if_neg (by simp [e])] at hx
      obtain ⟨y, hy, hr⟩ := h.slots i x hx
      refine ⟨y, ?_, hr⟩
      simp only [Act.put]
      rw [Array.getElem?_setIfInBounds_ne (by omega)]
      exact hy
  blks := fun i B hB => h.blks i B (by rwa [ap1, if_neg (by simp)] at hB)
  own := fun i u hi => h.own i u (by rwa [lv_ap_s] at hi)
  apart := fun i j u v hne hi hj => h.apart i j u v hne (by rwa [lv_ap_s] at hi) (by rwa [lv_ap_s] at hj)
  named := fun r x hx p hp => by
    rw [nm_ap_s]
    rw [ap1] at hx
    by_cases e : r = .s d
    · rw [if_pos e] at hx; cases hx; simp [RV.ids] at hp
    · rw [if_neg e] at hx; exact h.named r x hx p hp
  sorts := fun j x => by rw [ap1, if_neg (by simp)]; exact h.sorts j x
  frame := h.frame
  grows := h.grows
  os := h.os
  tape := h.tape
  output := h.output
  keep := fun p hp => ⟨by rw [nm_ap_s]; exact (h.keep p hp).1, (h.keep p hp).2⟩

/-- The memory changes. -/
theorem Holds.heap (h : Holds N c M τ a w) (hs : ∀ k, τ' (.s k) = τ (.s k)) (hag : ∀ p, nm τ p → Ag M M' p) (hnm : ∀ p, nm τ p → nm τ' p)
    (hb : ∀ i B, τ' (.b i) = some (.b B) → BlkOK M' w' i B ∧ ∀ p ∈ B.con.ids, nm τ' p) (hx : ∀ i x, τ' (.b i) ≠ some (.x x))
    (hown : ∀ i u, lv τ' i u → c.W.heap.size ≤ (M'.β i u).1 ∨ c.H (M'.β i u).1) (hap : ∀ i j u v, i ≠ j → lv τ' i u → lv τ' j v → (M'.β i u).1 ≠ (M'.β j v).1)
    (hf : ∀ b, b < c.W.heap.size → ¬ c.H b → w'.heap[b]? = w.heap[b]?) (hg : w.heap.size ≤ w'.heap.size) (ho : w'.os = w.os) (ht : w'.tape = w.tape) (hu : w'.output = w.output) : Holds N c M' τ' a w' where
  defs := h.defs
  size := h.size
  slots := fun i x hx => by
    rw [hs] at hx
    obtain ⟨v, hv, hr⟩ := h.slots i x hx
    exact ⟨v, hv, AV.rel_ag (fun p hp => hag p (h.named _ _ hx p hp)) hr⟩
  blks := fun i B hB => (hb i B hB).1
  own := hown
  apart := hap
  named := fun r x hr p hp => by
    cases r with
    | s k => rw [hs] at hr; exact hnm p (h.named _ _ hr p hp)
    | b k =>
      cases x with
      | b B => exact (hb k B hr).2 p hp
      | z => simp [RV.ids] at hp
      | x y => exact absurd hr (hx k y)
  sorts := hx
  frame := fun b h1 h2 => (hf b h1 h2).trans (h.frame b h1 h2)
  grows := Nat.le_trans h.grows hg
  os := ho.trans h.os
  tape := ht.trans h.tape
  output := hu.trans h.output
  keep := fun p hp => ⟨hnm p (h.keep p hp).1, (h.keep p hp).2.trans (hag p (h.keep p hp).1)⟩

theorem nm_up {i : Nat} {B B' : Blk} (hi : τ (.b i) = some (.b B)) (hnx : B.nx ≤ B'.nx) {p : Nat × Nat} (h : nm τ p) : nm (τ.ap [(.b i, .b B')]) p := by
  unfold nm
  by_cases e : p.1 = i
  · rw [ap1, if_pos (by rw [e])]
    right
    refine ⟨B', rfl, ?_⟩
    rcases h with h | ⟨B0, h0, h1⟩
    · rw [e, hi] at h; cases h
    · rw [e, hi] at h0; cases h0; omega
  · rw [ap1, if_neg (by simp [e])]
    exact h

theorem lv_up {i : Nat} {B' : Blk} {j u : Nat} (h : lv (τ.ap [(.b i, .b B')]) j u) : (j = i ∧ ∃ hi, (u, hi) ∈ B'.vs) ∨ (j ≠ i ∧ lv τ j u) := by
  obtain ⟨B, hi, hB, hm⟩ := h
  rw [ap1] at hB
  by_cases e : j = i
  · rw [if_pos (by rw [e])] at hB; cases hB; exact .inl ⟨e, hi, hm⟩
  · rw [if_neg (by simp [e])] at hB; exact .inr ⟨e, B, hi, hB, hm⟩

/-- One block changes. -/
theorem Holds.mod (h : Holds N c M τ a w) {i : Nat} {B B' : Blk} (hi : τ (.b i) = some (.b B)) (hM : ∀ j u, (j ≠ i ∨ u < B.nx) → Ag M M' (j, u)) (hnx : B.nx ≤ B'.nx)
    (hw : ∀ b, b < w.heap.size → (∀ v ∈ B.vs, b ≠ (M.β i v.1).1) → w'.heap[b]? = w.heap[b]?) (hsz : w.heap.size ≤ w'.heap.size) (ho : w'.os = w.os) (ht : w'.tape = w.tape) (hu : w'.output = w.output)
    (hok : BlkOK M' w' i B') (hreal : ∀ v ∈ B'.vs, w.heap.size ≤ (M'.β i v.1).1 ∨ ∃ v0 ∈ B.vs, (M'.β i v.1).1 = (M.β i v0.1).1) (hids : ∀ p ∈ B'.con.ids, nm τ p) : Holds N c M' (τ.ap [(.b i, .b B')]) a w' := by
  have hag : ∀ p, nm τ p → Ag M M' p := fun p hp => by
    refine hM p.1 p.2 ?_
    by_cases e : p.1 = i
    · right
      rcases hp with hp | ⟨B0, h0, h1⟩
      · rw [e, hi] at hp; cases hp
      · rw [e, hi] at h0; cases h0; exact h1
    · exact .inl e
  have hlt : ∀ j u, j ≠ i → lv τ j u → M'.β j u = M.β j u := fun j u hj _ => (hM j u (.inl hj)).1
  have hne : ∀ j u, j ≠ i → lv τ j u → ∀ v ∈ B.vs, (M.β j u).1 ≠ (M.β i v.1).1 := fun j u hj hl v hv => h.apart j i u v.1 hj hl ⟨B, v.2, hi, hv⟩
  have hapi : ∀ j u, j ≠ i → lv τ j u → ∀ v ∈ B'.vs, (M'.β i v.1).1 ≠ (M'.β j u).1 := fun j u hj hl v hv => by
    rw [hlt j u hj hl]
    rcases hreal v hv with h1 | ⟨v0, h0, h1⟩
    · have := h.lt hl; omega
    · rw [h1]; exact fun e => hne j u hj hl v0 h0 e.symm
  refine h.heap (fun k => by rw [ap1, if_neg (by simp)]) hag (fun p hp => nm_up hi hnx hp) (fun j C hC => ?_) (fun j x hx => ?_) (fun j u hl => ?_) (fun j k u v hjk hj hk => ?_) (fun b h1 h2 => ?_) hsz ho ht hu
  · rw [ap1] at hC
    by_cases e : j = i
    · rw [if_pos (by rw [e])] at hC; cases hC
      subst e
      exact ⟨hok, fun p hp => nm_up hi hnx (hids p hp)⟩
    · rw [if_neg (by simp [e])] at hC
      have hb := h.blks j C hC
      refine ⟨⟨hb.low, fun v hv => ?_, fun v hv v' hv' he => ?_, fun v hv => by have e1 := (hM j v.1 (.inl e)).1; simp only at e1; rw [e1]; exact hb.zero v hv⟩, fun p hp => nm_up hi hnx (h.named _ _ hC p hp)⟩
      · have hl : lv τ j v.1 := ⟨C, v.2, hC, hv⟩
        refine BC.at_ag (BC.at_heap (hb.at_ v hv) (hw _ (h.lt hl) (hne j v.1 e hl))) (hM j v.1 (.inl e)) (fun p hp => hag p (h.named _ _ hC p hp))
      · have e1 := (hM j v.1 (.inl e)).1
        have e2 := (hM j v'.1 (.inl e)).1
        simp only at e1 e2
        rw [e1, e2] at he ⊢
        exact hb.same v hv v' hv' he
  · rw [ap1] at hx
    by_cases e : j = i
    · rw [if_pos (by rw [e])] at hx; cases hx
    · rw [if_neg (by simp [e])] at hx; exact h.sorts j x hx
  · rcases lv_up hl with ⟨rfl, hh, hm⟩ | ⟨e, hl⟩
    · rcases hreal _ hm with h1 | ⟨v0, h0, h1⟩
      · exact .inl (Nat.le_trans h.grows h1)
      · simp only at h1; rw [h1]; exact h.own j v0.1 ⟨B, v0.2, hi, h0⟩
    · rw [hlt j u e hl]; exact h.own j u hl
  · rcases lv_up hj with ⟨rfl, hh, hm⟩ | ⟨e, hl⟩
    · rcases lv_up hk with ⟨rfl, _, _⟩ | ⟨e', hl'⟩
      · exact absurd rfl hjk
      · exact hapi k v e' hl' _ hm
    · rcases lv_up hk with ⟨rfl, hh', hm'⟩ | ⟨e', hl'⟩
      · exact fun he => hapi j u e hl _ hm' he.symm
      · rw [hlt j u e hl, hlt k v e' hl']; exact h.apart j k u v hjk hl hl'
  · refine hw b (Nat.lt_of_lt_of_le h1 h.grows) (fun v hv e => ?_)
    rcases h.own i v.1 ⟨B, v.2, hi, hv⟩ with h3 | h3
    · omega
    · exact h2 (e ▸ h3)

/-- A new name. -/
theorem Holds.new (h : Holds N c M τ a w) {d : Nat} {B' : Blk} (hd : τ (.b d) = none) (hM : ∀ j u, j ≠ d → Ag M M' (j, u))
    (hw : ∀ j u, lv τ j u → w'.heap[(M.β j u).1]? = w.heap[(M.β j u).1]?) (hfr : ∀ b, b < c.W.heap.size → ¬ c.H b → w'.heap[b]? = w.heap[b]?) (hsz : w.heap.size ≤ w'.heap.size) (ho : w'.os = w.os) (ht : w'.tape = w.tape) (hu : w'.output = w.output)
    (hok : BlkOK M' w' d B') (hreal : ∀ v ∈ B'.vs, w.heap.size ≤ (M'.β d v.1).1 ∨ ((c.W.heap.size ≤ (M'.β d v.1).1 ∨ c.H (M'.β d v.1).1) ∧ ∀ j u, lv τ j u → (M.β j u).1 ≠ (M'.β d v.1).1)) (hids : ∀ p ∈ B'.con.ids, nm τ p) : Holds N c M' (τ.ap [(.b d, .b B')]) a w' := by
  have hnd : ∀ p, nm τ p → p.1 ≠ d := fun p hp e => by
    rcases hp with hp | ⟨B0, h0, _⟩
    · rw [e, hd] at hp; cases hp
    · rw [e, hd] at h0; cases h0
  have hag : ∀ p, nm τ p → Ag M M' p := fun p hp => hM p.1 p.2 (hnd p hp)
  have hup : ∀ p, nm τ p → nm (τ.ap [(.b d, .b B')]) p := fun p hp => by
    have := hnd p hp
    unfold nm
    rw [ap1, if_neg (by simp [this])]
    exact hp
  have hapi : ∀ j u, j ≠ d → lv τ j u → ∀ v ∈ B'.vs, (M'.β d v.1).1 ≠ (M'.β j u).1 := fun j u hj hl v hv => by
    have e := (hM j u hj).1
    simp only at e
    rw [e]
    rcases hreal v hv with h1 | ⟨_, h1⟩
    · have := h.lt hl; omega
    · exact fun e => h1 j u hl e.symm
  refine h.heap (fun k => by rw [ap1, if_neg (by simp)]) hag hup (fun j C hC => ?_) (fun j x hx => ?_) (fun j u hl => ?_) (fun j k u v hjk hj hk => ?_) hfr hsz ho ht hu
  · rw [ap1] at hC
    by_cases e : j = d
    · rw [if_pos (by rw [e])] at hC; cases hC
      subst e
      exact ⟨hok, fun p hp => hup p (hids p hp)⟩
    · rw [if_neg (by simp [e])] at hC
      have hb := h.blks j C hC
      refine ⟨⟨hb.low, fun v hv => ?_, fun v hv v' hv' he => ?_, fun v hv => by have e1 := (hM j v.1 e).1; simp only at e1; rw [e1]; exact hb.zero v hv⟩, fun p hp => hup p (h.named _ _ hC p hp)⟩
      · have hl : lv τ j v.1 := ⟨C, v.2, hC, hv⟩
        refine BC.at_ag (BC.at_heap (hb.at_ v hv) (hw _ _ hl)) (hM j v.1 e) (fun p hp => hag p (h.named _ _ hC p hp))
      · have e1 := (hM j v.1 e).1
        have e2 := (hM j v'.1 e).1
        simp only at e1 e2
        rw [e1, e2] at he ⊢
        exact hb.same v hv v' hv' he
  · rw [ap1] at hx
    by_cases e : j = d
    · rw [if_pos (by rw [e])] at hx; cases hx
    · rw [if_neg (by simp [e])] at hx; exact h.sorts j x hx
  · rcases lv_up hl with ⟨rfl, hh, hm⟩ | ⟨e, hl⟩
    · rcases hreal _ hm with h1 | ⟨h1, _⟩
      · exact .inl (Nat.le_trans h.grows h1)
      · exact h1
    · have e1 := (hM j u e).1
      simp only at e1
      rw [e1]; exact h.own j u hl
  · rcases lv_up hj with ⟨rfl, hh, hm⟩ | ⟨e, hl⟩
    · rcases lv_up hk with ⟨rfl, _, _⟩ | ⟨e', hl'⟩
      · exact absurd rfl hjk
      · exact hapi k v e' hl' _ hm
    · rcases lv_up hk with ⟨rfl, hh', hm'⟩ | ⟨e', hl'⟩
      · exact fun he => hapi j u e hl _ hm' he.symm
      · have e1 := (hM j u e).1
        have e2 := (hM k v e').1
        simp only at e1 e2
        rw [e1, e2]; exact h.apart j k u v hjk hl hl'

theorem lv_kill {i j u : Nat} (h : lv (τ.ap [(.b i, .z)]) j u) : j ≠ i ∧ lv τ j u := by
  obtain ⟨B, hi, hB, hm⟩ := h
  rw [ap1] at hB
  by_cases e : j = i
  · rw [if_pos (by rw [e])] at hB; cases hB
  · rw [if_neg (by simp [e])] at hB; exact ⟨e, B, hi, hB, hm⟩

theorem nm_kill {i : Nat} {p : Nat × Nat} (h : nm τ p) : nm (τ.ap [(.b i, .z)]) p := by
  unfold nm
  by_cases e : p.1 = i
  · left; rw [ap1, if_pos (by rw [e])]
  · rw [ap1, if_neg (by simp [e])]; exact h

/-- A block is known no more. -/
theorem Holds.kill (h : Holds N c M τ a w) {i : Nat} : Holds N c M (τ.ap [(.b i, .z)]) a w := by
  refine h.heap (fun k => by rw [ap1, if_neg (by simp)]) (fun p _ => ⟨rfl, rfl⟩) (fun p hp => nm_kill hp) (fun j C hC => ?_) (fun j x hx => ?_) (fun j u hl => h.own j u (lv_kill hl).2) (fun j k u v hjk hj hk => h.apart j k u v hjk (lv_kill hj).2 (lv_kill hk).2) (fun _ _ _ => rfl) (Nat.le_refl _) rfl rfl rfl
  · rw [ap1] at hC
    by_cases e : j = i
    · rw [if_pos (by rw [e])] at hC; cases hC
    · rw [if_neg (by simp [e])] at hC
      exact ⟨h.blks j C hC, fun p hp => nm_kill (h.named _ _ hC p hp)⟩
  · rw [ap1] at hx
    by_cases e : j = i
    · rw [if_pos (by rw [e])] at hx; cases hx
    · rw [if_neg (by simp [e])] at hx; exact h.sorts j x hx

/-! ### Changes of memory -/
/-- w' is w but for block b, which now holds o. -/
structure Only (w : World) (b : Nat) (o : Obj) (w' : World) : Prop where
  at_ : w'.heap[b]? = some o
  other : ∀ k, k ≠ b → w'.heap[k]? = w.heap[k]?
  size : w'.heap.size = w.heap.size
  os : w'.os = w.os
  tape : w'.tape = w.tape
  output : w'.output = w.output

/-- A new block. -/
structure Pushed (w : World) (o : Obj) (w' : World) : Prop where
  heap : w'.heap = w.heap.push o
  os : w'.os = w.os
  tape : w'.tape = w.tape
  output : w'.output = w.output

theorem Pushed.old {o : Obj} (h : Pushed w o w') {k : Nat} (hk : k < w.heap.size) : w'.heap[k]? = w.heap[k]? := by
  rw [h.heap, Array.getElem?_push, if_neg (by omega)]
theorem Pushed.new {o : Obj} (h : Pushed w o w') : w'.heap[w.heap.size]? = some o := by
  rw [h.heap, Array.getElem?_push, if_pos rfl]
theorem Pushed.size {o : Obj} (h : Pushed w o w') : w'.heap.size = w.heap.size + 1 := by rw [h.heap]; simp

/-- One more place. -/
def Mp.set (M : Mp) (i u : Nat) (b : Nat × Nat) (z : Nat) : Mp :=
  { β := fun j v => if j = i ∧ v = u then b else M.β j v, Z := fun j v => if j = i ∧ v = u then z else M.Z j v }

theorem Mp.set_at {i u : Nat} {b : Nat × Nat} {z : Nat} : (M.set i u b z).β i u = b ∧ (M.set i u b z).Z i u = z := by simp [Mp.set]
theorem Mp.set_ne {i u : Nat} {b : Nat × Nat} {z : Nat} {j v : Nat} (h : j ≠ i ∨ v ≠ u) : Ag M (M.set i u b z) (j, v) := by
  have : ¬ (j = i ∧ v = u) := fun e => h.elim (fun h => h e.1) (fun h => h e.2)
  simp [Ag, Mp.set, this]

/-- A new block of cells. -/
theorem Holds.alloc (h : Holds N c M τ a w) {d : Nat} (hd : τ (.b d) = none) {l : List SV} {cs : Array Value} {e : TypeId} (hp : Pushed w (.cells cs e (0, 0)) w') (hl : relL M l (cs.toList.take l.length)) (hids : ∀ p ∈ idsL l, nm τ p) :
    Holds N c (M.set d 0 (w.heap.size, 0) cs.size) (τ.ap [(.b d, .b ⟨e, .c l, [(0, l.length)], 1, false⟩)]) a w' := by
  have hne : ∀ p, nm τ p → p.1 ≠ d := fun p hp e => by
    rcases hp with hp | ⟨B0, h0, _⟩
    · rw [e, hd] at hp; cases hp
    · rw [e, hd] at h0; cases h0
  refine h.new hd (fun j u hj => Mp.set_ne (.inl hj)) (fun j u hl => hp.old (h.lt hl)) (fun b h1 _ => hp.old (Nat.lt_of_lt_of_le h1 h.grows)) (by rw [hp.size]; omega) hp.os hp.tape hp.output ⟨?_, ?_, ?_, fun v hv => by simp at hv; subst hv; simp only [Mp.set_at]⟩ ?_ hids
  · intro v hv; simp at hv; subst hv; exact Nat.one_pos
  · intro v hv
    simp at hv; subst hv
    refine ⟨Nat.le_refl _, cs, (0, 0), ?_, ?_, fun _ => rfl, ?_, ?_⟩
    · simp only [Mp.set_at]; exact hp.new
    · simp only [Mp.set_at]
    rotate_left
    · simp only [Mp.set_at]
      have := relL_len hl
      simp only [List.length_take, Array.length_toList] at this
      omega
    · simp only [Mp.set_at, List.drop_zero, List.take_length]
      exact relL_ag (fun p hp => Mp.set_ne (.inl (hne p (hids p hp)))) hl
  · intro v hv v' hv' _; simp at hv hv'; subst hv; subst hv'; rfl
  · intro v hv; simp at hv; subst hv; left; simp only [Mp.set_at]; exact Nat.le_refl _
end
end DX
end Go.Proofs.YtmfljpjdpfbfoaaGreatDoor
