/- A deterministic evaluator of the model's code, part c: operations as questions to the abstract state; regions in the text's order and in whatever order is drawn. -/
import Derived.Test.YtmfljpjdpfbfoaaGreatDoorDb
namespace Go.Proofs.YtmfljpjdpfbfoaaGreatDoor
namespace DX

/-! ### Questions to the state -/
inductive Q (α : Type) : Type where
  | ret (a : α)
  | ask (r : Reg) (k : Option RV → Q α)

def Q.run {α : Type} : Q α → St → α
  | .ret a, _ => a
  | .ask r k, τ => (k (τ r)).run τ

def Q.tr {α : Type} : Q α → St → List Reg
  | .ret _, _ => []
  | .ask r k, τ => r :: (k (τ r)).tr τ

theorem Q.loc {α : Type} {τ τ' : St} : ∀ (q : Q α), agree (q.tr τ) τ τ' → q.run τ' = q.run τ ∧ q.tr τ' = q.tr τ
  | .ret _, _ => ⟨rfl, rfl⟩
  | .ask r k, h => by
    have e : τ' r = τ r := (h r (by simp [Q.tr])).symm
    have := Q.loc (k (τ r)) (fun x hx => h x (by simp [Q.tr, hx]))
    simp only [Q.run, Q.tr, e]
    exact ⟨this.1, by rw [this.2]⟩

/-- What an operation does: an update, if that is known. -/
abbrev Rs := Option Upd

def fsts {α : Type} : List (Reg × α) → List Reg
  | [] => []
  | p :: u => p.1 :: fsts u

theorem mem_fsts {α : Type} {u : List (Reg × α)} {p : Reg × α} (h : p ∈ u) : p.1 ∈ fsts u := by
  induction u with
  | nil => cases h
  | cons q u ih =>
    rcases List.mem_cons.1 h with rfl | h
    · simp [fsts]
    · simp [fsts, ih h]

/-! ### Drawn order -/
structure Tr where
  j : Nat
  R : List Reg
  W : List Reg

/-- Must this one come ahead? -/
def hit (anc : Nat → Nat → Bool) (i : Nat) : Tr → Bool
  | ⟨j, _, _⟩ => anc i j

theorem hit_eq (anc : Nat → Nat → Bool) (i : Nat) (t : Tr) : hit anc i t = anc i t.j := rfl

/-- An operation is apart from those of the trace that need not come ahead of it. -/
def apartT (anc : Nat → Nat → Bool) (i : Nat) (R W : List Reg) : List Tr → Bool
  | [] => true
  | t :: l => (bif hit anc i t then true else indep t.R t.W R W) && apartT anc i R W l

theorem apartT_mem {anc : Nat → Nat → Bool} {i : Nat} {R W : List Reg} : ∀ {l : List Tr}, apartT anc i R W l = true → ∀ t ∈ l, anc i t.j = false → indep t.R t.W R W = true
  | [], _, t, ht, _ => by cases ht
  | s :: l, h, t, ht, ha => by
    simp only [apartT, Bool.and_eq_true] at h
    rcases List.mem_cons.1 ht with rfl | ht
    · have := h.1; rw [hit_eq, ha] at this; exact this
    · exact apartT_mem h.2 t ht ha

def aL (F : Nat → Q Rs) (anc : Nat → Nat → Bool) : List Nat → List Tr → St → (St → Prop) → Prop
  | [], _, τ, K => K τ
  | i :: l, T, τ, K => ∃ u, (F i).run τ = some u ∧ apartT anc i ((F i).tr τ) (fsts u) T = true ∧ aL F anc l (⟨i, (F i).tr τ, fsts u⟩ :: T) (τ.ap u) K

theorem apartT_append {anc : Nat → Nat → Bool} {i : Nat} {R W : List Reg} : ∀ {l m : List Tr}, apartT anc i R W (l ++ m) = true → apartT anc i R W l = true ∧ apartT anc i R W m = true
  | [], m, h => ⟨rfl, h⟩
  | s :: l, m, h => by
    simp only [List.cons_append, apartT, Bool.and_eq_true] at h ⊢
    exact ⟨⟨h.1, (apartT_append h.2).1⟩, (apartT_append h.2).2⟩

theorem apartT_split {anc : Nat → Nat → Bool} {i : Nat} {R W : List Reg} : ∀ {l m : List Tr}, apartT anc i R W l = true → apartT anc i R W m = true → apartT anc i R W (l ++ m) = true
  | [], m, _, h => h
  | s :: l, m, h, h' => by
    simp only [List.cons_append, apartT, Bool.and_eq_true] at h ⊢
    exact ⟨h.1, apartT_split h.2 h'⟩

/-- Fewer earlier ones. -/
theorem aL_less {F : Nat → Q Rs} {anc : Nat → Nat → Bool} {K : St → Prop} {t : Tr} {M : List Tr} : ∀ (l : List Nat) (L : List Tr) (τ : St), aL F anc l (L ++ t :: M) τ K → aL F anc l (L ++ M) τ K := by
  intro l
  induction l with
  | nil => intro L τ h; exact h
  | cons i l ih =>
    intro L τ ⟨u, h2, h1, h4⟩
    have h5 := apartT_append h1
    have h6 := h5.2
    simp only [apartT, Bool.and_eq_true] at h6
    exact ⟨u, h2, apartT_split h5.1 h6.2, ih (_ :: L) _ h4⟩

theorem aL_front {F : Nat → Q Rs} {anc : Nat → Nat → Bool} {i : Nat} {post : List Nat} {K : St → Prop} :
    ∀ (pre : List Nat) (T : List Tr) (τ : St), (∀ j ∈ pre, anc i j = false) → aL F anc (pre ++ i :: post) T τ K →
      ∃ u, (F i).run τ = some u ∧ (∀ t ∈ T, anc i t.j = false → indep t.R t.W ((F i).tr τ) (fsts u) = true) ∧ aL F anc (pre ++ post) T (τ.ap u) K := by
  intro pre
  induction pre with
  | nil =>
    intro T τ _ h
    obtain ⟨u, h2, h1, h4⟩ := h
    exact ⟨u, h2, apartT_mem h1, aL_less post [] _ h4⟩
  | cons j pre ih =>
    intro T τ hanc h
    obtain ⟨u0, hj2, hj1, hj4⟩ := h
    obtain ⟨v, g1, g3, g4⟩ := ih (⟨j, (F j).tr τ, fsts u0⟩ :: T) (τ.ap u0) (fun k hk => hanc k (by simp [hk])) hj4
    -- what i does is the same behind j as ahead of it
    have hind := g3 ⟨j, (F j).tr τ, fsts u0⟩ (by simp) (hanc j (by simp))
    simp only [indep, Bool.and_eq_true] at hind
    have hag : agree ((F i).tr (τ.ap u0)) (τ.ap u0) τ := agree_ap fun p hp hm => disj_ne hind.1.1 (mem_fsts hp) hm rfl
    have hi := Q.loc (F i) hag
    have e1 := hi.1.symm
    have e2 := hi.2.symm
    rw [e1] at g1
    rw [e2] at g3 hind
    refine ⟨v, g1, fun t ht ha => g3 t (by simp [ht]) ha, ?_⟩
    -- and j behind i as ahead of it
    have hagj : agree ((F j).tr τ) τ (τ.ap v) := fun r hr => (St.ap_out (fun p hp e => disj_ne hind.2 (mem_fsts hp) hr e)).symm
    have hj := Q.loc (F j) hagj
    refine ⟨u0, by rw [hj.1]; exact hj2, by rw [hj.2]; exact hj1, ?_⟩
    rw [St.ap_comm (u := u0) (v := v) (fun p hp q hq => disj_ne hind.1.2 (mem_fsts hp) (mem_fsts hq))] at g4
    rw [hj.2]
    exact g4

/-! ### Operations and regions -/
def OpS (P : Program) (N : Nat) (ops : Array Oper) (o : Oper) (q : Q Rs) : Prop :=
  ∀ c τ a w, Rel N c τ a w → ∀ u, q.run τ = some u → ∀ (K : Act → World → Prop) (Q' : Exit → Act → World → Prop),
    (∀ a' w', Rel N c (τ.ap u) a' w' → K a' w') → if Region.wanted o (yielded ops a.tmps) = true then o.wp P a w K Q' else K (a.put o.dst undef) w

section
variable {P : Program} {N : Nat} {ops : Array Oper} {F : Nat → Q Rs}

def preds (o : Oper) : List Nat := (o.after.toList.filter (Region.binds .any)).map (·.on)

def isIn (listed : Array Bool) (i : Nat) : Prop := listed.getD i false = true

def rest (n : Nat) (listed : Array Bool) : List Nat := (List.range n).filter fun i => !listed.getD i true

def closed (ops : Array Oper) (listed : Array Bool) : Prop := ∀ i o, ops[i]? = some o → isIn listed i → ∀ p ∈ preds o, isIn listed p

/-- 'anc i j': j must come ahead of i. -/
structure Anc (ops : Array Oper) (anc : Nat → Nat → Bool) : Prop where
  lt : ∀ i o, ops[i]? = some o → ∀ p ∈ preds o, p < i
  step : ∀ i o, ops[i]? = some o → ∀ j, anc i j = true → ∃ k ∈ preds o, k = j ∨ anc k j = true

theorem anc_in {anc : Nat → Nat → Bool} (h : Anc ops anc) {listed : Array Bool} (hc : closed ops listed) : ∀ (i : Nat) (o : Oper), ops[i]? = some o → (∀ p ∈ preds o, isIn listed p) →
    ∀ j, anc i j = true → isIn listed j := by
  intro i
  induction i using Nat.strongRecOn with
  | _ i ih =>
    intro o ho hp j ht
    obtain ⟨k, hk, rfl | htk⟩ := h.step i o ho j ht
    · exact hp k hk
    · have hki := h.lt i o ho k hk
      have hi : i < ops.size := (Array.getElem?_eq_some_iff.1 ho).1
      have hok : ops[k]? = some ops[k] := Array.getElem?_eq_getElem (by omega)
      exact ih k hki _ hok (hc k _ hok (hp k hk)) j htk

theorem mem_ready {listed : Array Bool} {i : Nat} : i ∈ Region.ready .any ops listed ↔ i ∈ rest ops.size listed ∧ ∀ o, ops[i]? = some o → ∀ p ∈ preds o, isIn listed p := by
  simp only [Region.ready, rest, List.mem_filter, List.mem_range, Bool.and_eq_true]
  constructor
  · rintro ⟨hi, hl, ha⟩
    refine ⟨⟨hi, hl⟩, fun o ho p hp => ?_⟩
    rw [ho] at ha
    simp only [Option.map_some, Option.getD_some] at ha
    obtain ⟨e, he, rfl⟩ := List.mem_map.1 hp
    rw [List.mem_filter] at he
    have := Array.all_eq_true_iff_forall_mem.1 ha e (by simpa using he.1)
    simp only [Bool.or_eq_true, he.2, Bool.not_true] at this
    simpa [isIn] using this
  · rintro ⟨⟨hi, hl⟩, ha⟩
    refine ⟨hi, hl, ?_⟩
    have ho : ops[i]? = some ops[i] := Array.getElem?_eq_getElem hi
    rw [ho]
    simp only [Option.map_some, Option.getD_some]
    rw [Array.all_eq_true_iff_forall_mem]
    intro e he
    cases hb : Region.binds .any e with
    | false => simp
    | true =>
      have := ha _ ho e.on (List.mem_map.2 ⟨e, by rw [List.mem_filter]; exact ⟨by simpa using he, hb⟩, rfl⟩)
      simpa [isIn] using this

theorem rest_split {n : Nat} {listed : Array Bool} {i : Nat} (hs : listed.size = n) (hi : i ∈ rest n listed) :
    ∃ pre post, rest n listed = pre ++ i :: post ∧ rest n (listed.setIfInBounds i true) = pre ++ post ∧ ∀ j ∈ pre, j < i := by
  obtain ⟨pre, post, he⟩ := List.append_of_mem hi
  have hp : (rest n listed).Pairwise (· < ·) := List.Pairwise.filter _ List.pairwise_lt_range
  have hpp := hp
  rw [he] at hp
  have hin : i < n := by simp only [rest, List.mem_filter, List.mem_range] at hi; exact hi.1
  obtain ⟨h1, h2, h3⟩ := List.pairwise_append.1 hp
  refine ⟨pre, post, he, ?_, fun j hj => h3 j hj i (by simp)⟩
  have e1 : rest n (listed.setIfInBounds i true) = (rest n listed).filter (fun j => !Nat.beq j i) := by
    simp only [rest, List.filter_filter]
    refine List.filter_congr fun j hj => ?_
    by_cases hji : j = i
    · subst hji
      simp [Array.getD, hs, hin]
    · have hb : Nat.beq j i = false := by rw [← Bool.not_eq_true]; simpa using hji
      rw [hb]
      simp only [Bool.not_false, Bool.true_and]
      have : (listed.setIfInBounds i true).getD j true = listed.getD j true := by
        rw [Array.getD_eq_getD_getElem?, Array.getD_eq_getD_getElem?, Array.getElem?_setIfInBounds_ne (fun h => hji h.symm)]
      rw [this]
  rw [e1, he, List.filter_append, List.filter_cons]
  have hb : Nat.beq i i = true := by simp
  rw [hb]
  simp only [Bool.not_true, Bool.false_eq_true, if_false]
  congr 1
  · rw [List.filter_eq_self]
    intro j hj
    have := h3 j hj i (by simp)
    have hne : Nat.beq j i = false := by rw [← Bool.not_eq_true]; simp; omega
    simp [hne]
  · rw [List.filter_eq_self]
    intro j hj
    have := (List.pairwise_cons.1 h2).1 j hj
    have hne : Nat.beq j i = false := by rw [← Bool.not_eq_true]; simp; omega
    simp [hne]

theorem any_sound {anc : Nat → Nat → Bool} (h : ∀ i o, ops[i]? = some o → OpS P N ops o (F i)) (hA : Anc ops anc) {Q' : Exit → Act → World → Prop} {c : Ctx} {K : St → Prop}
    (hQ : ∀ τ a w, K τ → Rel N c τ a w → Q' .normal a w) : ∀ (fuel : Nat) (listed : Array Bool) (τ : St) (a : Act) (w : World),
      (rest ops.size listed).length = fuel → listed.size = ops.size → closed ops listed → aL F anc (rest ops.size listed) [] τ K → Rel N c τ a w → wpAny P .any ops Q' fuel listed a w := by
  intro fuel
  induction fuel with
  | zero =>
    intro listed τ a w hlen _ _ hk hr
    have hnil : rest ops.size listed = [] := List.length_eq_zero_iff.1 hlen
    refine ⟨?_, ?_⟩
    · rw [List.eq_nil_iff_forall_not_mem]
      intro i hi
      have := (mem_ready.1 hi).1
      rw [hnil] at this
      cases this
    · rw [hnil] at hk
      exact hQ τ a w hk hr
  | succ fuel ih =>
    intro listed τ a w hlen hs hcl hk hr
    refine ⟨fun hnil => ?_, fun i hi => ?_⟩
    · -- something is always ready
      exfalso
      cases hl : rest ops.size listed with
      | nil => rw [hl] at hlen; simp at hlen
      | cons i l =>
        have hmem : i ∈ rest ops.size listed := by rw [hl]; simp
        have hin : i < ops.size := by simp only [rest, List.mem_filter, List.mem_range] at hmem; exact hmem.1
        have ho : ops[i]? = some ops[i] := Array.getElem?_eq_getElem hin
        have hready : i ∈ Region.ready .any ops listed := by
          refine mem_ready.2 ⟨hmem, fun o ho' p hp => ?_⟩
          rw [ho] at ho'; cases ho'
          have hpi := hA.lt i _ ho p hp
          have hpw : (rest ops.size listed).Pairwise (· < ·) := List.Pairwise.filter _ List.pairwise_lt_range
          have hnot : p ∉ rest ops.size listed := by
            intro hm
            rw [hl] at hm hpw
            rcases List.mem_cons.1 hm with rfl | hm
            · omega
            · have := (List.pairwise_cons.1 hpw).1 p hm; omega
          have hpn : p < listed.size := by omega
          have : listed.getD p true = true := by
            cases hb : listed.getD p true with
            | true => rfl
            | false => exact absurd (by simp only [rest, List.mem_filter, List.mem_range]; exact ⟨by omega, by rw [hb]; rfl⟩) hnot
          unfold isIn
          simp only [Array.getD, hpn, dif_pos] at this ⊢
          exact this
        rw [hnil] at hready
        cases hready
    · have hm := mem_ready.1 hi
      obtain ⟨pre, post, he, he', hlt⟩ := rest_split hs hm.1
      have hin : i < ops.size := by have := hm.1; simp only [rest, List.mem_filter, List.mem_range] at this; exact this.1
      have ho : ops[i]? = some ops[i] := Array.getElem?_eq_getElem hin
      have hp := hm.2 _ ho
      have hanc : ∀ j ∈ pre, anc i j = false := by
        intro j hj
        cases ht : anc i j with
        | false => rfl
        | true =>
          exfalso
          have hj' := anc_in hA hcl i _ ho hp j ht
          have hmj : j ∈ rest ops.size listed := by rw [he]; simp [hj]
          simp only [rest, List.mem_filter, List.mem_range] at hmj
          have hjn : j < listed.size := by omega
          have e2 := hmj.2
          unfold isIn at hj'
          simp only [Array.getD, hjn, dif_pos] at e2 hj'
          rw [hj'] at e2
          cases e2
      rw [he] at hk
      obtain ⟨u, hpre, _, hK⟩ := aL_front pre [] τ hanc hk
      have hlen' : (rest ops.size (listed.setIfInBounds i true)).length = fuel := by
        rw [he']; rw [he] at hlen; simp at hlen ⊢; omega
      have hcl' : closed ops (listed.setIfInBounds i true) := by
        have up : ∀ p, isIn listed p → isIn (listed.setIfInBounds i true) p := by
          intro p hp
          unfold isIn at hp ⊢
          rw [Array.getD_eq_getD_getElem?] at hp ⊢
          by_cases e : i = p
          · subst e
            simp [hs, hin]
          · rw [Array.getElem?_setIfInBounds_ne e]
            exact hp
        intro k o hk hin' p hpp
        by_cases e : i = k
        · subst e
          rw [ho] at hk; cases hk
          exact up p (hp p hpp)
        · refine up p (hcl k o hk ?_ p hpp)
          unfold isIn at hin' ⊢
          rw [Array.getD_eq_getD_getElem?] at hin' ⊢
          rw [Array.getElem?_setIfInBounds_ne e] at hin'
          exact hin'
      refine wpOp_step ho fun K' hK' => ?_
      exact h i _ ho c τ a w hr u hpre K' Q' fun a' w' hr' => hK' _ _ (ih _ _ a' w' hlen' (by simpa using hs) hcl' (by rw [he']; exact hK) hr')

/-- In the text's order: no order to look at. -/
def aT (F : Nat → Q Rs) : List Nat → St → (St → Prop) → Prop
  | [], τ, K => K τ
  | i :: l, τ, K => ∃ u, (F i).run τ = some u ∧ aT F l (τ.ap u) K

theorem text_sound (h : ∀ i o, ops[i]? = some o → OpS P N ops o (F i)) {Q' : Exit → Act → World → Prop} {c : Ctx} {K : St → Prop}
    (hQ : ∀ τ a w, K τ → Rel N c τ a w → Q' .normal a w) : ∀ (l : List Nat) (τ : St) (a : Act) (w : World), (∀ i ∈ l, i < ops.size) → aT F l τ K → Rel N c τ a w → wpOps P ops Q' l a w := by
  intro l
  induction l with
  | nil => intro τ a w _ hk hr; exact hQ τ a w hk hr
  | cons i l ih =>
    intro τ a w hl hk hr
    obtain ⟨u, hp, hK⟩ := hk
    have hi : i < ops.size := hl i (by simp)
    have ho : ops[i]? = some ops[i] := Array.getElem?_eq_getElem hi
    rw [wpOps_cons]
    refine wpOp_step ho fun K' hK' => ?_
    exact h i _ ho c τ a w hr u hp K' Q' fun a' w' hr' => hK' _ _ (ih _ a' w' (fun k hk => hl k (by simp [hk])) hK hr')

theorem rest_all (n : Nat) : rest n (Array.replicate n false) = List.range n := by
  unfold rest
  rw [List.filter_eq_self]
  intro i hi
  have : i < n := by simpa using hi
  simp [Array.getD, this]

end

end DX
end Go.Proofs.YtmfljpjdpfbfoaaGreatDoor
