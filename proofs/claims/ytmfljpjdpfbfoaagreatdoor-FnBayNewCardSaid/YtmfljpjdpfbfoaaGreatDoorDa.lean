/- A deterministic evaluator of the model's code, part a: values, blocks with versions, states. -/
import Derived.WalkKit
import Derived.RegionTactic
namespace Go.Proofs.YtmfljpjdpfbfoaaGreatDoor
namespace DX

def one (v : Value) : Bool := v.oneCell'

/-! ### Values -/
/-- What a closure or an interface value holds. -/
inductive CV where
  | v (x : Value)
  | p (i u k sz j : Nat)
  | s (i u sz o n : Nat) (cp : Option Nat)
  | m (i u : Nat)

/-- 'v': as it is; 'p': a pointer into block i's version u, at cell k*sz+j; 's': n elements of sz cells each from the o-th on (cp: the capacity, if known); 'm': a map; 'f': a function with what it holds; 'ic': an interface value. -/
inductive SV where
  | v (x : Value)
  | p (i u k sz j : Nat)
  | s (i u sz o n : Nat) (cp : Option Nat)
  | m (i u : Nat)
  | f (g : FuncId) (ca : List CV)
  | ic (t : TypeId) (x : CV)

inductive A0 where
  | s (x : SV)
  | a (l : List SV)

inductive AV where
  | o (x : A0)
  | t (l : List A0)

abbrev AV.s (x : SV) : AV := .o (.s x)
abbrev AV.a (l : List SV) : AV := .o (.a l)
abbrev AV.int (n : Int) : AV := .o (.s (.v (.int .i64 n)))
abbrev AV.q (b : Bool) : AV := .o (.s (.v (.bool b)))
abbrev AV.str (s : ByteArray) : AV := .o (.s (.v (.string s)))

/-- What lies in a block: cells, or a map's entries, or how far a loop over a text has come, or a loop over a map that has handed out nothing. -/
inductive BC where
  | c (l : List SV)
  | m (l : List (Value × A0))
  | si (s : ByteArray) (p : Nat)
  | mi (i u : Nat)

/-- A block: its cells' type, what it holds, its versions (each with the number of cells that are known), the next version's number, may it be written. -/
structure Blk where
  ty : TypeId
  con : BC
  vs : List (Nat × Nat)
  nx : Nat
  ro : Bool

/-- In a register: a slot's value, a block, or a block that is no more. -/
inductive RV where
  | x (a : AV)
  | b (B : Blk)
  | z

abbrev Ids := List (Nat × Nat)

def CV.ids : CV → Ids
  | .p i u _ _ _ => [(i, u)]
  | .s i u _ _ _ _ => [(i, u)]
  | .m i u => [(i, u)]
  | .v _ => []
def idsC : List CV → Ids
  | [] => []
  | x :: l => x.ids ++ idsC l
def SV.ids : SV → Ids
  | .p i u _ _ _ => [(i, u)]
  | .s i u _ _ _ _ => [(i, u)]
  | .m i u => [(i, u)]
  | .f _ ca => idsC ca
  | .ic _ x => x.ids
  | .v _ => []
def idsL : List SV → Ids
  | [] => []
  | x :: l => x.ids ++ idsL l
def A0.ids : A0 → Ids
  | .s x => x.ids
  | .a l => idsL l
def idsT : List A0 → Ids
  | [] => []
  | x :: l => x.ids ++ idsT l
def AV.ids : AV → Ids
  | .o x => x.ids
  | .t l => idsT l
def idsM : List (Value × A0) → Ids
  | [] => []
  | x :: l => x.2.ids ++ idsM l
def BC.ids : BC → Ids
  | .c l => idsL l
  | .m l => idsM l
  | .si _ _ => []
  | .mi i u => [(i, u)]
def RV.ids : RV → Ids
  | .x a => a.ids
  | .b B => B.con.ids
  | .z => []

/-! ### What they stand for -/
/-- Where each version of a block lies: its block in memory and its first cell there; how many cells that block has. -/
structure Mp where
  β : Nat → Nat → Nat × Nat
  Z : Nat → Nat → Nat

def pRel (M : Mp) (i u k sz j : Nat) (y : Value) : Prop := y = .pointer (some ⟨(M.β i u).1, (M.β i u).2 + (k * sz + j), none⟩)
def sRel (M : Mp) (i u sz o n : Nat) (cp : Option Nat) (y : Value) : Prop :=
  (n = 0 ∧ (cp = none ∨ cp = some 0) ∧ ∃ p, y = .slice (some p) 0 0) ∨ ∃ cap, y = .slice (some ⟨(M.β i u).1, (M.β i u).2 + o * sz, none⟩) n cap ∧ n ≤ cap ∧ (∀ c, cp = some c → cap = c) ∧ (M.β i u).2 + (o + cap) * sz ≤ M.Z i u

def CV.rel (M : Mp) : CV → Value → Prop
  | .v x, y => y = x
  | .p i u k sz j, y => pRel M i u k sz j y
  | .s i u sz o n cp, y => sRel M i u sz o n cp y
  | .m i u, y => y = .map (some (M.β i u).1)

def relC (M : Mp) : List CV → List Value → Prop
  | [], [] => True
  | x :: l, y :: r => x.rel M y ∧ relC M l r
  | _, _ => False

def SV.rel (M : Mp) : SV → Value → Prop
  | .v x, y => y = x
  | .p i u k sz j, y => pRel M i u k sz j y
  | .s i u sz o n cp, y => sRel M i u sz o n cp y
  | .m i u, y => y = .map (some (M.β i u).1)
  | .f g ca, y => ∃ cs, y = .func (.func g) #[] cs ∧ relC M ca cs.toList
  | .ic t x, y => ∃ z, y = .iface t z ∧ x.rel M z

def relL (M : Mp) : List SV → List Value → Prop
  | [], [] => True
  | x :: l, y :: r => x.rel M y ∧ relL M l r
  | _, _ => False

def A0.rel (M : Mp) : A0 → Value → Prop
  | .s x, y => x.rel M y
  | .a l, y => ∃ cs, y = .agg cs ∧ relL M l cs.toList

def relT (M : Mp) : List A0 → List Value → Prop
  | [], [] => True
  | x :: l, y :: r => x.rel M y ∧ relT M l r
  | _, _ => False

def AV.rel (M : Mp) : AV → Value → Prop
  | .o x, y => x.rel M y
  | .t l, y => ∃ vs, y = .tuple vs ∧ relT M l vs.toList

def relM (M : Mp) : List (Value × A0) → List MapEntry → Prop
  | [], [] => True
  | x :: l, y :: r => (y.key = x.1 ∧ x.2.rel M y.val) ∧ relM M l r
  | _, _ => False

/-! Another map that agrees where it matters. -/
def Ag (M M' : Mp) (p : Nat × Nat) : Prop := M'.β p.1 p.2 = M.β p.1 p.2 ∧ M'.Z p.1 p.2 = M.Z p.1 p.2

section
variable {M M' : Mp}

theorem pRel_ag {i u k sz j : Nat} (h : Ag M M' (i, u)) {y : Value} (hr : pRel M i u k sz j y) : pRel M' i u k sz j y := by
  obtain ⟨h1, _⟩ := h
  simp only at h1
  unfold pRel at *
  rw [h1]; exact hr

theorem sRel_ag {i u sz o n : Nat} {cp : Option Nat} (h : Ag M M' (i, u)) {y : Value} (hr : sRel M i u sz o n cp y) : sRel M' i u sz o n cp y := by
  obtain ⟨h1, h2⟩ := h
  simp only at h1 h2
  unfold sRel at *
  rw [h1, h2]; exact hr

theorem CV.rel_ag {x : CV} (h : ∀ p ∈ x.ids, Ag M M' p) {y : Value} (hr : x.rel M y) : x.rel M' y := by
  cases x with
  | v x => exact hr
  | p i u k sz j => exact pRel_ag (h _ (by simp [CV.ids])) hr
  | s i u sz o n cp => exact sRel_ag (h _ (by simp [CV.ids])) hr
  | m i u =>
    have h1 := (h (i, u) (by simp [CV.ids])).1
    simp only at h1
    show y = _
    rw [h1]; exact hr

theorem relC_ag : ∀ {l : List CV} {r : List Value}, (∀ p ∈ idsC l, Ag M M' p) → relC M l r → relC M' l r
  | [], [], _, _ => trivial
  | _ :: _, [], _, h => h.elim
  | [], _ :: _, _, h => h.elim
  | x :: l, y :: r, h, hr => ⟨CV.rel_ag (fun p hp => h p (by simp [idsC, hp])) hr.1, relC_ag (fun p hp => h p (by simp [idsC, hp])) hr.2⟩

theorem SV.rel_ag {x : SV} (h : ∀ p ∈ x.ids, Ag M M' p) {y : Value} (hr : x.rel M y) : x.rel M' y := by
  cases x with
  | v x => exact hr
  | p i u k sz j => exact pRel_ag (h _ (by simp [SV.ids])) hr
  | s i u sz o n cp => exact sRel_ag (h _ (by simp [SV.ids])) hr
  | m i u =>
    have h1 := (h (i, u) (by simp [SV.ids])).1
    simp only at h1
    show y = _
    rw [h1]; exact hr
  | f g ca =>
    obtain ⟨cs, e, hc⟩ := hr
    exact ⟨cs, e, relC_ag h hc⟩
  | ic t x =>
    obtain ⟨z, e, hc⟩ := hr
    exact ⟨z, e, CV.rel_ag h hc⟩

theorem relL_ag : ∀ {l : List SV} {r : List Value}, (∀ p ∈ idsL l, Ag M M' p) → relL M l r → relL M' l r
  | [], [], _, _ => trivial
  | _ :: _, [], _, h => h.elim
  | [], _ :: _, _, h => h.elim
  | x :: l, y :: r, h, hr => ⟨SV.rel_ag (fun p hp => h p (by simp [idsL, hp])) hr.1, relL_ag (fun p hp => h p (by simp [idsL, hp])) hr.2⟩

theorem A0.rel_ag {x : A0} (h : ∀ p ∈ x.ids, Ag M M' p) {y : Value} (hr : x.rel M y) : x.rel M' y := by
  cases x with
  | s x => exact SV.rel_ag h hr
  | a l => obtain ⟨cs, e, hl⟩ := hr; exact ⟨cs, e, relL_ag h hl⟩

theorem relT_ag : ∀ {l : List A0} {r : List Value}, (∀ p ∈ idsT l, Ag M M' p) → relT M l r → relT M' l r
  | [], [], _, _ => trivial
  | _ :: _, [], _, h => h.elim
  | [], _ :: _, _, h => h.elim
  | x :: l, y :: r, h, hr => ⟨A0.rel_ag (fun p hp => h p (by simp [idsT, hp])) hr.1, relT_ag (fun p hp => h p (by simp [idsT, hp])) hr.2⟩

theorem AV.rel_ag {x : AV} (h : ∀ p ∈ x.ids, Ag M M' p) {y : Value} (hr : x.rel M y) : x.rel M' y := by
  cases x with
  | o x => exact A0.rel_ag h hr
  | t l => obtain ⟨cs, e, hl⟩ := hr; exact ⟨cs, e, relT_ag h hl⟩

theorem relM_ag : ∀ {l : List (Value × A0)} {r : List MapEntry}, (∀ p ∈ idsM l, Ag M M' p) → relM M l r → relM M' l r
  | [], [], _, _ => trivial
  | _ :: _, [], _, h => h.elim
  | [], _ :: _, _, h => h.elim
  | x :: l, y :: r, h, hr => ⟨⟨hr.1.1, A0.rel_ag (fun p hp => h p (by simp [idsM, hp])) hr.1.2⟩, relM_ag (fun p hp => h p (by simp [idsM, hp])) hr.2⟩

theorem mem_idsL {p : Nat × Nat} : ∀ {l : List SV}, p ∈ idsL l ↔ ∃ x ∈ l, p ∈ x.ids
  | [] => by simp [idsL]
  | x :: l => by simp [idsL, mem_idsL (l := l)]
theorem mem_idsT {p : Nat × Nat} : ∀ {l : List A0}, p ∈ idsT l ↔ ∃ x ∈ l, p ∈ x.ids
  | [] => by simp [idsT]
  | x :: l => by simp [idsT, mem_idsT (l := l)]

theorem relL_len : ∀ {l : List SV} {cs : List Value}, relL M l cs → l.length = cs.length
  | [], [], _ => rfl
  | _ :: _, [], h => h.elim
  | [], _ :: _, h => h.elim
  | _ :: l, _ :: cs, h => by simp [relL_len h.2]

theorem relL_at : ∀ {l : List SV} {cs : List Value}, relL M l cs → ∀ {i : Nat} {x : SV}, l[i]? = some x → ∃ v, cs[i]? = some v ∧ x.rel M v
  | [], [], _, i, x, hx => by simp at hx
  | _ :: _, [], h, _, _, _ => h.elim
  | [], _ :: _, h, _, _, _ => h.elim
  | y :: l, v :: cs, h, i, x, hx => by
    cases i with
    | zero => simp at hx; subst hx; exact ⟨v, by simp, h.1⟩
    | succ i => simpa using relL_at h.2 (by simpa using hx)

theorem relL_take : ∀ {l : List SV} {cs : List Value} (n : Nat), relL M l cs → relL M (l.take n) (cs.take n)
  | _, _, 0, _ => by simp [relL]
  | [], [], _, _ => by simp [relL]
  | _ :: _, [], _, h => h.elim
  | [], _ :: _, _, h => h.elim
  | _ :: l, _ :: cs, n + 1, h => ⟨h.1, relL_take n h.2⟩

theorem relL_drop : ∀ {l : List SV} {cs : List Value} (n : Nat), relL M l cs → relL M (l.drop n) (cs.drop n)
  | _, _, 0, h => by simpa using h
  | [], [], _, _ => by simp [relL]
  | _ :: _, [], _, h => h.elim
  | [], _ :: _, _, h => h.elim
  | _ :: l, _ :: cs, n + 1, h => by simpa using relL_drop n h.2

theorem relL_append : ∀ {l m : List SV} {cs ds : List Value}, relL M l cs → relL M m ds → relL M (l ++ m) (cs ++ ds)
  | [], _, [], _, _, h => h
  | _ :: _, _, [], _, h, _ => h.elim
  | [], _, _ :: _, _, h, _ => h.elim
  | _ :: _, _, _ :: _, _, h, h' => ⟨h.1, relL_append h.2 h'⟩

theorem relT_at : ∀ {l : List A0} {cs : List Value}, relT M l cs → ∀ {i : Nat} {x : A0}, l[i]? = some x → ∃ v, cs[i]? = some v ∧ x.rel M v
  | [], [], _, i, x, hx => by simp at hx
  | _ :: _, [], h, _, _, _ => h.elim
  | [], _ :: _, h, _, _, _ => h.elim
  | y :: l, v :: cs, h, i, x, hx => by
    cases i with
    | zero => simp at hx; subst hx; exact ⟨v, by simp, h.1⟩
    | succ i => simpa using relT_at h.2 (by simpa using hx)

theorem relT_len : ∀ {l : List A0} {cs : List Value}, relT M l cs → l.length = cs.length
  | [], [], _ => rfl
  | _ :: _, [], h => h.elim
  | [], _ :: _, h => h.elim
  | _ :: l, _ :: cs, h => by simp [relT_len h.2]

theorem relL_set : ∀ {l : List SV} {cs : List Value} (k : Nat) {x : SV} {v : Value}, relL M l cs → x.rel M v → relL M (l.set k x) (cs.set k v)
  | [], [], _, _, _, _, _ => trivial
  | _ :: _, [], _, _, _, h, _ => h.elim
  | [], _ :: _, _, _, _, h, _ => h.elim
  | _ :: l, _ :: cs, 0, x, v, h, hx => ⟨hx, h.2⟩
  | _ :: l, _ :: cs, k + 1, x, v, h, hx => ⟨h.1, relL_set k h.2 hx⟩

end

/-! ### Registers and states -/
inductive Reg where
  | s (n : Nat)
  | b (n : Nat)
  deriving DecidableEq

def Reg.beq : Reg → Reg → Bool
  | .s m, .s n => Nat.beq m n
  | .b m, .b n => Nat.beq m n
  | _, _ => false

theorem Reg.beq_iff {x y : Reg} : x.beq y = true ↔ x = y := by
  cases x <;> cases y <;> simp [Reg.beq]

theorem Reg.beq_false {x y : Reg} : x.beq y = false ↔ x ≠ y := by
  rw [← Bool.not_eq_true, ne_eq, Reg.beq_iff]

theorem Reg.beq_self (x : Reg) : x.beq x = true := Reg.beq_iff.2 rfl

abbrev St := Reg → Option RV
abbrev Upd := List (Reg × RV)

def St.ap (τ : St) : Upd → St
  | [] => τ
  | (k, v) :: u => fun r => bif Reg.beq k r then some v else St.ap τ u r

def agree (R : List Reg) (τ τ' : St) : Prop := ∀ r ∈ R, τ r = τ' r

theorem St.ap_out {τ : St} {u : Upd} {r : Reg} (h : ∀ p ∈ u, p.1 ≠ r) : τ.ap u r = τ r := by
  induction u with
  | nil => rfl
  | cons p u ih =>
    obtain ⟨k, v⟩ := p
    have hk : Reg.beq k r = false := Reg.beq_false.2 (h (k, v) (by simp))
    show (bif Reg.beq k r then some v else St.ap τ u r) = _
    rw [hk]
    exact ih fun p hp => h p (by simp [hp])

theorem St.ap_in {τ : St} {u : Upd} {r : Reg} : (∃ v, τ.ap u r = some v ∧ (r, v) ∈ u) ∨ (τ.ap u r = τ r ∧ ∀ p ∈ u, p.1 ≠ r) := by
  induction u with
  | nil => exact .inr ⟨rfl, fun _ h => by cases h⟩
  | cons p u ih =>
    obtain ⟨k, v⟩ := p
    cases hk : Reg.beq k r with
    | true =>
      obtain rfl := Reg.beq_iff.1 hk
      exact .inl ⟨v, by show (bif Reg.beq k k then some v else St.ap τ u k) = _; rw [hk]; rfl, by simp⟩
    | false =>
      have e : St.ap τ ((k, v) :: u) r = St.ap τ u r := by
        show (bif Reg.beq k r then some v else St.ap τ u r) = _
        rw [hk]; rfl
      rcases ih with ⟨x, hx, hm⟩ | ⟨hx, hn⟩
      · exact .inl ⟨x, by rw [e, hx], by simp [hm]⟩
      · refine .inr ⟨by rw [e, hx], fun p hp => ?_⟩
        rcases List.mem_cons.1 hp with rfl | hp
        · exact Reg.beq_false.1 hk
        · exact hn p hp

theorem St.ap_same {τ τ' : St} {r : Reg} : ∀ {v : Upd}, (∃ p ∈ v, p.1 = r) → τ.ap v r = τ'.ap v r := by
  intro v
  induction v with
  | nil => intro ⟨p, hp, _⟩; cases hp
  | cons p v ih =>
    obtain ⟨k, y⟩ := p
    intro hex
    show (bif Reg.beq k r then some y else St.ap τ v r) = (bif Reg.beq k r then some y else St.ap τ' v r)
    cases hk : Reg.beq k r with
    | true => rfl
    | false =>
      refine ih ?_
      obtain ⟨p, hp, e⟩ := hex
      rcases List.mem_cons.1 hp with rfl | hp
      · exact absurd e (Reg.beq_false.1 hk)
      · exact ⟨p, hp, e⟩

/-- Two updates of different registers. -/
theorem St.ap_comm {τ : St} {u v : Upd} (h : ∀ p ∈ u, ∀ q ∈ v, p.1 ≠ q.1) : (τ.ap u).ap v = (τ.ap v).ap u := by
  funext r
  rcases St.ap_in (τ := τ.ap u) (u := v) (r := r) with ⟨x, hx, hm⟩ | ⟨hx, hn⟩
  · have hu : ∀ p ∈ u, p.1 ≠ r := fun p hp e => h p hp _ hm e
    rw [St.ap_out hu]
    exact St.ap_same ⟨_, hm, rfl⟩
  · rw [hx]
    rcases St.ap_in (τ := τ.ap v) (u := u) (r := r) with ⟨y, hy, hm⟩ | ⟨hy, hn'⟩
    · exact St.ap_same ⟨_, hm, rfl⟩
    · rw [hy, St.ap_out hn, St.ap_out hn']

theorem agree_ap {R : List Reg} {τ : St} {u : Upd} (h : ∀ p ∈ u, p.1 ∉ R) : agree R (τ.ap u) τ := fun _ hr =>
  St.ap_out fun p hp e => h p hp (e ▸ hr)

def disj (x y : List Reg) : Bool := x.all fun r => y.all fun q => !Reg.beq r q
def indep (R W R' W' : List Reg) : Bool := disj W R' && disj W W' && disj W' R

theorem disj_ne {x y : List Reg} (h : disj x y = true) {r q : Reg} (hr : r ∈ x) (hq : q ∈ y) : r ≠ q := by
  have := List.all_eq_true.1 (List.all_eq_true.1 h r hr) q hq
  exact Reg.beq_false.1 (by simpa using this)

theorem ap1 {τ : St} {r q : Reg} {av : RV} : (τ.ap [(r, av)]) q = if q = r then some av else τ q := by
  show (bif Reg.beq r q then some av else τ q) = _
  by_cases e : q = r
  · subst e; rw [Reg.beq_self, if_pos rfl]; rfl
  · rw [Reg.beq_false.2 (fun h => e h.symm), if_neg e]; rfl

end DX
end Go.Proofs.YtmfljpjdpfbfoaaGreatDoor
