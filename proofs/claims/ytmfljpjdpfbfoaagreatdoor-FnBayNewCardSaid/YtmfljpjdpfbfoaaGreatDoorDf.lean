/- A deterministic evaluator of the model's code, part f: loads and stores; variables; structs and slices that are written out; slices that are made. -/
import Derived.Test.YtmfljpjdpfbfoaaGreatDoorDe
import Derived.Laws.Append
import Derived.Laws.MakeOwn
import Derived.Laws.BytesString
namespace Go.Proofs.YtmfljpjdpfbfoaaGreatDoor
namespace DX

/-! ### Things reckoned before one goes on -/
noncomputable def forceN {β : Type} (n : Nat) (k : Nat → β) : β := Nat.rec (motive := fun _ => β) (k (nat_lit 0)) (fun m _ => k (Nat.succ m)) n
theorem forceN_eq {β : Type} (n : Nat) (k : Nat → β) : forceN n k = k n := by cases n <;> rfl

noncomputable def forceI {β : Type} (n : Int) (k : Int → β) : β := Int.rec (motive := fun _ => β) (fun m => forceN m fun m => k (.ofNat m)) (fun m => forceN m fun m => k (.negSucc m)) n
theorem forceI_eq {β : Type} (n : Int) (k : Int → β) : forceI n k = k n := by cases n <;> simp only [forceI, forceN_eq]

noncomputable def forceB {β : Type} (b : Bool) (k : Bool → β) : β := Bool.rec (motive := fun _ => β) (k false) (k true) b
theorem forceB_eq {β : Type} (b : Bool) (k : Bool → β) : forceB b k = k b := by cases b <;> rfl

noncomputable def forceV {β : Type} (v : Value) (k : Value → β) : β := match v with
  | .int kd n => forceI n fun n => k (.int kd n)
  | .bool b => forceB b fun b => k (.bool b)
  | v => k v
theorem forceV_eq {β : Type} (v : Value) (k : Value → β) : forceV v k = k v := by
  unfold forceV
  split
  · rw [forceI_eq]
  · rw [forceB_eq]
  · rfl

noncomputable def forceO {β : Type} (o : Option Nat) (k : Option Nat → β) : β := Option.rec (motive := fun _ => β) (k none) (fun n => forceN n fun n => k (some n)) o
theorem forceO_eq {β : Type} (o : Option Nat) (k : Option Nat → β) : forceO o k = k o := by cases o <;> simp only [forceO, forceN_eq]

noncomputable def forceS {β : Type} (v : SV) (k : SV → β) : β := SV.rec (motive := fun _ => β)
  (fun x => forceV x fun x => k (.v x))
  (fun i u a sz j => forceN i fun i => forceN u fun u => forceN a fun a => forceN sz fun sz => forceN j fun j => k (.p i u a sz j))
  (fun i u sz o n cp => forceN i fun i => forceN u fun u => forceN sz fun sz => forceN o fun o => forceN n fun n => forceO cp fun cp => k (.s i u sz o n cp))
  (fun i u => forceN i fun i => forceN u fun u => k (.m i u))
  (fun f ca => k (.f f ca)) (fun t x => k (.ic t x)) v
theorem forceS_eq {β : Type} (v : SV) (k : SV → β) : forceS v k = k v := by
  cases v <;> simp only [forceS, forceV_eq, forceN_eq, forceO_eq]

noncomputable def forceL {β : Type} (l : List SV) : (List SV → β) → β := List.rec (motive := fun _ => (List SV → β) → β) (fun k => k []) (fun x _ ih k => forceS x fun x => ih fun l => k (x :: l)) l
theorem forceL_eq {β : Type} (l : List SV) : ∀ (k : List SV → β), forceL l k = k l := by
  induction l with
  | nil => intro k; rfl
  | cons x l ih =>
    intro k
    show (forceS x fun x => forceL l fun l => k (x :: l)) = _
    rw [forceS_eq, ih]

/-- Only the list, not what lies in it. -/
noncomputable def forceP {β : Type} (l : List SV) : (List SV → β) → β := List.rec (motive := fun _ => (List SV → β) → β) (fun k => k []) (fun x _ ih k => ih fun l => k (x :: l)) l
theorem forceP_eq {β : Type} (l : List SV) : ∀ (k : List SV → β), forceP l k = k l := by
  induction l with
  | nil => intro k; rfl
  | cons x l ih =>
    intro k
    show (forceP l fun l => k (x :: l)) = _
    rw [ih]

noncomputable def force0 {β : Type} (x : A0) (k : A0 → β) : β := A0.rec (motive := fun _ => β) (fun v => forceS v fun v => k (.s v)) (fun l => forceP l fun l => k (.a l)) x
theorem force0_eq {β : Type} (x : A0) (k : A0 → β) : force0 x k = k x := by cases x <;> simp only [force0, forceS_eq, forceP_eq]

noncomputable def forceT {β : Type} (l : List A0) : (List A0 → β) → β := List.rec (motive := fun _ => (List A0 → β) → β) (fun k => k []) (fun x _ ih k => force0 x fun x => ih fun l => k (x :: l)) l
theorem forceT_eq {β : Type} (l : List A0) : ∀ (k : List A0 → β), forceT l k = k l := by
  induction l with
  | nil => intro k; rfl
  | cons x l ih =>
    intro k
    show (force0 x fun x => forceT l fun l => k (x :: l)) = _
    rw [force0_eq, ih]

noncomputable def forceA {β : Type} (x : AV) (k : AV → β) : β := AV.rec (motive := fun _ => β) (fun x => force0 x fun x => k (.o x)) (fun l => forceT l fun l => k (.t l)) x
theorem forceA_eq {β : Type} (x : AV) (k : AV → β) : forceA x k = k x := by cases x <;> simp only [forceA, force0_eq, forceT_eq]

noncomputable def forceVs {β : Type} (l : List (Nat × Nat)) : (List (Nat × Nat) → β) → β := List.rec (motive := fun _ => (List (Nat × Nat) → β) → β) (fun k => k []) (fun x _ ih k => forceN x.1 fun a => forceN x.2 fun b => ih fun l => k ((a, b) :: l)) l
theorem forceVs_eq {β : Type} (l : List (Nat × Nat)) : ∀ (k : List (Nat × Nat) → β), forceVs l k = k l := by
  induction l with
  | nil => intro k; rfl
  | cons x l ih =>
    intro k
    show (forceN x.1 fun a => forceN x.2 fun b => forceVs l fun l => k ((a, b) :: l)) = _
    rw [forceN_eq, forceN_eq, ih]


/-! ### Cells changed, one goes on with the whole -/
noncomputable def setK {β : Type} (l : List SV) : Nat → SV → (List SV → β) → β := List.rec (motive := fun _ => Nat → SV → (List SV → β) → β) (fun _ _ c => c [])
  (fun y l ih k x c => Nat.rec (motive := fun _ => β) (c (x :: l)) (fun m _ => ih m x fun l => c (y :: l)) k) l
theorem setK_eq {β : Type} : ∀ (l : List SV) (k : Nat) (x : SV) (c : List SV → β), setK l k x c = c (l.set k x)
  | [], _, _, _ => rfl
  | _ :: _, 0, _, _ => rfl
  | y :: l, k + 1, x, c => setK_eq l k x fun l => c (y :: l)

noncomputable def splK {β : Type} (m : List SV) : List SV → Nat → (List SV → β) → β := List.rec (motive := fun _ => List SV → Nat → (List SV → β) → β) (fun l _ c => c l) (fun x _ ih l k c => forceS x fun x => setK l k x fun l => ih l (Nat.succ k) c) m

noncomputable def tapK {β : Type} (n : Nat) (m : List SV) : List SV → (List SV → β) → β := Nat.rec (motive := fun _ => List SV → (List SV → β) → β) (fun _ c => forceL m c)
  (fun _ ih l c => List.rec (motive := fun _ => β) (forceL m c) (fun x l _ => ih l fun l => c (x :: l)) l) n
theorem tapK_eq {β : Type} : ∀ (n : Nat) (m l : List SV) (c : List SV → β), tapK n m l c = c (l.take n ++ m)
  | 0, m, l, c => forceL_eq m c
  | n + 1, m, [], c => forceL_eq m c
  | n + 1, m, x :: l, c => tapK_eq n m l fun l => c (x :: l)

/-! ### Cells in memory -/
def win (cs : Array Value) (o : Nat) (l : List Value) : Prop := ∀ j v, l[j]? = some v → cs[o + j]? = some v

theorem cell_at {w : World} {b : Nat} {cs : Array Value} {e : TypeId} {fr : Nat × Nat} (h : w.heap[b]? = some (.cells cs e fr)) (o : Nat) : w.cell? ⟨b, o, none⟩ = cs[o]? := by simp [World.cell?, h]

theorem win_drop {cs : Array Value} {l : List Value} {o n : Nat} (h : (cs.toList.drop o).take n = l) : win cs o l := by
  intro j v hj
  rw [← h, List.getElem?_take] at hj
  split at hj
  · rw [List.getElem?_drop] at hj; simpa using hj
  · cases hj

/-- Cells written one behind the other. -/
def spl (cs : Array Value) (k : Nat) : List Value → Array Value
  | [] => cs
  | v :: vs => spl (cs.setIfInBounds k v) (k + 1) vs

noncomputable def setS (l : List SV) (k : Nat) (x : SV) : List SV := List.rec (motive := fun _ => Nat → List SV) (fun _ => []) (fun y l ih k => Nat.rec (motive := fun _ => List SV) (x :: l) (fun m _ => y :: ih m) k) l k

theorem setS_eq : ∀ (l : List SV) (k : Nat) (x : SV), setS l k x = l.set k x
  | [], _, _ => rfl
  | _ :: _, 0, _ => rfl
  | y :: l, k + 1, x => by
    show y :: setS l k x = y :: l.set k x
    rw [setS_eq l k x]

noncomputable def splS (l : List SV) (k : Nat) : List SV → List SV
  | [] => l
  | x :: m => splS (setS l k x) (k + 1) m

theorem splK_eq {β : Type} : ∀ (m l : List SV) (k : Nat) (c : List SV → β), splK m l k c = c (splS l k m)
  | [], _, _, _ => rfl
  | x :: m, l, k, c => by
    show (forceS x fun x => setK l k x fun l => splK m l (Nat.succ k) c) = _
    rw [forceS_eq, setK_eq, splK_eq m, splS, setS_eq]

theorem spl_size : ∀ (vs : List Value) (cs : Array Value) (k : Nat), (spl cs k vs).size = cs.size
  | [], _, _ => rfl
  | _ :: vs, cs, k => by simp [spl, spl_size vs]

theorem splS_length : ∀ (m l : List SV) (k : Nat), (splS l k m).length = l.length
  | [], _, _ => rfl
  | _ :: m, l, k => by simp [splS, splS_length m, setS_eq]

theorem spl_toList : ∀ (vs : List Value) (cs : Array Value) (k : Nat), k + vs.length ≤ cs.size → (spl cs k vs).toList = cs.toList.take k ++ vs ++ cs.toList.drop (k + vs.length)
  | [], cs, k, _ => by simp [spl]
  | v :: vs, cs, k, h => by
    simp only [List.length_cons] at h
    rw [spl, spl_toList vs _ (k + 1) (by simp; omega), Array.toList_setIfInBounds]
    have hk : k < cs.toList.length := by simp; omega
    rw [List.take_set, List.take_succ_eq_append_getElem hk, List.set_append_right _ _ (by simp; omega)]
    have h1 : k - (cs.toList.take k).length = 0 := by simp; omega
    rw [h1]
    have h2 : (cs.toList.set k v).drop (k + 1 + vs.length) = cs.toList.drop (k + (v :: vs).length) := by
      rw [List.drop_set_of_lt (by omega)]
      simp only [List.length_cons]
      congr 1; omega
    rw [h2]
    simp

theorem relL_spl {M : Mp} : ∀ {m : List SV} {vs : List Value} (l : List SV) (cs : Array Value) (k : Nat), relL M m vs → relL M l cs.toList → relL M (splS l k m) (spl cs k vs).toList
  | [], [], _, _, _, _, h => h
  | _ :: _, [], _, _, _, h, _ => h.elim
  | [], _ :: _, _, _, _, h, _ => h.elim
  | x :: m, v :: vs, l, cs, k, hm, h => by
    rw [splS, setS_eq]
    refine relL_spl (l.set k x) (cs.setIfInBounds k v) (k + 1) hm.2 ?_
    rw [Array.toList_setIfInBounds]
    exact relL_set k h hm.1

theorem splS_ids {p : Nat × Nat} : ∀ (m l : List SV) (k : Nat), p ∈ idsL (splS l k m) → p ∈ idsL l ∨ p ∈ idsL m
  | [], _, _, h => .inl h
  | x :: m, l, k, h => by
    rw [splS, setS_eq] at h
    rcases splS_ids m (l.set k x) (k + 1) h with h1 | h1
    · rw [mem_idsL] at h1
      obtain ⟨y, hy, hi⟩ := h1
      rcases List.mem_or_eq_of_mem_set hy with h2 | h2
      · exact .inl (mem_idsL.2 ⟨y, h2, hi⟩)
      · exact .inr (mem_idsL.2 ⟨x, by simp, by rw [← h2]; exact hi⟩)
    · right
      rw [mem_idsL] at h1 ⊢
      obtain ⟨y, hy, hi⟩ := h1
      exact ⟨y, by simp [hy], hi⟩

theorem splS_take : ∀ (m l : List SV) (k n : Nat), n ≤ k → (splS l k m).take n = l.take n
  | [], _, _, _, _ => rfl
  | x :: m, l, k, n, h => by
    rw [splS, setS_eq, splS_take m _ (k + 1) n (by omega), List.take_set_of_le h]

theorem splS_take_in : ∀ (m l : List SV) (k n : Nat), k + m.length ≤ n → (splS l k m).take n = splS (l.take n) k m
  | [], _, _, _, _ => rfl
  | x :: m, l, k, n, h => by
    simp only [List.length_cons] at h
    rw [splS, splS, setS_eq, setS_eq, splS_take_in m _ (k + 1) n (by omega), List.take_set]

/-- A window of an array that is written in, as a list of its own. -/
theorem spl_window {vs : List Value} {cs : Array Value} {b o hi : Nat} (h : o + vs.length ≤ hi) (hc : b + hi ≤ cs.size) :
    ((spl cs (b + o) vs).toList.drop b).take hi = (spl ((cs.toList.drop b).take hi).toArray o vs).toList := by
  rw [spl_toList _ _ _ (by omega), spl_toList _ _ _ (by simp; omega)]
  have e1 : (cs.toList.take (b + o)).drop b = (cs.toList.drop b).take o := by rw [List.drop_take]; congr 1; omega
  rw [List.append_assoc, List.drop_append_of_le_length (by simp; omega), e1]
  simp only [List.take_take, Nat.min_eq_left (show o ≤ hi by omega)]
  rw [List.take_append, List.take_of_length_le (l := (cs.toList.drop b).take o) (by simp; omega), List.append_assoc]
  congr 1
  have e2 : ((cs.toList.drop b).take o).length = o := by simp; omega
  rw [e2, List.take_append, List.take_of_length_le (l := vs) (by omega)]
  congr 1
  rw [List.drop_take, List.drop_drop]
  congr 1
  · omega
  · congr 1; omega

theorem spl_before {vs : List Value} {cs : Array Value} {b o hi : Nat} (h : hi ≤ o) (hc : b + o + vs.length ≤ cs.size) : ((spl cs (b + o) vs).toList.drop b).take hi = (cs.toList.drop b).take hi := by
  rw [spl_toList _ _ _ hc, List.append_assoc, List.drop_append_of_le_length (by simp; omega), List.take_append_of_le_length (by simp; omega), List.drop_take, List.take_take]
  congr 1; omega

section
variable {P : Program} {N : Nat} {τ : St}
variable {d id : Nat} {x y z : Operand} {t u ty : TypeId} {pos : String} {af : Array Edge} {g : Option (Nat × Bool)}

noncomputable def askB (i : Nat) (k : Blk → Q Rs) : Q Rs := .ask (.b i) fun
  | some (.b B) => k B
  | _ => .ret none

theorem askB_some {i : Nat} {k : Blk → Q Rs} {u : Upd} (h : (askB i k).run τ = some u) : ∃ B, τ (.b i) = some (.b B) ∧ (k B).run τ = some u := by
  simp only [askB, Q.run] at h
  cases hb : τ (.b i) with
  | none => rw [hb] at h; cases h
  | some r =>
    rw [hb] at h
    cases r with
    | b B => exact ⟨B, rfl, h⟩
    | x _ => cases h
    | z => cases h

noncomputable def askN (i : Nat) (q : Q Rs) : Q Rs := .ask (.b i) fun
  | none => q
  | _ => .ret none

theorem askN_some {i : Nat} {q : Q Rs} {u : Upd} (h : (askN i q).run τ = some u) : τ (.b i) = none ∧ q.run τ = some u := by
  simp only [askN, Q.run] at h
  cases hb : τ (.b i) with
  | none => rw [hb] at h; exact ⟨rfl, h⟩
  | some r => rw [hb] at h; cases h

/-- How many cells of a version are known. -/
def verHi : List (Nat × Nat) → Nat → Option Nat
  | [], _ => none
  | v :: l, u => bif Nat.beq v.1 u then some v.2 else verHi l u

theorem verHi_mem : ∀ {l : List (Nat × Nat)} {u hi : Nat}, verHi l u = some hi → (u, hi) ∈ l
  | [], _, _, h => by cases h
  | v :: l, u, hi, h => by
    simp only [verHi] at h
    cases hb : Nat.beq v.1 u with
    | true =>
      rw [hb] at h; cases h
      have : v.1 = u := by simpa using hb
      subst this; simp
    | false => rw [hb] at h; simp [verHi_mem h]

/-! ### Loads -/
noncomputable def nthS (l : List SV) (n : Nat) : Option SV := List.rec (motive := fun _ => Nat → Option SV) (fun _ => none) (fun x _ ih n => Nat.rec (motive := fun _ => Option SV) (some x) (fun m _ => ih m) n) l n
theorem nthS_eq : ∀ (l : List SV) (n : Nat), nthS l n = l[n]?
  | [], _ => rfl
  | x :: l, 0 => rfl
  | x :: l, n + 1 => by
    show nthS l n = (x :: l)[n + 1]?
    rw [nthS_eq l n]; simp

noncomputable def loadL (agg : Bool) (n o hi : Nat) (l : List SV) : Option AV :=
  match agg with
  | true => bif Nat.ble (o + n) hi then some (.a ((l.drop o).take n)) else none
  | false => bif Nat.blt o hi then (match nthS l o with
    | some y => some (.s y)
    | none => none) else none

noncomputable def loadQ (agg : Bool) (n d : Nat) (v : AV) : Q Rs :=
  match v with
  | .o (.s (.p i u k sz j)) => askB i fun B => match B.con, verHi B.vs u with
    | .c l, some hi => .ret (rs1 d (loadL agg n (k * sz + j) hi l))
    | _, _ => .ret none
  | _ => .ret none

theorem run_loadVar_agg {n : Nat} (h : Sh P t = some (true, n)) {w : World} {a : Addr} {cs : List Value} (hn : cs.length = n) (hc : ∀ j v, cs[j]? = some v → w.cell? (a.add j) = some v) :
    (loadVar t a).run P w = .ok (.agg cs.toArray) w := by
  obtain ⟨h1, h2⟩ := Sh_isAgg h w
  have h3 := run_loadCells_list (P := P) w a cs hc
  rw [hn] at h3
  simp [loadVar, h1, h2, h3]

theorem run_loadVar_one {n : Nat} (h : Sh P t = some (false, n)) {w : World} {a : Addr} {v : Value} (hc : w.cell? a = some v) : (loadVar t a).run P w = .ok v w := by
  obtain ⟨h1, _⟩ := Sh_isAgg h w
  simp [loadVar, h1, hc]

/-- Memory holds these cells from a place on: what a load gives. -/
theorem run_load {agg : Bool} {n : Nat} (hS : Sh P t = some (agg, n)) {w : World} {b o : Nat} {cs : Array Value} {e : TypeId} {fr : Nat × Nat} (hb : w.heap[b]? = some (.cells cs e fr)) {ρ : Operand → Value} (hx : ρ x = .pointer (some ⟨b, o, none⟩)) {dst : Option Nat} :
    (agg = true → ∀ vs : List Value, vs.length = n → win cs o vs → (execOp ρ ⟨dst, .load t x, ty, pos, af, g⟩).run P w = .ok (.value (.agg vs.toArray)) w) ∧
    (agg = false → ∀ v, cs[o]? = some v → (execOp ρ ⟨dst, .load t x, ty, pos, af, g⟩).run P w = .ok (.value v) w) := by
  refine ⟨fun h vs hl hw => ?_, fun h v hv => ?_⟩
  · subst h
    have := run_loadVar_agg (P := P) hS (w := w) (a := ⟨b, o, none⟩) (cs := vs) hl (fun j v hj => by rw [add_none, cell_at hb]; exact hw j v hj)
    simp [execOp, hx, Instr.loadAt, Instr.sureAddr, this]
  · subst h
    have := run_loadVar_one (P := P) hS (w := w) (a := ⟨b, o, none⟩) (v := v) (by rw [cell_at hb]; exact hv)
    simp [execOp, hx, Instr.loadAt, Instr.sureAddr, this]

/-- What is known of a version's cells. -/
theorem Holds.cells {c : Ctx} {M : Mp} {a : Act} {w : World} (hh : Holds N c M τ a w) {i u hi : Nat} {B : Blk} {l : List SV} (hB : τ (.b i) = some (.b B)) (hc : B.con = .c l) (hv : verHi B.vs u = some hi) :
    hi ≤ l.length ∧ ∃ cs fr, w.heap[(M.β i u).1]? = some (.cells cs B.ty fr) ∧ cs.size = M.Z i u ∧ (B.ro = false → fr = (0, 0)) ∧ relL M (l.take hi) ((cs.toList.drop (M.β i u).2).take hi) ∧ (M.β i u).2 + hi ≤ cs.size := by
  have h1 := (hh.blks i B hB).at_ _ (verHi_mem hv)
  rw [hc] at h1
  exact h1

/-- A part of what is known. -/
theorem rel_part {M : Mp} {hi base o n : Nat} {l : List SV} {cs : Array Value} (hle : o + n ≤ hi) (hrel : relL M (l.take hi) ((cs.toList.drop base).take hi)) (hsz : base + hi ≤ cs.size) :
    ∃ vs : List Value, vs.length = n ∧ win cs (base + o) vs ∧ relL M ((l.drop o).take n) vs := by
  refine ⟨(cs.toList.drop (base + o)).take n, by simp; omega, win_drop rfl, ?_⟩
  have h1 := relL_take n (relL_drop o hrel)
  rw [List.drop_take, List.take_take, Nat.min_eq_left (by omega), List.drop_take, List.take_take, Nat.min_eq_left (by omega), List.drop_drop] at h1
  exact h1

theorem b_load {agg : Bool} {n : Nat} (hS : Sh P t = some (agg, n)) (hd : d < N) : OpB P N ⟨some d, .load t x, ty, pos, af, g⟩ (askX x fun v => loadQ agg n d v) := by
  intro c τ a w hr u hu K Q' hK
  obtain ⟨M, hh⟩ := hr
  obtain ⟨v, hx, hu⟩ := askX_some hu
  have hv := ev_rel hh hx
  unfold loadQ at hu
  split at hu
  · rename_i i u' k sz j
    obtain ⟨B, hB, hu⟩ := askB_some hu
    have e : a.eval x = .pointer (some ⟨(M.β i u').1, (M.β i u').2 + (k * sz + j), none⟩) := hv
    split at hu
    · rename_i l hi hc hhi
      obtain ⟨r, hr, rfl⟩ := rs1_some hu
      obtain ⟨h1, cs, fr, h2, h3, h4, h5, h6⟩ := hh.cells hB hc hhi
      have hld := run_load (x := x) (ty := ty) (pos := pos) (af := af) (g := g) hS h2 e (dst := some d)
      have hnm : ∀ p ∈ idsL l, nm τ p := fun p hp => hh.named _ _ hB p (by show p ∈ B.con.ids; rw [hc]; exact hp)
      cases agg with
      | true =>
        simp only [loadL] at hr
        cases hb : Nat.ble (k * sz + j + n) hi with
        | false => rw [hb] at hr; cases hr
        | true =>
          rw [hb] at hr; cases hr
          obtain ⟨vs, g1, g2, g3⟩ := rel_part (Nat.le_of_ble_eq_true hb) h5 h6
          exact OpB.value (av := .a ((l.drop (k * sz + j)).take n)) hh rfl hd (hld.1 rfl vs g1 g2) ⟨vs.toArray, rfl, by simpa using g3⟩ (fun p hp => hnm p (idsL_drop_take hp)) hK
      | false =>
        simp only [loadL] at hr
        cases hb : Nat.blt (k * sz + j) hi with
        | false => rw [hb] at hr; cases hr
        | true =>
          rw [hb] at hr
          simp only [cond_true, nthS_eq] at hr
          split at hr
          · rename_i y hy
            cases hr
            have hlt := blt_iff.1 hb
            obtain ⟨v, hv1, hv2⟩ := relL_at h5 (i := k * sz + j) (x := y) (by rw [List.getElem?_take, if_pos hlt]; exact hy)
            rw [List.getElem?_take, if_pos hlt, List.getElem?_drop] at hv1
            exact OpB.value (av := .s y) hh rfl hd (hld.2 rfl v (by simpa using hv1)) hv2 (fun p hp => hnm p (mem_idsL.2 ⟨y, List.mem_of_getElem? hy, hp⟩)) hK
          · cases hr
    · cases hu
  · cases hu

/-! ### What is stored -/
def free (fr : Nat × Nat) (n : Nat) : Prop := fr.1 = fr.2 ∨ (n ≤ fr.1 ∧ fr.1 ≤ fr.2)
theorem free00 (n : Nat) : free (0, 0) n := .inl rfl
theorem free_at {fr : Nat × Nat} {n : Nat} (h : free fr n) : ∀ i, i < n → (decide (fr.1 ≤ i) && decide (i < fr.2)) = false := by
  intro i hi
  rw [Bool.and_eq_false_iff]
  simp only [decide_eq_false_iff_not]
  rcases h with h | h <;> omega

theorem frozen_at {w : World} {b : Nat} {cs : Array Value} {e : TypeId} {fr : Nat × Nat} (h : w.heap[b]? = some (.cells cs e fr)) (o : Nat) : w.frozen? ⟨b, o, none⟩ = (decide (fr.1 ≤ o) && decide (o < fr.2)) := by
  simp [World.frozen?, h]

theorem setCell_only {w : World} {b : Nat} {cs : Array Value} {e : TypeId} {fr : Nat × Nat} (h : w.heap[b]? = some (.cells cs e fr)) (o : Nat) (v : Value) : Only w b (.cells (cs.setIfInBounds o v) e fr) (w.setCell ⟨b, o, none⟩ v) where
  at_ := by simp [World.setCell, Array.getElem?_modify, h]
  other := fun k hk => by simp only [World.setCell, Array.getElem?_modify]; rw [if_neg (by omega)]
  size := by simp [World.setCell]
  os := rfl
  tape := rfl
  output := rfl

theorem run_storeCells {b off : Nat} {e : TypeId} {fr : Nat × Nat} : ∀ (vs : List Value) (i : Nat) (cs : Array Value) (w : World), w.heap[b]? = some (.cells cs e fr) → off + i + vs.length ≤ cs.size → free fr cs.size → (∀ v ∈ vs, one v = true) →
    ∃ w', (storeCells ⟨b, off, none⟩ vs i).run P w = .ok () w' ∧ Only w b (.cells (spl cs (off + i) vs) e fr) w'
  | [], i, cs, w, h, _, _, _ => ⟨w, by simp [storeCells], ⟨h, fun _ _ => rfl, rfl, rfl, rfl, rfl⟩⟩
  | v :: vs, i, cs, w, h, hle, hfr, hone => by
    simp only [List.length_cons] at hle
    have hc : w.cell? ⟨b, off + i, none⟩ = some (cs[off + i]'(by omega)) := by rw [cell_at h]; exact Array.getElem?_eq_getElem (by omega)
    have hf : w.frozen? ⟨b, off + i, none⟩ = false := by rw [frozen_at h]; exact free_at hfr _ (by omega)
    have hs : (store ((⟨b, off, none⟩ : Addr).add i) v).run P w = .ok () (w.setCell ⟨b, off + i, none⟩ v) := by
      rw [add_none, run_store P w _ v .plain (hone v (by simp)), hc]
      simp [hf]
    have ho := setCell_only h (off + i) v
    obtain ⟨w', hr, hw⟩ := run_storeCells (off := off) vs (i + 1) (cs.setIfInBounds (off + i) v) _ ho.at_ (by simp; omega) (by simpa using hfr) (fun x hx => hone x (by simp [hx]))
    refine ⟨w', ?_, ?_⟩
    · simp only [storeCells, Sem.run_bind, hs, Result.andThen_ok]
      exact hr
    · exact ⟨hw.at_, fun k hk => (hw.other k hk).trans (ho.other k hk), hw.size.trans ho.size, hw.os.trans ho.os, hw.tape.trans ho.tape, hw.output.trans ho.output⟩

theorem run_storeVar {gg : Bool} {n : Nat} (h : Sh P t = some (gg, n)) {b off : Nat} {e : TypeId} {fr : Nat × Nat} {cs : Array Value} {w : World} {v : Value} (hb : w.heap[b]? = some (.cells cs e fr)) (hn : v.cells.size = n) (hle : off + n ≤ cs.size) (hfr : free fr cs.size) (hone : ∀ x ∈ v.cells.toList, one x = true) :
    ∃ w', (storeVar t ⟨b, off, none⟩ v).run P w = .ok () w' ∧ Only w b (.cells (spl cs off v.cells.toList) e fr) w' := by
  obtain ⟨_, h2⟩ := Sh_isAgg h w
  obtain ⟨w', hr, hw⟩ := run_storeCells (P := P) (off := off) v.cells.toList 0 cs w hb (by simp [hn]; exact hle) hfr hone
  refine ⟨w', ?_, by simpa using hw⟩
  simp [storeVar, h2, hn, hr]

def oneV : Value → Bool
  | .agg _ => false
  | .tuple _ => false
  | _ => true
theorem oneV_eq {v : Value} (h : oneV v = true) : one v = true := by cases v <;> first | rfl | cases h

def SV.one : SV → Bool
  | .v x => oneV x
  | _ => true

def allOne : List SV → Bool
  | [] => true
  | x :: l => x.one && allOne l

theorem SV.one_rel {M : Mp} {x : SV} {v : Value} (h : x.one = true) (hr : x.rel M v) : DX.one v = true := by
  cases x with
  | v x => have : v = x := hr; subst this; exact oneV_eq h
  | p i u k sz j => have : v = _ := hr; subst this; rfl
  | s i u sz o n cp => rcases hr with ⟨_, _, p, rfl⟩ | ⟨cap, rfl, _⟩ <;> rfl
  | m i u => have : v = _ := hr; subst this; rfl
  | f g ca => obtain ⟨cs, rfl, _⟩ := hr; rfl
  | ic t x => obtain ⟨z, rfl, _⟩ := hr; rfl

theorem relL_one {M : Mp} : ∀ {l : List SV} {cs : List Value}, allOne l = true → relL M l cs → ∀ v ∈ cs, DX.one v = true
  | [], [], _, _, v, hv => by cases hv
  | _ :: _, [], _, h, _, _ => h.elim
  | [], _ :: _, _, h, _, _ => h.elim
  | x :: l, v :: cs, h1, h2, y, hy => by
    simp only [allOne, Bool.and_eq_true] at h1
    rcases List.mem_cons.1 hy with rfl | hy
    · exact SV.one_rel h1.1 h2.1
    · exact relL_one h1.2 h2.2 y hy

theorem cells_of_one {v : Value} (h : DX.one v = true) : v.cells = #[v] := by cases v <;> first | rfl | (simp [DX.one, Value.oneCell'] at h)

/-- The cells of a value that is stored. -/
def flatV : AV → Option (List SV)
  | .o (.a l) => some l
  | .o (.s x) => some [x]
  | _ => none

theorem flatV_rel {M : Mp} {x : AV} {l : List SV} (h : flatV x = some l) (hone : allOne l = true) {v : Value} (hr : x.rel M v) : relL M l v.cells.toList ∧ ∀ y ∈ v.cells.toList, DX.one y = true := by
  cases x with
  | t l => cases h
  | o x =>
    cases x with
    | s y =>
      cases h
      simp only [allOne, Bool.and_true] at hone
      have h1 := SV.one_rel hone hr
      rw [cells_of_one h1]
      exact ⟨⟨hr, trivial⟩, by simpa using h1⟩
    | a l =>
      cases h
      obtain ⟨cs, rfl, hl⟩ := hr
      exact ⟨hl, relL_one hone hl⟩

theorem flatV_ids {x : AV} {l : List SV} (h : flatV x = some l) {p : Nat × Nat} (hi : p ∈ idsL l) : p ∈ x.ids := by
  cases x with
  | t l => cases h
  | o x =>
    cases x with
    | s y => cases h; simpa [AV.ids, A0.ids, idsL] using hi
    | a l => cases h; exact hi

/-! ### Stores -/
/-- The other versions are known up to a place alone. -/
def cutVs (u o : Nat) : List (Nat × Nat) → List (Nat × Nat)
  | [] => []
  | v :: l => bif Nat.beq v.1 u then cutVs u o l else (v.1, bif Nat.ble v.2 o then v.2 else o) :: cutVs u o l

theorem cutVs_mem {u o : Nat} : ∀ {l : List (Nat × Nat)} {v : Nat × Nat}, v ∈ cutVs u o l → v.1 ≠ u ∧ v.2 ≤ o ∧ ∃ v0 ∈ l, v.1 = v0.1 ∧ v.2 ≤ v0.2
  | [], _, h => by cases h
  | v0 :: l, v, h => by
    simp only [cutVs] at h
    cases hb : Nat.beq v0.1 u with
    | true =>
      rw [hb] at h
      obtain ⟨h1, h2, w, hw, h3⟩ := cutVs_mem h
      exact ⟨h1, h2, w, by simp [hw], h3⟩
    | false =>
      rw [hb] at h
      rcases List.mem_cons.1 h with h | h
      · subst h
        have : v0.1 ≠ u := by intro e; rw [e] at hb; simp at hb
        refine ⟨this, ?_, v0, by simp, rfl, ?_⟩
        · cases hc : Nat.ble v0.2 o with
          | true => exact Nat.le_of_ble_eq_true hc
          | false => exact Nat.le_refl _
        · cases hc : Nat.ble v0.2 o with
          | true => exact Nat.le_refl _
          | false => simp only [cond_false]; have := Nat.not_le_of_not_ble_eq_true (by rw [hc]; simp); omega
      · obtain ⟨h1, h2, w, hw, h3⟩ := cutVs_mem h
        exact ⟨h1, h2, w, by simp [hw], h3⟩

noncomputable def storeQ (n : Nat) (v u : AV) : Q Rs :=
  match flatV u with
  | none => .ret none
  | some m => bif Nat.beq m.length n && allOne m then (match v with
    | .o (.s (.p i u k sz j)) => askB i fun B => match B.con, verHi B.vs u with
      | .c l, some hi => .ret (bif !B.ro && Nat.ble (k * sz + j + n) hi then splK m l (k * sz + j) fun l' => some [(.b i, .b ⟨B.ty, .c l', (u, hi) :: cutVs u (k * sz + j) B.vs, B.nx, false⟩)] else none)
      | _, _ => .ret none
    | _ => .ret none) else .ret none

theorem b_store {gg : Bool} {n : Nat} (hS : Sh P t = some (gg, n)) : OpB P N ⟨none, .store t x y, ty, pos, af, g⟩ (askX x fun v => askX y fun u => storeQ n v u) := by
  intro c τ a w hr u hu K Q' hK
  obtain ⟨M, hh⟩ := hr
  obtain ⟨v, hx, hu⟩ := askX_some hu
  obtain ⟨v2, hy, hu⟩ := askX_some hu
  unfold storeQ at hu
  split at hu
  · cases hu
  · rename_i m hm
    cases hc : Nat.beq m.length n && allOne m with
    | false => rw [hc] at hu; cases hu
    | true =>
      rw [hc] at hu
      simp only [Bool.and_eq_true] at hc
      have hmn : m.length = n := by simpa using hc.1
      have hv := ev_rel hh hx
      obtain ⟨hrel, hones⟩ := flatV_rel hm hc.2 (ev_rel hh hy)
      have hml := relL_len hrel
      have hsz : (a.eval y).cells.size = n := by rw [← hmn, hml]; simp
      simp only [cond_true] at hu
      split at hu
      · rename_i i u' k sz j _
        obtain ⟨B, hB, hu⟩ := askB_some hu
        have e : a.eval x = .pointer (some ⟨(M.β i u').1, (M.β i u').2 + (k * sz + j), none⟩) := hv
        split at hu
        · rename_i l hi hcon hhi
          simp only [Q.run, splK_eq] at hu
          generalize hO : k * sz + j = O at hu e
          cases hb : !B.ro && Nat.ble (O + n) hi with
          | false => rw [hb] at hu; cases hu
          | true =>
            rw [hb] at hu; cases hu
            simp only [Bool.and_eq_true, Bool.not_eq_true'] at hb
            have hle := Nat.le_of_ble_eq_true hb.2
            obtain ⟨h1, cs, fr, h2, h3, h4, h5, h6⟩ := hh.cells hB hcon hhi
            have hfr := h4 hb.1
            subst hfr
            obtain ⟨w', hrun, hw⟩ := run_storeVar (P := P) hS (off := (M.β i u').2 + O) (v := a.eval y) h2 hsz (by omega) (free00 _) hones
            unfold Oper.wp
            have hex : (execOp a.eval ⟨none, .store t x y, ty, pos, af, g⟩).run P w = .ok .skip w' := by
              simp [execOp, e, Instr.storeAt, Instr.sureAddr, hrun]
            rw [hex]
            refine hK _ _ ⟨M, ?_⟩
            have hvl : (a.eval y).cells.toList.length = n := by simpa using hsz
            have hold := hh.blks i B hB
            have hue := verHi_mem hhi
            have hnew : ∀ v, v ∈ (u', hi) :: cutVs u' O B.vs → v = (u', hi) ∨ (v.1 ≠ u' ∧ v.2 ≤ O ∧ ∃ v0 ∈ B.vs, v.1 = v0.1 ∧ v.2 ≤ v0.2) := fun v hv => by
              rcases List.mem_cons.1 hv with h | h
              · exact .inl h
              · exact .inr (cutVs_mem h)
            have hin : ∀ v, v ∈ (u', hi) :: cutVs u' O B.vs → ∃ v0 ∈ B.vs, v.1 = v0.1 := fun v hv => by
              rcases hnew v hv with rfl | ⟨_, _, v0, g1, g2, _⟩
              · exact ⟨_, hue, rfl⟩
              · exact ⟨v0, g1, g2⟩
            refine hh.mod hB (fun _ _ _ => ⟨rfl, rfl⟩) (Nat.le_refl _) (fun b hb1 hb2 => hw.other b (fun e => hb2 _ hue e)) (by rw [hw.size]; exact Nat.le_refl _) hw.os hw.tape hw.output ⟨fun v hv => ?_, fun v hv => ?_, fun v hv v' hv' he => ?_, fun v hv => by obtain ⟨v0, g1, g2⟩ := hin v hv; rw [g2]; exact hold.zero v0 g1⟩ (fun v hv => ?_) (fun p hp => ?_)
            · obtain ⟨v0, g1, g2⟩ := hin v hv
              rw [g2]; exact hold.low _ g1
            · show v.2 ≤ (splS l O m).length ∧ _
              rw [splS_length]
              rcases hnew v hv with rfl | ⟨g3, g4, v0, g1, g2, g5⟩
              · refine ⟨h1, _, (0, 0), hw.at_, by rw [spl_size]; exact h3, fun _ => rfl, ?_, by rw [spl_size]; exact h6⟩
                rw [spl_window (by rw [hvl]; exact hle) h6, splS_take_in m l O hi (by omega)]
                exact relL_spl _ _ _ hrel (by simpa using h5)
              · have hat := hold.at_ v0 g1
                rw [hcon, ← g2] at hat
                obtain ⟨a1, cs0, fr0, a2, a3, a4, a5, a6⟩ := hat
                have a5' := relL_take v.2 a5
                rw [List.take_take, List.take_take, Nat.min_eq_left g5] at a5'
                refine ⟨by omega, ?_⟩
                rw [splS_take m l O v.2 g4]
                by_cases hreal : (M.β i v.1).1 = (M.β i u').1
                · have hbase := hold.same v0 g1 (u', hi) hue (by rw [← g2]; exact hreal)
                  rw [← g2] at hbase
                  simp only at hbase
                  rw [hreal, h2] at a2
                  cases a2
                  refine ⟨_, (0, 0), by rw [hreal]; exact hw.at_, by rw [spl_size]; exact a3, fun _ => rfl, ?_, by rw [spl_size]; omega⟩
                  rw [hbase, spl_before g4 (by rw [hvl]; omega), ← hbase]
                  exact a5'
                · exact ⟨cs0, fr0, by rw [hw.other _ hreal]; exact a2, a3, fun _ => a4 hb.1, a5', by omega⟩
            · obtain ⟨v0, g1, g2⟩ := hin v hv
              obtain ⟨v1, g1', g2'⟩ := hin v' hv'
              rw [g2, g2'] at he ⊢
              exact hold.same v0 g1 v1 g1' he
            · obtain ⟨v0, g1, g2⟩ := hin v hv
              exact .inr ⟨v0, g1, by rw [g2]⟩
            · rcases splS_ids m l O hp with h7 | h7
              · exact hh.named _ _ hB p (by show p ∈ B.con.ids; rw [hcon]; exact h7)
              · exact ev_named hh hy p (flatV_ids hm h7)
        · cases hu
      · cases hu
  
end
end DX
end Go.Proofs.YtmfljpjdpfbfoaaGreatDoor
