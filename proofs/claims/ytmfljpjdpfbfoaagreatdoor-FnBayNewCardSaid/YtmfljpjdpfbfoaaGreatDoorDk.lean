/- A deterministic evaluator of the model's code, part k: tables, a frame's state, questions within a frame. -/
import Derived.Test.YtmfljpjdpfbfoaaGreatDoorDv
import Derived.LoopN
namespace Go.Proofs.YtmfljpjdpfbfoaaGreatDoor
namespace DX

/-! ### Tables -/
inductive Tri (α : Type) where
  | lf
  | nd (v : Option α) (l r : Tri α)

/-- The way to a place. -/
noncomputable def pathF (n : Nat) : Nat → List Bool := Nat.rec (motive := fun _ => Nat → List Bool) (fun _ => [])
  (fun _ ih k => Bool.rec (motive := fun _ => List Bool) (Bool.rec (motive := fun _ => List Bool) (false :: ih (Nat.sub (Nat.div k (nat_lit 2)) (nat_lit 1))) (true :: ih (Nat.div k (nat_lit 2))) (Nat.beq (Nat.mod k (nat_lit 2)) (nat_lit 1))) [] (Nat.beq k (nat_lit 0))) n
noncomputable def pathOf (k : Nat) : List Bool := pathF (Nat.succ k) k

theorem rec_cond {β : Type} (a b : β) (c : Bool) : Bool.rec (motive := fun _ => β) a b c = bif c then b else a := by cases c <;> rfl

theorem pathF_succ (n k : Nat) : pathF (n + 1) k = if k = 0 then [] else if k % 2 = 1 then true :: pathF n (k / 2) else false :: pathF n (k / 2 - 1) := by
  have h1 : pathF (n + 1) k = bif Nat.beq k 0 then [] else bif Nat.beq (k % 2) 1 then true :: pathF n (k / 2) else false :: pathF n (k / 2 - 1) := by
    rw [← rec_cond, ← rec_cond]; rfl
  have hb : ∀ a b : Nat, Nat.beq a b = decide (a = b) := fun a b => by
    rw [Bool.eq_iff_iff]; simp
  rw [h1, hb, hb]
  by_cases h : k = 0
  · simp [h]
  · by_cases h' : k % 2 = 1 <;> simp [h, h']

theorem pathF_inj : ∀ (n j k : Nat), j < n → k < n → pathF n j = pathF n k → j = k
  | 0, _, _, h, _, _ => by omega
  | n + 1, j, k, hj, hk, h => by
    rw [pathF_succ, pathF_succ] at h
    by_cases j0 : j = 0
    · by_cases k0 : k = 0
      · omega
      · rw [if_pos j0, if_neg k0] at h
        split at h <;> cases h
    · by_cases k0 : k = 0
      · rw [if_neg j0, if_pos k0] at h
        split at h <;> cases h
      · rw [if_neg j0, if_neg k0] at h
        by_cases j1 : j % 2 = 1
        · by_cases k1 : k % 2 = 1
          · rw [if_pos j1, if_pos k1] at h
            injection h with _ h
            have := pathF_inj n _ _ (by omega) (by omega) h
            omega
          · rw [if_pos j1, if_neg k1] at h
            injection h with h _
            cases h
        · by_cases k1 : k % 2 = 1
          · rw [if_neg j1, if_pos k1] at h
            injection h with h _
            cases h
          · rw [if_neg j1, if_neg k1] at h
            injection h with _ h
            have := pathF_inj n _ _ (by omega) (by omega) h
            omega

theorem pathF_more : ∀ (n m k : Nat), k < n → k < m → pathF n k = pathF m k
  | 0, _, _, h, _ => by omega
  | _ + 1, 0, _, _, h => by omega
  | n + 1, m + 1, k, h1, h2 => by
    rw [pathF_succ, pathF_succ]
    by_cases k0 : k = 0
    · simp [k0]
    · rw [pathF_more n m (k / 2) (by omega) (by omega), pathF_more n m (k / 2 - 1) (by omega) (by omega)]

theorem pathOf_inj {j k : Nat} (h : pathOf j = pathOf k) : j = k := by
  have h1 : pathOf j = pathF (j + k + 1) j := pathF_more _ _ _ (by omega) (by omega)
  have h2 : pathOf k = pathF (j + k + 1) k := pathF_more _ _ _ (by omega) (by omega)
  rw [h1, h2] at h
  exact pathF_inj _ _ _ (by omega) (by omega) h

noncomputable def Tri.getP {α : Type} (t : Tri α) : List Bool → Option α :=
  Tri.rec (motive := fun _ => List Bool → Option α) (fun _ => none)
    (fun v _ _ gl gr p => List.rec (motive := fun _ => Option α) v (fun b p _ => Bool.rec (motive := fun _ => Option α) (gr p) (gl p) b) p) t

noncomputable def Tri.putP {α β : Type} (p : List Bool) (x : α) : Tri α → (Tri α → β) → β :=
  List.rec (motive := fun _ => Tri α → (Tri α → β) → β)
    (fun t c => Tri.rec (motive := fun _ => β) (c (.nd (some x) .lf .lf)) (fun _ l r _ _ => c (.nd (some x) l r)) t)
    (fun b _ ih t c => Tri.rec (motive := fun _ => β) (Bool.rec (motive := fun _ => β) (ih .lf fun r => c (.nd none .lf r)) (ih .lf fun l => c (.nd none l .lf)) b) (fun v l r _ _ => Bool.rec (motive := fun _ => β) (ih r fun r => c (.nd v l r)) (ih l fun l => c (.nd v l r)) b) t) p

theorem getP_lf {α : Type} (p : List Bool) : (Tri.lf : Tri α).getP p = none := rfl
theorem getP_nil {α : Type} (v : Option α) (l r : Tri α) : (Tri.nd v l r).getP [] = v := rfl
theorem getP_cons {α : Type} (v : Option α) (l r : Tri α) (b : Bool) (p : List Bool) : (Tri.nd v l r).getP (b :: p) = if b = true then l.getP p else r.getP p := by cases b <;> rfl

theorem putP_eq {α β : Type} : ∀ (p : List Bool) (x : α) (t : Tri α) (c : Tri α → β), Tri.putP p x t c = c (Tri.putP p x t fun t => t)
  | [], _, .lf, _ => rfl
  | [], _, .nd _ _ _, _ => rfl
  | true :: p, x, .lf, c => (putP_eq p x .lf fun l => c (.nd none l .lf)).trans (congrArg c (putP_eq p x .lf fun l => (Tri.nd none l .lf : Tri α)).symm)
  | false :: p, x, .lf, c => (putP_eq p x .lf fun l => c (.nd none .lf l)).trans (congrArg c (putP_eq p x .lf fun l => (Tri.nd none .lf l : Tri α)).symm)
  | true :: p, x, .nd v l r, c => (putP_eq p x l fun l => c (.nd v l r)).trans (congrArg c (putP_eq p x l fun l => (Tri.nd v l r : Tri α)).symm)
  | false :: p, x, .nd v l r, c => (putP_eq p x r fun r => c (.nd v l r)).trans (congrArg c (putP_eq p x r fun r => (Tri.nd v l r : Tri α)).symm)

theorem putP_lf {α : Type} (b : Bool) (p : List Bool) (x : α) : (Tri.putP (b :: p) x .lf fun t => t) = if b = true then .nd none (Tri.putP p x .lf fun t => t) .lf else .nd none .lf (Tri.putP p x .lf fun t => t) := by
  cases b
  · exact putP_eq p x .lf fun l => (Tri.nd none .lf l : Tri α)
  · exact putP_eq p x .lf fun l => (Tri.nd none l .lf : Tri α)
theorem putP_nd {α : Type} (b : Bool) (p : List Bool) (x : α) (v : Option α) (l r : Tri α) : (Tri.putP (b :: p) x (.nd v l r) fun t => t) = if b = true then .nd v (Tri.putP p x l fun t => t) r else .nd v l (Tri.putP p x r fun t => t) := by
  cases b
  · exact putP_eq p x r fun r => (Tri.nd v l r : Tri α)
  · exact putP_eq p x l fun l => (Tri.nd v l r : Tri α)

theorem get_putP {α : Type} : ∀ (p : List Bool) (x : α) (t : Tri α) (q : List Bool), (Tri.putP p x t fun t => t).getP q = if q = p then some x else t.getP q
  | [], x, .lf, [] => rfl
  | [], x, .nd _ _ _, [] => rfl
  | [], x, .lf, b :: q => by cases b <;> rfl
  | [], x, .nd _ _ _, b :: q => by cases b <;> rfl
  | a :: p, x, .lf, [] => by rw [putP_lf]; cases a <;> rfl
  | a :: p, x, .nd v l r, [] => by rw [putP_nd]; cases a <;> rfl
  | a :: p, x, .lf, b :: q => by
    rw [putP_lf]
    cases a <;> cases b <;> simp [getP_cons, getP_lf, get_putP p x .lf q]
  | a :: p, x, .nd v l r, b :: q => by
    rw [putP_nd]
    cases a <;> cases b <;> simp [getP_cons, get_putP p x]

noncomputable def Tri.get {α : Type} (t : Tri α) (k : Nat) : Option α := t.getP (pathOf k)
/-- Put in, and go on with the whole. -/
noncomputable def Tri.putK {α β : Type} (t : Tri α) (k : Nat) (x : α) (c : Tri α → β) : β := Tri.putP (pathOf k) x t c
noncomputable def Tri.put {α : Type} (t : Tri α) (k : Nat) (x : α) : Tri α := Tri.putK t k x fun t => t

theorem putK_eq {α β : Type} (t : Tri α) (k : Nat) (x : α) (c : Tri α → β) : Tri.putK t k x c = c (t.put k x) := putP_eq _ _ _ _

theorem get_lf {α : Type} (k : Nat) : (Tri.lf : Tri α).get k = none := rfl

theorem get_put {α : Type} (t : Tri α) (k : Nat) (x : α) (j : Nat) : (t.put k x).get j = if j = k then some x else t.get j := by
  have := get_putP (pathOf k) x t (pathOf j)
  by_cases e : j = k
  · subst e
    rw [if_pos rfl] at this ⊢
    exact this
  · rw [if_neg e]
    rw [if_neg (fun h => e (pathOf_inj h))] at this
    exact this

/-! ### Things reckoned before one goes on -/
noncomputable def forceR {β : Type} (x : RV) (k : RV → β) : β := RV.rec (motive := fun _ => β) (fun a => forceA a fun a => k (.x a))
  (fun B => forceVs B.vs fun vs => forceN B.nx fun nx => forceB B.ro fun ro => k (.b ⟨B.ty, B.con, vs, nx, ro⟩)) (k .z) x
theorem forceR_eq {β : Type} (x : RV) (k : RV → β) : forceR x k = k x := by
  cases x <;> simp only [forceR, forceA_eq, forceVs_eq, forceN_eq, forceB_eq]

/-! ### A frame's state -/
/-- Slots; blocks that were met (true: written here); the names of those that were written; the next new name. -/
structure FS where
  sl : Tri RV
  bk : Tri (Bool × RV)
  dl : List Nat
  ck : Nat

noncomputable def FS.st (s : FS) (τ0 : St) : St
  | .s n => s.sl.get n
  | .b n => match s.bk.get n with
    | some p => some p.2
    | none => τ0 (.b n)

structure Inv (s : FS) (τ0 : St) : Prop where
  clean : ∀ n x, s.bk.get n = some (false, x) → τ0 (.b n) = some x
  dirty : ∀ n x, s.bk.get n = some (true, x) → n ∈ s.dl
  known : ∀ n ∈ s.dl, ∃ x, s.bk.get n = some (true, x)

noncomputable def isDirty (bk : Tri (Bool × RV)) (n : Nat) : Bool := Option.rec (motive := fun _ => Bool) false (fun p => p.1) (bk.get n)

/-- One thing more is known. -/
noncomputable def put1 {β : Type} (r : Reg) (x : RV) (s : FS) (c : FS → β) : β := Reg.rec (motive := fun _ => β)
  (fun n => Tri.putK s.sl n x fun sl => c ⟨sl, s.bk, s.dl, s.ck⟩)
  (fun n => Bool.rec (motive := fun _ => β) (Tri.putK s.bk n (true, x) fun bk => c ⟨s.sl, bk, n :: s.dl, s.ck⟩) (Tri.putK s.bk n (true, x) fun bk => c ⟨s.sl, bk, s.dl, s.ck⟩) (isDirty s.bk n)) r

noncomputable def FS.apK {β : Type} (u : Upd) : FS → (FS → β) → β := List.rec (motive := fun _ => FS → (FS → β) → β) (fun s c => c s) (fun p _ ih s c => ih s fun s => forceR p.2 fun x => put1 p.1 x s c) u

theorem apK_cons {β : Type} (p : Reg × RV) (u : Upd) (s : FS) (c : FS → β) : FS.apK (p :: u) s c = FS.apK u s fun s => put1 p.1 p.2 s c := by
  show (FS.apK u s fun s => forceR p.2 fun x => put1 p.1 x s c) = _
  congr 1
  funext s
  rw [forceR_eq]

theorem apK_ok {β : Type} {τ0 : St} : ∀ (u : Upd) (s : FS), Inv s τ0 → ∃ s', (∀ c : FS → β, FS.apK u s c = c s') ∧ Inv s' τ0 ∧ s'.st τ0 = (s.st τ0).ap u ∧ s'.ck = s.ck
  | [], s, hi => ⟨s, fun _ => rfl, hi, rfl, rfl⟩
  | (.s n, x) :: u, s, hi => by
    obtain ⟨⟨sl, bk, dl, ck⟩, h1, h2, h3, h4⟩ := apK_ok (β := β) u s hi
    refine ⟨⟨sl.put n x, bk, dl, ck⟩, fun c => ?_, ⟨h2.clean, h2.dirty, h2.known⟩, ?_, h4⟩
    · rw [apK_cons, h1]
      simp only [put1]
      exact putK_eq _ _ _ _
    · funext r
      cases r with
      | s m =>
        show (sl.put n x).get m = bif Reg.beq (.s n) (.s m) then some x else St.ap (s.st τ0) u (.s m)
        rw [get_put, ← h3]
        by_cases e : m = n
        · subst e; rw [Reg.beq_self, if_pos rfl]; rfl
        · rw [if_neg e, Reg.beq_false.2 (by simp; exact fun h => e h.symm)]; rfl
      | b m =>
        show _ = bif Reg.beq (.s n) (.b m) then some x else St.ap (s.st τ0) u (.b m)
        rw [← h3]; rfl
  | (.b n, x) :: u, s, hi => by
    obtain ⟨⟨sl, bk, dl, ck⟩, h1, h2, h3, h4⟩ := apK_ok (β := β) u s hi
    have hst : ∀ dl', (FS.mk sl (bk.put n (true, x)) dl' ck).st τ0 = (s.st τ0).ap ((.b n, x) :: u) := fun dl' => by
      funext r
      cases r with
      | s m =>
        show _ = bif Reg.beq (.b n) (.s m) then some x else St.ap (s.st τ0) u (.s m)
        rw [← h3]; rfl
      | b m =>
        show (match (bk.put n (true, x)).get m with
          | some p => some p.2
          | none => τ0 (.b m)) = bif Reg.beq (.b n) (.b m) then some x else St.ap (s.st τ0) u (.b m)
        rw [get_put, ← h3]
        by_cases e : m = n
        · subst e; rw [Reg.beq_self, if_pos rfl]; rfl
        · rw [if_neg e, Reg.beq_false.2 (by simp; exact fun h => e h.symm)]; rfl
    cases hd : isDirty bk n with
    | true =>
      have hmem : n ∈ dl := by
        unfold isDirty at hd
        cases hg : bk.get n with
        | none => rw [hg] at hd; cases hd
        | some y =>
          obtain ⟨b, y⟩ := y
          rw [hg] at hd
          have : b = true := hd
          subst this
          exact h2.dirty n _ hg
      refine ⟨⟨sl, bk.put n (true, x), dl, ck⟩, fun c => ?_, ⟨fun m y hm => ?_, fun m y hm => ?_, fun m hm => ?_⟩, hst _, h4⟩
      · rw [apK_cons, h1]
        simp only [put1, hd]
        exact putK_eq _ _ _ _
      · simp only [get_put] at hm
        split at hm
        · cases hm
        · exact h2.clean m y hm
      · simp only [get_put] at hm
        split at hm
        · rename_i e; subst e; exact hmem
        · exact h2.dirty m y hm
      · simp only [get_put]
        by_cases e : m = n
        · rw [if_pos e]; exact ⟨_, rfl⟩
        · rw [if_neg e]; exact h2.known m hm
    | false =>
      refine ⟨⟨sl, bk.put n (true, x), n :: dl, ck⟩, fun c => ?_, ⟨fun m y hm => ?_, fun m y hm => ?_, fun m hm => ?_⟩, hst _, h4⟩
      · rw [apK_cons, h1]
        simp only [put1, hd]
        exact putK_eq _ _ _ _
      · simp only [get_put] at hm
        split at hm
        · cases hm
        · exact h2.clean m y hm
      · simp only [get_put] at hm
        split at hm
        · rename_i e; subst e; simp
        · exact List.mem_cons_of_mem _ (h2.dirty m y hm)
      · simp only [get_put]
        by_cases e : m = n
        · rw [if_pos e]; exact ⟨_, rfl⟩
        · rw [if_neg e]
          rcases List.mem_cons.1 hm with h | h
          · exact absurd h e
          · exact h2.known m h

/-! ### Questions within a frame -/
noncomputable def FS.noteK {β : Type} (n : Nat) (x : RV) (s : FS) (c : FS → β) : β := Tri.putK s.bk n (false, x) fun bk => c ⟨s.sl, bk, s.dl, s.ck⟩

noncomputable def inner {α β : Type} (q : Q α) : FS → List Reg → (α → List Reg → FS → Q β) → Q β :=
  Q.rec (motive := fun _ => FS → List Reg → (α → List Reg → FS → Q β) → Q β) (fun a s T k => k a T s)
    (fun r _ ih s T k => Reg.rec (motive := fun _ => Q β) (fun n => ih (s.sl.get n) s (.s n :: T) k)
      (fun n => Option.rec (motive := fun _ => Q β) (.ask (.b n) fun o => Option.rec (motive := fun _ => Q β) (ih none s (.b n :: T) k) (fun x => FS.noteK n x s fun s => ih (some x) s (.b n :: T) k) o) (fun p => ih (some p.2) s (.b n :: T) k) (s.bk.get n)) r) q

theorem inner_s {α β : Type} (n : Nat) (f : Option RV → Q α) (s : FS) (T : List Reg) (k : α → List Reg → FS → Q β) : inner (.ask (.s n) f) s T k = inner (f (s.sl.get n)) s (.s n :: T) k := rfl
theorem inner_b {α β : Type} (n : Nat) (f : Option RV → Q α) (s : FS) (T : List Reg) (k : α → List Reg → FS → Q β) : inner (.ask (.b n) f) s T k = match s.bk.get n with
    | some p => inner (f (some p.2)) s (.b n :: T) k
    | none => .ask (.b n) fun
      | some x => FS.noteK n x s fun s => inner (f (some x)) s (.b n :: T) k
      | none => inner (f none) s (.b n :: T) k := by
  show Option.rec (motive := fun _ => Q β) _ _ (s.bk.get n) = _
  cases s.bk.get n with
  | some p => rfl
  | none =>
    show Q.ask _ _ = Q.ask _ _
    congr 1
    funext o
    cases o <;> rfl

theorem inner_run {α β : Type} {τ0 : St} {k : α → List Reg → FS → Q β} : ∀ (q : Q α) (s : FS) (T : List Reg), Inv s τ0 →
    ∃ s' T', (inner q s T k).run τ0 = (k (q.run (s.st τ0)) T' s').run τ0 ∧ Inv s' τ0 ∧ s'.st τ0 = s.st τ0 ∧ s'.ck = s.ck ∧ ∀ r, (r ∈ q.tr (s.st τ0) ∨ r ∈ T) → r ∈ T'
  | .ret a, s, T, hi => ⟨s, T, rfl, hi, rfl, rfl, fun r h => by simpa [Q.tr] using h⟩
  | .ask (.s n) f, s, T, hi => by
    obtain ⟨s', T', h1, h2, h3, h4, h5⟩ := inner_run (k := k) (f (s.sl.get n)) s (.s n :: T) hi
    refine ⟨s', T', h1, h2, h3, h4, fun r hr => h5 r ?_⟩
    rcases hr with hr | hr
    · rcases List.mem_cons.1 hr with rfl | hr
      · right; simp
      · exact .inl hr
    · right; simp [hr]
  | .ask (.b n) f, s, T, hi => by
    have fin : ∀ (s1 : FS) (y : Option RV), Inv s1 τ0 → s1.st τ0 = s.st τ0 → s1.ck = s.ck → s.st τ0 (.b n) = y → ∃ s' T', (inner (f y) s1 (.b n :: T) k).run τ0 = (k ((Q.ask (.b n) f).run (s.st τ0)) T' s').run τ0 ∧ Inv s' τ0 ∧ s'.st τ0 = s.st τ0 ∧ s'.ck = s.ck ∧ ∀ r, (r ∈ (Q.ask (.b n) f).tr (s.st τ0) ∨ r ∈ T) → r ∈ T' := by
      intro s1 y hi1 hst hck hy
      obtain ⟨s', T', h1, h2, h3, h4, h5⟩ := inner_run (k := k) (f y) s1 (.b n :: T) hi1
      rw [hst] at h1 h3 h5
      refine ⟨s', T', ?_, h2, h3, h4.trans hck, fun r hr => h5 r ?_⟩
      · rw [h1]; simp only [Q.run, hy]
      · simp only [Q.tr, hy] at hr
        rcases hr with hr | hr
        · rcases List.mem_cons.1 hr with rfl | hr
          · right; simp
          · exact .inl hr
        · right; simp [hr]
    cases hg : s.bk.get n with
    | some p =>
      rw [inner_b]; simp only [hg]
      exact fin s _ hi rfl rfl (by simp [FS.st, hg])
    | none =>
      rw [inner_b]; simp only [hg, Q.run]
      cases ht : τ0 (.b n) with
      | none =>
        simp only
        exact fin s _ hi rfl rfl (by simp [FS.st, hg, ht])
      | some x =>
        obtain ⟨sl, bk, dl, ck⟩ := s
        have hn : ∀ c : FS → Q β, FS.noteK n x ⟨sl, bk, dl, ck⟩ c = c ⟨sl, bk.put n (false, x), dl, ck⟩ := fun c => putK_eq _ _ _ _
        simp only [hn]
        refine fin ⟨sl, bk.put n (false, x), dl, ck⟩ _ ⟨fun m y hm => ?_, fun m y hm => ?_, fun m hm => ?_⟩ ?_ rfl (by
          simp only at hg
          simp [FS.st, hg, ht])
        · simp only [get_put] at hm
          split at hm
          · rename_i e; subst e; cases hm; exact ht
          · exact hi.clean m y hm
        · simp only [get_put] at hm
          split at hm
          · cases hm
          · exact hi.dirty m y hm
        · simp only [get_put]
          obtain ⟨y, hy⟩ := hi.known m hm
          have : m ≠ n := by
            rintro rfl
            simp only at hy hg
            rw [hg] at hy; cases hy
          rw [if_neg this]; exact ⟨y, hy⟩
        · funext r
          cases r with
          | s m => rfl
          | b m =>
            simp only [FS.st, get_put]
            by_cases e : m = n
            · subst e
              simp only at hg
              simp [hg, ht]
            · rw [if_neg e]

end DX
end Go.Proofs.YtmfljpjdpfbfoaaGreatDoor
