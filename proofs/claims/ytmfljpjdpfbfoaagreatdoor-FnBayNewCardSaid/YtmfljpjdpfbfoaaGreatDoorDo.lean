/- A deterministic evaluator of the model's code, part o: operations, regions, code: what is evaluated is so. -/
import Derived.Test.YtmfljpjdpfbfoaaGreatDoorDn
namespace Go.Proofs.YtmfljpjdpfbfoaaGreatDoor
namespace DX

section
variable {P : Program} {E : Env}

def upd2 (r : Rs2) : Rs := r.map (·.1)

theorem appA_eq : ∀ (l m : List AV), appA l m = l ++ m
  | [], _ => rfl
  | x :: l, m => by
    show x :: appA l m = x :: (l ++ m)
    rw [appA_eq l m]

theorem avC_rel {M : Mp} : ∀ {l : List CV} {vs : List Value}, relC M l vs → relV M (avC l) vs ∧ idsV (avC l) = idsC l
  | [], [], _ => ⟨trivial, rfl⟩
  | _ :: _, [], h => h.elim
  | [], _ :: _, h => h.elim
  | x :: l, v :: vs, h => by
    obtain ⟨h1, h2⟩ := avC_rel h.2
    refine ⟨⟨ofCV_rel.2 h.1, h1⟩, ?_⟩
    show (AV.s (ofCV x)).ids ++ idsV (avC l) = x.ids ++ idsC l
    rw [h2]
    congr 1
    exact ofCV_ids

theorem relV_append {M : Mp} : ∀ {l m : List AV} {vs us : List Value}, relV M l vs → relV M m us → relV M (l ++ m) (vs ++ us)
  | [], _, [], _, _, h => h
  | _ :: _, _, [], _, h, _ => h.elim
  | [], _, _ :: _, _, h, _ => h.elim
  | _ :: _, _, _ :: _, _, h, h' => ⟨h.1, relV_append h.2 h'⟩

theorem askAs_some {N : Nat} {c : Ctx} {M : Mp} {τ : St} {a : Act} {w : World} (hh : Holds N c M τ a w) : ∀ {l : List Operand} {k : List AV → Q Rs2} {u : Upd × Nat}, (askAs l k).run τ = some u → ∃ vs, relV M vs (l.map a.eval) ∧ (∀ p ∈ idsV vs, nm τ p) ∧ (k vs).run τ = some u
  | [], k, u, h => ⟨[], trivial, by simp [idsV], h⟩
  | x :: l, k, u, h => by
    have h : (askY x fun v => askAs l fun vs => k (v :: vs)).run τ = some u := h
    obtain ⟨v, hv, h⟩ := askY_some h
    obtain ⟨vs, h1, h2, h3⟩ := askAs_some hh h
    refine ⟨v :: vs, ⟨ev_rel hh hv, h1⟩, fun p hp => ?_, h3⟩
    simp only [idsV, List.mem_append] at hp
    exact hp.elim (ev_named hh hv p) (h2 p)

theorem opQ_ok (hE : EnvOK P E) {cf : CF} (hcf : ∀ ck f args, CallOK P f args (cf ck f args)) (N ck : Nat) (o : Oper) : OpB P N o (((opQ E N o).f cf ck).map upd2) := by
  have hloc : OpB P N o ((((stp E N o).f ck).map (locR ck)).map upd2) := by
    intro c τ a w hr u hu K Q' hK
    refine stp_ok hE N ck o c τ a w hr u ?_ K Q' hK
    rw [Q.map_run, Q.map_run] at hu
    cases hq : ((stp E N o).f ck).run τ with
    | none => rw [hq] at hu; cases hu
    | some v => rw [hq] at hu; cases hu; rfl
  have hno : OpB P N o ((nope2.f cf ck).map upd2) := by
    intro c τ a w hr u hu
    rw [Q.map_run] at hu; cases hu
  unfold opQ
  split
  · rename_i x args tys hop
    split
    · rename_i d hd
      cases hb : Nat.blt d N with
      | false => exact hno
      | true =>
        have hdN := blt_iff.1 hb
        intro c τ a w hr u hu K Q' hK
        obtain ⟨M, hh⟩ := hr
        rw [Q.map_run] at hu
        simp only [cond_true] at hu
        cases hq : (askY x fun v => onF v fun f ca => askAs args.toList fun vs => (cf ck f (appA vs (avC ca))).map (callR d)).run τ with
        | none => rw [hq] at hu; cases hu
        | some p =>
          rw [hq] at hu
          cases hu
          obtain ⟨v, hx, hq⟩ := askY_some hq
          have hv := ev_rel hh hx
          have hvn := ev_named hh hx
          unfold onF at hq
          split at hq
          · rename_i f ca
            obtain ⟨cs, e1, hc⟩ := hv
            obtain ⟨vs, h1, h2, hq⟩ := askAs_some hh hq
            rw [Q.map_run] at hq
            cases hr' : (cf ck f (appA vs (avC ca))).run τ with
            | none => rw [hr'] at hq; cases hq
            | some q =>
              obtain ⟨r, u, ck'⟩ := q
              rw [hr'] at hq
              cases hq
              obtain ⟨g1, g2⟩ := avC_rel hc
              have hrel : relV M (appA vs (avC ca)) (args.toList.map a.eval ++ cs.toList) := by rw [appA_eq]; exact relV_append h1 g1
              have hids : ∀ p ∈ idsV (appA vs (avC ca)), nm τ p := fun p hp => by
                rw [appA_eq] at hp
                obtain ⟨y, hy, hp⟩ := mem_idsV.1 hp
                rcases List.mem_append.1 hy with h | h
                · exact h2 p (mem_idsV.2 ⟨y, h, hp⟩)
                · refine hvn p ?_
                  have := mem_idsV.2 ⟨y, h, hp⟩
                  rw [g2] at this
                  exact this
              have hex : (execOp a.eval o).run P w = (callFunc f (args.map a.eval ++ cs)).run P w := by
                obtain ⟨dst, op, ty, pos, af, g⟩ := o
                simp only at hop hd
                subst hop; subst hd
                simp [execOp, resolve, e1, Deferred.ofValue, invoke]
              have hargs : (args.toList.map a.eval ++ cs.toList).toArray = args.map a.eval ++ cs := by
                apply Array.ext'
                simp
              have hfw := hcf ck f _ N c M τ a w hh _ hrel hids r u ck' hr' (fun v w' => K (a.put o.dst v) w') (fun v w' M' hrv hrn hh' => by
                rw [hd]
                exact hK _ _ ⟨M', hh'.put hdN hrv hrn⟩)
              unfold Oper.wp
              rw [hex]
              rcases hfw with ⟨v, w', hrun, hKv⟩ | ⟨hrun, hcall⟩
              · rw [hargs] at hrun
                rw [hrun]
                exact hKv
              · rw [hargs] at hrun hcall
                rw [hrun, Oper.upon_enter]
                refine hcall.mono ?_
                rintro e w' ⟨v, rfl, hKv⟩
                exact hKv
          · cases hq
    · exact hno
  · exact hloc

theorem nthO_eq : ∀ (l : List Oper) (n : Nat), nthO l n = l[n]?
  | [], _ => rfl
  | _ :: _, 0 => rfl
  | _ :: l, n + 1 => by simp [nthO, nthO_eq l n]

def boolOf (v : Value) : Option Bool := match v with
  | .bool b => some b
  | _ => none

theorem passes_true {want : Bool} {v : Value} (h : passes want v = true) : boolOf v = some want := by
  cases v with
  | bool b => cases want <;> cases b <;> first | rfl | cases h
  | _ => cases h
theorem passes_false {want : Bool} {v : Value} (h : passes want v = false) : boolOf v ≠ some want := by
  cases v with
  | bool b => cases want <;> cases b <;> first | (intro e; cases e; done) | cases h
  | _ => intro e; cases e

theorem guard_ok {N : Nat} {ops : Array Oper} {o : Oper} {q : Bo} {cf : CF} {ck : Nat} (h : OpB P N o ((q.f cf ck).map upd2)) : OpS P N ops o (((guardQ N ops.toList o q).f cf ck).map upd2) := by
  intro c τ a w hr u hu K Q' hK
  unfold guardQ at hu
  cases hg : o.guard with
  | none =>
    rw [hg] at hu
    have : Region.wanted o (yielded ops a.tmps) = true := by simp [Region.wanted, hg]
    rw [if_pos this]
    exact h c τ a w hr u hu K Q' hK
  | some jw =>
    obtain ⟨j, want⟩ := jw
    rw [hg] at hu
    simp only [nthO_eq] at hu
    have hno : ∀ u, ((nope2.f cf ck).map upd2).run τ ≠ some u := fun u h => by rw [Q.map_run] at h; cases h
    split at hu
    · rename_i og hj
      have hj : ops[j]? = some og := by simpa using hj
      split at hu
      · rename_i g hgd
        obtain ⟨M, hh⟩ := hr
        -- what the guard's slot says
        have key : ∀ v, τ (.s g) = some (.x (.o (.s (.v v)))) → (passes want v = true → Region.wanted o (yielded ops a.tmps) = true) ∧ (passes want v = false → ¬ Region.wanted o (yielded ops a.tmps) = true) := by
          intro v hv
          obtain ⟨y, hy, hr⟩ := hh.slots g _ hv
          have : y = v := hr
          subst this
          have hyi : yielded ops a.tmps j = boolOf y := by
            simp only [yielded, hj, Option.bind_some, hgd, hy]
            cases y <;> rfl
          have hw : Region.wanted o (yielded ops a.tmps) = (yielded ops a.tmps j == some want) := by simp [Region.wanted, hg]
          rw [hw, hyi]
          exact ⟨fun hp => by rw [passes_true hp]; simp, fun hp => by simpa using passes_false hp⟩
        split at hu
        · rename_i d hd
          cases hb : Nat.blt d N with
          | false => rw [hb] at hu; exact absurd hu (hno _)
          | true =>
            rw [hb] at hu
            rw [Q.map_run] at hu
            simp only [cond_true, Q.run] at hu
            unfold slotV at hu
            split at hu
            · rename_i v hv
              obtain ⟨k1, k2⟩ := key v hv
              dsimp only at hu
              cases hp : passes want v with
              | true =>
                rw [hp] at hu
                rw [if_pos (k1 hp)]
                exact h c τ a w ⟨M, hh⟩ u (by rw [Q.map_run]; exact hu) K Q' hK
              | false =>
                rw [hp] at hu
                cases hu
                rw [if_neg (k2 hp), hd]
                exact hK _ _ ⟨M, hh.put (blt_iff.1 hb) (av := .s (.v undef)) rfl (by simp [AV.ids, A0.ids, SV.ids])⟩
            · cases hu
        · rename_i hd
          rw [Q.map_run] at hu
          simp only [Q.run] at hu
          unfold slotV at hu
          split at hu
          · rename_i v hv
            obtain ⟨k1, k2⟩ := key v hv
            dsimp only at hu
            cases hp : passes want v with
            | true =>
              rw [hp] at hu
              rw [if_pos (k1 hp)]
              exact h c τ a w ⟨M, hh⟩ u (by rw [Q.map_run]; exact hu) K Q' hK
            | false =>
              rw [hp] at hu
              cases hu
              rw [if_neg (k2 hp), hd]
              exact hK _ _ ⟨M, hh⟩
          · cases hu
      · exact absurd hu (hno _)
    · exact absurd hu (hno _)

/-! ### Regions -/
theorem setCk_eq {β : Type} (n : Nat) (s : FS) (c : FS → β) : setCk n s c = c ⟨s.sl, s.bk, s.dl, n⟩ := forceN_eq _ _

theorem inv_ck {s : FS} {τ0 : St} (h : Inv s τ0) (n : Nat) : Inv ⟨s.sl, s.bk, s.dl, n⟩ τ0 := ⟨h.clean, h.dirty, h.known⟩
theorem st_ck {s : FS} {τ0 : St} (n : Nat) : (FS.mk s.sl s.bk s.dl n).st τ0 = s.st τ0 := by
  funext r; cases r <;> rfl

/-- One operation within a region. -/
theorem one_op {q : Q Rs2} {s : FS} {τ0 : St} {k : Upd × Nat → List Reg → FS → Q Rf} {r : AV × Upd × Nat} (hi : Inv s τ0) (h : (inner q s [] fun r R s => match r with
    | some p => k p R s
    | none => .ret none).run τ0 = some r) : ∃ u ck' R s', q.run (s.st τ0) = some (u, ck') ∧ (k (u, ck') R s').run τ0 = some r ∧ Inv s' τ0 ∧ s'.st τ0 = s.st τ0 ∧ ∀ x ∈ q.tr (s.st τ0), x ∈ R := by
  obtain ⟨s', T', h1, h2, h3, h4, h5⟩ := inner_run (τ0 := τ0) (k := fun r R s => match r with
    | some p => k p R s
    | none => .ret none) q s [] hi
  rw [h1] at h
  cases hq : q.run (s.st τ0) with
  | none => rw [hq] at h; cases h
  | some p =>
    obtain ⟨u, ck'⟩ := p
    rw [hq] at h
    exact ⟨u, ck', T', s', rfl, h, h2, h3, fun x hx => h5 x (.inl hx)⟩

theorem evT_sound {N : Nat} {ops : Array Oper} {F : Oper → Bo} {cf : CF} (hop : ∀ (i : Nat) (o : Oper) (ck : Nat), ops[i]? = some o → OpS P N ops o (((F o).f cf ck).map upd2)) {c : Ctx} {τ0 : St} {k : FS → Q Rf} {r : AV × Upd × Nat} {Q' : Exit → Act → World → Prop}
    (hQ : ∀ s a w, Inv s τ0 → Rel N c (s.st τ0) a w → (k s).run τ0 = some r → Q' .normal a w) : ∀ (l : List Oper) (j : Nat) (s : FS) (a : Act) (w : World), ops.toList.drop j = l → Inv s τ0 → (evT F cf l s k).run τ0 = some r → Rel N c (s.st τ0) a w → wpOps P ops Q' (List.range' j l.length) a w := by
  intro l
  induction l with
  | nil => intro j s a w _ hi h hr; exact hQ s a w hi hr h
  | cons o l ih =>
    intro j s a w hj hi h hr
    have h0 : ops[j]? = some o := by
      have : (ops.toList.drop j)[0]? = some o := by rw [hj]; rfl
      simpa using this
    have hd : ops.toList.drop (j + 1) = l := by
      have := List.drop_drop (i := 1) (j := j) (l := ops.toList)
      rw [hj] at this
      simpa using this.symm
    rw [evT_cons] at h
    obtain ⟨u, ck', R, s', hq, hk, hi', hst, _⟩ := one_op (k := fun p _ s => FS.apK p.1 s fun s => setCk p.2 s fun s => evT F cf l s k) hi h
    obtain ⟨s2, hap, hi2, hst2, _⟩ := apK_ok (β := Q Rf) u s' hi'
    simp only [hap, setCk_eq] at hk
    simp only [List.length_cons, List.range'_succ]
    rw [wpOps_cons]
    refine wpOp_step h0 fun K' hK' => ?_
    refine hop j o s.ck h0 c (s.st τ0) a w hr u (by rw [Q.map_run, hq]; rfl) K' Q' fun a' w' hr' => hK' _ _ ?_
    refine ih (j + 1) ⟨s2.sl, s2.bk, s2.dl, ck'⟩ a' w' hd (inv_ck hi2 _) hk ?_
    have est : (FS.mk s2.sl s2.bk s2.dl ck').st τ0 = s2.st τ0 := st_ck _
    rw [est, hst2, hst]; exact hr'

theorem memN_iff {n : Nat} : ∀ {l : List Nat}, memN n l = true ↔ n ∈ l
  | [] => by simp [memN]
  | m :: l => by
    show Bool.rec (motive := fun _ => Bool) (memN n l) true (Nat.beq m n) = true ↔ _
    cases h : Nat.beq m n with
    | true =>
      have : m = n := by simpa using h
      subst this; simp
    | false =>
      have : m ≠ n := by rintro rfl; simp at h
      show memN n l = true ↔ _
      rw [memN_iff (l := l)]
      rw [List.mem_cons]
      exact ⟨.inr, fun h => h.resolve_left fun e => this e.symm⟩

theorem disN_not {l m : List Nat} (h : disN l m = true) : ∀ n ∈ l, n ∉ m := by
  induction l with
  | nil => intro n hn; cases hn
  | cons k l ih =>
    intro n hn
    have h : Bool.rec (motive := fun _ => Bool) (disN l m) false (memN k m) = true := h
    cases hk : memN k m with
    | true => rw [hk] at h; cases h
    | false =>
      rw [hk] at h
      rcases List.mem_cons.1 hn with rfl | hn
      · intro hm; rw [memN_iff.2 hm] at hk; cases hk
      · exact ih h n hn

theorem okS_mem {l : List Reg} {S : List Nat} (h : okS l S = true) : ∀ n, .s n ∈ l → n ∈ S := by
  induction l with
  | nil => intro n hn; cases hn
  | cons r l ih =>
    intro n hn
    cases r with
    | s m =>
      have h : Bool.rec (motive := fun _ => Bool) false (okS l S) (memN m S) = true := h
      cases hm : memN m S with
      | false => rw [hm] at h; cases h
      | true =>
        rw [hm] at h
        rcases List.mem_cons.1 hn with e | hn
        · cases e; exact memN_iff.1 hm
        · exact ih h n hn
    | b m =>
      rcases List.mem_cons.1 hn with e | hn
      · cases e
      · exact ih h n hn

theorem mem_bsR {l : List Reg} {n : Nat} : n ∈ bsR l ↔ .b n ∈ l := by
  induction l with
  | nil => exact ⟨fun h => (by cases h), fun h => (by cases h)⟩
  | cons r l ih =>
    cases r with
    | s m =>
      show n ∈ bsR l ↔ _
      rw [ih]; simp
    | b m =>
      show n ∈ m :: bsR l ↔ _
      simp [ih]

theorem apW_at {anc : Nat → Nat → Bool} {i : Nat} {Rb Wb : List Nat} : ∀ {TW : Tb}, apW anc i Rb Wb TW = true → ∀ e ∈ TW, anc i e.1 = false → disN e.2 Rb = true ∧ disN e.2 Wb = true
  | [], _, e, he, _ => by cases he
  | f :: T, h, e, he, ha => by
    have h : Bool.rec (motive := fun _ => Bool) false (apW anc i Rb Wb T) (Bool.rec (motive := fun _ => Bool) (Bool.rec (motive := fun _ => Bool) false (disN f.2 Wb) (disN f.2 Rb)) true (anc i f.1)) = true := h
    cases hx : (Bool.rec (motive := fun _ => Bool) (Bool.rec (motive := fun _ => Bool) false (disN f.2 Wb) (disN f.2 Rb)) true (anc i f.1) : Bool) with
    | false => rw [hx] at h; cases h
    | true =>
      rw [hx] at h
      rcases List.mem_cons.1 he with rfl | he
      · rw [ha] at hx
        cases h1 : disN e.2 Rb with
        | false => rw [h1] at hx; cases hx
        | true => rw [h1] at hx; exact ⟨rfl, hx⟩
      · exact apW_at h e he ha

theorem apR_at {anc : Nat → Nat → Bool} {i : Nat} {Wb : List Nat} : ∀ {TR : Tb}, apR anc i Wb TR = true → ∀ e ∈ TR, anc i e.1 = false → disN Wb e.2 = true
  | [], _, e, he, _ => by cases he
  | f :: T, h, e, he, ha => by
    have h : Bool.rec (motive := fun _ => Bool) false (apR anc i Wb T) (Bool.rec (motive := fun _ => Bool) (disN Wb f.2) true (anc i f.1)) = true := h
    cases hx : (Bool.rec (motive := fun _ => Bool) (disN Wb f.2) true (anc i f.1) : Bool) with
    | false => rw [hx] at h; cases h
    | true =>
      rw [hx] at h
      rcases List.mem_cons.1 he with rfl | he
      · rw [ha] at hx; exact hx
      · exact apR_at h e he ha

theorem consT_mem {i : Nat} {l : List Nat} {T : Tb} : (∀ e ∈ T, e ∈ consT i l T) ∧ ∀ n ∈ l, (i, l) ∈ consT i l T := by
  cases l with
  | nil => exact ⟨fun e he => he, fun n hn => (by cases hn)⟩
  | cons m l =>
    have : consT i (m :: l) T = (i, m :: l) :: T := rfl
    rw [this]
    exact ⟨fun e he => List.mem_cons_of_mem _ he, fun n _ => by simp⟩

theorem chkT_at {anc : Nat → Nat → Bool} {i : Nat} {SR SW : List Nat} {R W : List Reg} {TR TW : Tb} (h : chkT anc i SR SW R W TR TW = true) : okS R SR = true ∧ okS W SW = true ∧ apW anc i (bsR R) (bsR W) TW = true ∧ (∀ n ∈ bsR W, apR anc i (bsR W) TR = true) := by
  unfold chkT at h
  cases h1 : okS R SR with
  | false => rw [h1] at h; cases h
  | true =>
    rw [h1] at h
    cases h2 : okS W SW with
    | false => rw [h2] at h; cases h
    | true =>
      rw [h2] at h
      cases h3 : apW anc i (bsR R) (bsR W) TW with
      | false => rw [h3] at h; cases h
      | true =>
        rw [h3] at h
        refine ⟨rfl, rfl, rfl, fun n hn => ?_⟩
        cases hw : bsR W with
        | nil => rw [hw] at hn; cases hn
        | cons m l =>
          rw [hw] at h
          exact h

theorem apartT_of {anc : Nat → Nat → Bool} {i : Nat} {R W : List Reg} : ∀ {T : List Tr}, (∀ t ∈ T, anc i t.j = false → indep t.R t.W R W = true) → apartT anc i R W T = true
  | [], _ => rfl
  | t :: T, h => by
    simp only [apartT, hit_eq, Bool.and_eq_true]
    refine ⟨?_, apartT_of fun s hs => h s (by simp [hs])⟩
    cases ha : anc i t.j with
    | true => rfl
    | false => exact h t (by simp) ha

theorem disj_of {x y : List Reg} (h : ∀ r ∈ x, ∀ q ∈ y, r ≠ q) : disj x y = true := by
  unfold disj
  refine List.all_eq_true.2 fun r hr => List.all_eq_true.2 fun q hq => ?_
  rw [Reg.beq_false.2 (h r hr q hq)]; rfl

/-- What is kept of earlier operations says enough. -/
def Kept (ops : List Oper) (i : Nat) (T : List Tr) (TR TW : Tb) : Prop := ∀ t ∈ T, t.j < i ∧ ∃ o, ops[t.j]? = some o ∧ (∀ n, .s n ∈ t.R → n ∈ opR ops o) ∧ (∀ n, .s n ∈ t.W → n ∈ opW o) ∧ (∀ n, .b n ∈ t.R → ∃ l, (t.j, l) ∈ TR ∧ n ∈ l) ∧ ∀ n, .b n ∈ t.W → ∃ l, (t.j, l) ∈ TW ∧ n ∈ l

theorem statOK_at {anc : Nat → Nat → Bool} {S : List (List Nat × List Nat)} (h : statOK anc S = true) {i j : Nat} {x y : List Nat × List Nat} (hi : S[i]? = some x) (hj : S[j]? = some y) (hlt : j < i) (ha : anc i j = false) : disN y.2 x.1 = true ∧ disN y.2 x.2 = true ∧ disN x.2 y.1 = true := by
  unfold statOK at h
  have hxi : (x, i) ∈ S.zipIdx := by
    rw [List.mem_zipIdx_iff_getElem?]; exact hi
  have hyj : (y, j) ∈ S.zipIdx := by
    rw [List.mem_zipIdx_iff_getElem?]; exact hj
  have h1 := List.all_eq_true.1 (List.all_eq_true.1 h _ hxi) _ hyj
  have hb : Nat.blt j i = true := blt_iff.2 hlt
  simp only [hb, ha, Bool.not_true, Bool.false_or, Bool.and_eq_true] at h1
  exact ⟨h1.1.1, h1.1.2, h1.2⟩

theorem kept_apart {anc : Nat → Nat → Bool} {ops : List Oper} (hst : statOK anc (ops.map fun o => (opR ops o, opW o)) = true) {i : Nat} {o : Oper} (ho : ops[i]? = some o) {T : List Tr} {TR TW : Tb} (hT : Kept ops i T TR TW) {R R' W : List Reg} (hR : ∀ r ∈ R, r ∈ R') (h : chkT anc i (opR ops o) (opW o) R' W TR TW = true) : apartT anc i R W T = true := by
  obtain ⟨h1, h2, h3, h4⟩ := chkT_at h
  refine apartT_of fun t ht ha => ?_
  obtain ⟨hlt, o', ho', k1, k2, k3, k4⟩ := hT t ht
  obtain ⟨g1, g2, g3⟩ := statOK_at hst (i := i) (j := t.j) (x := (opR ops o, opW o)) (y := (opR ops o', opW o')) (by simp [ho]) (by simp [ho']) hlt ha
  simp only [indep, Bool.and_eq_true]
  refine ⟨⟨disj_of fun r hr q hq e => ?_, disj_of fun r hr q hq e => ?_⟩, disj_of fun r hr q hq e => ?_⟩
  · subst e
    cases r with
    | s n => exact disN_not g1 n (k2 n hr) (okS_mem h1 n (hR _ hq))
    | b n =>
      obtain ⟨l, hl, hn⟩ := k4 n hr
      exact disN_not (apW_at h3 _ hl ha).1 n hn (mem_bsR.2 (hR _ hq))
  · subst e
    cases r with
    | s n => exact disN_not g2 n (k2 n hr) (okS_mem h2 n hq)
    | b n =>
      obtain ⟨l, hl, hn⟩ := k4 n hr
      exact disN_not (apW_at h3 _ hl ha).2 n hn (mem_bsR.2 hq)
  · subst e
    cases r with
    | s n => exact disN_not g3 n (okS_mem h2 n hr) (k1 n hq)
    | b n =>
      obtain ⟨l, hl, hn⟩ := k3 n hq
      exact disN_not (apR_at (h4 n (mem_bsR.2 hr)) _ hl ha) n (mem_bsR.2 hr) hn

theorem kept_next {anc : Nat → Nat → Bool} {ops : List Oper} {i : Nat} {o : Oper} (ho : ops[i]? = some o) {T : List Tr} {TR TW : Tb} (hT : Kept ops i T TR TW) {R R' W : List Reg} (hR : ∀ r ∈ R, r ∈ R') (h : chkT anc i (opR ops o) (opW o) R' W TR TW = true) : Kept ops (i + 1) (⟨i, R, W⟩ :: T) (consT i (bsR R') TR) (consT i (bsR W) TW) := by
  obtain ⟨h1, h2, _, _⟩ := chkT_at h
  intro t ht
  rcases List.mem_cons.1 ht with rfl | ht
  · exact ⟨Nat.lt_succ_self _, o, ho, fun n hn => okS_mem h1 n (hR _ hn), fun n hn => okS_mem h2 n hn, fun n hn => ⟨_, consT_mem.2 n (mem_bsR.2 (hR _ hn)), mem_bsR.2 (hR _ hn)⟩, fun n hn => ⟨_, consT_mem.2 n (mem_bsR.2 hn), mem_bsR.2 hn⟩⟩
  · obtain ⟨hlt, o', ho', k1, k2, k3, k4⟩ := hT t ht
    refine ⟨Nat.lt_succ_of_lt hlt, o', ho', k1, k2, fun n hn => ?_, fun n hn => ?_⟩
    · obtain ⟨l, hl, hm⟩ := k3 n hn
      exact ⟨l, consT_mem.1 _ hl, hm⟩
    · obtain ⟨l, hl, hm⟩ := k4 n hn
      exact ⟨l, consT_mem.1 _ hl, hm⟩

theorem aL_congr {F F' : Nat → Q Rs} {anc : Nat → Nat → Bool} {K : St → Prop} : ∀ {l : List Nat} {T : List Tr} {τ : St}, (∀ i ∈ l, F i = F' i) → aL F anc l T τ K → aL F' anc l T τ K
  | [], _, _, _, h => h
  | i :: l, T, τ, hF, ⟨u, h1, h2, h3⟩ => by
    have e := hF i (by simp)
    rw [e] at h1 h2 h3
    exact ⟨u, h1, h2, aL_congr (fun j hj => hF j (by simp [hj])) h3⟩

theorem evA_aL {F : Oper → Bo} {cf : CF} {anc : Nat → Nat → Bool} {τ0 : St} {k : FS → Q Rf} {r : AV × Upd × Nat} (ops : List Oper) (hstat : statOK anc (ops.map fun o => (opR ops o, opW o)) = true) : ∀ (l : List Oper) (j : Nat) (T : List Tr) (TR TW : Tb) (s : FS), Kept ops j T TR TW → ops.drop j = l → Inv s τ0 → (evA F cf anc ops l j TR TW s k).run τ0 = some r →
    ∃ cks : Nat → Nat, aL (fun i => match ops[i]? with
      | some o => ((F o).f cf (cks i)).map upd2
      | none => .ret none) anc (List.range' j l.length) T (s.st τ0) (fun τ => ∃ s', Inv s' τ0 ∧ s'.st τ0 = τ ∧ (k s').run τ0 = some r) := by
  intro l
  induction l with
  | nil => intro j T TR TW s _ _ hi h; exact ⟨fun _ => 0, s, hi, rfl, h⟩
  | cons o l ih =>
    intro j T TR TW s hT hj hi h
    have h0 : ops[j]? = some o := by
      have : (ops.drop j)[0]? = some o := by rw [hj]; rfl
      simpa using this
    have hd : ops.drop (j + 1) = l := by
      have := List.drop_drop (i := 1) (j := j) (l := ops)
      rw [hj] at this
      simpa using this.symm
    rw [evA_cons] at h
    obtain ⟨u, ck', R, s', hq, hk, hi', hst, hR⟩ := one_op (k := fun p R s => match chkT anc j (opR ops o) (opW o) R (fsts p.1) TR TW with
      | true => FS.apK p.1 s fun s => setCk p.2 s fun s => evA F cf anc ops l (j + 1) (consT j (bsR R) TR) (consT j (bsR (fsts p.1)) TW) s k
      | false => .ret none) hi h
    simp only at hk
    split at hk
    · rename_i hap
      obtain ⟨s2, hap2, hi2, hst2, _⟩ := apK_ok (β := Q Rf) u s' hi'
      simp only [hap2, setCk_eq] at hk
      have hrun : (((F o).f cf s.ck).map upd2).run (s.st τ0) = some u := by rw [Q.map_run, hq]; rfl
      have htr : (((F o).f cf s.ck).map upd2).tr (s.st τ0) = ((F o).f cf s.ck).tr (s.st τ0) := Q.map_tr _ _ _
      obtain ⟨cks, hal⟩ := ih (j + 1) (⟨j, ((F o).f cf s.ck).tr (s.st τ0), fsts u⟩ :: T) _ _ ⟨s2.sl, s2.bk, s2.dl, ck'⟩ (kept_next h0 hT hR hap) hd (inv_ck hi2 _) hk
      have est : (FS.mk s2.sl s2.bk s2.dl ck').st τ0 = s2.st τ0 := st_ck _
      rw [est, hst2, hst] at hal
      refine ⟨fun i => bif Nat.beq i j then s.ck else cks i, ?_⟩
      simp only [List.length_cons, List.range'_succ]
      have hjj : Nat.beq j j = true := by simp
      refine ⟨u, ?_, ?_, ?_⟩
      · simp only [h0, hjj, cond_true]; exact hrun
      · simp only [h0, hjj, cond_true, htr]
        exact kept_apart hstat h0 hT hR hap
      · simp only [h0, hjj, cond_true, htr]
        refine aL_congr (fun i hi => ?_) hal
        have : Nat.beq i j = false := by
          rw [← Bool.not_eq_true]
          have := List.mem_range'_1.1 hi
          simp; omega
        rw [this]; rfl
    · cases hk

theorem slot_bool {N : Nat} {c : Ctx} {τ : St} {a : Act} {w : World} {t : Nat} {b : Bool} (hr : Rel N c τ a w) (h : τ (.s t) = some (.x (.o (.s (.v (.bool b)))))) : a.eval (.tmp t) = .bool b := by
  obtain ⟨M, hh⟩ := hr
  obtain ⟨v, hv, hrel⟩ := hh.slots t _ h
  have : v = .bool b := hrel
  subst this
  show a.tmps.getD t undef = _
  rw [Array.getD_eq_getD_getElem?, hv]; rfl

/-! ### Code -/
theorem step_sound (hE : EnvOK P E) (hm : P.follows .mixedOrders = true) {n : Nat} (hs : Sound P (evN E n))
    (hl : ∀ N a s k τ0 r, Inv s τ0 → (evN E n N (.loop a) s k).run τ0 = some r → ∀ ctx b w, Rel N ctx (s.st τ0) b w → Code.rounds P a (fun e a' w' => ∃ s' ex, exM e ex ∧ Inv s' τ0 ∧ Rel N ctx (s'.st τ0) a' w' ∧ (k ex s').run τ0 = some r) n b w) :
    Sound P (evN E (n + 1)) ∧ ∀ N a s k τ0 r, Inv s τ0 → (evN E (n + 1) N (.loop a) s k).run τ0 = some r → ∀ ctx b w, Rel N ctx (s.st τ0) b w → Code.rounds P a (fun e a' w' => ∃ s' ex, exM e ex ∧ Inv s' τ0 ∧ Rel N ctx (s'.st τ0) a' w' ∧ (k ex s').run τ0 = some r) (n + 1) b w := by
  have hloop : ∀ N a s k τ0 r, Inv s τ0 → (evN E (n + 1) N (.loop a) s k).run τ0 = some r → ∀ ctx b w, Rel N ctx (s.st τ0) b w → Code.rounds P a (fun e a' w' => ∃ s' ex, exM e ex ∧ Inv s' τ0 ∧ Rel N ctx (s'.st τ0) a' w' ∧ (k ex s').run τ0 = some r) (n + 1) b w := by
    intro N a s k τ0 r hi h ctx b w hr
    rw [rounds_succ]
    rw [evN_succ] at h
    refine wp_mono (hs N a s _ τ0 r hi h ctx b w hr) ?_
    rintro e a' w' ⟨s', ex, hme, hi', hr', hk⟩
    cases e with
    | normal =>
      cases ex with
      | nrm => exact hl N a s' k τ0 r hi' hk ctx a' w' hr'
      | _ => exact hme.elim
    | exit i =>
      cases ex with
      | exit j => exact ⟨s', .exit j, hme, hi', hr', hk⟩
      | _ => exact hme.elim
    | ret =>
      cases ex with
      | ret => exact ⟨s', .ret, hme, hi', hr', hk⟩
      | _ => exact hme.elim
    | _ => cases ex <;> exact hme.elim
  refine ⟨?_, hloop⟩
  intro N cd s k τ0 r hi h ctx a w hr
  rw [evN_succ] at h
  have hcf := callF_ok hE hs
  cases cd with
  | skip => exact wp_skip ⟨s, .nrm, trivial, hi, hr, h⟩
  | region id ops draw =>
    have hop : ∀ (i : Nat) (o : Oper) (ck : Nat), ops[i]? = some o → OpS P N ops o (((opF E N ops.toList o).f (callF E (evN E n)) ck).map upd2) := fun i o ck _ => guard_ok (opQ_ok hE hcf N ck o)
    cases draw with
    | false =>
      refine wp_region ?_
      have := evT_sound hop (Q' := fun e a' w' => ∃ s' ex, exM e ex ∧ Inv s' τ0 ∧ Rel N ctx (s'.st τ0) a' w' ∧ (k ex s').run τ0 = some r) (k := k .nrm) (fun s a w h1 h2 h3 => ⟨s, .nrm, trivial, h1, h2, h3⟩) ops.toList 0 s a w (by simp) hi h hr
      simpa [List.range_eq_range'] using this
    | true =>
      have h : ((match ltOK ops.toList 0 && statOK (ancOf (masks ops.toList [])) (ops.toList.map fun o => (opR ops.toList o, opW o)) with
        | true => (⟨fun ih s k => evA (opF E N ops.toList) (callF E ih) (ancOf (masks ops.toList [])) ops.toList ops.toList 0 [] [] s (k .nrm)⟩ : Bx (Ev → FS → Kt → Q Rf))
        | false => ⟨fun _ _ _ => .ret none⟩).f (evN E n) s k).run τ0 = some r := h
      split at h
      · rename_i hlt2
        simp only [Bool.and_eq_true] at hlt2
        obtain ⟨hlt, hstat⟩ := hlt2
        obtain ⟨cks, hal⟩ := evA_aL ops.toList hstat ops.toList 0 [] [] [] s (fun t ht => by cases ht) (by simp) hi h
        refine wp_region_any hm ?_
        refine any_sound (F := fun i => match ops.toList[i]? with
          | some o => ((opF E N ops.toList o).f (callF E (evN E n)) (cks i)).map upd2
          | none => .ret none) (fun i o ho => ?_) (anc_of hlt) (c := ctx) (K := fun τ => ∃ s', Inv s' τ0 ∧ s'.st τ0 = τ ∧ (k .nrm s').run τ0 = some r) (fun τ' a' w' ⟨s', h1, h2, h3⟩ hr' => ⟨s', .nrm, trivial, h1, by rw [h2]; exact hr', h3⟩) ops.size (Array.replicate ops.size false) (s.st τ0) a _ ?_ (by simp) ?_ ?_ hr.drew
        · have : ops.toList[i]? = some o := by simpa using ho
          simp only [this]
          exact hop i o _ ho
        · rw [rest_all]; simp
        · intro i o ho hi
          have : i < ops.size := (Array.getElem?_eq_some_iff.1 ho).1
          simp [isIn, Array.getD, this] at hi
        · rw [rest_all]; simpa [List.range_eq_range'] using hal
      · cases h
  | seq x y =>
    refine wp_seq (wp_mono (hs N x s _ τ0 r hi h ctx a w hr) ?_)
    rintro e a' w' ⟨s', ex, hme, hi', hr', hk⟩
    cases e with
    | normal =>
      cases ex with
      | nrm => exact hs N y s' k τ0 r hi' hk ctx a' w' hr'
      | _ => exact hme.elim
    | exit i =>
      cases ex with
      | exit j => exact ⟨s', .exit j, hme, hi', hr', hk⟩
      | _ => exact hme.elim
    | ret =>
      cases ex with
      | ret => exact ⟨s', .ret, hme, hi', hr', hk⟩
      | _ => exact hme.elim
    | _ => cases ex <;> exact hme.elim
  | cond o x y =>
    cases o with
    | tmp t =>
      have h : (condK (s.sl.get t) (evN E n N x s k) (evN E n N y s k) (.ret none)).run τ0 = some r := h
      unfold condK at h
      split at h
      · rename_i b hb
        have hv := slot_bool (t := t) (b := b) hr hb
        refine wp_cond hv ?_
        cases b with
        | true => exact hs N x s k τ0 r hi h ctx a w hr
        | false => exact hs N y s k τ0 r hi h ctx a w hr
      · cases h
    | const v =>
      cases v with
      | bool b =>
        refine wp_cond (show a.eval (.const (.bool b)) = .bool b from rfl) ?_
        cases b with
        | true => exact hs N x s k τ0 r hi h ctx a w hr
        | false => exact hs N y s k τ0 r hi h ctx a w hr
      | _ => cases h
    | _ => cases h
  | block id x =>
    refine wp_block (wp_mono (hs N x s _ τ0 r hi h ctx a w hr) ?_)
    rintro e a' w' ⟨s', ex, hme, hi', hr', hk⟩
    cases e with
    | normal =>
      cases ex with
      | nrm => exact ⟨s', .nrm, trivial, hi', hr', hk⟩
      | _ => exact hme.elim
    | exit i =>
      cases ex with
      | exit j =>
        have : i = j := hme
        subst this
        have hk : (Bool.rec (motive := fun _ => Q Rf) (k (.exit i) s') (k .nrm s') (Nat.beq i id) : Q Rf).run τ0 = some r := hk
        simp only [Exit.inBlock]
        split
        · rename_i e
          have : Nat.beq i id = true := by simpa using e
          rw [this] at hk
          exact ⟨s', .nrm, trivial, hi', hr', hk⟩
        · rename_i e
          have : Nat.beq i id = false := by rw [← Bool.not_eq_true]; simpa using e
          rw [this] at hk
          exact ⟨s', .exit i, rfl, hi', hr', hk⟩
      | _ => exact hme.elim
    | ret =>
      cases ex with
      | ret => exact ⟨s', .ret, hme, hi', hr', hk⟩
      | _ => exact hme.elim
    | _ => cases ex <;> exact hme.elim
  | loop x => exact wp_loop_rounds (n + 1) (hloop N x s k τ0 r hi h ctx a w hr)
  | exit id => exact wp_exit ⟨s, .exit id, rfl, hi, hr, h⟩
  | label l => exact wp_label ⟨s, .nrm, trivial, hi, hr, h⟩
  | ret => exact wp_ret ⟨s, .ret, trivial, hi, hr, h⟩
  | _ => cases h

theorem evN_sound (hE : EnvOK P E) (hm : P.follows .mixedOrders = true) (n : Nat) : Sound P (evN E n) := by
  have : Sound P (evN E n) ∧ ∀ N a s k τ0 r, Inv s τ0 → (evN E n N (.loop a) s k).run τ0 = some r → ∀ ctx b w, Rel N ctx (s.st τ0) b w → Code.rounds P a (fun e a' w' => ∃ s' ex, exM e ex ∧ Inv s' τ0 ∧ Rel N ctx (s'.st τ0) a' w' ∧ (k ex s').run τ0 = some r) n b w := by
    induction n with
    | zero =>
      refine ⟨fun N c s k τ0 r _ h => ?_, fun N a s k τ0 r _ h => ?_⟩
      · cases h
      · cases h
    | succ n ih => exact step_sound hE hm ih.1 ih.2
  exact this.1

/-- What is evaluated of a call is so. -/
theorem callN_ok (hE : EnvOK P E) (hm : P.follows .mixedOrders = true) (n ck f : Nat) (args : List AV) : CallOK P f args (callF E (evN E n) ck f args) := callF_ok hE (evN_sound hE hm n) ck f args

end
end DX
end Go.Proofs.YtmfljpjdpfbfoaaGreatDoor
