/- A deterministic evaluator of the model's code, part n: what is evaluated is so. -/
import Derived.Test.YtmfljpjdpfbfoaaGreatDoorDm
namespace Go.Proofs.YtmfljpjdpfbfoaaGreatDoor
namespace DX

section
variable {P : Program} {E : Env}

/-! ### Results -/
def resSem (tmps : Array Value) : ResultVar → Sem Value
  | .tmp t => pure (tmps.getD t undef)
  | .cell a t => do loadVar t (← asAddr (tmps.getD a undef))

theorem resV_run (hE : EnvOK P E) {N : Nat} {c : Ctx} {M : Mp} {τ0 : St} {s : FS} {a : Act} {w : World} (hh : Holds N c M (s.st τ0) a w) {x : ResultVar} {r : A0} (h : resV E s x = some r) : ∃ v, (resSem a.tmps x).run P w = .ok v w ∧ r.rel M v ∧ ∀ p ∈ r.ids, nm (s.st τ0) p := by
  cases x with
  | tmp t =>
    simp only [resV] at h
    split at h
    · rename_i y hy
      cases h
      have hy' : s.st τ0 (.s t) = some (.x (.o r)) := hy
      obtain ⟨v, hv, hr⟩ := hh.slots t _ hy'
      exact ⟨v, by simp [resSem, hv], hr, hh.named _ _ hy'⟩
    · cases h
  | cell ad ty =>
    simp only [resV] at h
    split at h
    · rename_i i u k sz j hy
      split at h
      · rename_i dd B ti hb hti
        have hy' : s.st τ0 (.s ad) = some (.x (.o (.s (.p i u k sz j)))) := hy
        have hb' : s.st τ0 (.b i) = some (.b B) := by simp [FS.st, hb]
        obtain ⟨v, hv, hr⟩ := hh.slots ad _ hy'
        have e : v = .pointer (some ⟨(M.β i u).1, (M.β i u).2 + (k * sz + j), none⟩) := hr
        subst e
        split at h
        · rename_i l hi hcon hhi
          obtain ⟨h1, cs, fr, h2, h3, h4, h5, h6⟩ := hh.cells hb' hcon hhi
          have hnm : ∀ p ∈ idsL l, nm (s.st τ0) p := fun p hp => hh.named _ _ hb' p (by show p ∈ B.con.ids; rw [hcon]; exact hp)
          have hS := (hE.tab ty ti hti).sh
          split at h
          · rename_i x hx
            cases h
            generalize ti.agg = ag at hS hx
            generalize ti.size = n at hS hx
            generalize k * sz + j = O at hv hx
            cases ag with
            | true =>
              simp only [loadL] at hx
              cases hble : Nat.ble (O + n) hi with
              | false => rw [hble] at hx; cases hx
              | true =>
                rw [hble] at hx; cases hx
                obtain ⟨vs, g1, g2, g3⟩ := rel_part (Nat.le_of_ble_eq_true hble) h5 h6
                refine ⟨.agg vs.toArray, ?_, ⟨vs.toArray, rfl, by simpa using g3⟩, fun p hp => hnm p (idsL_drop_take hp)⟩
                have := run_loadVar_agg (P := P) hS (w := w) (a := ⟨(M.β i u).1, (M.β i u).2 + O, none⟩) (cs := vs) g1 (fun jj v hj => by rw [add_none, cell_at h2]; exact g2 jj v hj)
                simpa [resSem, hv, asAddr] using this
            | false =>
              simp only [loadL] at hx
              cases hblt : Nat.blt O hi with
              | false => rw [hblt] at hx; cases hx
              | true =>
                rw [hblt] at hx
                simp only [cond_true, nthS_eq] at hx
                split at hx
                · rename_i y hy2
                  cases hx
                  have hlt := blt_iff.1 hblt
                  obtain ⟨v0, hv1, hv2⟩ := relL_at h5 (i := O) (x := y) (by rw [List.getElem?_take, if_pos hlt]; exact hy2)
                  rw [List.getElem?_take, if_pos hlt, List.getElem?_drop] at hv1
                  refine ⟨v0, ?_, hv2, fun p hp => hnm p (mem_idsL.2 ⟨y, List.mem_of_getElem? hy2, hp⟩)⟩
                  have := run_loadVar_one (P := P) hS (w := w) (a := ⟨(M.β i u).1, (M.β i u).2 + O, none⟩) (v := v0) (by rw [cell_at h2]; simpa using hv1)
                  simpa [resSem, hv, asAddr] using this
                · cases hx
          · cases h
        · cases h
      · cases h
    · cases h

theorem resVs_run (hE : EnvOK P E) {N : Nat} {c : Ctx} {M : Mp} {τ0 : St} {s : FS} {a : Act} {w : World} (hh : Holds N c M (s.st τ0) a w) : ∀ {l : List ResultVar} {rs : List A0}, resVs E s l = some rs → ∃ vs : List Value, (l.mapM (resSem a.tmps)).run P w = .ok vs w ∧ relT M rs vs ∧ ∀ p ∈ idsT rs, nm (s.st τ0) p
  | [], rs, h => by
    simp only [resVs] at h; cases h
    exact ⟨[], by simp, trivial, by simp [idsT]⟩
  | x :: l, rs, h => by
    simp only [resVs] at h
    split at h
    · rename_i r rs' hr hrs
      cases h
      obtain ⟨v, hv, hvr, hn⟩ := resV_run hE hh hr
      obtain ⟨vs, hvs, hvsr, hns⟩ := resVs_run hE hh hrs
      refine ⟨v :: vs, by simp [List.mapM_cons, hv, hvs], ⟨hvr, hvsr⟩, fun p hp => ?_⟩
      simp only [idsT, List.mem_append] at hp
      exact hp.elim (hn p) (hns p)
    · cases h

theorem resA_run (hE : EnvOK P E) {N : Nat} {c : Ctx} {M : Mp} {τ0 : St} {s : FS} {a : Act} {w : World} (hh : Holds N c M (s.st τ0) a w) {fn : Func} {r : AV} (h : resA E s fn.results.toList = some r) : ∃ v, (results fn a.tmps).run P w = .ok v w ∧ r.rel M v ∧ ∀ p ∈ r.ids, nm (s.st τ0) p := by
  have key : ∀ rs, resVs E s fn.results.toList = some rs → ∃ vs : List Value, (fn.results.mapM (resSem a.tmps)).run P w = .ok vs.toArray w ∧ relT M rs vs ∧ ∀ p ∈ idsT rs, nm (s.st τ0) p := by
    intro rs hrs
    obtain ⟨vs, hvs, hrel, hn⟩ := resVs_run hE hh hrs
    refine ⟨vs, ?_, hrel, hn⟩
    rw [← Array.toArray_toList (xs := fn.results), List.mapM_toArray]
    simp [hvs]
  have hres : ∀ vs : Array Value, (fn.results.mapM (resSem a.tmps)).run P w = .ok vs w → (results fn a.tmps).run P w = .ok (if h : vs.size = 1 then vs[0] else .tuple vs) w := by
    intro vs hvs
    have e : results fn a.tmps = (do let vs ← fn.results.mapM (resSem a.tmps); pure (if h : vs.size = 1 then vs[0] else .tuple vs)) := by
      unfold results
      congr 1
    rw [e]
    simp [hvs]
  unfold resA at h
  split at h
  · rename_i x hx
    cases h
    obtain ⟨vs, hvs, hrel, hn⟩ := key _ hx
    match vs, hrel with
    | [v], hrel => exact ⟨v, by rw [hres _ hvs]; simp, hrel.1, fun p hp => hn p (List.mem_append_left _ hp)⟩
  · rename_i rs hne hx
    cases h
    obtain ⟨vs, hvs, hrel, hn⟩ := key _ hx
    refine ⟨.tuple vs.toArray, ?_, ⟨vs.toArray, rfl, by simpa using hrel⟩, hn⟩
    rw [hres _ hvs]
    have hl := relT_len hrel
    have : ¬ (vs.toArray.size = 1) := by
      intro h1
      match rs, hl with
      | [x], _ => exact hne x rfl
      | [], hl => simp at hl h1; omega
      | _ :: _ :: _, hl => simp at hl h1; omega
    rw [dif_neg this]
  · cases h

/-! ### Back from a call -/
theorem updOf_mem {bk : Tri (Bool × RV)} {r : Reg} {x : RV} : ∀ {l : List Nat}, (r, x) ∈ updOf bk l → ∃ n d, r = .b n ∧ n ∈ l ∧ bk.get n = some (d, x)
  | [], h => by cases h
  | n :: l, h => by
    simp only [updOf] at h
    split at h
    · rename_i p hp
      rcases List.mem_cons.1 h with h | h
      · cases h
        obtain ⟨d, y⟩ := p
        exact ⟨n, d, rfl, by simp, hp⟩
      · obtain ⟨m, d, h1, h2, h3⟩ := updOf_mem h
        exact ⟨m, d, h1, by simp [h2], h3⟩
    · obtain ⟨m, d, h1, h2, h3⟩ := updOf_mem h
      exact ⟨m, d, h1, by simp [h2], h3⟩

theorem updOf_has {bk : Tri (Bool × RV)} {n : Nat} {d : Bool} {x : RV} : ∀ {l : List Nat}, n ∈ l → bk.get n = some (d, x) → (.b n, x) ∈ updOf bk l
  | [], h, _ => by cases h
  | m :: l, h, hx => by
    simp only [updOf]
    rcases List.mem_cons.1 h with rfl | h
    · rw [hx]; simp
    · split
      · exact List.mem_cons_of_mem _ (updOf_has h hx)
      · exact updOf_has h hx

theorem updOf_st {s : FS} {τ : St} (hi : Inv s τ) : (∀ k, (τ.ap (updOf s.bk s.dl)) (.s k) = τ (.s k)) ∧ ∀ i, (τ.ap (updOf s.bk s.dl)) (.b i) = s.st τ (.b i) := by
  refine ⟨fun k => St.ap_out fun p hp e => ?_, fun i => ?_⟩
  · obtain ⟨n, d, h1, _⟩ := updOf_mem (r := p.1) (x := p.2) hp
    rw [h1] at e; cases e
  · rcases St.ap_in (τ := τ) (u := updOf s.bk s.dl) (r := .b i) with ⟨x, hx, hm⟩ | ⟨hx, hno⟩
    · obtain ⟨n, d, h1, h2, h3⟩ := updOf_mem hm
      cases h1
      rw [hx]; simp [FS.st, h3]
    · rw [hx]
      show _ = match s.bk.get i with
        | some p => some p.2
        | none => τ (.b i)
      cases hg : s.bk.get i with
      | none => rfl
      | some p =>
        obtain ⟨d, x⟩ := p
        cases d with
        | false => exact hi.clean i x hg
        | true => exact absurd rfl (hno _ (updOf_has (hi.dirty i x hg) hg))

theorem nm_congr {τ τ' : St} (h : ∀ i, τ' (.b i) = τ (.b i)) {p : Nat × Nat} (hp : nm τ p) : nm τ' p := by
  unfold nm at *
  rw [h]; exact hp

theorem lv_congr {τ τ' : St} (h : ∀ i, τ' (.b i) = τ (.b i)) {i u : Nat} (hp : lv τ' i u) : lv τ i u := by
  obtain ⟨B, hi, h1, h2⟩ := hp
  exact ⟨B, hi, by rw [← h]; exact h1, h2⟩

theorem Holds.back {N N' : Nat} {c : Ctx} {M M' : Mp} {τ : St} {a a' : Act} {w w' : World} {s : FS} (hh : Holds N c M τ a w) (hi : Inv s τ) (hh' : Holds N' ⟨w, fun b => ∃ i u, lv τ i u ∧ (M.β i u).1 = b, M, nm τ⟩ M' (s.st τ) a' w') : Holds N c M' (τ.ap (updOf s.bk s.dl)) a w' := by
  obtain ⟨hs, hb⟩ := updOf_st hi
  exact {
    defs := hh.defs
    size := hh.size
    slots := fun i x hx => by
      rw [hs] at hx
      obtain ⟨v, hv, hr⟩ := hh.slots i x hx
      exact ⟨v, hv, AV.rel_ag (fun p hp => (hh'.keep p (hh.named _ _ hx p hp)).2) hr⟩
    blks := fun i B hB => hh'.blks i B (by rw [← hb]; exact hB)
    own := fun i u hl => by
      rcases hh'.own i u (lv_congr hb hl) with h1 | ⟨j, v, h1, h2⟩
      · exact .inl (Nat.le_trans hh.grows h1)
      · rcases hh.own j v h1 with h3 | h3
        · left; rw [← h2]; exact h3
        · right; rw [← h2]; exact h3
    apart := fun i j u v hne h1 h2 => hh'.apart i j u v hne (lv_congr hb h1) (lv_congr hb h2)
    named := fun r x hr p hp => by
      cases r with
      | s k => rw [hs] at hr; exact nm_congr hb (hh'.keep p (hh.named _ _ hr p hp)).1
      | b k => rw [hb] at hr; exact nm_congr hb (hh'.named _ _ hr p hp)
    sorts := fun j x hx => hh'.sorts j x (by rw [← hb]; exact hx)
    frame := fun b h1 h2 => by
      have h3 : w'.heap[b]? = w.heap[b]? := hh'.frame b (Nat.lt_of_lt_of_le h1 hh.grows) (by
        rintro ⟨i, u, hl, e⟩
        rcases hh.own i u hl with h4 | h4
        · omega
        · exact h2 (e ▸ h4))
      rw [h3]; exact hh.frame b h1 h2
    grows := Nat.le_trans hh.grows hh'.grows
    os := hh'.os.trans hh.os
    tape := hh'.tape.trans hh.tape
    output := hh'.output.trans hh.output
    keep := fun p hp => ⟨nm_congr hb (hh'.keep p (hh.keep p hp).1).1, (hh.keep p hp).2.trans (hh'.keep p (hh.keep p hp).1).2⟩ }

/-! ### Arguments -/
noncomputable def slots (l : List AV) (j : Nat) (t : Tri RV) : Tri RV := slotsK l j t fun t => t

theorem slotsK_eq {β : Type} : ∀ (l : List AV) (j : Nat) (t : Tri RV) (c : Tri RV → β), slotsK l j t c = c (slots l j t)
  | [], _, _, _ => rfl
  | v :: l, j, t, c => by
    have h1 : slotsK (v :: l) j t c = slotsK l (j + 1) (t.put j (.x v)) c := putK_eq t j (.x v) (fun t => slotsK l (j + 1) t c)
    have h2 : slots (v :: l) j t = slots l (j + 1) (t.put j (.x v)) := putK_eq t j (.x v) (fun t => slotsK l (j + 1) t fun t => t)
    rw [h1, h2, slotsK_eq l]

theorem slots_get : ∀ (l : List AV) (j : Nat) (t : Tri RV) (m : Nat), (slots l j t).get m = if j ≤ m ∧ m < j + l.length then (l[m - j]?).map .x else t.get m
  | [], j, t, m => by
    rw [if_neg (by simp)]; rfl
  | v :: l, j, t, m => by
    have h2 : slots (v :: l) j t = slots l (j + 1) (t.put j (.x v)) := putK_eq t j (.x v) (fun t => slotsK l (j + 1) t fun t => t)
    rw [h2, slots_get l, get_put]
    by_cases h : j + 1 ≤ m ∧ m < j + 1 + l.length
    · rw [if_pos h, if_pos (by simp; omega)]
      have : m - j = (m - (j + 1)) + 1 := by omega
      rw [this]; simp
    · rw [if_neg h]
      by_cases e : m = j
      · subst e
        rw [if_pos rfl, if_pos (by simp)]; simp
      · rw [if_neg e, if_neg (by simp; omega)]

theorem relV_len {M : Mp} : ∀ {l : List AV} {vs : List Value}, relV M l vs → l.length = vs.length
  | [], [], _ => rfl
  | _ :: _, [], h => h.elim
  | [], _ :: _, h => h.elim
  | _ :: l, _ :: cs, h => by simp [relV_len h.2]

theorem relV_at {M : Mp} : ∀ {l : List AV} {vs : List Value}, relV M l vs → ∀ {i : Nat} {x : AV}, l[i]? = some x → ∃ v, vs[i]? = some v ∧ x.rel M v
  | [], [], _, i, x, hx => by simp at hx
  | _ :: _, [], h, _, _, _ => h.elim
  | [], _ :: _, h, _, _, _ => h.elim
  | y :: l, v :: cs, h, i, x, hx => by
    cases i with
    | zero => simp at hx; subst hx; exact ⟨v, by simp, h.1⟩
    | succ i => simpa using relV_at h.2 (by simpa using hx)

theorem mem_idsV {p : Nat × Nat} : ∀ {l : List AV}, p ∈ idsV l ↔ ∃ x ∈ l, p ∈ x.ids
  | [] => by simp [idsV]
  | x :: l => by simp [idsV, mem_idsV (l := l)]

/-! ### Code -/
def exM : Exit → Ex → Prop
  | .normal, .nrm => True
  | .exit i, .exit j => i = j
  | .ret, .ret => True
  | _, _ => False

/-- What an evaluation says is so. -/
def Sound (P : Program) (ih : Ev) : Prop := ∀ N c s k τ0 r, Inv s τ0 → (ih N c s k).run τ0 = some r → ∀ ctx a w, Rel N ctx (s.st τ0) a w →
  c.wp P (fun e a' w' => ∃ s' ex, exM e ex ∧ Inv s' τ0 ∧ Rel N ctx (s'.st τ0) a' w' ∧ (k ex s').run τ0 = some r) a w

theorem run_callFunc_enter {f : FuncId} {fn : Func} {cd : Code} (hf : P.funcs[f]? = some fn) (hb : fn.body = some cd) (hn : fn.name ≠ "runtime.NumGoroutine") (args : Array Value) (w : World) : (callFunc f args).run P w = .ok (.enter f args) w := by
  simp [callFunc, hf, hb, hn]

theorem callF_ok (hE : EnvOK P E) {ih : Ev} (hs : Sound P ih) (ck f : Nat) (args : List AV) : CallOK P f args (callF E ih ck f args) := by
  intro N c M τ a w hh vs hrel hnm r u ck' hq K hK
  unfold callF at hq
  split at hq
  · rename_i N' body rs hfn
    obtain ⟨fn, hf, hb, hN, hrs, hname⟩ := hE.fn f _ hfn
    cases hle : Nat.ble args.length N' with
    | false => rw [hle] at hq; cases hq
    | true =>
      rw [hle] at hq
      have hle := Nat.le_of_ble_eq_true hle
      simp only [cond_true, slotsK_eq] at hq
      have hvl := relV_len hrel
      have hInv : Inv ⟨slots args 0 .lf, .lf, [], ck⟩ τ := { clean := fun n x h => (by cases h), dirty := fun n x h => (by cases h), known := fun n h => (by cases h) }
      have hget : ∀ m, (slots args 0 .lf).get m = (args[m]?).map .x := fun m => by
        rw [slots_get]
        by_cases h : m < args.length
        · rw [if_pos (by simpa using h)]; simp
        · rw [if_neg (by simpa using h)]
          rw [List.getElem?_eq_none (by omega)]; rfl
      have hRel : Rel N' ⟨w, fun b => ∃ i u, lv τ i u ∧ (M.β i u).1 = b, M, nm τ⟩ ((FS.mk (slots args 0 .lf) .lf [] ck).st τ) { tmps := vs.toArray ++ Array.replicate (fn.ntmps - vs.toArray.size) undef, defers := [] } w := by
        refine ⟨M, ?_⟩
        exact {
          defs := rfl
          size := by simp; omega
          slots := fun i x hx => by
            have hx : (slots args 0 .lf).get i = some (.x x) := hx
            rw [hget] at hx
            obtain ⟨y, hy, e⟩ := Option.map_eq_some_iff.1 hx
            cases e
            obtain ⟨v, hv, hr⟩ := relV_at hrel hy
            refine ⟨v, ?_, hr⟩
            have hi' : i < vs.length := (List.getElem?_eq_some_iff.1 hv).1
            rw [Array.getElem?_append_left (by simpa using hi')]
            simpa using hv
          blks := fun i B hB => hh.blks i B hB
          own := fun i u hl => .inr ⟨i, u, hl, rfl⟩
          apart := fun i j u v hne h1 h2 => hh.apart i j u v hne h1 h2
          named := fun r x hr p hp => by
            cases r with
            | s k =>
              have hx : (slots args 0 .lf).get k = some x := hr
              rw [hget] at hx
              obtain ⟨y, hy, e⟩ := Option.map_eq_some_iff.1 hx
              subst e
              exact hnm p (mem_idsV.2 ⟨y, List.mem_of_getElem? hy, hp⟩)
            | b k => exact hh.named _ _ (show τ (.b k) = some x from hr) p hp
          sorts := fun j x => hh.sorts j x
          frame := fun _ _ _ => rfl
          grows := Nat.le_refl _
          os := rfl
          tape := rfl
          output := rfl
          keep := fun p hp => ⟨hp, rfl, rfl⟩ }
      refine .inr ⟨run_callFunc_enter hf hb hname _ w, calls_of_wp hf hb (wp_mono (hs N' body _ _ τ _ hInv hq _ _ w hRel) ?_)⟩
      rintro e a' w' ⟨s', ex, hm, hi', ⟨M', hh'⟩, hk⟩
      have fini : ∀ ex, (match ex with | .exit _ => False | _ => True) → (fin E rs ex s').run τ = some (r, u, ck') → ∃ v, (results fn a'.tmps).run P w' = .ok v w' ∧ K v w' := by
        intro ex hex hk
        have hk : resA E s' rs = some r ∧ u = updOf s'.bk s'.dl := by
          cases ex with
          | exit _ => exact hex.elim
          | nrm =>
            simp only [fin] at hk
            split at hk
            · rename_i r' hr'; cases hk; exact ⟨hr', rfl⟩
            · cases hk
          | ret =>
            simp only [fin] at hk
            split at hk
            · rename_i r' hr'; cases hk; exact ⟨hr', rfl⟩
            · cases hk
        obtain ⟨hr, rfl⟩ := hk
        obtain ⟨v, hv, hrv, hrn⟩ := resA_run hE hh' (fn := fn) (by rw [hrs]; exact hr)
        obtain ⟨_, hbb⟩ := updOf_st hi'
        exact ⟨v, hv, hK v w' M' hrv (fun p hp => nm_congr hbb (hrn p hp)) (hh.back hi' hh')⟩
      cases e with
      | normal =>
        cases ex with
        | nrm =>
          obtain ⟨v, hv, hKv⟩ := fini .nrm trivial hk
          exact ⟨hh'.defs, v, hv, v, rfl, hKv⟩
        | _ => exact hm.elim
      | ret =>
        cases ex with
        | ret =>
          obtain ⟨v, hv, hKv⟩ := fini .ret trivial hk
          exact ⟨hh'.defs, v, hv, v, rfl, hKv⟩
        | _ => exact hm.elim
      | exit i =>
        cases ex with
        | exit j => simp only [fin] at hk; cases hk
        | _ => exact hm.elim
      | _ => cases ex <;> exact hm.elim
  · rename_i hfn
    obtain ⟨fn, hf, hname, hb, hnx, hfd⟩ := hE.fn f _ hfn
    split at hq
    · rename_i x
      cases hq
      match vs, hrel with
      | [y], hrel =>
        refine .inl ⟨y, w, ?_, hK y w M hrel.1 (fun p hp => hnm p (by simpa [idsV] using hp)) hh⟩
        rw [run_callFunc_extern hf hname hb hnx hfd]
        rfl
    · cases hq
  · rename_i q hfn
    exact hE.fn f _ hfn ck args N c M τ a w hh vs hrel hnm r u ck' hq K hK
  · cases hq

end
end DX
end Go.Proofs.YtmfljpjdpfbfoaaGreatDoor
