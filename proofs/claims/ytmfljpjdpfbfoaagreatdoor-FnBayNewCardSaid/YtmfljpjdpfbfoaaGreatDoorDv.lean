/- A deterministic evaluator of the model's code, part v: maps looked up and written; interface values held against nil. -/
import Derived.Test.YtmfljpjdpfbfoaaGreatDoorDu
namespace Go.Proofs.YtmfljpjdpfbfoaaGreatDoor
namespace DX

section
variable {P : Program} {N : Nat} {τ : St}
variable {d id : Nat} {x y z : Operand} {t t2 t' u ty k e : TypeId} {pos : String} {af : Array Edge} {g : Option (Nat × Bool)}

/-! ### Keys -/
/-- Whole numbers; structs of them; arrays of them. -/
inductive MKd where
  | i
  | st (n : Nat)
  | ar (n : Nat)

def MKOK (P : Program) (k : TypeId) : MKd → Prop
  | .i => P.underlying k = some (.int .i64)
  | .st n => Ints P k n
  | .ar n => ∃ e, P.underlying k = some (.array n e) ∧ P.underlying e = some (.int .i64) ∧ Sh P e = some (false, 1)

def keyN (n : Nat) (l : List SV) : Option Value := match intsOf l with
  | some p => bif Nat.beq p.length n then some (.agg ⟨p.map (Value.int .i64)⟩) else none
  | none => none

def keyV (mk : MKd) (x : AV) : Option Value := match x with
  | .o (.s (.v (.int .i64 n))) => (match mk with
    | .i => some (.int .i64 n)
    | _ => none)
  | .o (.a l) => (match mk with
    | .i => none
    | .st n => keyN n l
    | .ar n => keyN n l)
  | _ => none

theorem run_checkInt {w : World} (h : P.underlying k = some (.int .i64)) (em : Bool) (n : Nat) (v : Value) : (Instr.checkKey em (n + 1) k v).run P w = .ok () w := by
  cases v <;> simp [Instr.checkKey, run_underlying h]

theorem keyN_some {M : Mp} {n : Nat} {l : List SV} {y v : Value} (h : keyN n l = some v) (hr : (A0.a l).rel M y) : ∃ p : List Int, p.length = n ∧ y = .agg ⟨p.map (Value.int .i64)⟩ ∧ v = y := by
  unfold keyN at h
  split at h
  · rename_i p hp
    cases hb : Nat.beq p.length n with
    | false => rw [hb] at h; cases h
    | true =>
      rw [hb] at h; cases h
      obtain ⟨cs, rfl, hl⟩ := hr
      have := intsOf_rel hp hl
      have e : cs = ⟨p.map (Value.int .i64)⟩ := by
        apply Array.ext'; rw [this]
      exact ⟨p, by simpa using hb, by rw [e], by rw [e]⟩
  · cases h

/-- A key is one that may be held against others. -/
theorem keyV_run {mk : MKd} (hk : MKOK P k mk) {M : Mp} {x : AV} {y v : Value} (h : keyV mk x = some v) (hr : x.rel M y) (w : World) : v = y ∧ ∀ em, (Instr.checkKey em 10000 k y).run P w = .ok () w := by
  unfold keyV at h
  split at h
  · rename_i n
    split at h
    · cases h
      have : y = .int .i64 n := hr
      exact ⟨this.symm, fun em => run_checkInt hk em 9999 y⟩
    · cases h
  · rename_i l
    split at h
    · cases h
    · rename_i n
      obtain ⟨p, hl, e1, e2⟩ := keyN_some h hr
      refine ⟨e2, fun em => ?_⟩
      have hI : Ints P k n := hk
      rw [show (10000 : Nat) = 9999 + 1 from rfl, Instr.checkKey]
      rw [e1]
      simp only [Sem.run_bind, run_underlying hI.und, Result.andThen_ok]
      rw [← Array.forIn_toList]
      have key : ∀ (fs : List Field) (j : Nat), (∀ (i : Nat) (f : Field), fs[i]? = some f → f.name ≠ "_" ∧ P.underlying f.type = some (.int .i64) ∧ Sh P f.type = some (false, 1) ∧ f.offset = j + i) → j + fs.length = n →
          (forIn fs PUnit.unit fun f _ =>
            if f.name ≠ "_" then do
              let v ← part f.type ⟨p.map (Value.int .i64)⟩ f.offset
              Instr.checkKey em 9999 f.type v
              pure (ForInStep.yield PUnit.unit)
            else pure (ForInStep.yield PUnit.unit) : Sem PUnit).run P w = .ok PUnit.unit w := by
        intro fs
        induction fs with
        | nil => intro j _ _; simp
        | cons f fs ih =>
          intro j hf hj
          simp only [List.length_cons] at hj
          obtain ⟨h1, h2, h3, h4⟩ := hf 0 f rfl
          have hjl : j < p.length := by omega
          have p1 : (part f.type ⟨p.map (Value.int .i64)⟩ f.offset).run P w = .ok (.int .i64 p[j]) w := by
            have : (⟨p.map (Value.int .i64)⟩ : Array Value)[f.offset]? = some (.int .i64 p[j]) := by
              rw [h4, ← Array.getElem?_toList]; simp [hjl]
            simp [part, (Sh_isAgg h3 w).1, this]
          have p2 := run_checkInt (w := w) h2 em 9998 (.int .i64 p[j])
          have p4 := ih (j + 1) (fun i f' hf' => by
            have := hf (i + 1) f' (by simpa using hf')
            refine ⟨this.1, this.2.1, this.2.2.1, by rw [this.2.2.2]; omega⟩) (by omega)
          simp only [List.forIn_cons, h1, ne_eq, not_false_eq_true, if_true, Sem.run_bind, p1, p2, Result.andThen_ok, Sem.run_pure]
          exact p4
      have h := key (P.fieldsOf k).toList 0 (fun i f hf => by
        have := hI.at_ i f (by simpa using hf)
        simpa using this) (by simp [hI.len])
      rw [h]
      simp
    · rename_i n
      obtain ⟨p, hl, e1, e2⟩ := keyN_some h hr
      refine ⟨e2, fun em => ?_⟩
      obtain ⟨e, hu, he, hs⟩ := hk
      rw [show (10000 : Nat) = 9999 + 1 from rfl, Instr.checkKey]
      rw [e1]
      simp only [Sem.run_bind, run_underlying hu, Result.andThen_ok]
      simp only [Std.Legacy.Range.forIn_eq_forIn_range', Std.Legacy.Range.size, Nat.sub_zero, Nat.add_one_sub_one, Nat.div_one]
      have each : ∀ i ∈ List.range' 0 n, i < p.length := fun i hi => by
        have := List.mem_range'.1 hi
        omega
      generalize List.range' 0 n = is at each
      induction is with
      | nil => simp
      | cons j is ih =>
        have hj := each j (by simp)
        have p1 : (part e ⟨p.map (Value.int .i64)⟩ (j * 1)).run P w = .ok (.int .i64 p[j]) w := by
          simp [part, (Sh_isAgg hs w).1, hj]
        have p2 := run_checkInt (w := w) he em 9998 (.int .i64 p[j])
        have p3 := (Sh_isAgg hs w).2
        simp only [List.forIn_cons, Sem.run_bind, p3, Result.andThen_ok, p1, p2, Sem.run_pure]
        exact ih (fun y hy => each y (by simp [hy]))
  · cases h

theorem findKey_nil {mk : MKd} (hk : MKOK P k mk) (v : Value) (w : World) : (Instr.findKey k v []).run P w = .ok none w := by
  have h : ∃ d, P.underlying k = some d := by
    cases mk with
    | i => exact ⟨_, hk⟩
    | st n => have hI : Ints P k n := hk; exact ⟨_, hI.und⟩
    | ar n => obtain ⟨e, h, _⟩ := hk; exact ⟨_, h⟩
  obtain ⟨d, h⟩ := h
  simp [Instr.findKey, run_underlying h, Instr.findNow]

def findI (n : Int) : List (Value × A0) → Option (Option A0)
  | [] => some none
  | e :: l => match e.1 with
    | .int .i64 m => bif decide (n = m) then some (some e.2) else findI n l
    | _ => none

theorem findI_run {M : Mp} {n : Int} : ∀ {l : List (Value × A0)} {es : List MapEntry} {r : Option A0}, findI n l = some r → relM M l es → ∀ i, ∃ q, Instr.findNow (.int .i64) (.int .i64 n) es i = some q ∧ ((r = none ∧ q = none) ∨ ∃ x j y, r = some x ∧ q = some (j, y) ∧ x.rel M y)
  | [], [], r, h, _, i => by cases h; exact ⟨none, rfl, .inl ⟨rfl, rfl⟩⟩
  | _ :: _, [], _, _, h, _ => h.elim
  | [], _ :: _, _, _, h, _ => h.elim
  | a :: l, b :: es, r, h, hr, i => by
    obtain ⟨⟨h1, h2⟩, h3⟩ := hr
    unfold findI at h
    split at h
    · rename_i m hm
      rw [hm] at h1
      cases hd : decide (n = m) with
      | true =>
        rw [hd] at h; cases h
        have : n = m := by simpa using hd
        refine ⟨some (i, b.val), ?_, .inr ⟨a.2, i, b.val, rfl, rfl, h2⟩⟩
        simp [Instr.findNow, Instr.sameNow, h1, this]
      | false =>
        rw [hd] at h
        have hne : n ≠ m := by simpa using hd
        obtain ⟨q, g1, g2⟩ := findI_run h h3 (i + 1)
        refine ⟨q, ?_, g2⟩
        have hb : (n == m) = false := by simpa using hne
        simp only [Instr.findNow, Instr.sameNow, h1, if_true, hb]
        exact g1
    · cases h

/-! ### Lookups -/
def lookL (z : Value) (key : Value) (l : List (Value × A0)) : Option AV :=
  match l with
  | [] => some (.s (.v z))
  | _ :: _ => match key with
    | .int .i64 n => (match findI n l with
      | some (some x) => some (.o x)
      | some none => some (.s (.v z))
      | none => none)
    | _ => none

noncomputable def lookQ (mk : MKd) (z : Value) (d : Nat) (v kk : AV) : Q Rs := match v with
  | .o (.s (.m i u)) => askB i fun B => match B.con, verHi B.vs u with
    | .m l, some _ => (match keyV mk kk with
      | some key => .ret (rs1 d (lookL z key l))
      | none => .ret none)
    | _, _ => .ret none
  | _ => .ret none

theorem idsM_find {n : Int} {p : Nat × Nat} : ∀ {l : List (Value × A0)} {x : A0}, findI n l = some (some x) → p ∈ x.ids → p ∈ idsM l
  | [], _, h, _ => by cases h
  | a :: l, x, h, hp => by
    unfold findI at h
    split at h
    · rename_i m hm
      cases hd : decide (n = m) with
      | true => rw [hd] at h; cases h; simp [idsM, hp]
      | false => rw [hd] at h; simp [idsM, idsM_find h hp]
    · cases h

theorem b_look {mk : MKd} {zv : Value} (ht : P.underlying t = some (.map k e)) (hk : MKOK P k mk) (hz : ∀ w, (zeroValue e).run P w = .ok zv w) (hd : d < N) : OpB P N ⟨some d, .lookup t x y false, ty, pos, af, g⟩ (askX x fun v => askX y fun kk => lookQ mk zv d v kk) := by
  intro c τ a w hr u hu K Q' hK
  obtain ⟨M, hh⟩ := hr
  obtain ⟨v, hx, hu⟩ := askX_some hu
  obtain ⟨kk, hy, hu⟩ := askX_some hu
  have hv := ev_rel hh hx
  have hkk := ev_rel hh hy
  unfold lookQ at hu
  split at hu
  · rename_i i u' _
    have h2 := askB_some hu
    clear hu
    obtain ⟨B, hB, hu⟩ := h2
    split at hu
    · rename_i l hi hc hhi
      split at hu
      · rename_i key hkey
        obtain ⟨r, hr, rfl⟩ := rs1_some hu
        obtain ⟨es, ck, h1, h2⟩ := hh.map hB hc hhi
        have e1 : a.eval x = .map (some (M.β i u').1) := hv
        obtain ⟨h3, h4⟩ := keyV_run hk hkey hkk w
        unfold lookL at hr
        split at hr
        · cases hr
          have hes : es = #[] := by
            obtain ⟨l⟩ := es
            cases l with
            | nil => rfl
            | cons _ _ => exact h2.elim
          subst hes
          have hex : (execOp a.eval ⟨some d, .lookup t x y false, ty, pos, af, g⟩).run P w = .ok (.value zv) w := by
            simp [execOp, e1, Instr.lookup, run_underlying ht, MapKept.run_getObj_map h1, h4, findKey_nil hk, hz]
          exact OpB.value (av := .s (.v zv)) hh rfl hd hex rfl (fun p hp => nov hp) hK
        · rename_i hd0 tl0 
          split at hr
          · rename_i n
            have hki : P.underlying k = some (.int .i64) := by
              cases mk with
              | i => exact hk
              | st m =>
                exfalso
                unfold keyV at hkey
                split at hkey
                · cases hkey
                · obtain ⟨p, _, _, e2⟩ := keyN_some hkey hkk
                  rw [← e2] at hkk
                  obtain ⟨cs, e, _⟩ := hkk
                  cases e
                · cases hkey
              | ar m =>
                exfalso
                unfold keyV at hkey
                split at hkey
                · cases hkey
                · obtain ⟨p, _, _, e2⟩ := keyN_some hkey hkk
                  rw [← e2] at hkk
                  obtain ⟨cs, e, _⟩ := hkk
                  cases e
                · cases hkey
            have hfind : ∀ q, Instr.findNow (.int .i64) (.int .i64 n) es.toList 0 = some q → (Instr.findKey k (a.eval y) es.toList).run P w = .ok q w := fun q hq => by
              rw [← h3]
              simp [Instr.findKey, run_underlying hki, hq]
            split at hr
            · rename_i x0 hf
              cases hr
              obtain ⟨q, g1, g2⟩ := findI_run hf h2 0
              rcases g2 with ⟨g2, _⟩ | ⟨x1, j, y1, g2, g3, g4⟩
              · cases g2
              · cases g2
                have hex : (execOp a.eval ⟨some d, .lookup t x y false, ty, pos, af, g⟩).run P w = .ok (.value y1) w := by
                  simp [execOp, e1, Instr.lookup, run_underlying ht, MapKept.run_getObj_map h1, h4, hfind q g1, g3]
                exact OpB.value (av := .o x0) hh rfl hd hex g4 (fun p hp => hh.named _ _ hB p (by show p ∈ B.con.ids; rw [hc]; exact idsM_find hf hp)) hK
            · rename_i hf
              cases hr
              obtain ⟨q, g1, g2⟩ := findI_run hf h2 0
              rcases g2 with ⟨_, g2⟩ | ⟨x1, j, y1, g2, g3, g4⟩
              · have hex : (execOp a.eval ⟨some d, .lookup t x y false, ty, pos, af, g⟩).run P w = .ok (.value zv) w := by
                  simp [execOp, e1, Instr.lookup, run_underlying ht, MapKept.run_getObj_map h1, h4, hfind q g1, g2, hz]
                exact OpB.value (av := .s (.v zv)) hh rfl hd hex rfl (fun p hp => nov hp) hK
              · cases g2
            · cases hr
          · cases hr
      · cases hu
    · cases hu
  · cases hu

/-! ### The number of entries -/
noncomputable def lenMQ (d : Nat) (v : AV) : Q Rs := match v with
  | .o (.s (.m i u)) => askB i fun B => match B.con, verHi B.vs u with
    | .m l, some _ => .ret (some [(.s d, .x (.int (.ofNat l.length)))])
    | _, _ => .ret none
  | _ => .ret none

theorem relM_len {M : Mp} : ∀ {l : List (Value × A0)} {es : List MapEntry}, relM M l es → l.length = es.length
  | [], [], _ => rfl
  | _ :: _, [], h => h.elim
  | [], _ :: _, h => h.elim
  | _ :: l, _ :: es, h => by simp [relM_len h.2]

theorem b_lenM (ht : P.underlying t = some (.map k e)) (hd : d < N) : OpB P N ⟨some d, .call ⟨.builtin .len, #[x], #[t]⟩, ty, pos, af, g⟩ (askX x fun v => lenMQ d v) := by
  intro c τ a w hr u hu K Q' hK
  obtain ⟨M, hh⟩ := hr
  obtain ⟨v, hx, hu⟩ := askX_some hu
  have hv := ev_rel hh hx
  unfold lenMQ at hu
  split at hu
  · rename_i i u'
    have h2 := askB_some hu
    clear hu
    obtain ⟨B, hB, hu⟩ := h2
    split at hu
    · rename_i l hi hc hhi
      cases hu
      obtain ⟨es, ck, h1, h2⟩ := hh.map hB hc hhi
      have e1 : a.eval x = .map (some (M.β i u').1) := hv
      have hlen := relM_len h2
      have hex : (execOp a.eval ⟨some d, .call ⟨.builtin .len, #[x], #[t]⟩, ty, pos, af, g⟩).run P w = .ok (.value (.int .i64 (l.length : Int))) w := by
        rw [hlen]
        simp [execOp, resolve, invoke, builtin, e1, Builtin.len_, run_underlying ht, MapKept.run_getObj_map h1, goInt]
      exact OpB.value (av := .int (.ofNat l.length)) hh rfl hd hex rfl (fun p hp => nov hp) hK
    · cases hu
  · cases hu

/-! ### Entries put in -/
def updL (key : Value) (x : A0) (l : List (Value × A0)) : Option (List (Value × A0)) :=
  match l with
  | [] => some [(key, x)]
  | _ :: _ => match key with
    | .int .i64 n => (match findI n l with
      | some none => some (l ++ [(key, x)])
      | _ => none)
    | _ => none

noncomputable def updQ (mk : MKd) (v kk u : AV) : Q Rs := match v with
  | .o (.s (.m i u')) => (match u with
    | .o x => askB i fun B => match B.con, B.vs with
      | .m l, [(u1, hi)] => bif Nat.beq u1 u' then (match keyV mk kk with
        | some key => (match updL key x l with
          | some l' => .ret (some [(.b i, .b ⟨B.ty, .m l', [(u1, hi)], B.nx, B.ro⟩)])
          | none => .ret none)
        | none => .ret none) else .ret none
      | _, _ => .ret none
    | .t _ => .ret none)
  | _ => .ret none

theorem relM_append {M : Mp} : ∀ {l l' : List (Value × A0)} {es es' : List MapEntry}, relM M l es → relM M l' es' → relM M (l ++ l') (es ++ es')
  | [], _, [], _, _, h => h
  | _ :: _, _, [], _, h, _ => h.elim
  | [], _, _ :: _, _, h, _ => h.elim
  | _ :: _, _, _ :: _, _, h, h' => ⟨h.1, relM_append h.2 h'⟩

theorem idsM_append {l l' : List (Value × A0)} : idsM (l ++ l') = idsM l ++ idsM l' := by
  induction l with
  | nil => rfl
  | cons a l ih => simp [idsM, ih]

theorem b_upd {mk : MKd} (ht : P.underlying t = some (.map k e)) (hk : MKOK P k mk) : OpB P N ⟨none, .mapUpdate t x y z, ty, pos, af, g⟩ (askX x fun v => askX y fun kk => askX z fun u => updQ mk v kk u) := by
  intro c τ a w hr u hu K Q' hK
  obtain ⟨M, hh⟩ := hr
  obtain ⟨v, hx, hu⟩ := askX_some hu
  obtain ⟨kk, hy, hu⟩ := askX_some hu
  obtain ⟨v3, hz, hu⟩ := askX_some hu
  have hv := ev_rel hh hx
  have hkk := ev_rel hh hy
  have hv3 := ev_rel hh hz
  have hn3 := ev_named hh hz
  unfold updQ at hu
  split at hu
  · rename_i i u' _ _
    split at hu
    · rename_i x3
      have h2 := askB_some hu
      clear hu
      obtain ⟨B, hB, hu⟩ := h2
      split at hu
      · rename_i l u1 hi hc hvs
        cases hb : Nat.beq u1 u' with
        | false => rw [hb] at hu; cases hu
        | true =>
          rw [hb] at hu
          have hu1 : u1 = u' := by simpa using hb
          simp only [cond_true] at hu
          split at hu
          · rename_i key hkey
            split at hu
            · rename_i l' hl'
              cases hu
              have hhi : verHi B.vs u' = some hi := by rw [hvs]; simp [verHi, hb]
              obtain ⟨es, ck, h1, h2⟩ := hh.map hB hc hhi
              have hold := hh.blks i B hB
              have hue := verHi_mem hhi
              have e1 : a.eval x = .map (some (M.β i u').1) := hv
              obtain ⟨h3, h4⟩ := keyV_run hk hkey hkk w
              have key2 : (Instr.findKey k (a.eval y) es.toList).run P w = .ok none w ∧ l' = l ++ [(key, x3)] := by
                unfold updL at hl'
                split at hl'
                · cases hl'
                  have hes : es = #[] := by
                    obtain ⟨l⟩ := es
                    cases l with
                    | nil => rfl
                    | cons _ _ => exact h2.elim
                  subst hes
                  exact ⟨findKey_nil hk _ _, rfl⟩
                · split at hl'
                  · rename_i n
                    have hki : P.underlying k = some (.int .i64) := by
                      cases mk with
                      | i => exact hk
                      | st m =>
                        exfalso
                        unfold keyV at hkey
                        split at hkey
                        · cases hkey
                        · obtain ⟨p, _, _, e2⟩ := keyN_some hkey hkk
                          rw [← e2] at hkk
                          obtain ⟨cs, e, _⟩ := hkk
                          cases e
                        · cases hkey
                      | ar m =>
                        exfalso
                        unfold keyV at hkey
                        split at hkey
                        · cases hkey
                        · obtain ⟨p, _, _, e2⟩ := keyN_some hkey hkk
                          rw [← e2] at hkk
                          obtain ⟨cs, e, _⟩ := hkk
                          cases e
                        · cases hkey
                    split at hl'
                    · rename_i hf
                      cases hl'
                      obtain ⟨q, g1, g2⟩ := findI_run hf h2 0
                      rcases g2 with ⟨_, g2⟩ | ⟨x1, j, y1, g2, _⟩
                      · subst g2
                        refine ⟨?_, rfl⟩
                        rw [← h3]
                        simp [Instr.findKey, run_underlying hki, g1]
                      · cases g2
                    · cases hl'
                  · cases hl'
              obtain ⟨hfind, hl⟩ := key2
              have hex : (execOp a.eval ⟨none, .mapUpdate t x y z, ty, pos, af, g⟩).run P w = .ok .skip { w with heap := w.heap.setIfInBounds (M.β i u').1 (.map (es.push { key := a.eval y, val := a.eval z, born := ck }) (ck + 1)) } := by
                simp [execOp, e1, Instr.mapUpdate, run_underlying ht, MapKept.run_getObj_map h1, h4, hfind, MapKept.run_setObj_map _ h1]
              unfold Oper.wp
              rw [hex]
              have hsz : (M.β i u').1 < w.heap.size := (Array.getElem?_eq_some_iff.1 h1).1
              refine hK _ _ ⟨M, hh.mod hB (M' := M) (w' := { w with heap := w.heap.setIfInBounds (M.β i u').1 (.map (es.push { key := a.eval y, val := a.eval z, born := ck }) (ck + 1)) }) (B' := ⟨B.ty, .m l', [(u1, hi)], B.nx, B.ro⟩) (fun _ _ _ => ⟨rfl, rfl⟩) (Nat.le_refl _)
                (fun b _ hb2 => Array.getElem?_setIfInBounds_ne (fun e => hb2 _ hue e.symm)) (by simp) rfl rfl rfl
                ⟨fun v hv => ?_, fun v hv => ?_, fun v hv v' hv' _ => ?_, fun v hv => ?_⟩ (fun v hv => ?_) (fun p hp => ?_)⟩
              · simp at hv; subst hv; rw [hu1]; exact hold.low _ hue
              · simp at hv; subst hv
                refine ⟨es.push { key := a.eval y, val := a.eval z, born := ck }, ck + 1, ?_, ?_⟩
                · show (w.heap.setIfInBounds _ _)[(M.β i u1).1]? = _
                  rw [hu1]; simp [hsz]
                · rw [hl, Array.toList_push]
                  exact relM_append h2 ⟨⟨h3.symm, hv3⟩, trivial⟩
              · simp at hv hv'; subst hv; subst hv'; rfl
              · simp at hv; subst hv; rw [hu1]; exact hold.zero _ hue
              · simp at hv; subst hv
                exact .inr ⟨_, hue, by rw [hu1]⟩
              · simp only [BC.ids, hl, idsM_append, List.mem_append] at hp
                rcases hp with hp | hp
                · exact hh.named _ _ hB p (by show p ∈ B.con.ids; rw [hc]; exact hp)
                · refine hn3 p ?_
                  show p ∈ x3.ids
                  simpa [idsM] using hp
            · cases hu
          · cases hu
      · cases hu
    · cases hu
  · cases hu

/-! ### Nothing taken out of an empty map -/
noncomputable def delQ (mk : MKd) (v kk : AV) : Q Rs := match v with
  | .o (.s (.m i u)) => askB i fun B => match B.con, verHi B.vs u with
    | .m [], some _ => (match keyV mk kk with
      | some _ => .ret (some [])
      | none => .ret none)
    | _, _ => .ret none
  | _ => .ret none

theorem b_del {mk : MKd} (ht : P.underlying t = some (.map k e)) (hk : MKOK P k mk) : OpB P N ⟨none, .call ⟨.builtin .delete, #[x, y], #[t, t2]⟩, ty, pos, af, g⟩ (askX x fun v => askX y fun kk => delQ mk v kk) := by
  intro c τ a w hr u hu K Q' hK
  obtain ⟨M, hh⟩ := hr
  obtain ⟨v, hx, hu⟩ := askX_some hu
  obtain ⟨kk, hy, hu⟩ := askX_some hu
  have hv := ev_rel hh hx
  have hkk := ev_rel hh hy
  unfold delQ at hu
  split at hu
  · rename_i i u' _
    have h2 := askB_some hu
    clear hu
    obtain ⟨B, hB, hu⟩ := h2
    split at hu
    · rename_i hi hc hhi
      split at hu
      · rename_i key hkey
        cases hu
        obtain ⟨es, ck, h1, h2⟩ := hh.map hB hc hhi
        have hes : es = #[] := by
          obtain ⟨l⟩ := es
          cases l with
          | nil => rfl
          | cons _ _ => exact h2.elim
        subst hes
        have e1 : a.eval x = .map (some (M.β i u').1) := hv
        obtain ⟨h3, h4⟩ := keyV_run hk hkey hkk w
        have hsame : { w with heap := w.heap.setIfInBounds (M.β i u').1 (.map #[] ck) } = w := by
          have hsz : (M.β i u').1 < w.heap.size := (Array.getElem?_eq_some_iff.1 h1).1
          have : w.heap.setIfInBounds (M.β i u').1 (.map #[] ck) = w.heap := by
            apply Array.ext_getElem?
            intro j
            by_cases hj : (M.β i u').1 = j
            · subst hj; rw [h1]; simp [hsz]
            · rw [Array.getElem?_setIfInBounds_ne hj]
          rw [this]
        have hex : (execOp a.eval ⟨none, .call ⟨.builtin .delete, #[x, y], #[t, t2]⟩, ty, pos, af, g⟩).run P w = .ok (.value (.tuple #[])) w := by
          simp [execOp, resolve, invoke, builtin, e1, Builtin.delete_, run_underlying ht, MapKept.run_getObj_map h1, h4, findKey_nil hk, MapKept.run_setObj_map _ h1, hsame]
        unfold Oper.wp
        rw [hex]
        exact hK _ _ ⟨M, hh⟩
      · cases hu
    · cases hu
  · cases hu

/-! ### Interface values held against nil -/
def ifcV (op : BinOp) (x : AV) : Option AV := match x with
  | .o (.s (.v .nilIface)) => (match op with
    | .eql => some (.q true)
    | .neq => some (.q false)
    | _ => none)
  | _ => none

theorem b_ifc {op : BinOp} (ht : P.underlying t = some (.interface (P.methodsAt t))) (hd : d < N) : OpB P N ⟨some d, .binOp op t x (.const .nilIface) t', ty, pos, af, g⟩ (askX x fun v => .ret (rs1 d (ifcV op v))) :=
  OpB.pure1 rfl hd fun c M τ a w hh v hv r hr => by
    unfold ifcV at hr
    split at hr
    · have e1 : a.eval x = .nilIface := hv
      have hg : ∀ o : BinOp, eqGuard o t x (.const .nilIface) .nilIface .nilIface = pure () := fun o => eqGuard_nil_constR _ _ _ _
      have e2 : a.eval (.const .nilIface) = .nilIface := rfl
      split at hr
      · cases hr
        refine ⟨fun p hp => nov hp, .bool true, ?_, rfl⟩
        have := Go.run_eql_nil_nil (P := P) w t ht
        simp [execOp, e1, e2, hg, this]
      · cases hr
        refine ⟨fun p hp => nov hp, .bool false, ?_, rfl⟩
        have := Go.run_neq_nil_nil (P := P) w t ht
        simp [execOp, e1, e2, hg, this]
      · cases hr
    · cases hr

/-! ### Arrays written out -/
def ArrOK (P : Program) (t : TypeId) (sz : Nat) : Prop := ∃ n e i, P.underlying t = some (.array n e) ∧ P.info? e = some i ∧ i.size = sz

noncomputable def buildAV (sz : Nat) (zs : List Value) (vs : List (Nat × AV)) : Option AV :=
  match fillS (fun i => some (i * sz, sz)) (mapV zs) vs with
  | some l => some (.a l)
  | none => none

theorem b_buildA {sz : Nat} {zs : List Value} {parts : Array (Nat × Operand)} (hb : ArrOK P t sz) (hz : zeroOf P t = some zs) (hd : d < N) : OpB P N ⟨some d, .build t parts, ty, pos, af, g⟩ (askL parts.toList fun vs => .ret (rs1 d (buildAV sz zs vs))) := by
  intro c τ a w hr u hu K Q' hK
  obtain ⟨M, hh⟩ := hr
  obtain ⟨vs, hvs, hu⟩ := askL_some hh hu
  obtain ⟨r, hr, rfl⟩ := rs1_some hu
  unfold buildAV at hr
  split at hr
  · rename_i l hl
    cases hr
    obtain ⟨n, e, i, h1, h2, h3⟩ := hb
    obtain ⟨z, g1, g2⟩ := run_zero hz w
    obtain ⟨cs', f1, f2, _, f3⟩ := fillS_run parts.toList vs _ l z.cells hvs hl (by rw [g2]; exact mapV_rel _) (by rw [mapV_ids]; simp)
    have hex : (execOp a.eval ⟨some d, .build t parts, ty, pos, af, g⟩).run P w = .ok (.value (.agg cs')) w := by
      simp [execOp, Instr.build, g1, run_underlying h1, sizeOf, typeInfo, h2, h3, f1]
    exact OpB.value (av := .a l) hh rfl hd (v := .agg cs') hex ⟨cs', rfl, f2⟩ f3 hK
  · cases hr

/-! ### Structs of numbers and of such structs -/
def flatFs (rec : TypeId → Option Nat) : List Field → Nat → Option Nat
  | [], k => some k
  | f :: l, k => bif !(f.name == "_") && Nat.beq f.offset k then (match rec f.type with
    | some n => flatFs rec l (k + n)
    | none => none) else none

def flatN (P : Program) : Nat → TypeId → Option Nat
  | 0, _ => none
  | m + 1, t => match P.underlying t with
    | some (.int .i64) => (match Sh P t with
      | some (false, 1) => some 1
      | _ => none)
    | some (.struct fs) => bif P.stoodInHeld t then none else (match flatFs (flatN P m) fs.toList 0, Sh P t with
      | some k, some (true, n) => bif Nat.beq n k then some k else none
      | _, _ => none)
    | _ => none

abbrev agI (l : List Int) : Value := .agg ⟨l.map (Value.int .i64)⟩

def FlatV (P : Program) (t : TypeId) (l : List Int) (v : Value) : Prop :=
  (P.underlying t = some (.int .i64) ∧ ∃ a, l = [a] ∧ v = .int .i64 a) ∨ (∃ fs, P.underlying t = some (.struct fs) ∧ v = agI l)

theorem flat_part {m n : Nat} (h : flatN P m t = some n) {xs : Array Value} {L : List Int} (hx : xs.toList = L.map (Value.int .i64)) {off : Nat} (hle : off + n ≤ L.length) (w : World) :
    ∃ v, (part t xs off).run P w = .ok v w ∧ FlatV P t ((L.drop off).take n) v := by
  cases m with
  | zero => cases h
  | succ m =>
    unfold flatN at h
    split at h
    · rename_i hu
      split at h
      · rename_i hs
        cases h
        have hl : off < L.length := by omega
        refine ⟨.int .i64 L[off], ?_, .inl ⟨hu, L[off], ?_, rfl⟩⟩
        · have : xs[off]? = some (.int .i64 L[off]) := by
            rw [← Array.getElem?_toList, hx]; simp [hl]
          simp [part, (Sh_isAgg hs w).1, this]
        · rw [List.drop_eq_getElem_cons hl]; rfl
      · cases h
    · rename_i fs hu
      cases hst : P.stoodInHeld t with
      | true => rw [hst] at h; cases h
      | false =>
        rw [hst] at h
        simp only [cond_false] at h
        split at h
        · rename_i k n' hk hs
          cases hb : Nat.beq n' k with
          | false => rw [hb] at h; cases h
          | true =>
            rw [hb] at h; cases h
            have hnk : n' = n := by simpa using hb
            subst hnk
            refine ⟨.agg (xs.extract off (off + n')), ?_, .inr ⟨fs, hu, ?_⟩⟩
            · simp [part, (Sh_isAgg hs w).1, (Sh_isAgg hs w).2]
            · have : xs.extract off (off + n') = ⟨((L.drop off).take n').map (Value.int .i64)⟩ := by
                apply Array.ext'
                rw [Array.toList_extract, hx, List.extract_eq_take_drop]
                simp [List.map_drop, List.map_take]
              rw [this]
        · cases h
    · cases h

theorem flat_eq : ∀ {m : Nat} {t : TypeId} {n : Nat}, flatN P m t = some n → ∀ (d : Nat) (w : World) (l k : List Int) (x y : Value), m ≤ d → l.length = n → k.length = n → FlatV P t l x → FlatV P t k y → (Op.equalIn d t x y).run P w = .ok (decide (l = k)) w
  | 0, _, _, h, _, _, _, _, _, _, _, _, _, _, _ => by cases h
  | m + 1, t, n, h, d, w, l, k, x, y, hd, hl, hk, hx, hy => by
    obtain ⟨d, rfl⟩ : ∃ d', d = d' + 1 := ⟨d - 1, by omega⟩
    unfold flatN at h
    split at h
    · rename_i hu
      rcases hx with ⟨_, a, rfl, rfl⟩ | ⟨fs, hu', _⟩
      · rcases hy with ⟨_, b, rfl, rfl⟩ | ⟨fs, hu', _⟩
        · rw [run_equalIn_int w d t .i64 .i64 a b hu]
          simp only [List.cons.injEq, and_true]
          rw [show (a == b) = decide (a = b) from rfl]
        · rw [hu] at hu'; cases hu'
      · rw [hu] at hu'; cases hu'
    · rename_i fs hu
      rcases hx with ⟨hu', _⟩ | ⟨fs1, hu1, rfl⟩
      · rw [hu] at hu'; cases hu'
      rcases hy with ⟨hu', _⟩ | ⟨fs2, hu2, rfl⟩
      · rw [hu] at hu'; cases hu'
      cases hst : P.stoodInHeld t with
      | true => rw [hst] at h; cases h
      | false =>
        rw [hst] at h
        simp only [cond_false] at h
        split at h
        · rename_i kk n' hkk hs
          cases hb : Nat.beq n' kk with
          | false => rw [hb] at h; cases h
          | true =>
            rw [hb] at h; cases h
            have hf : P.fieldsOf t = fs := by simp [Program.fieldsOf, hu]
            rw [run_equalIn_struct w d t _ _ (by rw [hf]; exact hu) hst, hf]
            have key : ∀ (gs : List Field) (off : Nat), flatFs (flatN P m) gs off = some n → off ≤ n → (Op.eqFields d ⟨l.map (Value.int .i64)⟩ ⟨k.map (Value.int .i64)⟩ gs).run P w = .ok (decide (l.drop off = k.drop off)) w := by
              intro gs
              induction gs with
              | nil =>
                intro off h _
                cases h
                rw [List.drop_of_length_le (by omega), List.drop_of_length_le (by omega)]
                simp [Op.eqFields]
              | cons f gs ih =>
                intro off h hoff
                unfold flatFs at h
                cases hc : !(f.name == "_") && Nat.beq f.offset off with
                | false => rw [hc] at h; cases h
                | true =>
                  rw [hc] at h
                  simp only [Bool.and_eq_true, Bool.not_eq_true'] at hc
                  have h1 : f.name ≠ "_" := by simpa using hc.1
                  have h4 : f.offset = off := by simpa using hc.2
                  simp only [cond_true] at h
                  split at h
                  · rename_i q hq
                    have hmono : ∀ (gs : List Field) (a b : Nat), flatFs (flatN P m) gs a = some b → a ≤ b := by
                      intro gs
                      induction gs with
                      | nil => intro a b h; cases h; exact Nat.le_refl _
                      | cons f gs ih =>
                        intro a b h
                        unfold flatFs at h
                        cases hc : !(f.name == "_") && Nat.beq f.offset a with
                        | false => rw [hc] at h; cases h
                        | true =>
                          rw [hc] at h
                          simp only [cond_true] at h
                          split at h
                          · have := ih _ _ h; omega
                          · cases h
                    have hle := hmono _ _ _ h
                    obtain ⟨v1, p1, f1⟩ := flat_part hq (xs := ⟨l.map (Value.int .i64)⟩) (L := l) rfl (off := off) (by omega) w
                    obtain ⟨v2, p2, f2⟩ := flat_part hq (xs := ⟨k.map (Value.int .i64)⟩) (L := k) rfl (off := off) (by omega) w
                    have p3 := flat_eq hq d w _ _ _ _ (by omega) (by simp; omega) (by simp; omega) f1 f2
                    have p4 := ih (off + q) h (by omega)
                    have e1 : l.drop off = (l.drop off).take q ++ l.drop (off + q) := by
                      rw [← List.drop_drop]; exact (List.take_append_drop q (l.drop off)).symm
                    have e2 : k.drop off = (k.drop off).take q ++ k.drop (off + q) := by
                      rw [← List.drop_drop]; exact (List.take_append_drop q (k.drop off)).symm
                    have hg : decide (l.drop off = k.drop off) = (decide ((l.drop off).take q = (k.drop off).take q) && decide (l.drop (off + q) = k.drop (off + q))) := by
                      rw [Bool.eq_iff_iff]
                      simp only [decide_eq_true_eq, Bool.and_eq_true]
                      constructor
                      · intro h
                        refine ⟨by rw [h], ?_⟩
                        have := congrArg (List.drop q) h
                        simpa [List.drop_drop] using this
                      · intro ⟨h1, h2⟩
                        rw [e1, e2, h1, h2]
                    rw [hg]
                    rw [← h4] at p1 p2
                    simp only [Op.eqFields, h1, ne_eq, not_false_eq_true, if_true, Sem.run_bind, p1, p2, p3, Result.andThen_ok]
                    cases decide ((l.drop off).take q = (k.drop off).take q) with
                    | true => simp [p4]
                    | false => simp
                  · cases h
            have := key fs.toList 0 hkk (Nat.zero_le _)
            simpa using this
        · cases h
    · cases h

structure IntsF (P : Program) (t : TypeId) (n : Nat) : Prop where
  und : ∃ fs, P.underlying t = some (.struct fs)
  guard : P.eqGuardType P.depth t = false
  flat : flatN P 100 t = some n

theorem b_seqF {n : Nat} {op : BinOp} (hI : IntsF P t n) (hd : d < N) : OpB P N ⟨some d, .binOp op t x y t', ty, pos, af, g⟩ (askX x fun v => askX y fun u => .ret (rs1 d (seqV n op v u))) :=
  OpB.pure2 rfl hd fun c M τ a w hh v u hv hu r hr => by
    unfold seqV at hr
    split at hr
    · rename_i l m
      split at hr
      · rename_i p q hp hq
        cases hc : Nat.beq p.length n && Nat.beq q.length n with
        | false => rw [hc] at hr; cases hr
        | true =>
          rw [hc] at hr
          simp only [Bool.and_eq_true] at hc
          have l1 : p.length = n := by simpa using hc.1
          have l2 : q.length = n := by simpa using hc.2
          obtain ⟨xs, ex, hx⟩ := hv
          obtain ⟨ys, ey, hy⟩ := hu
          have gx : xs = ⟨p.map (Value.int .i64)⟩ := by apply Array.ext'; rw [intsOf_rel hp hx]
          have gy : ys = ⟨q.map (Value.int .i64)⟩ := by apply Array.ext'; rw [intsOf_rel hq hy]
          obtain ⟨fs, hfs⟩ := hI.und
          have heq : (Op.equalIn 10000 t (.agg xs) (.agg ys)).run P w = .ok (decide (p = q)) w :=
            flat_eq hI.flat 10000 w p q _ _ (by omega) l1 l2 (.inr ⟨fs, hfs, by rw [gx]⟩) (.inr ⟨fs, hfs, by rw [gy]⟩)
          have hg : ∀ o, (eqGuard o t x y (.agg xs) (.agg ys)).run P w = .ok () w := fun o => by
            cases o <;> simp [eqGuard, hI.guard]
          simp only [cond_true] at hr
          split at hr
          · cases hr
            refine ⟨fun p hp => nov hp, .bool (decide (p = q)), ?_, rfl⟩
            simp [execOp, ex, ey, hg, binOp, Op.equal, Op.maxDepth, heq]
          · cases hr
            refine ⟨fun p hp => nov hp, .bool (!decide (p = q)), ?_, rfl⟩
            simp [execOp, ex, ey, hg, binOp, Op.equal, Op.maxDepth, heq]
          · cases hr
      · cases hr
    · cases hr

end
end DX
end Go.Proofs.YtmfljpjdpfbfoaaGreatDoor
