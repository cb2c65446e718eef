/- A deterministic evaluator of the model's code, part u: loops over texts and over empty maps; bytes of a text; maps looked up and written; interface values held against nil. -/
import Derived.Test.YtmfljpjdpfbfoaaGreatDoorDj
import Derived.Laws.RangeString
import Derived.Laws.AppendOwn
import Derived.MapKept
import Derived.Lib.ConvBytes
import Derived.WideLaws
namespace Go.Proofs.YtmfljpjdpfbfoaaGreatDoor
namespace DX

section
variable {P : Program} {N : Nat} {τ : St}
variable {d id : Nat} {x y z : Operand} {t t2 t' u ty : TypeId} {pos : String} {af : Array Edge} {g : Option (Nat × Bool)}

/-! ### Loops over texts and over empty maps -/
/-- A new block that is no cells. -/
theorem Holds.it {c : Ctx} {M : Mp} {a : Act} {w w' : World} (hh : Holds N c M τ a w) (hn : τ (.b id) = none) {o : Obj} (hp : Pushed w o w') {C : BC} (hC : C.at (M.set id 0 (w.heap.size, 0) 0) w' id 0 0 false 0) (hids : ∀ p ∈ C.ids, nm τ p) :
    Holds N c (M.set id 0 (w.heap.size, 0) 0) (τ.ap [(.b id, .b ⟨0, C, [(0, 0)], 1, false⟩)]) a w' := by
  refine hh.new hn (fun j u hj => Mp.set_ne (.inl hj)) (fun j u hl => hp.old (hh.lt hl)) (fun b h1 _ => hp.old (Nat.lt_of_lt_of_le h1 hh.grows)) (by rw [hp.size]; omega) hp.os hp.tape hp.output ⟨?_, ?_, ?_, ?_⟩ ?_ hids
  · intro v hv; simp at hv; subst hv; exact Nat.one_pos
  · intro v hv
    simp at hv; subst hv
    exact hC
  · intro v hv v' hv' _; simp at hv hv'; subst hv; subst hv'; rfl
  · intro v hv; simp at hv; subst hv; simp only [Mp.set_at]
  · intro v hv; simp at hv; subst hv; left; simp only [Mp.set_at]; exact Nat.le_refl _

/-- And a pointer to it. -/
theorem it_fin {c : Ctx} {M : Mp} {a : Act} {w w' : World} (hh : Holds N c M τ a w) (hd : d < N) (hn : τ (.b id) = none) {o : Obj} (hp : Pushed w o w') {C : BC} (hC : C.at (M.set id 0 (w.heap.size, 0) 0) w' id 0 0 false 0) (hids : ∀ p ∈ C.ids, nm τ p)
    {op : Op} (hex : (execOp a.eval ⟨some d, op, ty, pos, af, g⟩).run P w = .ok (.value (.pointer (some ⟨w.heap.size, 0, none⟩))) w')
    {K : Act → World → Prop} {Q' : Exit → Act → World → Prop} (hK : ∀ a' w', Rel N c (τ.ap [(.s d, .x (.s (.p id 0 0 1 0))), (.b id, .b ⟨0, C, [(0, 0)], 1, false⟩)]) a' w' → K a' w') : Oper.wp P ⟨some d, op, ty, pos, af, g⟩ a w K Q' := by
  unfold Oper.wp
  rw [hex]
  show K (a.put (some d) _) _
  refine hK _ _ ⟨_, (hh.it hn hp hC hids).put hd (av := .s (.p id 0 0 1 0)) (v := .pointer (some ⟨w.heap.size, 0, none⟩)) ?_ (fun p hp => ?_)⟩
  · show _ = _; simp only [Mp.set_at]
  · simp [AV.ids, A0.ids, SV.ids] at hp; subst hp
    exact .inr ⟨_, by rw [ap1, if_pos rfl], Nat.one_pos⟩

noncomputable def rangeSQ (id d : Nat) (v : AV) : Q Rs := match v with
  | .o (.s (.v (.string s))) => askN id (.ret (some [(.s d, .x (.s (.p id 0 0 1 0))), (.b id, .b ⟨0, .si s 0, [(0, 0)], 1, false⟩)]))
  | _ => .ret none

theorem b_rangeS (ht : P.underlying t = some .string) (hd : d < N) : OpB P N ⟨some d, .range t x, ty, pos, af, g⟩ (askX x fun v => rangeSQ id d v) := by
  intro c τ a w hr u hu K Q' hK
  obtain ⟨M, hh⟩ := hr
  obtain ⟨v, hx, hu⟩ := askX_some hu
  have hv := ev_rel hh hx
  unfold rangeSQ at hu
  split at hu
  · rename_i s
    obtain ⟨hn, hu⟩ := askN_some hu
    cases hu
    have e : a.eval x = .string s := hv
    have hp : Pushed w (.stringIter s 0) { w with heap := w.heap.push (.stringIter s 0) } := ⟨rfl, rfl, rfl, rfl⟩
    refine it_fin hh hd hn hp (C := .si s 0) ?_ (fun p hp => by cases hp) ?_ hK
    · show _ = _
      simp only [Mp.set_at]; exact hp.new
    · simp [execOp, e, Instr.range, run_underlying ht, newObj]
      rfl
  · cases hu

noncomputable def rangeMQ (id d : Nat) (v : AV) : Q Rs := match v with
  | .o (.s (.m i u)) => askB i fun B => match B.con, verHi B.vs u with
    | .m _, some _ => askN id (.ret (some [(.s d, .x (.s (.p id 0 0 1 0))), (.b id, .b ⟨0, .mi i u, [(0, 0)], 1, false⟩)]))
    | _, _ => .ret none
  | _ => .ret none

/-- What is known of a map. -/
theorem Holds.map {c : Ctx} {M : Mp} {a : Act} {w : World} (hh : Holds N c M τ a w) {i u hi : Nat} {B : Blk} {l : List (Value × A0)} (hB : τ (.b i) = some (.b B)) (hc : B.con = .m l) (hv : verHi B.vs u = some hi) :
    ∃ es ck, w.heap[(M.β i u).1]? = some (.map es ck) ∧ relM M l es.toList := by
  have h1 := (hh.blks i B hB).at_ _ (verHi_mem hv)
  rw [hc] at h1
  exact h1

theorem b_rangeM {k e : TypeId} (ht : P.underlying t = some (.map k e)) (hd : d < N) : OpB P N ⟨some d, .range t x, ty, pos, af, g⟩ (askX x fun v => rangeMQ id d v) := by
  intro c τ a w hr u hu K Q' hK
  obtain ⟨M, hh⟩ := hr
  obtain ⟨v, hx, hu⟩ := askX_some hu
  have hv := ev_rel hh hx
  unfold rangeMQ at hu
  split at hu
  · rename_i i u'
    obtain ⟨B, hB, hu⟩ := askB_some hu
    split at hu
    · rename_i l hi hc hhi
      obtain ⟨hn, hu⟩ := askN_some hu
      cases hu
      obtain ⟨es, ck, h1, _⟩ := hh.map hB hc hhi
      have e : a.eval x = .map (some (M.β i u').1) := hv
      have hnm : nm τ (i, u') := ev_named hh hx (i, u') (by simp [AV.ids, A0.ids, SV.ids])
      have hne : i ≠ id := fun e => by rw [e, hn] at hB; cases hB
      have hp : Pushed w (.mapIter (some (M.β i u').1) ck #[] ck) { w with heap := w.heap.push (.mapIter (some (M.β i u').1) ck #[] ck) } := ⟨rfl, rfl, rfl, rfl⟩
      refine it_fin hh hd hn hp (C := .mi i u') ?_ (fun p hp => by simp [BC.ids] at hp; subst hp; exact hnm) ?_ hK
      · refine ⟨ck, ck, ?_⟩
        have e1 := (Mp.set_ne (M := M) (i := id) (u := 0) (b := (w.heap.size, 0)) (z := 0) (j := i) (v := u') (.inl hne)).1
        simp only at e1
        simp only [Mp.set_at, e1]; exact hp.new
      · simp [execOp, e, Instr.range, run_underlying ht, MapKept.run_getObj_map h1, newObj]
        rfl
    · cases hu
  · cases hu

noncomputable def nextSQ (d : Nat) (v : AV) : Q Rs := match v with
  | .o (.s (.p i u k sz j)) => bif Nat.beq (k * sz + j) 0 then askB i fun B => match B.con, B.vs with
    | .si s p, [(u', hi)] => bif Nat.beq u' u then (match nthB s.data.toList p with
      | some b => bif Nat.blt b.toNat 128 then .ret (forceN (Nat.succ p) fun p' => some [(.s d, .x (.t [.s (.v (.bool true)), .s (.v (.int .i64 (.ofNat p))), .s (.v (.int .i32 (.ofNat b.toNat)))])), (.b i, .b ⟨B.ty, .si s p', [(u', hi)], B.nx, B.ro⟩)]) else .ret none
      | none => .ret (some [(.s d, .x (.t [.s (.v (.bool false))]))])) else .ret none
    | _, _ => .ret none
    else .ret none
  | _ => .ret none

theorem b_nextS (hd : d < N) : OpB P N ⟨some d, .next x true, ty, pos, af, g⟩ (askX x fun v => nextSQ d v) := by
  intro c τ a w hr u hu K Q' hK
  obtain ⟨M, hh⟩ := hr
  obtain ⟨v, hx, hu⟩ := askX_some hu
  have hv := ev_rel hh hx
  unfold nextSQ at hu
  split at hu
  · rename_i i u' k sz j
    cases hb0 : Nat.beq (k * sz + j) 0 with
    | false => rw [hb0] at hu; cases hu
    | true =>
      rw [hb0] at hu
      have hz0 : k * sz + j = 0 := by simpa using hb0
      simp only [cond_true] at hu
      have h2 := askB_some hu
      clear hu
      obtain ⟨B, hB, hu⟩ := h2
      have e : a.eval x = .pointer (some ⟨(M.β i u').1, (M.β i u').2 + (k * sz + j), none⟩) := hv
      split at hu
      · rename_i s p u1 hi hc hvs
        cases hb1 : Nat.beq u1 u' with
        | false => rw [hb1] at hu; cases hu
        | true =>
          rw [hb1] at hu
          have : u1 = u' := by simpa using hb1
          subst this
          have hold := hh.blks i B hB
          have hue : (u1, hi) ∈ B.vs := by rw [hvs]; simp
          have hat : w.heap[(M.β i u1).1]? = some (.stringIter s p) := by
            have := hold.at_ _ hue
            rw [hc] at this
            exact this
          have hzero := hold.zero _ hue
          simp only at hzero
          rw [hz0, hzero] at e
          simp only [Nat.add_zero] at e
          simp only [cond_true] at hu
          split at hu
          · rename_i b hb
            rw [nthB_eq] at hb
            cases hlt : Nat.blt b.toNat 128 with
            | false => rw [hlt] at hu; cases hu
            | true =>
              rw [hlt] at hu
              have hlt := blt_iff.1 hlt
              simp only [cond_true, Q.run, forceN_eq] at hu
              cases hu
              have hps : p < s.size := by
                have := (List.getElem?_eq_some_iff.1 hb).1
                simpa using this
              have hsb : s[p]'hps = b := by
                obtain ⟨h3, h4⟩ := List.getElem?_eq_some_iff.1 hb
                rw [← h4]; simp; rfl
              have hdec := decode_ascii s p hps (by rw [hsb]; exact hlt)
              rw [hsb] at hdec
              have hex : (execOp a.eval ⟨some d, .next x true, ty, pos, af, g⟩).run P w = .ok (.value (.tuple #[.bool true, .int .i64 (p : Int), .int .i32 (b.toNat : Int)])) { w with heap := w.heap.setIfInBounds (M.β i u1).1 (.stringIter s (p + 1)) } := by
                simp [execOp, e, Instr.next, getObj, setObj, Sem.run, hat, hps, hdec, goInt]
              unfold Oper.wp
              rw [hex]
              show K (a.put (some d) _) _
              have hsz : (M.β i u1).1 < w.heap.size := (Array.getElem?_eq_some_iff.1 hat).1
              have hmod := hh.mod hB (M' := M) (w' := { w with heap := w.heap.setIfInBounds (M.β i u1).1 (.stringIter s (p + 1)) }) (B' := ⟨B.ty, .si s (p + 1), [(u1, hi)], B.nx, B.ro⟩) (fun _ _ _ => ⟨rfl, rfl⟩) (Nat.le_refl _)
                (fun b _ hb2 => Array.getElem?_setIfInBounds_ne (fun e => hb2 _ hue e.symm)) (by simp) rfl rfl rfl
                ⟨fun v hv => by simp at hv; subst hv; exact hold.low _ hue, fun v hv => by
                  simp at hv; subst hv
                  show (w.heap.setIfInBounds (M.β i u1).1 (.stringIter s (p + 1)))[(M.β i u1).1]? = _
                  simp [hsz], fun v hv v' hv' _ => by simp at hv hv'; subst hv; subst hv'; rfl, fun v hv => by simp at hv; subst hv; exact hzero⟩
                (fun v hv => .inr ⟨_, hue, by simp at hv; subst hv; rfl⟩) (fun p hp => by cases hp)
              have := hmod.put hd (av := .t [.s (.v (.bool true)), .s (.v (.int .i64 (.ofNat p))), .s (.v (.int .i32 (.ofNat b.toNat)))]) (v := .tuple #[.bool true, .int .i64 (p : Int), .int .i32 (b.toNat : Int)]) ⟨_, rfl, rfl, rfl, rfl, trivial⟩ (fun p hp => by simp [AV.ids, idsT, A0.ids, SV.ids] at hp)
              exact hK _ _ ⟨M, this⟩
          · rename_i hb
            rw [nthB_eq] at hb
            cases hu
            have hps : ¬ p < s.size := by
              have := List.getElem?_eq_none_iff.1 hb
              simp at this; omega
            have hex : (execOp a.eval ⟨some d, .next x true, ty, pos, af, g⟩).run P w = .ok (.value (.tuple #[.bool false])) w := by
              simp [execOp, e, Instr.next, getObj, Sem.run, hat, hps]
            exact OpB.value (av := .t [.s (.v (.bool false))]) hh rfl hd hex ⟨_, rfl, rfl, trivial⟩ (fun p hp => by simp [AV.ids, idsT, A0.ids, SV.ids] at hp) hK
      · cases hu
  · cases hu

noncomputable def nextMQ (d : Nat) (v : AV) : Q Rs := match v with
  | .o (.s (.p i u k sz j)) => bif Nat.beq (k * sz + j) 0 then askB i fun B => match B.con, verHi B.vs u with
    | .mi i' u', some _ => askB i' fun B' => match B'.con, verHi B'.vs u' with
      | .m [], some _ => .ret (some [(.s d, .x (.t [.s (.v (.bool false))]))])
      | _, _ => .ret none
    | _, _ => .ret none
    else .ret none
  | _ => .ret none

theorem b_nextM (hd : d < N) : OpB P N ⟨some d, .next x false, ty, pos, af, g⟩ (askX x fun v => nextMQ d v) := by
  intro c τ a w hr u hu K Q' hK
  obtain ⟨M, hh⟩ := hr
  obtain ⟨v, hx, hu⟩ := askX_some hu
  have hv := ev_rel hh hx
  unfold nextMQ at hu
  split at hu
  · rename_i i u' k sz j
    cases hb0 : Nat.beq (k * sz + j) 0 with
    | false => rw [hb0] at hu; cases hu
    | true =>
      rw [hb0] at hu
      have hz0 : k * sz + j = 0 := by simpa using hb0
      simp only [cond_true] at hu
      have h2 := askB_some hu
      clear hu
      obtain ⟨B, hB, hu⟩ := h2
      have e : a.eval x = .pointer (some ⟨(M.β i u').1, (M.β i u').2 + (k * sz + j), none⟩) := hv
      split at hu
      · rename_i i2 u2 hi hc hhi
        obtain ⟨B2, hB2, hu⟩ := askB_some hu
        split at hu
        · rename_i hi2 hc2 hhi2
          cases hu
          have hold := hh.blks i B hB
          have hat := hold.at_ _ (verHi_mem hhi)
          rw [hc] at hat
          obtain ⟨since, last, hat⟩ := hat
          obtain ⟨es, ck, h1, h2⟩ := hh.map hB2 hc2 hhi2
          have hes : es = #[] := by
            obtain ⟨l⟩ := es
            cases l with
            | nil => rfl
            | cons _ _ => exact h2.elim
          subst hes
          have hzero := hold.zero _ (verHi_mem hhi)
          simp only at hzero
          rw [hz0, hzero] at e
          simp only [Nat.add_zero] at e
          have hex : (execOp a.eval ⟨some d, .next x false, ty, pos, af, g⟩).run P w = .ok (.value (.tuple #[.bool false])) w := by
            simp [execOp, e, Instr.next, getObj, Sem.run, hat, h1, choose, Question.forced]
          exact OpB.value (av := .t [.s (.v (.bool false))]) hh rfl hd hex ⟨_, rfl, rfl, trivial⟩ (fun p hp => by simp [AV.ids, idsT, A0.ids, SV.ids] at hp) hK
        · cases hu
      · cases hu
  · cases hu

/-! ### Bytes of a text -/
/-- A new block that may not be written. -/
noncomputable def newRQ (id d : Nat) (ty : TypeId) (r : AV) (l : List SV) : Q Rs := askN id (.ret (forceL l fun l => some [(.s d, .x r), (.b id, .b ⟨ty, .c l, [(0, l.length)], 1, true⟩)]))

noncomputable def bytesQ (id d : Nat) (e : TypeId) (v : AV) : Q Rs := match v with
  | .o (.s (.v (.string s))) => newRQ id d e (.s (.s id 0 1 0 s.data.toList.length none)) (mapB s.data.toList)
  | _ => .ret none

theorem b_bytes {t1 : TypeDesc} {e : TypeId} (ht : P.underlying t = some t1) (hu : P.underlying u = some (.slice e)) (he : P.underlying e = some (.int .u8)) (hd : d < N) : OpB P N ⟨some d, .convert t u x, ty, pos, af, g⟩ (askX x fun v => bytesQ id d e v) := by
  intro c τ a w hr u2 hq K Q' hK
  obtain ⟨M, hh⟩ := hr
  obtain ⟨v, hx, hq⟩ := askX_some hq
  have hv := ev_rel hh hx
  unfold bytesQ at hq
  split at hq
  · rename_i s
    unfold newRQ at hq
    have h2 := askN_some hq
    clear hq
    obtain ⟨hn, hq⟩ := h2
    simp only [Q.run, forceL_eq] at hq
    cases hq
    have e1 : a.eval x = .string s := hv
    have hrun := Lib.run_convert_string_bytes (P := P) w t u e s ht hu he
    have hex : (execOp a.eval ⟨some d, .convert t u x, ty, pos, af, g⟩).run P w = .ok (.value (.slice (some ⟨w.heap.size, 0, none⟩) s.size (grownCap w s.size 0 e))) (Lib.bytesWorld w e s) := by
      simp [execOp, e1, hrun]
    unfold Oper.wp
    rw [hex]
    show K (a.put (some d) _) _
    have hcap := grownCap_ge w s.size 0 e
    have hsz : (Lib.bytesCells w e s).size = grownCap w s.size 0 e := by
      simp [Lib.bytesCells]
      have : s.data.size = s.size := rfl
      omega
    have hnew : Holds N c (M.set id 0 (w.heap.size, 0) (Lib.bytesCells w e s).size) (τ.ap [(.b id, .b ⟨e, .c (mapB s.data.toList), [(0, (mapB s.data.toList).length)], 1, true⟩)]) a (Lib.bytesWorld w e s) := by
      refine hh.new hn (fun j u hj => Mp.set_ne (.inl hj)) (fun j u hl => Lib.bytesWorld_at_old w e s _ (hh.lt hl)) (fun b h1 _ => Lib.bytesWorld_at_old w e s b (Nat.lt_of_lt_of_le h1 hh.grows)) (by rw [Lib.bytesWorld_size]; omega) rfl rfl rfl ⟨?_, ?_, ?_, ?_⟩ ?_ (fun p hp => by simp [BC.ids, mapB_ids] at hp)
      · intro v hv; simp at hv; subst hv; exact Nat.one_pos
      · intro v hv
        simp at hv; subst hv
        refine ⟨Nat.le_refl _, Lib.bytesCells w e s, ((Lib.bytesCells w e s).size, (Lib.bytesCells w e s).size + 1), ?_, ?_, ?_, ?_, ?_⟩
        · simp only [Mp.set_at]; exact Lib.bytesWorld_at_new w e s
        · simp only [Mp.set_at]
        · intro h; cases h
        · simp only [Mp.set_at, List.drop_zero, List.take_length, Lib.bytesCells, Array.toList_append, Array.toList_map]
          exact relL_take' (mapB_rel _) rfl
        · simp only [Mp.set_at, mapB_len]
          rw [hsz]
          have : s.data.toList.length = s.size := by simp
          omega
      · intro v hv v' hv' _; simp at hv hv'; subst hv; subst hv'; rfl
      · intro v hv; simp at hv; subst hv; simp only [Mp.set_at]
      · intro v hv; simp at hv; subst hv; left; simp only [Mp.set_at]; exact Nat.le_refl _
    refine hK _ _ ⟨_, hnew.put hd (av := .s (.s id 0 1 0 s.data.toList.length none)) (v := .slice (some ⟨w.heap.size, 0, none⟩) s.size (grownCap w s.size 0 e)) (.inr ⟨grownCap w s.size 0 e, ?_, ?_, by simp, ?_⟩) (fun p hp => ?_)⟩
    · simp only [Mp.set_at]; simp
    · simpa using hcap
    · simp only [Mp.set_at]; rw [hsz]; simp
    · simp [AV.ids, A0.ids, SV.ids] at hp; subst hp
      exact .inr ⟨_, by rw [ap1, if_pos rfl], Nat.one_pos⟩
  · cases hq

/-! ### A text copied into cells -/
noncomputable def copyQ (d : Nat) (v u : AV) : Q Rs := match v, u with
  | .o (.s (.s i u' sz o n _)), .o (.s (.v (.string s))) => bif Nat.beq sz 1 && (Nat.beq s.data.toList.length n && Nat.blt 0 n) then askB i fun B => match B.con, verHi B.vs u' with
    | .c l, some hi => .ret (bif !B.ro && Nat.ble (o + n) hi then splK (mapB s.data.toList) l o fun l' => some [(.s d, .x (.int (.ofNat n))), (.b i, .b ⟨B.ty, .c l', (u', hi) :: cutVs u' o B.vs, B.nx, false⟩)] else none)
    | _, _ => .ret none
    else .ret none
  | _, _ => .ret none

theorem b_copy {e : TypeId} {by_ : Nat} {zs : List Value} (hf : Fits P t e 1 by_ zs) (hd : d < N) : OpB P N ⟨some d, .call ⟨.builtin .copy, #[x, y], #[t, t2]⟩, ty, pos, af, g⟩ (askX x fun v => askX y fun u => copyQ d v u) := by
  intro c τ a w hr u hu K Q' hK
  obtain ⟨M, hh⟩ := hr
  obtain ⟨v, hx, hu⟩ := askX_some hu
  obtain ⟨v2, hy, hu⟩ := askX_some hu
  have hv := ev_rel hh hx
  have hv2 := ev_rel hh hy
  have hxn := ev_named hh hx
  unfold copyQ at hu
  split at hu
  · rename_i i u' sz o n cp s _
    cases hb0 : Nat.beq sz 1 && (Nat.beq s.data.toList.length n && Nat.blt 0 n) with
    | false => rw [hb0] at hu; cases hu
    | true =>
      rw [hb0] at hu
      simp only [Bool.and_eq_true] at hb0
      have hsz1 : sz = 1 := by simpa using hb0.1
      have hsn : s.data.toList.length = n := by simpa using hb0.2.1
      have hpos := blt_iff.1 hb0.2.2
      simp only [cond_true] at hu
      have h2 := askB_some hu
      clear hu
      obtain ⟨B, hB, hu⟩ := h2
      split at hu
      · rename_i l hi hcon hhi
        simp only [Q.run, splK_eq] at hu
        cases hb : !B.ro && Nat.ble (o + n) hi with
        | false => rw [hb] at hu; cases hu
        | true =>
          rw [hb] at hu; cases hu
          simp only [Bool.and_eq_true, Bool.not_eq_true'] at hb
          have hle := Nat.le_of_ble_eq_true hb.2
          obtain ⟨h1, cs, fr, h2, h3, h4, h5, h6⟩ := hh.cells hB hcon hhi
          have hfr := h4 hb.1
          subst hfr
          have hold := hh.blks i B hB
          have hue := verHi_mem hhi
          rcases hv with ⟨hn, _⟩ | ⟨cap, e1, hnc, hcp, hz⟩
          · omega
          · have e2 : a.eval y = .string s := hv2
            have hO : o + (strV s).length ≤ hi := by rw [strV_len]; have : s.size = n := by rw [← hsn]; simp
                                                     omega
            obtain ⟨w', hrun, hw⟩ := run_storeCells (P := P) (off := (M.β i u').2 + o) (strV s) 0 cs w h2 (by omega) (free00 _) (fun v hv => by
              simp [strV] at hv
              obtain ⟨b, _, rfl⟩ := hv
              rfl)
            obtain ⟨ei, ez, g1, g2, g3, g4, g5, g6⟩ := elemI_run hf.info
            have hss : s.size = n := by rw [← hsn]; simp
            have hex : (execOp a.eval ⟨some d, .call ⟨.builtin .copy, #[x, y], #[t, t2]⟩, ty, pos, af, g⟩).run P w = .ok (.value (.int .i64 (n : Int))) w' := by
              simp only [hsz1, Nat.mul_one] at e1
              have hcut : List.take n (List.map (fun b => Value.int .u8 (b.toNat : Int)) s.data.toList) = strV s := by
                rw [List.take_of_length_le (by rw [List.length_map]; omega)]; rfl
              have hmin : Nat.min s.size n = n := by rw [hss]; exact Nat.min_self n
              simp [execOp, resolve, invoke, builtin, Builtin.copy_, e1, e2, run_underlying g1, Builtin.lenOf, hmin, sizeOf, typeInfo, g2, Builtin.firstCells, hcut, hrun, goInt]
            unfold Oper.wp
            rw [hex]
            show K (a.put (some d) _) _
            rw [Nat.add_zero] at hw
            have hmod := hh.mod hB (M' := M) (w' := w') (B' := ⟨B.ty, .c (splS l o (mapB s.data.toList)), (u', hi) :: cutVs u' o B.vs, B.nx, false⟩) (fun _ _ _ => ⟨rfl, rfl⟩) (Nat.le_refl _) (fun b _ hb2 => hw.other b (fun e => hb2 _ hue e)) (by rw [hw.size]; exact Nat.le_refl _) hw.os hw.tape hw.output
              (blk_written hold hcon hb.1 hue hO h1 h2 h3 h5 h6 (mapB_rel _) hw) (fun v hv => by
                rcases List.mem_cons.1 hv with rfl | hv
                · exact .inr ⟨_, hue, rfl⟩
                · obtain ⟨_, _, v0, g1, g2, _⟩ := cutVs_mem hv
                  exact .inr ⟨v0, g1, by rw [g2]⟩) (fun p hp => by
                rcases splS_ids (mapB s.data.toList) l _ hp with h7 | h7
                · exact hh.named _ _ hB p (by show p ∈ B.con.ids; rw [hcon]; exact h7)
                · rw [mapB_ids] at h7; cases h7)
            have := hmod.put hd (av := .int (.ofNat n)) (v := .int .i64 (n : Int)) rfl (fun p hp => nov hp)
            exact hK _ _ ⟨M, this⟩
      · cases hu
  · cases hu

end
end DX
end Go.Proofs.YtmfljpjdpfbfoaaGreatDoor
