/- A deterministic evaluator of the model's code, part d: operations that touch no memory. -/
import Derived.Test.YtmfljpjdpfbfoaaGreatDoorDc
import Derived.Laws.Strings
import Derived.Laws.Concat
import Derived.Laws.StructEq
import Derived.Laws.Tables
import Derived.Laws.Pointers
import Derived.WalkLawsBesides
namespace Go.Proofs.YtmfljpjdpfbfoaaGreatDoor
namespace DX

/-! ### Operands -/
def ev (τ : St) : Operand → Option AV
  | .tmp t => match τ (.s t) with
    | some (.x v) => some v
    | _ => none
  | .const v => some (.s (.v v))
  | .func f => some (.s (.f f []))
  | .global g => some (.s (.v (.pointer (some ⟨g, 0, none⟩))))

noncomputable def askX (x : Operand) (k : AV → Q Rs) : Q Rs := Operand.rec (motive := fun _ => Q Rs)
  (fun t => .ask (.s t) fun o => Option.rec (motive := fun _ => Q Rs) (.ret none) (fun r => RV.rec (motive := fun _ => Q Rs) k (fun _ => .ret none) (.ret none) r) o)
  (fun v => k (.s (.v v))) (fun g => k (.s (.v (.pointer (some ⟨g, 0, none⟩))))) (fun f => k (.s (.f f []))) x

theorem askX_run (τ : St) (x : Operand) (k : AV → Q Rs) : (askX x k).run τ = match ev τ x with
    | some v => (k v).run τ
    | none => none := by
  cases x with
  | tmp t =>
    simp only [ev]
    show (Option.rec (motive := fun _ => Q Rs) (.ret none) (fun r => RV.rec (motive := fun _ => Q Rs) k (fun _ => .ret none) (.ret none) r) (τ (.s t))).run τ = _
    cases h : τ (.s t) with
    | none => rfl
    | some r => cases r <;> rfl
  | _ => rfl

theorem askX_some {τ : St} {x : Operand} {k : AV → Q Rs} {u : Upd} (h : (askX x k).run τ = some u) : ∃ v, ev τ x = some v ∧ (k v).run τ = some u := by
  rw [askX_run] at h
  cases hx : ev τ x with
  | none => rw [hx] at h; cases h
  | some v => rw [hx] at h; exact ⟨v, rfl, h⟩

section
variable {P : Program} {N : Nat} {τ : St}

theorem ev_rel {c : Ctx} {M : Mp} {a : Act} {w : World} (h : Holds N c M τ a w) {x : Operand} {av : AV} (hx : ev τ x = some av) : av.rel M (a.eval x) := by
  cases x with
  | tmp t =>
    simp only [ev] at hx
    split at hx
    · rename_i v hv
      cases hx
      obtain ⟨v, hv, hr⟩ := h.slots t av hv
      have : a.eval (.tmp t) = v := by
        show a.tmps.getD t undef = v
        rw [Array.getD_eq_getD_getElem?, hv]; rfl
      rw [this]; exact hr
    · cases hx
  | const v => cases hx; rfl
  | func f => cases hx; exact ⟨#[], rfl, trivial⟩
  | global g => cases hx; rfl

theorem ev_named {c : Ctx} {M : Mp} {a : Act} {w : World} (h : Holds N c M τ a w) {x : Operand} {av : AV} (hx : ev τ x = some av) : ∀ p ∈ av.ids, nm τ p := by
  cases x with
  | tmp t =>
    simp only [ev] at hx
    split at hx
    · rename_i v hv
      cases hx
      exact h.named (.s t) _ hv
    · cases hx
  | const v => cases hx; intro i hi; simp [AV.ids, A0.ids, SV.ids] at hi
  | func f => cases hx; intro i hi; simp [AV.ids, A0.ids, SV.ids, idsC] at hi
  | global g => cases hx; intro i hi; simp [AV.ids, A0.ids, SV.ids] at hi

/-- An operation, its guard aside. -/
def OpB (P : Program) (N : Nat) (o : Oper) (q : Q Rs) : Prop :=
  ∀ c τ a w, Rel N c τ a w → ∀ u, q.run τ = some u → ∀ (K : Act → World → Prop) (Q' : Exit → Act → World → Prop),
    (∀ a' w', Rel N c (τ.ap u) a' w' → K a' w') → o.wp P a w K Q'

def rs1 (d : Nat) : Option AV → Rs
  | some r => some [(.s d, .x r)]
  | none => none

theorem rs1_some {d : Nat} {r : Option AV} {u : Upd} (h : rs1 d r = some u) : ∃ v, r = some v ∧ u = [(.s d, .x v)] := by
  cases r with
  | none => cases h
  | some v => cases h; exact ⟨v, rfl, rfl⟩

/-- One value into a slot, the world as it was. -/
theorem OpB.value {c : Ctx} {M : Mp} {a : Act} {w : World} {o : Oper} {d : Nat} (hh : Holds N c M τ a w) (ho : o.dst = some d) (hd : d < N) {av : AV} {v : Value} (hex : (execOp a.eval o).run P w = .ok (.value v) w) (hrel : av.rel M v) (hnm : ∀ p ∈ av.ids, nm τ p)
    {K : Act → World → Prop} {Q' : Exit → Act → World → Prop} (hK : ∀ a' w', Rel N c (τ.ap [(.s d, .x av)]) a' w' → K a' w') : o.wp P a w K Q' := by
  unfold Oper.wp
  rw [hex]
  show K (a.put o.dst v) w
  rw [ho]
  exact hK _ _ ⟨M, hh.put hd hrel hnm⟩

theorem OpB.pure1 {o : Oper} {d : Nat} {x : Operand} {f : AV → Option AV} (ho : o.dst = some d) (hd : d < N)
    (h : ∀ c M τ a w, Holds N c M τ a w → ∀ v, v.rel M (a.eval x) → ∀ r, f v = some r → (∀ p ∈ r.ids, p ∈ v.ids) ∧ ∃ val, (execOp a.eval o).run P w = .ok (.value val) w ∧ r.rel M val) :
    OpB P N o (askX x fun v => .ret (rs1 d (f v))) := by
  intro c τ a w hr u hu K Q' hK
  obtain ⟨M, hh⟩ := hr
  obtain ⟨v, hx, hu⟩ := askX_some hu
  obtain ⟨r, hr, rfl⟩ := rs1_some hu
  obtain ⟨h1, val, h2, h3⟩ := h c M τ a w hh v (ev_rel hh hx) r hr
  exact OpB.value hh ho hd h2 h3 (fun p hp => ev_named hh hx p (h1 p hp)) hK

theorem OpB.pure2 {o : Oper} {d : Nat} {x y : Operand} {f : AV → AV → Option AV} (ho : o.dst = some d) (hd : d < N)
    (h : ∀ c M τ a w, Holds N c M τ a w → ∀ v u, v.rel M (a.eval x) → u.rel M (a.eval y) → ∀ r, f v u = some r → (∀ p ∈ r.ids, p ∈ v.ids ∨ p ∈ u.ids) ∧ ∃ val, (execOp a.eval o).run P w = .ok (.value val) w ∧ r.rel M val) :
    OpB P N o (askX x fun v => askX y fun u => .ret (rs1 d (f v u))) := by
  intro c τ a w hr u hu K Q' hK
  obtain ⟨M, hh⟩ := hr
  obtain ⟨v, hx, hu⟩ := askX_some hu
  obtain ⟨v2, hy, hu⟩ := askX_some hu
  obtain ⟨r, hr, rfl⟩ := rs1_some hu
  obtain ⟨h1, val, h2, h3⟩ := h c M τ a w hh v v2 (ev_rel hh hx) (ev_rel hh hy) r hr
  exact OpB.value hh ho hd h2 h3 (fun p hp => (h1 p hp).elim (ev_named hh hx p) (ev_named hh hy p)) hK

theorem OpB.pure3 {o : Oper} {d : Nat} {x y z : Operand} {f : AV → AV → AV → Option AV} (ho : o.dst = some d) (hd : d < N)
    (h : ∀ c M τ a w, Holds N c M τ a w → ∀ v u s, v.rel M (a.eval x) → u.rel M (a.eval y) → s.rel M (a.eval z) → ∀ r, f v u s = some r → (∀ p ∈ r.ids, p ∈ v.ids ∨ p ∈ u.ids ∨ p ∈ s.ids) ∧ ∃ val, (execOp a.eval o).run P w = .ok (.value val) w ∧ r.rel M val) :
    OpB P N o (askX x fun v => askX y fun u => askX z fun s => .ret (rs1 d (f v u s))) := by
  intro c τ a w hr u hu K Q' hK
  obtain ⟨M, hh⟩ := hr
  obtain ⟨v, hx, hu⟩ := askX_some hu
  obtain ⟨v2, hy, hu⟩ := askX_some hu
  obtain ⟨v3, hz, hu⟩ := askX_some hu
  obtain ⟨r, hr, rfl⟩ := rs1_some hu
  obtain ⟨h1, val, h2, h3⟩ := h c M τ a w hh v v2 v3 (ev_rel hh hx) (ev_rel hh hy) (ev_rel hh hz) r hr
  refine OpB.value hh ho hd h2 h3 (fun p hp => ?_) hK
  rcases h1 p hp with h | h | h
  · exact ev_named hh hx p h
  · exact ev_named hh hy p h
  · exact ev_named hh hz p h

variable {d : Nat} {x y z : Operand} {t t' u ty : TypeId} {pos : String} {af : Array Edge} {g : Option (Nat × Bool)}

theorem nov {v : Value} {p : Nat × Nat} {q : Prop} (h : p ∈ (AV.s (.v v)).ids) : q := by simp [AV.ids, A0.ids, SV.ids] at h

theorem b_move (hd : d < N) : OpB P N ⟨some d, .move x, ty, pos, af, g⟩ (askX x fun v => .ret (rs1 d (some v))) :=
  OpB.pure1 rfl hd fun c M τ a w hh v hv r hr => by
    cases hr; exact ⟨fun i hi => hi, a.eval x, rfl, hv⟩

theorem b_assign (hd : d < N) : OpB P N ⟨some d, .assign x, ty, pos, af, g⟩ (askX x fun v => .ret (rs1 d (some v))) :=
  OpB.pure1 rfl hd fun c M τ a w hh v hv r hr => by
    cases hr; exact ⟨fun i hi => hi, a.eval x, rfl, hv⟩

def pickV (c x y : AV) : Option AV :=
  match c with
  | .o (.s (.v (.bool b))) => bif b then some x else some y
  | _ => none

/-- Only the arm that is picked need be known. -/
noncomputable def pickQ (d : Nat) (z x y : Operand) : Q Rs := askX z fun
  | .o (.s (.v (.bool b))) => bif b then askX x fun v => .ret (rs1 d (some v)) else askX y fun v => .ret (rs1 d (some v))
  | _ => .ret none

theorem b_pick (hd : d < N) : OpB P N ⟨some d, .pick z x y, ty, pos, af, g⟩ (pickQ d z x y) := by
  intro c τ a w hr u hu K Q' hK
  obtain ⟨M, hh⟩ := hr
  obtain ⟨v, hz, hu⟩ := askX_some hu
  split at hu
  · rename_i b
    have e : a.eval z = .bool b := ev_rel hh hz
    cases b with
    | true =>
      simp only [cond_true] at hu
      obtain ⟨v, hx, hu⟩ := askX_some hu
      obtain ⟨r, hr, rfl⟩ := rs1_some hu
      cases hr
      exact OpB.value hh rfl hd (v := a.eval x) (by simp [execOp, asBool, e]) (ev_rel hh hx) (ev_named hh hx) hK
    | false =>
      simp only [cond_false] at hu
      obtain ⟨v, hx, hu⟩ := askX_some hu
      obtain ⟨r, hr, rfl⟩ := rs1_some hu
      cases hr
      exact OpB.value hh rfl hd (v := a.eval y) (by simp [execOp, asBool, e]) (ev_rel hh hx) (ev_named hh hx) hK
  · cases hu

def nilV : AV → Option AV
  | .o (.s (.p i u k sz j)) => some (.s (.p i u k sz j))
  | _ => none

theorem b_nil (hd : d < N) : OpB P N ⟨some d, .nilCheck x, ty, pos, af, g⟩ (askX x fun v => .ret (rs1 d (nilV v))) :=
  OpB.pure1 rfl hd fun c M τ a w hh v hv r hr => by
    unfold nilV at hr
    split at hr
    · rename_i i u k sz j
      cases hr
      have e : a.eval x = .pointer (some ⟨(M.β i u).1, (M.β i u).2 + (k * sz + j), none⟩) := hv
      exact ⟨fun i hi => hi, _, by simp [execOp, e], rfl⟩
    · cases hr

/-! ### Numbers -/
abbrev imin : Int := -9223372036854775808
abbrev imax : Int := 9223372036854775807

theorem wrap_in {n : Int} (h1 : imin ≤ n) (h2 : n ≤ imax) : IntKind.i64.wrap n = n := IntWalk.i64_in n ⟨h1, h2⟩

theorem wrap_u8 {n : Int} (h1 : 0 ≤ n) (h2 : n ≤ 255) : IntKind.u8.wrap n = n := by
  simp [IntKind.wrap, IntKind.signed, IntKind.bits]
  omega

/-- In the range of a kind, as far as that is asked. -/
def inR : IntKind → Int → Bool
  | .i64, .ofNat m => Nat.ble m 9223372036854775807
  | .i64, .negSucc m => Nat.ble m 9223372036854775807
  | .u8, .ofNat m => Nat.ble m 255
  | _, _ => false

/-- A number as its kind takes it. -/
def wr (k : IntKind) (n : Int) : Int := bif inR k n then n else k.wrap n

theorem wr_eq (k : IntKind) (n : Int) : wr k n = k.wrap n := by
  unfold wr
  cases h : inR k n with
  | false => rfl
  | true =>
    simp only [cond_true]
    unfold inR at h
    split at h
    · rename_i m
      have := Nat.le_of_ble_eq_true h
      rw [show Int.ofNat m = (m : Int) from rfl]
      exact (wrap_in (by simp only [imin]; omega) (by simp only [imax]; omega)).symm
    · rename_i m
      have := Nat.le_of_ble_eq_true h
      exact (wrap_in (by simp only [imin]; omega) (by simp only [imax]; omega)).symm
    · rename_i m
      have := Nat.le_of_ble_eq_true h
      rw [show Int.ofNat m = (m : Int) from rfl]
      exact (wrap_u8 (by omega) (by omega)).symm
    · cases h

def iop (op : BinOp) (k : IntKind) (x y : Int) : Option Value :=
  match op with
  | .add => some (.int k (wr k (x + y)))
  | .sub => some (.int k (wr k (x - y)))
  | .mul => some (.int k (wr k (x * y)))
  | .quo => bif decide (y = 0) then none else some (.int k (wr k (x.tdiv y)))
  | .rem => bif decide (y = 0) then none else some (.int k (x.tmod y))
  | .eql => some (.bool (decide (x = y)))
  | .neq => some (.bool (decide (x ≠ y)))
  | .lss => some (.bool (decide (x < y)))
  | .leq => some (.bool (decide (x ≤ y)))
  | .gtr => some (.bool (decide (x > y)))
  | .geq => some (.bool (decide (x ≥ y)))
  | .xor => match x, y, k with
    | .ofNat m, .ofNat n, .i64 => bif Nat.ble m 9223372036854775807 && Nat.ble n 9223372036854775807 then some (.int .i64 (.ofNat (m ^^^ n))) else none
    | _, _, _ => none
  | _ => none

theorem ofInt_toNat {m : Int} (h0 : 0 ≤ m) (h1 : m ≤ imax) : (BitVec.ofInt 64 m).toNat = m.toNat := by
  rw [BitVec.toNat_ofInt]
  congr 1
  exact Int.emod_eq_of_lt h0 (by simp only [imax] at h1; omega)

theorem iop_sound {op : BinOp} {k : IntKind} {m n : Int} {r : Value} (hr : iop op k m n = some r) (w : World) (t : TypeId) : (binOp op t (.int k m) (.int k n)).run P w = .ok r w := by
  cases op <;> simp only [iop] at hr <;> (try (cases hr; done))
  case add => cases hr; simp [binOp, Op.intArith, wr_eq]
  case sub => cases hr; simp [binOp, Op.intArith, wr_eq]
  case mul => cases hr; simp [binOp, Op.intArith, wr_eq]
  case quo =>
    by_cases h : n = 0
    · rw [decide_eq_true h] at hr; cases hr
    · rw [decide_eq_false h] at hr; cases hr
      simp [binOp, Op.intDiv, h, wr_eq]
  case rem =>
    by_cases h : n = 0
    · rw [decide_eq_true h] at hr; cases hr
    · rw [decide_eq_false h] at hr; cases hr
      simp [binOp, Op.intDiv, h]
  case xor =>
    split at hr
    · rename_i a b
      cases hc : Nat.ble a 9223372036854775807 && Nat.ble b 9223372036854775807 with
      | false => rw [hc] at hr; cases hr
      | true =>
        rw [hc] at hr; cases hr
        simp only [Bool.and_eq_true] at hc
        have h1 := Nat.le_of_ble_eq_true hc.1
        have h2 := Nat.le_of_ble_eq_true hc.2
        have hx : a ^^^ b < 2 ^ 63 := Nat.xor_lt_two_pow (by omega) (by omega)
        have hw : IntKind.i64.wrap ((a ^^^ b : Nat) : Int) = ((a ^^^ b : Nat) : Int) := wrap_in (by simp only [imin]; omega) (by simp only [imax]; omega)
        have hb : (BitVec.ofInt 64 (Int.ofNat a) ^^^ BitVec.ofInt 64 (Int.ofNat b)).toNat = a ^^^ b := by
          rw [BitVec.toNat_xor, ofInt_toNat (by simp) (by simp only [imax]; simp; omega), ofInt_toNat (by simp) (by simp only [imax]; simp; omega)]; rfl
        simp only [binOp, Op.intBits]
        simp only [ne_eq, not_true_eq_false, if_false, Sem.run_pure]
        have hb' : (BitVec.ofInt IntKind.i64.bits (Int.ofNat a) ^^^ BitVec.ofInt IntKind.i64.bits (Int.ofNat b)).toNat = a ^^^ b := hb
        rw [hb', hw]; rfl
    · cases hr
  all_goals
    cases hr
    simp [binOp, Op.intCmp]
    try rfl

/-- Two texts one behind the other; a part of a text: by their bytes. -/
def catS (x y : ByteArray) : ByteArray := ⟨⟨x.data.toList ++ y.data.toList⟩⟩
def cutB (s : ByteArray) (a b : Nat) : ByteArray := ⟨⟨(s.data.toList.drop a).take (b - a)⟩⟩
theorem catS_eq (x y : ByteArray) : catS x y = x ++ y := by
  apply ByteArray.ext
  apply Array.ext'
  simp [catS]
theorem cutB_eq (s : ByteArray) (a b : Nat) : cutB s a b = s.extract a b := by
  apply ByteArray.ext
  apply Array.ext'
  simp [cutB, List.extract_eq_take_drop]

def sop (op : BinOp) (x y : ByteArray) : Option Value :=
  match op with
  | .add => bif Nat.ble (x.size + y.size) 9223372036854775807 then some (.string (catS x y)) else none
  | .eql => some (.bool (decide (x.data.toList = y.data.toList)))
  | .neq => some (.bool (!decide (x.data.toList = y.data.toList)))
  | .lss => some (.bool (Op.bytesLess x.toList y.toList))
  | .gtr => some (.bool (!(Op.bytesLess x.toList y.toList || x.toList == y.toList)))
  | .geq => some (.bool (!(Op.bytesLess x.toList y.toList)))
  | .leq => some (.bool (Op.bytesLess x.toList y.toList || x.toList == y.toList))
  | _ => none

theorem bytes_ext {a b : ByteArray} : a.data.toList = b.data.toList ↔ a = b := by
  constructor
  · intro h
    cases a; cases b
    congr 1
    exact Array.ext' h
  · intro h; rw [h]

theorem bytes_beq (a b : ByteArray) : (a.toList == b.toList) = decide (a.data.toList = b.data.toList) := by
  rw [Bool.eq_iff_iff]
  simp [ByteArray.toList_eq]

theorem sop_sound {op : BinOp} {m n : ByteArray} {r : Value} (hr : sop op m n = some r) (w : World) (t : TypeId) : (binOp op t (.string m) (.string n)).run P w = .ok r w := by
  cases op <;> simp only [sop] at hr <;> (try (cases hr; done))
  case add =>
    cases hc : Nat.ble (m.size + n.size) 9223372036854775807 with
    | false => rw [hc] at hr; cases hr
    | true =>
      rw [hc] at hr; cases hr
      have := run_string_add_sum (P := P) (w := w) m n (by have h := Nat.le_of_ble_eq_true hc; omega)
      simp [binOp, this, catS_eq]
  case eql => cases hr; simp [binOp, Op.stringOp, bytes_beq]
  case neq => cases hr; simp [binOp, Op.stringOp, bytes_beq]
  all_goals
    cases hr
    simp [binOp, Op.stringOp]
    try rfl

def beqIK (x y : IntKind) : Bool := match x, y with
  | .i8, .i8 | .i16, .i16 | .i32, .i32 | .i64, .i64 | .u8, .u8 | .u16, .u16 | .u32, .u32 | .u64, .u64 => true
  | _, _ => false
theorem beqIK_eq {x y : IntKind} (h : beqIK x y = true) : x = y := by cases x <;> cases y <;> first | rfl | cases h

/-- Two operands that are no structs and no pointers. -/
def binV (op : BinOp) (x y : AV) : Option AV :=
  match x, y with
  | .o (.s (.v (.int k m))), .o (.s (.v (.int k' n))) => bif beqIK k k' then (match iop op k m n with
    | some r => some (.s (.v r))
    | none => none) else none
  | .o (.s (.v (.string m))), .o (.s (.v (.string n))) => match sop op m n with
    | some r => some (.s (.v r))
    | none => none
  | _, _ => none

theorem b_bin {op : BinOp} (hd : d < N) : OpB P N ⟨some d, .binOp op t x y t', ty, pos, af, g⟩ (askX x fun v => askX y fun u => .ret (rs1 d (binV op v u))) :=
  OpB.pure2 rfl hd fun c M τ a w hh v u hv hu r hr => by
    unfold binV at hr
    split at hr
    · rename_i k m k' n
      cases hk : beqIK k k' with
      | false => rw [hk] at hr; cases hr
      | true =>
        rw [hk] at hr
        have := beqIK_eq hk
        subst this
        simp only [cond_true] at hr
        split at hr
        · rename_i val hval
          cases hr
          have e1 : a.eval x = _ := hv
          have e2 : a.eval y = _ := hu
          refine ⟨fun p hp => nov hp, val, ?_, rfl⟩
          have hg : (eqGuard op t x y (.int k m) (.int k n)).run P w = .ok () w := by cases op <;> simp [eqGuard]
          simp [execOp, e1, e2, hg, iop_sound hval w t]
        · cases hr
    · rename_i m n
      split at hr
      · rename_i val hval
        cases hr
        have e1 : a.eval x = _ := hv
        have e2 : a.eval y = _ := hu
        refine ⟨fun p hp => nov hp, val, ?_, rfl⟩
        have hg : (eqGuard op t x y (.string m) (.string n)).run P w = .ok () w := by cases op <;> simp [eqGuard]
        simp [execOp, e1, e2, hg, sop_sound hval w t]
      · cases hr
    · cases hr

/-- '==' and '!=' of truths. -/
def beqV (op : BinOp) (x y : AV) : Option AV :=
  match x, y with
  | .o (.s (.v (.bool m))), .o (.s (.v (.bool n))) => match op with
    | .eql => some (.q (m == n))
    | .neq => some (.q (m != n))
    | _ => none
  | _, _ => none

theorem b_beq {op : BinOp} (ht : P.underlying t = some .bool) (hd : d < N) : OpB P N ⟨some d, .binOp op t x y t', ty, pos, af, g⟩ (askX x fun v => askX y fun u => .ret (rs1 d (beqV op v u))) :=
  OpB.pure2 rfl hd fun c M τ a w hh v u hv hu r hr => by
    unfold beqV at hr
    split at hr
    · rename_i m n
      have e1 : a.eval x = _ := hv
      have e2 : a.eval y = _ := hu
      split at hr
      · cases hr
        refine ⟨fun p hp => nov hp, .bool (m == n), ?_, rfl⟩
        have := run_eql_bool (P := P) w t m n ht
        simp [execOp, e1, e2, eqGuard, this]
      · cases hr
        refine ⟨fun p hp => nov hp, .bool (m != n), ?_, rfl⟩
        have := run_neq_bool (P := P) w t m n ht
        simp [execOp, e1, e2, eqGuard, this]
        cases m <;> cases n <;> rfl
      · cases hr
    · cases hr

def notV (x : AV) : Option AV :=
  match x with
  | .o (.s (.v (.bool b))) => some (.q (!b))
  | _ => none

theorem b_not (hd : d < N) : OpB P N ⟨some d, .unOp .not t x, ty, pos, af, g⟩ (askX x fun v => .ret (rs1 d (notV v))) :=
  OpB.pure1 rfl hd fun c M τ a w hh v hv r hr => by
    unfold notV at hr
    split at hr
    · rename_i b
      cases hr
      have e : a.eval x = .bool b := hv
      exact ⟨fun p hp => nov hp, .bool (!b), by simp [execOp, e, Op.unary], rfl⟩
    · cases hr

def negV : AV → Option AV
  | .o (.s (.v (.int k n))) => some (.s (.v (.int k (wr k (-n)))))
  | _ => none

theorem b_neg (hd : d < N) : OpB P N ⟨some d, .unOp .neg t x, ty, pos, af, g⟩ (askX x fun v => .ret (rs1 d (negV v))) :=
  OpB.pure1 rfl hd fun c M τ a w hh v hv r hr => by
    unfold negV at hr
    split at hr
    · rename_i k n
      cases hr
      have e : a.eval x = .int k n := hv
      refine ⟨fun p hp => nov hp, .int k (wr k (-n)), ?_, rfl⟩
      simp [execOp, e, Op.unary, Op.intArith, wr_eq]
    · cases hr

def convV (k : IntKind) : AV → Option AV
  | .o (.s (.v (.int _ n))) => some (.s (.v (.int k (wr k n))))
  | _ => none

theorem b_conv (k : IntKind) (ht : (P.underlying t).isSome = true) (hu : P.underlying u = some (.int k)) (hd : d < N) : OpB P N ⟨some d, .convert t u x, ty, pos, af, g⟩ (askX x fun v => .ret (rs1 d (convV k v))) :=
  OpB.pure1 rfl hd fun c M τ a w hh v hv r hr => by
    unfold convV at hr
    split at hr
    · rename_i k' n
      obtain ⟨dd, hdd⟩ := Option.isSome_iff_exists.1 ht
      have e : a.eval x = .int k' n := hv
      cases hr
      exact ⟨fun p hp => nov hp, .int k (wr k n), by simp [execOp, e, convert, run_underlying hdd, run_underlying hu, Conv.intToInt, wr_eq], rfl⟩
    · cases hr

def mmV (isMax : Bool) (x y : AV) : Option AV :=
  match x, y with
  | .o (.s (.v (.int .i64 m))), .o (.s (.v (.int .i64 n))) => match isMax with
    | true => some (.int (max m n))
    | false => some (.int (min m n))
  | _, _ => none

theorem b_max {ts : Array TypeId} (hd : d < N) : OpB P N ⟨some d, .call ⟨.builtin .max, #[x, y], ts⟩, ty, pos, af, g⟩ (askX x fun v => askX y fun u => .ret (rs1 d (mmV true v u))) :=
  OpB.pure2 rfl hd fun c M τ a w hh v u hv hu r hr => by
    unfold mmV at hr
    split at hr
    · rename_i m n
      cases hr
      have e1 : a.eval x = .int .i64 m := hv
      have e2 : a.eval y = .int .i64 n := hu
      refine ⟨fun p hp => nov hp, .int .i64 (max m n), ?_, rfl⟩
      have := run_max_int2 (P := P) w ts ty .i64 .i64 m n
      have hm : (if m < n then n else m) = max m n := by split <;> omega
      simp [execOp, resolve, invoke, builtin, e1, e2, this, hm]
    · cases hr

theorem b_min {ts : Array TypeId} (hd : d < N) : OpB P N ⟨some d, .call ⟨.builtin .min, #[x, y], ts⟩, ty, pos, af, g⟩ (askX x fun v => askX y fun u => .ret (rs1 d (mmV false v u))) :=
  OpB.pure2 rfl hd fun c M τ a w hh v u hv hu r hr => by
    unfold mmV at hr
    split at hr
    · rename_i m n
      cases hr
      have e1 : a.eval x = .int .i64 m := hv
      have e2 : a.eval y = .int .i64 n := hu
      refine ⟨fun p hp => nov hp, .int .i64 (min m n), ?_, rfl⟩
      have := run_min_int2 (P := P) w ts ty .i64 .i64 m n
      have hm : (if n < m then n else m) = min m n := by split <;> omega
      simp [execOp, resolve, invoke, builtin, e1, e2, this, hm]
    · cases hr

end
end DX
end Go.Proofs.YtmfljpjdpfbfoaaGreatDoor
