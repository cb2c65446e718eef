/- A deterministic evaluator of the model's code, part l: types; every operation; guards; evaluation of code. -/
import Derived.Test.YtmfljpjdpfbfoaaGreatDoorDk
namespace Go.Proofs.YtmfljpjdpfbfoaaGreatDoor
namespace DX

/-! ### Types -/
inductive Kd where
  | str
  | bool
  | int (k : IntKind)
  | sl (e : TypeId) (sz by_ : Nat) (zs : List Value) (u8 : Bool)
  | ptr (e : TypeId) (n : Nat)
  | uptr
  | ints (n : Nat)
  | mp (k e : TypeId) (mk : MKd) (z : Value)
  | ifc
  | arr (sz : Nat)
  | other

/-- What is known of a type. -/
structure TI where
  agg : Bool
  size : Nat
  kd : Kd
  zero : List Value
  flds : List (Option (Nat × Bool × Nat))
  bld : Option (List (Nat × Nat) × List Value)

def KdOK (P : Program) (t : TypeId) : Kd → Prop
  | .str => P.underlying t = some .string
  | .bool => P.underlying t = some .bool
  | .int k => P.underlying t = some (.int k)
  | .sl e sz by_ zs u8 => Fits P t e sz by_ zs ∧ (u8 = true → P.underlying e = some (.int .u8))
  | .ptr e n => P.underlying t = some (.pointer e) ∧ (P.info? e).map (·.size) = some n ∧ n ≠ 0
  | .uptr => P.underlying t = some .unsafePointer
  | .ints n => IntsF P t n
  | .mp k e mk z => P.underlying t = some (.map k e) ∧ MKOK P k mk ∧ ∀ w, (zeroValue e).run P w = .ok z w
  | .ifc => P.underlying t = some (.interface (P.methodsAt t))
  | .arr sz => ArrOK P t sz
  | .other => True

structure TIok (P : Program) (t : TypeId) (i : TI) : Prop where
  sh : Sh P t = some (i.agg, i.size)
  zero : zeroOf P t = some i.zero
  flds : ∀ (f : Nat) (x : Nat × Bool × Nat), i.flds[f]? = some (some x) → fieldOff P t f = some x
  bld : ∀ x, i.bld = some x → bldOf P t = some x
  kd : KdOK P t i.kd

def isU8 (P : Program) (e : TypeId) : Bool := match P.underlying e with
  | some (.int .u8) => true
  | _ => false

def intFld (P : Program) (k : Nat) (f : Field) : Bool := (!(f.name == "_") && Nat.beq f.offset k) && (match P.underlying f.type, Sh P f.type with
  | some (.int .i64), some (false, 1) => true
  | _, _ => false)

def intFlds (P : Program) : Nat → List Field → Bool
  | _, [] => true
  | k, f :: l => intFld P k f && intFlds P (k + 1) l

theorem intFld_ok {P : Program} {k : Nat} {f : Field} (h : intFld P k f = true) : f.name ≠ "_" ∧ P.underlying f.type = some (.int .i64) ∧ Sh P f.type = some (false, 1) ∧ f.offset = k := by
  simp only [intFld, Bool.and_eq_true] at h
  obtain ⟨⟨h1, h2⟩, h3⟩ := h
  split at h3
  · rename_i g1 g2
    exact ⟨by simpa using h1, g1, g2, by simpa using h2⟩
  · cases h3

theorem intFlds_ok {P : Program} : ∀ {l : List Field} {k : Nat}, intFlds P k l = true → ∀ (i : Nat) (f : Field), l[i]? = some f → intFld P (k + i) f = true
  | [], _, _, i, f, h => by simp at h
  | g :: l, k, h, 0, f, hf => by
    simp only [intFlds, Bool.and_eq_true] at h
    simp at hf; subst hf; exact h.1
  | g :: l, k, h, i + 1, f, hf => by
    simp only [intFlds, Bool.and_eq_true] at h
    have := intFlds_ok h.2 i f (by simpa using hf)
    rwa [show k + 1 + i = k + (i + 1) by omega] at this

/-- What kind of key. -/
def mkOf (P : Program) (k : TypeId) : Option MKd :=
  match P.underlying k with
  | some (.int .i64) => some .i
  | some (.struct fs) => bif (!P.stoodInHeld k && !P.eqGuardType P.depth k) && intFlds P 0 fs.toList then some (.st fs.size) else none
  | some (.array n e) => match P.underlying e, Sh P e with
    | some (.int .i64), some (false, 1) => some (.ar n)
    | _, _ => none
  | _ => none

theorem mkOf_ok {P : Program} {k : TypeId} {mk : MKd} (h : mkOf P k = some mk) : MKOK P k mk := by
  unfold mkOf at h
  split at h
  · rename_i hu; cases h; exact hu
  · rename_i fs hu
    cases hb : (!P.stoodInHeld k && !P.eqGuardType P.depth k) && intFlds P 0 fs.toList with
    | false => rw [hb] at h; cases h
    | true =>
      rw [hb] at h; cases h
      simp only [Bool.and_eq_true, Bool.not_eq_true'] at hb
      have hf : P.fieldsOf k = fs := by simp [Program.fieldsOf, hu]
      refine ⟨by rw [hf]; exact hu, hb.1.1, hb.1.2, by rw [hf], fun i f hif => ?_⟩
      rw [hf] at hif
      have := intFld_ok (intFlds_ok hb.2 i f (by simpa using hif))
      simpa using this
  · rename_i n e hu
    split at h
    · rename_i h1 h2; cases h; exact ⟨e, hu, h1, h2⟩
    · cases h
  · cases h

def zeroV (P : Program) (e : TypeId) : Option Value := match P.info? e with
  | some i => match i.zero with
    | some z => bif oneV z then some z else none
    | none => none
  | none => none

theorem zeroV_ok {P : Program} {e : TypeId} {z : Value} (h : zeroV P e = some z) (w : World) : (zeroValue e).run P w = .ok z w := by
  unfold zeroV at h
  split at h
  · rename_i i hi
    split at h
    · rename_i z' hz
      cases hb : oneV z' with
      | false => rw [hb] at h; cases h
      | true =>
        rw [hb] at h; cases h
        simp [zeroValue, typeInfo, hi, hz]
    · cases h
  · cases h

def kdOf (P : Program) (t : TypeId) : Kd :=
  match P.underlying t with
  | some .string => .str
  | some .bool => .bool
  | some (.int k) => .int k
  | some .unsafePointer => .uptr
  | some (.slice _) => match elemI P t with
    | some (e, sz, by_, zs) => bif (Nat.beq zs.length sz && Nat.blt 0 sz) && Nat.ble by_ 1048576 then .sl e sz by_ zs (isU8 P e) else .other
    | none => .other
  | some (.pointer e) => match (P.info? e).map (·.size) with
    | some (n + 1) => .ptr e (n + 1)
    | _ => .other
  | some (.struct _) => (match flatN P 100 t with
    | some n => bif P.eqGuardType P.depth t then .other else .ints n
    | none => .other)
  | some (.map k e) => match mkOf P k, zeroV P e with
    | some mk, some z => .mp k e mk z
    | _, _ => .other
  | some (.interface _) => .ifc
  | some (.array _ e) => match P.info? e with
    | some i => .arr i.size
    | none => .other
  | _ => .other

theorem kdOf_ok (P : Program) (t : TypeId) : KdOK P t (kdOf P t) := by
  unfold kdOf
  split
  · rename_i h; exact h
  · rename_i h; exact h
  · rename_i h; exact h
  · rename_i h; exact h
  · rename_i e0 h
    split
    · rename_i e sz by_ zs he
      cases hb : (Nat.beq zs.length sz && Nat.blt 0 sz) && Nat.ble by_ 1048576 with
      | false => trivial
      | true =>
        simp only [Bool.and_eq_true] at hb
        refine ⟨⟨he, by simpa using hb.1.1, blt_iff.1 hb.1.2, Nat.le_of_ble_eq_true hb.2⟩, fun hu => ?_⟩
        unfold isU8 at hu
        split at hu
        · rename_i h8; exact h8
        · cases hu
    · trivial
  · rename_i e h
    split
    · rename_i n hn; exact ⟨h, hn, by omega⟩
    · trivial
  · rename_i fs h
    split
    · rename_i n hn
      cases hb : P.eqGuardType P.depth t with
      | true => trivial
      | false => exact ⟨⟨fs, h⟩, hb, hn⟩
    · trivial
  · rename_i k e h
    split
    · rename_i mk z h1 h2; exact ⟨h, mkOf_ok h1, zeroV_ok h2⟩
    · trivial
  · rename_i ms h
    show P.underlying t = _
    simp [Program.methodsAt, h]
  · rename_i n e h
    split
    · rename_i i hi; exact ⟨n, e, i, h, hi, rfl⟩
    · trivial
  · trivial

def nFlds (P : Program) (t : TypeId) : Nat := match P.underlying t with
  | some (.struct fs) => fs.size
  | _ => 0

def mkTI (P : Program) (t : TypeId) : Option TI := match Sh P t, zeroOf P t with
  | some (a, n), some z => some ⟨a, n, kdOf P t, z, (List.range (nFlds P t)).map (fieldOff P t), bldOf P t⟩
  | _, _ => none

theorem mkTI_ok {P : Program} {t : TypeId} {i : TI} (h : mkTI P t = some i) : TIok P t i := by
  unfold mkTI at h
  split at h
  · rename_i a n z h1 h2
    cases h
    refine ⟨h1, h2, fun f x hf => ?_, fun x hx => hx, kdOf_ok P t⟩
    simp only [List.getElem?_map, Option.map_eq_some_iff] at hf
    obtain ⟨k, hk, e⟩ := hf
    have := List.getElem?_range (n := nFlds P t) (i := f)
    obtain ⟨h3, h4⟩ := List.getElem?_eq_some_iff.1 hk
    simp at h4
    subst h4
    exact e
  · cases h

abbrev Rf := Option (AV × Upd × Nat)

/-- A function: its slots, its body, its results; or an entry that gives back what it is given; or what is known of its calls by another proof. -/
inductive FI where
  | code (N : Nat) (body : Code) (rs : List ResultVar)
  | same
  | con (q : Nat → List AV → Q Rf)

def relV (M : Mp) : List AV → List Value → Prop
  | [], [] => True
  | x :: l, y :: r => x.rel M y ∧ relV M l r
  | _, _ => False

def idsV : List AV → Ids
  | [] => []
  | x :: l => x.ids ++ idsV l

/-- A call of a function, with what is shown behind it. -/
def FuncWP (P : Program) (f : FuncId) (vs : List Value) (w : World) (K : Value → World → Prop) : Prop :=
  (∃ v w', (callFunc f vs.toArray).run P w = .ok (.value v) w' ∧ K v w') ∨ ((callFunc f vs.toArray).run P w = .ok (.enter f vs.toArray) w ∧ Calls P f vs.toArray w fun e w' => ∃ v, e = .returned v ∧ K v w')

/-- What is said of a call is so. -/
def CallOK (P : Program) (f : FuncId) (args : List AV) (q : Q Rf) : Prop :=
  ∀ N c M τ a w, Holds N c M τ a w → ∀ vs : List Value, relV M args vs → (∀ p ∈ idsV args, nm τ p) → ∀ r u ck', q.run τ = some (r, u, ck') →
    ∀ K : Value → World → Prop, (∀ v w' M', r.rel M' v → (∀ p ∈ r.ids, nm (τ.ap u) p) → Holds N c M' (τ.ap u) a w' → K v w') → FuncWP P f vs w K

structure Env where
  tab : Nat → Option TI
  fn : Nat → Option FI

def FIok (P : Program) (f : FuncId) : FI → Prop
  | .code N body rs => ∃ fn, P.funcs[f]? = some fn ∧ fn.body = some body ∧ fn.ntmps = N ∧ fn.results.toList = rs ∧ fn.name ≠ "runtime.NumGoroutine"
  | .same => ∃ fn, P.funcs[f]? = some fn ∧ (fn.name == "runtime.NumGoroutine") = false ∧ fn.body.isNone = true ∧ Extern.findNext fn = none ∧ Extern.find fn = some Extern.AbiNoEscape.same
  | .con q => ∀ ck args, CallOK P f args (q ck args)

structure EnvOK (P : Program) (E : Env) : Prop where
  tab : ∀ t i, E.tab t = some i → TIok P t i
  fn : ∀ f i, E.fn f = some i → FIok P f i

/-! ### Every operation but calls of functions -/
/-- What an operation does, once it is known where new names begin: reckoned once for each operation. -/
structure Bx (α : Type) where
  f : α

abbrev Bq := Bx (Nat → Q Rs)

def nope : Bq := ⟨fun _ => .ret none⟩

def withD (N : Nat) (o : Option Nat) (k : Nat → Bq) : Bq :=
  match o with
  | some d => bif Nat.blt d N then k d else nope
  | none => nope

def withT (E : Env) (t : TypeId) (k : TI → Bq) : Bq :=
  match E.tab t with
  | some i => k i
  | none => nope

def withS (E : Env) (t : TypeId) (k : TypeId → Nat → List Value → Bq) : Bq := withT E t fun i => match i.kd with
  | .sl e sz _ zs _ => k e sz zs
  | _ => nope

noncomputable def stpBi (E : Env) (d : Nat) (c : Call) : Bq :=
  match c with
  | ⟨.builtin .len, ⟨[x]⟩, ⟨[t]⟩⟩ => withT E t fun i => match i.kd with
    | .str => ⟨fun id => askX x fun v => .ret (rs1 d (lenV true v))⟩
    | .sl _ _ _ _ _ => ⟨fun id => askX x fun v => .ret (rs1 d (lenV false v))⟩
    | .mp _ _ _ _ => ⟨fun id => askX x fun v => lenMQ d v⟩
    | _ => nope
  | ⟨.builtin .copy, ⟨[x, y]⟩, ⟨[t, _]⟩⟩ => withS E t fun e sz _ => bif Nat.beq sz 1 then ⟨fun id => askX x fun v => askX y fun u => copyQ d v u⟩ else nope
  | ⟨.builtin .append, ⟨[x, y]⟩, ⟨[t, t2]⟩⟩ => withS E t fun e sz _ => bif Nat.beq t t2 then ⟨fun id => askX x fun v => askX y fun u => newsQ false sz u fun m l => appQ id d e sz v m l⟩ else withT E t2 fun j => match j.kd with
    | .str => ⟨fun id => askX x fun v => askX y fun u => newsQ true sz u fun m l => appQ id d e sz v m l⟩
    | _ => nope
  | ⟨.builtin .max, ⟨[x, y]⟩, _⟩ => ⟨fun id => askX x fun v => askX y fun u => .ret (rs1 d (mmV true v u))⟩
  | ⟨.builtin .min, ⟨[x, y]⟩, _⟩ => ⟨fun id => askX x fun v => askX y fun u => .ret (rs1 d (mmV false v u))⟩
  | ⟨.builtin .unsafeSliceData, ⟨[x]⟩, _⟩ => ⟨fun id => askX x fun v => .ret (rs1 d (dataV v))⟩
  | ⟨.builtin .unsafeString, ⟨[x, y]⟩, ⟨[pt, _]⟩⟩ => withT E pt fun i => match i.kd with
    | .ptr e 1 => ⟨fun id => askX x fun v => askX y fun u => ustrQ d e v u⟩
    | _ => nope
  | _ => nope

noncomputable def stpBn (E : Env) (c : Call) : Bq :=
  match c with
  | ⟨.builtin .delete, ⟨[x, y]⟩, ⟨[t, _]⟩⟩ => withT E t fun i => match i.kd with
    | .mp _ _ mk _ => ⟨fun id => askX x fun v => askX y fun kk => delQ mk v kk⟩
    | _ => nope
  | _ => nope

/-- How each operation is understood, its guard aside. -/
noncomputable def stp (E : Env) (N : Nat) (o : Oper) : Bq :=
  match o.op with
  | .move x => withD N o.dst fun d => ⟨fun id => askX x fun v => .ret (rs1 d (some v))⟩
  | .assign x => withD N o.dst fun d => ⟨fun id => askX x fun v => .ret (rs1 d (some v))⟩
  | .pick z x y => withD N o.dst fun d => ⟨fun id => pickQ d z x y⟩
  | .alloc t => withD N o.dst fun d => withT E t fun i => ⟨fun id => allocQ id d t (mapV i.zero)⟩
  | .box t x => withD N o.dst fun d => ⟨fun id => askX x fun v => boxQ id d t v⟩
  | .build t parts => withD N o.dst fun d => withT E t fun i => match i.bld with
    | some (pl, zs) => ⟨fun id => askL parts.toList fun vs => .ret (rs1 d (buildV pl zs vs))⟩
    | none => (match i.kd with
      | .arr sz => ⟨fun id => askL parts.toList fun vs => .ret (rs1 d (buildAV sz i.zero vs))⟩
      | _ => nope)
  | .buildSlice t k parts => withD N o.dst fun d => withS E t fun e sz zs => ⟨fun id => askL parts.toList fun vs => bsliceQ id d e sz zs k vs⟩
  | .load t x => withD N o.dst fun d => withT E t fun i => ⟨fun id => askX x fun v => loadQ i.agg i.size d v⟩
  | .store t x y => match o.dst with
    | none => withT E t fun i => ⟨fun id => askX x fun v => askX y fun u => storeQ i.size v u⟩
    | some _ => nope
  | .nilCheck x => withD N o.dst fun d => ⟨fun id => askX x fun v => .ret (rs1 d (nilV2 v))⟩
  | .binOp op t x y _ => withD N o.dst fun d => withT E t fun i => match i.kd with
    | .bool => ⟨fun id => askX x fun v => askX y fun u => .ret (rs1 d (beqV op v u))⟩
    | .ints n => ⟨fun id => askX x fun v => askX y fun u => .ret (rs1 d (seqV n op v u))⟩
    | .ptr _ _ => ⟨fun id => askX x fun v => askX y fun u => .ret (rs1 d (cmpV samePS op v u))⟩
    | .sl _ _ _ _ _ => ⟨fun id => askX x fun v => askX y fun u => .ret (rs1 d (cmpV samePL op v u))⟩
    | .ifc => (match y with
      | .const .nilIface => ⟨fun id => askX x fun v => .ret (rs1 d (ifcV op v))⟩
      | _ => nope)
    | _ => ⟨fun id => askX x fun v => askX y fun u => .ret (rs1 d (binV op v u))⟩
  | .unOp .not _ x => withD N o.dst fun d => ⟨fun id => askX x fun v => .ret (rs1 d (notV v))⟩
  | .unOp .neg _ x => withD N o.dst fun d => ⟨fun id => askX x fun v => .ret (rs1 d (negV v))⟩
  | .convert t u x => withD N o.dst fun d => withT E t fun i => withT E u fun j => match i.kd, j.kd with
    | .sl _ _ _ _ true, .str => ⟨fun id => askX x fun v => textQ d v⟩
    | .str, .sl e _ _ _ true => ⟨fun id => askX x fun v => bytesQ id d e v⟩
    | .ptr _ _, .uptr => ⟨fun id => askX x fun v => toUQ d v⟩
    | .uptr, .ptr e n => ⟨fun id => askX x fun v => fromUQ d e n v⟩
    | _, .int k => ⟨fun id => askX x fun v => .ret (rs1 d (convV k v))⟩
    | _, _ => nope
  | .makeFunc (.func f) ⟨[]⟩ ca => withD N o.dst fun d => ⟨fun id => askC ca.toList fun cs => .ret (some [(.s d, .x (.s (.f f cs)))])⟩
  | .makeMap _ none => withD N o.dst fun d => ⟨fun id => newMQ id d⟩
  | .makeSlice t x y => withD N o.dst fun d => withS E t fun e sz zs => ⟨fun id => askX x fun v => askX y fun u => makeQ id d e sz zs v u⟩
  | .slice t x l h m => withD N o.dst fun d => withT E t fun i => match i.kd with
    | .str => ⟨fun id => askX x fun v => askI l fun l' => askI h fun h' => askI m fun m' => .ret (rs1 d (cutS v l' h' m'))⟩
    | .sl _ sz _ _ _ => ⟨fun id => askX x fun v => askI l fun l' => askI h fun h' => askI m fun m' => .ret (rs1 d (cutL sz v l' h' m'))⟩
    | _ => nope
  | .fieldAddr t x f => withD N o.dst fun d => withT E t fun i => match i.flds[f]? with
    | some (some (off, _, _)) => ⟨fun id => askX x fun v => .ret (rs1 d (faddrV off v))⟩
    | _ => nope
  | .field t x f => withD N o.dst fun d => withT E t fun i => match i.flds[f]? with
    | some (some (off, b, n)) => ⟨fun id => askX x fun v => .ret (rs1 d (fieldV off b n v))⟩
    | _ => nope
  | .indexAddr t x y => withD N o.dst fun d => withS E t fun _ sz _ => ⟨fun id => askX x fun v => askX y fun u => .ret (rs1 d (iaddrV sz v u))⟩
  | .index t x y => withD N o.dst fun d => withT E t fun i => match i.kd with
    | .str => ⟨fun id => askX x fun v => askX y fun u => .ret (rs1 d (indexV v u))⟩
    | _ => nope
  | .extract x i => withD N o.dst fun d => ⟨fun id => askX x fun v => .ret (rs1 d (extractV i v))⟩
  | .call c => (match o.dst with
    | none => stpBn E c
    | some _ => withD N o.dst fun d => stpBi E d c)
  | .lookup t x y false => withD N o.dst fun d => withT E t fun i => match i.kd with
    | .mp _ _ mk z => ⟨fun id => askX x fun v => askX y fun kk => lookQ mk z d v kk⟩
    | _ => nope
  | .mapUpdate t x y z => (match o.dst with
    | none => withT E t fun i => match i.kd with
      | .mp _ _ mk _ => ⟨fun id => askX x fun v => askX y fun kk => askX z fun u => updQ mk v kk u⟩
      | _ => nope
    | some _ => nope)
  | .range t x => withD N o.dst fun d => withT E t fun i => match i.kd with
    | .str => ⟨fun id => askX x fun v => rangeSQ id d v⟩
    | .mp _ _ _ _ => ⟨fun id => askX x fun v => rangeMQ id d v⟩
    | _ => nope
  | .next x true => withD N o.dst fun d => ⟨fun id => askX x fun v => nextSQ d v⟩
  | .next x false => withD N o.dst fun d => ⟨fun id => askX x fun v => nextMQ d v⟩
  | _ => nope

section
variable {P : Program}

theorem nope_ok {N : Nat} {o : Oper} {id : Nat} : OpB P N o (nope.f id) := fun _ _ _ _ _ _ h => by cases h

theorem withD_ok {N : Nat} {o : Oper} {k : Nat → Bq} {id : Nat} (h : ∀ d, o.dst = some d → d < N → OpB P N o ((k d).f id)) : OpB P N o ((withD N o.dst k).f id) := by
  unfold withD
  split
  · rename_i d hd
    cases hb : Nat.blt d N with
    | false => exact nope_ok
    | true => exact h d hd (blt_iff.1 hb)
  · exact nope_ok

theorem withT_ok {E : Env} (hE : EnvOK P E) {N : Nat} {o : Oper} {t : TypeId} {k : TI → Bq} {id : Nat} (h : ∀ i, TIok P t i → OpB P N o ((k i).f id)) : OpB P N o ((withT E t k).f id) := by
  unfold withT
  split
  · rename_i i hi; exact h i (hE.tab t i hi)
  · exact nope_ok

theorem withS_ok {E : Env} (hE : EnvOK P E) {N : Nat} {o : Oper} {t : TypeId} {k : TypeId → Nat → List Value → Bq} {id : Nat} (h : ∀ e sz by_ zs, Fits P t e sz by_ zs → OpB P N o ((k e sz zs).f id)) : OpB P N o ((withS E t k).f id) := by
  unfold withS
  refine withT_ok hE fun i hi => ?_
  have hk := hi.kd
  cases hkd : i.kd with
  | sl e sz by_ zs u8 => rw [hkd] at hk; exact h e sz by_ zs hk.1
  | _ => exact nope_ok

theorem stp_ok {E : Env} (hE : EnvOK P E) (N id : Nat) (o : Oper) : OpB P N o ((stp E N o).f id) := by
  obtain ⟨dst, op, ty, pos, af, g⟩ := o
  unfold stp
  cases op
  case move x => exact withD_ok fun d hd hN => by cases hd; exact b_move hN
  case assign x => exact withD_ok fun d hd hN => by cases hd; exact b_assign hN
  case pick z x y => exact withD_ok fun d hd hN => by cases hd; exact b_pick hN
  case alloc t => exact withD_ok fun d hd hN => withT_ok hE fun i hi => by cases hd; exact b_alloc hi.zero hN
  case box t x => exact withD_ok fun d hd hN => by cases hd; exact b_box hN
  case build t parts =>
    refine withD_ok fun d hd hN => withT_ok hE fun i hi => ?_
    cases hd
    split
    · rename_i pl zs hb; exact b_build (hi.bld _ hb) hN
    · have hk := hi.kd
      split
      · rename_i h; rw [h] at hk; exact b_buildA hk hi.zero hN
      · exact nope_ok
  case buildSlice t k parts => exact withD_ok fun d hd hN => withS_ok hE fun e sz by_ zs hf => by cases hd; exact b_bslice hf hN
  case load t x => exact withD_ok fun d hd hN => withT_ok hE fun i hi => by cases hd; exact b_load hi.sh hN
  case store t x y =>
    cases dst with
    | none => exact withT_ok hE fun i hi => b_store hi.sh
    | some _ => exact nope_ok
  case nilCheck x => exact withD_ok fun d hd hN => by cases hd; exact b_nil2 hN
  case binOp op t x y t' =>
    refine withD_ok fun d hd hN => withT_ok hE fun i hi => ?_
    cases hd
    have hk := hi.kd
    split
    · rename_i h; rw [h] at hk; exact b_beq hk hN
    · rename_i n h; rw [h] at hk; exact b_seqF hk hN
    · rename_i e n h; rw [h] at hk; exact b_ptrcmp hk.1 hk.2.1 hk.2.2 hN
    · rename_i e sz by_ zs u8 h
      rw [h] at hk
      obtain ⟨_, _, h1, _⟩ := elemI_run hk.1.info
      exact b_slcmp h1 hN
    · rename_i h
      rw [h] at hk
      split
      · exact b_ifc hk hN
      · exact nope_ok
    · exact b_bin hN
  case unOp u t x =>
    cases u
    case not => exact withD_ok fun d hd hN => by cases hd; exact b_not hN
    case neg => exact withD_ok fun d hd hN => by cases hd; exact b_neg hN
    all_goals exact nope_ok
  case convert t u x =>
    refine withD_ok fun d hd hN => withT_ok hE fun i hi => withT_ok hE fun j hj => ?_
    cases hd
    have hk := hi.kd
    have hl := hj.kd
    split
    · rename_i e sz by_ zs h1 h2
      rw [h1] at hk; rw [h2] at hl
      obtain ⟨_, _, g1, _⟩ := elemI_run hk.1.info
      exact b_text g1 (hk.2 rfl) hl hN
    · rename_i e sz by_ zs h1 h2
      rw [h1] at hk; rw [h2] at hl
      obtain ⟨_, _, g1, _⟩ := elemI_run hl.1.info
      exact b_bytes hk g1 (hl.2 rfl) hN
    · rename_i e n h1 h2
      rw [h1] at hk; rw [h2] at hl
      exact b_toU hk.1 hl hk.2.1 hk.2.2 hN
    · rename_i e n h1 h2
      rw [h1] at hk; rw [h2] at hl
      exact b_fromU hk hl.1 hl.2.1 hl.2.2 hN
    · rename_i k h2
      rw [h2] at hl
      have hsome : (P.underlying t).isSome = true := by
        have := hi.sh
        unfold Sh at this
        cases hu : P.underlying t with
        | none => rw [hu] at this; simp at this
        | some _ => rfl
      exact b_conv k hsome hl hN
    · exact nope_ok
  case makeFunc fn fs ca =>
    cases fn
    case func f =>
      obtain ⟨l⟩ := fs
      cases l with
      | nil => exact withD_ok fun d hd hN => by cases hd; exact b_func hN
      | cons _ _ => exact nope_ok
    all_goals exact nope_ok
  case makeMap t r =>
    cases r with
    | none => exact withD_ok fun d hd hN => by cases hd; exact b_map hN
    | some _ => exact nope_ok
  case makeSlice t x y => exact withD_ok fun d hd hN => withS_ok hE fun e sz by_ zs hf => by cases hd; exact b_make hf hN
  case slice t x l h m =>
    refine withD_ok fun d hd hN => withT_ok hE fun i hi => ?_
    cases hd
    have hk := hi.kd
    split
    · rename_i h1; rw [h1] at hk; exact b_cutS hk hN
    · rename_i h1; rw [h1] at hk; exact b_cutL hk.1.sh hN
    · exact nope_ok
  case fieldAddr t x f =>
    refine withD_ok fun d hd hN => withT_ok hE fun i hi => ?_
    cases hd
    split
    · rename_i off b n hf; exact b_faddr (hi.flds f _ hf) hN
    · exact nope_ok
  case field t x f =>
    refine withD_ok fun d hd hN => withT_ok hE fun i hi => ?_
    cases hd
    split
    · rename_i off b n hf; exact b_field (hi.flds f _ hf) hN
    · exact nope_ok
  case indexAddr t x y => exact withD_ok fun d hd hN => withS_ok hE fun e sz by_ zs hf => by cases hd; exact b_iaddr hf.sh hN
  case index t x y =>
    refine withD_ok fun d hd hN => withT_ok hE fun i hi => ?_
    cases hd
    have hk := hi.kd
    split
    · rename_i h; rw [h] at hk; exact b_index hk hN
    · exact nope_ok
  case extract x i => exact withD_ok fun d hd hN => by cases hd; exact b_extract hN
  case lookup t x y ok =>
    cases ok with
    | true => exact nope_ok
    | false =>
      refine withD_ok fun d hd hN => withT_ok hE fun i hi => ?_
      cases hd
      have hk := hi.kd
      split
      · rename_i h; rw [h] at hk; exact b_look hk.1 hk.2.1 hk.2.2 hN
      · exact nope_ok
  case mapUpdate t x y z =>
    cases dst with
    | some _ => exact nope_ok
    | none =>
      refine withT_ok hE fun i hi => ?_
      have hk := hi.kd
      split
      · rename_i h; rw [h] at hk; exact b_upd hk.1 hk.2.1
      · exact nope_ok
  case range t x =>
    refine withD_ok fun d hd hN => withT_ok hE fun i hi => ?_
    cases hd
    have hk := hi.kd
    split
    · rename_i h; rw [h] at hk; exact b_rangeS hk hN
    · rename_i h; rw [h] at hk; exact b_rangeM hk.1 hN
    · exact nope_ok
  case next x b =>
    cases b with
    | true => exact withD_ok fun d hd hN => by cases hd; exact b_nextS hN
    | false => exact withD_ok fun d hd hN => by cases hd; exact b_nextM hN
  case call c =>
    cases dst with
    | none =>
      show OpB P N _ ((stpBn E c).f id)
      unfold stpBn
      split
      · refine withT_ok hE fun i hi => ?_
        have hk := hi.kd
        split
        · rename_i h; rw [h] at hk; exact b_del hk.1 hk.2.1
        · exact nope_ok
      · exact nope_ok
    | some d0 =>
    refine withD_ok fun d hd hN => ?_
    cases hd
    unfold stpBi
    split
    · rename_i x t
      refine withT_ok hE fun i hi => ?_
      have hk := hi.kd
      split
      · rename_i h; rw [h] at hk; exact b_lenS hk hN
      · rename_i h; rw [h] at hk; exact b_lenL hk.1.sh hN
      · rename_i h; rw [h] at hk; exact b_lenM hk.1 hN
      · exact nope_ok
    · rename_i x y t t2
      refine withS_ok hE fun e sz by_ zs hf => ?_
      cases hb : Nat.beq sz 1 with
      | true =>
        have : sz = 1 := by simpa using hb
        subst this
        exact b_copy hf hN
      | false => exact nope_ok
    · rename_i x y t t2
      refine withS_ok hE fun e sz by_ zs hf => ?_
      cases hb : Nat.beq t t2 with
      | true =>
        have : t = t2 := by simpa using hb
        subst this
        exact b_app (str := false) ⟨by simp, fun _ => rfl⟩ hf hN
      | false =>
        refine withT_ok hE fun j hj => ?_
        have hk := hj.kd
        split
        · rename_i h; rw [h] at hk; exact b_app (str := true) ⟨fun _ => hk, by simp⟩ hf hN
        · exact nope_ok
    · exact b_max hN
    · exact b_min hN
    · exact b_data hN
    · rename_i x y pt it
      refine withT_ok hE fun i hi => ?_
      have hk := hi.kd
      split
      · rename_i e h; rw [h] at hk; exact b_ustr hk.1 hk.2.1 hN
      · exact nope_ok
    · exact nope_ok
  all_goals exact nope_ok

end
end DX
end Go.Proofs.YtmfljpjdpfbfoaaGreatDoor
