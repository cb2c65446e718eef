/- A deterministic evaluator of the model's code, part m: evaluation. -/
import Derived.Test.YtmfljpjdpfbfoaaGreatDoorDl
namespace Go.Proofs.YtmfljpjdpfbfoaaGreatDoor
namespace DX

abbrev Rs2 := Option (Upd × Nat)

inductive Ex where
  | nrm
  | exit (id : Nat)
  | ret

noncomputable def Q.map {α β : Type} (f : α → β) (q : Q α) : Q β := Q.rec (motive := fun _ => Q β) (fun a => .ret (f a)) (fun r _ ih => .ask r ih) q

theorem Q.map_run {α β : Type} (f : α → β) (τ : St) : ∀ q : Q α, (q.map f).run τ = f (q.run τ)
  | .ret _ => rfl
  | .ask r k => Q.map_run f τ (k (τ r))

theorem Q.map_tr {α β : Type} (f : α → β) (τ : St) : ∀ q : Q α, (q.map f).tr τ = q.tr τ
  | .ret _ => rfl
  | .ask r k => congrArg (r :: ·) (Q.map_tr f τ (k (τ r)))

/-! ### Operations, calls and guards among them -/
noncomputable def askY (x : Operand) (k : AV → Q Rs2) : Q Rs2 := Operand.rec (motive := fun _ => Q Rs2)
  (fun t => .ask (.s t) fun o => Option.rec (motive := fun _ => Q Rs2) (.ret none) (fun r => RV.rec (motive := fun _ => Q Rs2) k (fun _ => .ret none) (.ret none) r) o)
  (fun v => k (.s (.v v))) (fun g => k (.s (.v (.pointer (some ⟨g, 0, none⟩))))) (fun f => k (.s (.f f []))) x

theorem askY_some {τ : St} {x : Operand} {k : AV → Q Rs2} {u : Upd × Nat} (h : (askY x k).run τ = some u) : ∃ v, ev τ x = some v ∧ (k v).run τ = some u := by
  cases x with
  | tmp t =>
    change (Option.rec (motive := fun _ => Q Rs2) (.ret none) (fun r => RV.rec (motive := fun _ => Q Rs2) k (fun _ => .ret none) (.ret none) r) (τ (.s t))).run τ = _ at h
    simp only [ev]
    cases ht : τ (.s t) with
    | none => rw [ht] at h; cases h
    | some r =>
      rw [ht] at h
      cases r with
      | x v => exact ⟨v, rfl, h⟩
      | b _ => cases h
      | z => cases h
  | const v => exact ⟨_, rfl, h⟩
  | func f => exact ⟨_, rfl, h⟩
  | global g => exact ⟨_, rfl, h⟩

noncomputable def askAs (l : List Operand) : (List AV → Q Rs2) → Q Rs2 := List.rec (motive := fun _ => (List AV → Q Rs2) → Q Rs2) (fun k => k []) (fun x _ ih k => askY x fun v => ih fun vs => k (v :: vs)) l

noncomputable def avC (l : List CV) : List AV := List.rec (motive := fun _ => List AV) [] (fun x _ ih => .s (ofCV x) :: ih) l

noncomputable def appA (l m : List AV) : List AV := List.rec (motive := fun _ => List AV) m (fun x _ ih => x :: ih) l

/-- How functions are called. -/
abbrev CF := Nat → Nat → List AV → Q Rf
/-- What an operation does: reckoned once for each operation. -/
abbrev Bo := Bx (CF → Nat → Q Rs2)
def nope2 : Bo := ⟨fun _ _ => .ret none⟩

def callR (d : Nat) : Rf → Rs2
  | some (r, u, ck') => some ((.s d, .x r) :: u, ck')
  | none => none

noncomputable def locR (ck : Nat) (u : Rs) : Rs2 := Option.rec (motive := fun _ => Rs2) none (fun u => some (u, Nat.succ ck)) u

def onF (v : AV) (k : Nat → List CV → Q Rs2) : Q Rs2 := match v with
  | .o (.s (.f f ca)) => k f ca
  | _ => .ret none

/-- One operation, its guard aside: what is written, and the next new name. -/
noncomputable def opQ (E : Env) (N : Nat) (o : Oper) : Bo :=
  match o.op with
  | .call ⟨.value x, args, _⟩ => match o.dst with
    | some d => bif Nat.blt d N then ⟨fun cf ck => askY x fun v => onF v fun f ca => askAs args.toList fun vs => (cf ck f (appA vs (avC ca))).map (callR d)⟩ else nope2
    | none => nope2
  | _ => ⟨fun _ ck => ((stp E N o).f ck).map (locR ck)⟩

def nthO (l : List Oper) (n : Nat) : Option Oper := match l, n with
  | [], _ => none
  | o :: _, 0 => some o
  | _ :: l, n + 1 => nthO l n

/-- Does a guard let pass? -/
def passes (want : Bool) (v : Value) : Bool := match v with
  | .bool b => (match want with
    | true => b
    | false => !b)
  | _ => false

def slotV (o : Option RV) (k : Value → Q Rs2) : Q Rs2 := match o with
  | some (.x (.o (.s (.v v)))) => k v
  | _ => .ret none

noncomputable def guardQ (N : Nat) (ops : List Oper) (o : Oper) (q : Bo) : Bo :=
  match o.guard with
  | none => q
  | some (j, want) => match nthO ops j with
    | some og => match og.dst with
      | some g => match o.dst with
        | some d => bif Nat.blt d N then ⟨fun cf ck => .ask (.s g) fun r => slotV r fun v => Bool.rec (motive := fun _ => Q Rs2) (.ret (some ([(.s d, .x (.s (.v undef)))], ck))) (q.f cf ck) (passes want v)⟩ else nope2
        | none => ⟨fun cf ck => .ask (.s g) fun r => slotV r fun v => Bool.rec (motive := fun _ => Q Rs2) (.ret (some ([], ck))) (q.f cf ck) (passes want v)⟩
      | none => nope2
    | none => nope2

/-! ### Regions -/
noncomputable def setCk {β : Type} (n : Nat) (s : FS) (c : FS → β) : β := forceN n fun n => c ⟨s.sl, s.bk, s.dl, n⟩

noncomputable def evT (F : Oper → Bo) (cf : CF) (l : List Oper) : FS → (FS → Q Rf) → Q Rf :=
  List.rec (motive := fun _ => FS → (FS → Q Rf) → Q Rf) (fun s k => k s)
    (fun o _ ih s k => inner ((F o).f cf s.ck) s [] fun r _ s => Option.rec (motive := fun _ => Q Rf) (.ret none) (fun p => FS.apK p.1 s fun s => setCk p.2 s fun s => ih s k) r) l

theorem evT_cons (F : Oper → Bo) (cf : CF) (o : Oper) (l : List Oper) (s : FS) (k : FS → Q Rf) : evT F cf (o :: l) s k = inner ((F o).f cf s.ck) s [] fun r _ s => match r with
    | some p => FS.apK p.1 s fun s => setCk p.2 s fun s => evT F cf l s k
    | none => .ret none := by
  show inner _ _ _ _ = inner _ _ _ _
  congr 1
  funext r _ s
  cases r <;> rfl

/-! In whatever order is drawn: which slots an operation touches is told by its text, once for each region; which blocks, by its run. -/
noncomputable def memN (n : Nat) (l : List Nat) : Bool := List.rec (motive := fun _ => Bool) false (fun m _ ih => Bool.rec (motive := fun _ => Bool) ih true (Nat.beq m n)) l
noncomputable def disN (l m : List Nat) : Bool := List.rec (motive := fun _ => Bool) true (fun n _ ih => Bool.rec (motive := fun _ => Bool) ih false (memN n m)) l
/-- The slots among these are among those. -/
noncomputable def okS (l : List Reg) (S : List Nat) : Bool := List.rec (motive := fun _ => Bool) true (fun r _ ih => Reg.rec (motive := fun _ => Bool) (fun n => Bool.rec (motive := fun _ => Bool) false ih (memN n S)) (fun _ => ih) r) l
/-- The blocks among these. -/
noncomputable def bsR (l : List Reg) : List Nat := List.rec (motive := fun _ => List Nat) [] (fun r _ ih => Reg.rec (motive := fun _ => List Nat) (fun _ => ih) (fun n => n :: ih) r) l

def tmpsOf : List Operand → List Nat
  | [] => []
  | .tmp t :: l => t :: tmpsOf l
  | _ :: l => tmpsOf l

/-- The slots that an operation looks at, and the one that it writes, by its text. -/
def opR (ops : List Oper) (o : Oper) : List Nat := (match o.guard with
  | some (j, _) => match nthO ops j with
    | some og => match og.dst with
      | some g => [g]
      | none => []
    | none => []
  | none => []) ++ tmpsOf o.op.operands.toList
def opW (o : Oper) : List Nat := match o.dst with
  | some d => [d]
  | none => []

abbrev Tb := List (Nat × List Nat)

noncomputable def apW (anc : Nat → Nat → Bool) (i : Nat) (Rb Wb : List Nat) (TW : Tb) : Bool := List.rec (motive := fun _ => Bool) true (fun e _ ih => Bool.rec (motive := fun _ => Bool) false ih (Bool.rec (motive := fun _ => Bool) (Bool.rec (motive := fun _ => Bool) false (disN e.2 Wb) (disN e.2 Rb)) true (anc i e.1))) TW
noncomputable def apR (anc : Nat → Nat → Bool) (i : Nat) (Wb : List Nat) (TR : Tb) : Bool := List.rec (motive := fun _ => Bool) true (fun e _ ih => Bool.rec (motive := fun _ => Bool) false ih (Bool.rec (motive := fun _ => Bool) (disN Wb e.2) true (anc i e.1))) TR
noncomputable def consT (i : Nat) (l : List Nat) (T : Tb) : Tb := List.rec (motive := fun _ => Tb) T (fun _ _ _ => (i, l) :: T) l

noncomputable def chkT (anc : Nat → Nat → Bool) (i : Nat) (SR SW : List Nat) (R W : List Reg) (TR TW : Tb) : Bool :=
  Bool.rec (motive := fun _ => Bool) false (Bool.rec (motive := fun _ => Bool) false (Bool.rec (motive := fun _ => Bool) false (List.rec (motive := fun _ => Bool) true (fun _ _ _ => apR anc i (bsR W) TR) (bsR W)) (apW anc i (bsR R) (bsR W) TW)) (okS W SW)) (okS R SR)

noncomputable def evA (F : Oper → Bo) (cf : CF) (anc : Nat → Nat → Bool) (ops : List Oper) (l : List Oper) : Nat → Tb → Tb → FS → (FS → Q Rf) → Q Rf :=
  List.rec (motive := fun _ => Nat → Tb → Tb → FS → (FS → Q Rf) → Q Rf) (fun _ _ _ s k => k s)
    (fun o _ ih i TR TW s k => inner ((F o).f cf s.ck) s [] fun r R s => Option.rec (motive := fun _ => Q Rf) (.ret none)
      (fun p => Bool.rec (motive := fun _ => Q Rf) (.ret none) (FS.apK p.1 s fun s => setCk p.2 s fun s => forceN (Nat.succ i) fun i' => ih i' (consT i (bsR R) TR) (consT i (bsR (fsts p.1)) TW) s k) (chkT anc i (opR ops o) (opW o) R (fsts p.1) TR TW)) r) l

theorem evA_cons (F : Oper → Bo) (cf : CF) (anc : Nat → Nat → Bool) (ops : List Oper) (o : Oper) (l : List Oper) (i : Nat) (TR TW : Tb) (s : FS) (k : FS → Q Rf) : evA F cf anc ops (o :: l) i TR TW s k = inner ((F o).f cf s.ck) s [] fun r R s => match r with
    | some p => match chkT anc i (opR ops o) (opW o) R (fsts p.1) TR TW with
      | true => FS.apK p.1 s fun s => setCk p.2 s fun s => evA F cf anc ops l (i + 1) (consT i (bsR R) TR) (consT i (bsR (fsts p.1)) TW) s k
      | false => .ret none
    | none => .ret none := by
  show inner _ _ _ _ = inner _ _ _ _
  congr 1
  funext r R s
  cases r with
  | none => rfl
  | some p =>
    show Bool.rec (motive := fun _ => Q Rf) _ (FS.apK p.1 s fun s => setCk p.2 s fun s => forceN (Nat.succ i) fun i' => evA F cf anc ops l i' (consT i (bsR R) TR) (consT i (bsR (fsts p.1)) TW) s k) (chkT anc i (opR ops o) (opW o) R (fsts p.1) TR TW) = match chkT anc i (opR ops o) (opW o) R (fsts p.1) TR TW with
      | true => _
      | false => _
    generalize chkT anc i (opR ops o) (opW o) R (fsts p.1) TR TW = c
    cases c with
    | false => rfl
    | true => simp only [forceN_eq]

/-- By the text alone: what one operation writes into slots, no other that may come in its place looks at or writes. -/
noncomputable def statOK (anc : Nat → Nat → Bool) (S : List (List Nat × List Nat)) : Bool := (S.zipIdx.all fun p => S.zipIdx.all fun q => !(Nat.blt q.2 p.2) || (anc p.2 q.2 || ((disN q.1.2 p.1.1 && disN q.1.2 p.1.2) && disN p.1.2 q.1.1)))

/-! ### Which operations come ahead of which -/
def orAll (ms : List Nat) : List Nat → Nat
  | [] => 0
  | p :: ps => (2 ^ p ||| ms.getD p 0) ||| orAll ms ps

theorem orAll_bit {ms : List Nat} {j : Nat} : ∀ {ps : List Nat}, (orAll ms ps).testBit j = true → ∃ p ∈ ps, p = j ∨ (ms.getD p 0).testBit j = true
  | [], h => by simp [orAll] at h
  | p :: ps, h => by
    simp only [orAll, Nat.testBit_or, Bool.or_eq_true, Nat.testBit_two_pow] at h
    rcases h with (h | h) | h
    · exact ⟨p, by simp, .inl (by simpa using h)⟩
    · exact ⟨p, by simp, .inr h⟩
    · obtain ⟨q, hq, h⟩ := orAll_bit h; exact ⟨q, by simp [hq], h⟩

def masks : List Oper → List Nat → List Nat
  | [], ms => ms
  | o :: l, ms => masks l (ms ++ [orAll ms (preds o)])

def ltOK : List Oper → Nat → Bool
  | [], _ => true
  | o :: l, i => (preds o).all (fun p => Nat.blt p i) && ltOK l (i + 1)

theorem masks_len : ∀ (l : List Oper) (ms : List Nat), (masks l ms).length = ms.length + l.length
  | [], ms => by simp [masks]
  | o :: l, ms => by rw [masks, masks_len l]; simp; omega

theorem masks_keep : ∀ (l : List Oper) (ms : List Nat) (i : Nat), i < ms.length → (masks l ms).getD i 0 = ms.getD i 0
  | [], _, _, _ => rfl
  | o :: l, ms, i, h => by
    rw [masks, masks_keep l _ i (by simp; omega)]
    simp [List.getElem?_append_left h]

theorem masks_at : ∀ (l : List Oper) (ms : List Nat) (i : Nat) (o : Oper), l[i]? = some o → ltOK l ms.length = true →
    ∀ j, ((masks l ms).getD (ms.length + i) 0).testBit j = true → ∃ k ∈ preds o, k = j ∨ ((masks l ms).getD k 0).testBit j = true
  | [], _, i, o, h, _ => by simp at h
  | o' :: l, ms, 0, o, h, hlt => by
    simp at h; subst h
    intro j hj
    simp only [ltOK, Bool.and_eq_true] at hlt
    rw [masks, masks_keep l _ _ (by simp)] at hj
    simp at hj
    obtain ⟨p, hp, h⟩ := orAll_bit hj
    have hpl : p < ms.length := by have := List.all_eq_true.1 hlt.1 p hp; simpa using this
    refine ⟨p, hp, ?_⟩
    rcases h with h | h
    · exact .inl h
    · right
      rw [masks, masks_keep l _ p (by simp; omega)]
      simpa [List.getElem?_append_left hpl] using h
  | o' :: l, ms, i + 1, o, h, hlt => by
    intro j hj
    simp only [ltOK, Bool.and_eq_true] at hlt
    have := masks_at l (ms ++ [orAll ms (preds o')]) i o (by simpa using h) (by simpa using hlt.2) j (by
      rw [masks] at hj
      simpa [Nat.add_assoc, Nat.add_comm 1 i] using hj)
    rw [masks]
    exact this

theorem ltOK_at : ∀ (l : List Oper) (n i : Nat) (o : Oper), ltOK l n = true → l[i]? = some o → ∀ p ∈ preds o, p < n + i
  | [], _, i, o, _, h => by simp at h
  | o' :: l, n, 0, o, hlt, h => by
    simp at h; subst h
    simp only [ltOK, Bool.and_eq_true] at hlt
    intro p hp
    have := List.all_eq_true.1 hlt.1 p hp
    simpa using this
  | o' :: l, n, i + 1, o, hlt, h => by
    simp only [ltOK, Bool.and_eq_true] at hlt
    intro p hp
    have := ltOK_at l (n + 1) i o hlt.2 (by simpa using h) p hp
    omega

def ancOf (ms : List Nat) (i j : Nat) : Bool := (ms.getD i 0).testBit j

theorem anc_of {ops : Array Oper} (h : ltOK ops.toList 0 = true) : Anc ops (ancOf (masks ops.toList [])) where
  lt := fun i o ho p hp => by
    have := ltOK_at ops.toList 0 i o h (by simpa using ho) p hp
    omega
  step := fun i o ho j hj => by
    have := masks_at ops.toList [] i o (by simpa using ho) (by simpa using h) j (by simpa [ancOf] using hj)
    exact this

/-! ### Results -/
noncomputable def resV (E : Env) (s : FS) : ResultVar → Option A0
  | .tmp t => match s.sl.get t with
    | some (.x (.o x)) => some x
    | _ => none
  | .cell ad ty => match s.sl.get ad with
    | some (.x (.o (.s (.p i u k sz j)))) => match s.bk.get i, E.tab ty with
      | some (_, .b B), some ti => match B.con, verHi B.vs u with
        | .c l, some hi => match loadL ti.agg ti.size (k * sz + j) hi l with
          | some (.o x) => some x
          | _ => none
        | _, _ => none
      | _, _ => none
    | _ => none

noncomputable def resVs (E : Env) (s : FS) : List ResultVar → Option (List A0)
  | [] => some []
  | x :: l => match resV E s x, resVs E s l with
    | some r, some rs => some (r :: rs)
    | _, _ => none

noncomputable def resA (E : Env) (s : FS) (l : List ResultVar) : Option AV :=
  match resVs E s l with
  | some [x] => some (.o x)
  | some rs => some (.t rs)
  | none => none

noncomputable def updOf (bk : Tri (Bool × RV)) : List Nat → Upd
  | [] => []
  | n :: l => match bk.get n with
    | some p => (.b n, p.2) :: updOf bk l
    | none => updOf bk l

noncomputable def fin (E : Env) (rs : List ResultVar) (e : Ex) (s : FS) : Q Rf := match e with
  | .exit _ => .ret none
  | _ => match resA E s rs with
    | some r => .ret (some (r, updOf s.bk s.dl, s.ck))
    | none => .ret none

/-! ### Code -/
def condK {β : Type} (r : Option RV) (a b c : β) : β := match r with
  | some (.x (.o (.s (.v (.bool t))))) => match t with
    | true => a
    | false => b
  | _ => c

noncomputable def slotsK {β : Type} (l : List AV) : Nat → Tri RV → (Tri RV → β) → β := List.rec (motive := fun _ => Nat → Tri RV → (Tri RV → β) → β) (fun _ t c => c t) (fun v _ ih j t c => Tri.putK t j (.x v) fun t => ih (Nat.succ j) t c) l

abbrev Kt := Ex → FS → Q Rf
abbrev Ev := Nat → Code → FS → Kt → Q Rf

noncomputable def callF (E : Env) (ih : Ev) (ck f : Nat) (args : List AV) : Q Rf :=
  match E.fn f with
  | some (.code N body rs) => bif Nat.ble args.length N then slotsK args 0 .lf fun sl => ih N body ⟨sl, .lf, [], ck⟩ (fin E rs) else .ret none
  | some .same => match args with
    | [x] => .ret (some (x, [], ck))
    | _ => .ret none
  | some (.con q) => q ck args
  | none => .ret none

noncomputable def opF (E : Env) (N : Nat) (ops : List Oper) (o : Oper) : Bo := guardQ N ops o (opQ E N o)

/-- What a piece of code does: reckoned once for each piece. -/
noncomputable def step (E : Env) (N : Nat) (c : Code) : Bx (Ev → FS → Kt → Q Rf) := match c with
  | .skip => ⟨fun _ s k => k .nrm s⟩
  | .region _ ops draw => match draw with
    | false => ⟨fun ih s k => evT (opF E N ops.toList) (callF E ih) ops.toList s (k .nrm)⟩
    | true => match ltOK ops.toList 0 && statOK (ancOf (masks ops.toList [])) (ops.toList.map fun o => (opR ops.toList o, opW o)) with
      | true => ⟨fun ih s k => evA (opF E N ops.toList) (callF E ih) (ancOf (masks ops.toList [])) ops.toList ops.toList 0 [] [] s (k .nrm)⟩
      | false => ⟨fun _ _ _ => .ret none⟩
  | .seq a b => ⟨fun ih s k => ih N a s fun e s => Ex.rec (motive := fun _ => Q Rf) (ih N b s k) (fun i => k (.exit i) s) (k .ret s) e⟩
  | .cond o a b => match o with
    | .tmp t => ⟨fun ih s k => condK (s.sl.get t) (ih N a s k) (ih N b s k) (.ret none)⟩
    | .const (.bool true) => ⟨fun ih s k => ih N a s k⟩
    | .const (.bool false) => ⟨fun ih s k => ih N b s k⟩
    | _ => ⟨fun _ _ _ => .ret none⟩
  | .block id a => ⟨fun ih s k => ih N a s fun e s => Ex.rec (motive := fun _ => Q Rf) (k .nrm s) (fun i => Bool.rec (motive := fun _ => Q Rf) (k (.exit i) s) (k .nrm s) (Nat.beq i id)) (k .ret s) e⟩
  | .loop a => ⟨fun ih s k => ih N a s fun e s => Ex.rec (motive := fun _ => Q Rf) (ih N (.loop a) s k) (fun i => k (.exit i) s) (k .ret s) e⟩
  | .exit id => ⟨fun _ s k => k (.exit id) s⟩
  | .label _ => ⟨fun _ s k => k .nrm s⟩
  | .ret => ⟨fun _ s k => k .ret s⟩
  | _ => ⟨fun _ _ _ => .ret none⟩

noncomputable def evN (E : Env) (n : Nat) : Ev := Nat.rec (motive := fun _ => Ev) (fun _ _ _ _ => .ret none) (fun _ ih N c s k => (step E N c).f ih s k) n

theorem evN_succ (E : Env) (n N : Nat) (c : Code) (s : FS) (k : Kt) : evN E (n + 1) N c s k = (step E N c).f (evN E n) s k := rfl

end DX
end Go.Proofs.YtmfljpjdpfbfoaaGreatDoor
