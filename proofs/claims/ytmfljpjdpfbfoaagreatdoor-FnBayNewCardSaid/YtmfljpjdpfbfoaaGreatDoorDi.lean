/- A deterministic evaluator of the model's code, part i: functions as values, pointers and slices held against each other, structs of numbers, texts out of bytes, places without a type, maps. -/
import Derived.Test.YtmfljpjdpfbfoaaGreatDoorDh
import Derived.Lib.Builder
import Derived.Lib.UnsafeStr
import Derived.Laws.Entries
namespace Go.Proofs.YtmfljpjdpfbfoaaGreatDoor
namespace DX

section
variable {P : Program} {N : Nat} {τ : St}
variable {d id : Nat} {x y z : Operand} {t t2 t' u ty : TypeId} {pos : String} {af : Array Edge} {g : Option (Nat × Bool)}

/-! ### Functions -/
def nilV2 : AV → Option AV
  | .o (.s (.p i u k sz j)) => some (.s (.p i u k sz j))
  | .o (.s (.f f ca)) => some (.s (.f f ca))
  | _ => none

theorem b_nil2 (hd : d < N) : OpB P N ⟨some d, .nilCheck x, ty, pos, af, g⟩ (askX x fun v => .ret (rs1 d (nilV2 v))) :=
  OpB.pure1 rfl hd fun c M τ a w hh v hv r hr => by
    unfold nilV2 at hr
    split at hr
    · rename_i i u k sz j
      cases hr
      have e : a.eval x = .pointer (some ⟨(M.β i u).1, (M.β i u).2 + (k * sz + j), none⟩) := hv
      exact ⟨fun i hi => hi, _, by simp [execOp, e], rfl⟩
    · rename_i f ca
      cases hr
      obtain ⟨cs, e, hc⟩ := hv
      exact ⟨fun i hi => hi, .func (.func f) #[] cs, by simp [execOp, e], ⟨cs, rfl, hc⟩⟩
    · cases hr

def cvOf : SV → Option CV
  | .v x => some (.v x)
  | .p i u k sz j => some (.p i u k sz j)
  | .s i u sz o n cp => some (.s i u sz o n cp)
  | .m i u => some (.m i u)
  | _ => none

def ofCV : CV → SV
  | .v x => .v x
  | .p i u k sz j => .p i u k sz j
  | .s i u sz o n cp => .s i u sz o n cp
  | .m i u => .m i u

theorem ofCV_rel {M : Mp} {x : CV} {y : Value} : (ofCV x).rel M y ↔ x.rel M y := by cases x <;> rfl
theorem ofCV_ids {x : CV} : (ofCV x).ids = x.ids := by cases x <;> rfl
theorem cvOf_rel {M : Mp} {x : SV} {c : CV} (h : cvOf x = some c) : (∀ y, x.rel M y → c.rel M y) ∧ c.ids = x.ids := by
  cases x <;> cases h <;> exact ⟨fun _ h => h, rfl⟩

noncomputable def askC (l : List Operand) (k : List CV → Q Rs) : Q Rs :=
  match l with
  | [] => k []
  | x :: l => askX x fun
    | .o (.s v) => match cvOf v with
      | some c => askC l fun cs => k (c :: cs)
      | none => .ret none
    | _ => .ret none

theorem askC_some {c : Ctx} {M : Mp} {a : Act} {w : World} (hh : Holds N c M τ a w) : ∀ {l : List Operand} {k : List CV → Q Rs} {u : Upd}, (askC l k).run τ = some u → ∃ cs, relC M cs (l.map a.eval) ∧ (∀ p ∈ idsC cs, nm τ p) ∧ (k cs).run τ = some u
  | [], k, u, h => ⟨[], trivial, by simp [idsC], h⟩
  | x :: l, k, u, h => by
    obtain ⟨v, hv, h⟩ := askX_some h
    have hr := ev_rel hh hv
    have hn := ev_named hh hv
    split at h
    · rename_i v
      split at h
      · rename_i cv hcv
        obtain ⟨cs, h1, h2, h3⟩ := askC_some hh h
        obtain ⟨g1, g2⟩ := cvOf_rel (M := M) hcv
        refine ⟨cv :: cs, ⟨g1 _ hr, h1⟩, fun p hp => ?_, h3⟩
        simp only [idsC, List.mem_append] at hp
        rcases hp with hp | hp
        · rw [g2] at hp; exact hn p hp
        · exact h2 p hp
      · cases h
    · cases h

theorem b_func {f : FuncId} {ca : Array Operand} (hd : d < N) : OpB P N ⟨some d, .makeFunc (.func f) #[] ca, ty, pos, af, g⟩ (askC ca.toList fun cs => .ret (some [(.s d, .x (.s (.f f cs)))])) := by
  intro c τ a w hr u hu K Q' hK
  obtain ⟨M, hh⟩ := hr
  obtain ⟨cs, h1, h2, hu⟩ := askC_some hh hu
  cases hu
  exact OpB.value (av := .s (.f f cs)) hh rfl hd (v := .func (.func f) #[] (ca.map a.eval)) (by simp [execOp, Instr.makeFunc]) ⟨_, rfl, by simpa using h1⟩ h2 hK

/-! ### Pointers and slices -/
def samePS (x y : SV) : Option Bool :=
  match x, y with
  | .v (.pointer none), .v (.pointer none) => some true
  | .p _ _ _ _ _, .v (.pointer none) => some false
  | .v (.pointer none), .p _ _ _ _ _ => some false
  | .p i u k sz j, .p i' u' k' sz' j' => bif (Nat.beq i i' && Nat.beq u u') && (Nat.beq k k' && (Nat.beq sz sz' && Nat.beq j j')) then some true else none
  | _, _ => none

def samePL (x y : SV) : Option Bool :=
  match x, y with
  | .v (.slice none 0 0), .v (.slice none 0 0) => some true
  | .s _ _ _ _ _ _, .v (.slice none 0 0) => some false
  | .v (.slice none 0 0), .s _ _ _ _ _ _ => some false
  | _, _ => none

def cmpV (f : SV → SV → Option Bool) (op : BinOp) (x y : AV) : Option AV :=
  match x, y with
  | .o (.s x), .o (.s y) => match f x y, op with
    | some b, .eql => some (.q b)
    | some b, .neq => some (.q (!b))
    | _, _ => none
  | _, _ => none

theorem cmp_fin {op : BinOp} (hd : d < N) {f : SV → SV → Option Bool} (h : ∀ (M : Mp) (w : World) (x y : SV) (v u : Value) (b : Bool), f x y = some b → x.rel M v → y.rel M u → (∀ d, (Op.equalIn (d + 1) t v u).run P w = .ok b w) ∧ (∀ o x' y', (eqGuard o t x' y' v u).run P w = .ok () w) ∧ (∀ o, o = .eql ∨ o = .neq → binOp o t v u = match o with
      | .eql => (do pure (.bool (← Op.equal t v u)))
      | _ => (do pure (.bool (!(← Op.equal t v u)))))) :
    OpB P N ⟨some d, .binOp op t x y t', ty, pos, af, g⟩ (askX x fun v => askX y fun u => .ret (rs1 d (cmpV f op v u))) :=
  OpB.pure2 rfl hd fun c M τ a w hh v u hv hu r hr => by
    unfold cmpV at hr
    split at hr
    · rename_i x' y'
      split at hr
      · rename_i b hb
        cases hr
        obtain ⟨h1, h2, h3⟩ := h M w x' y' _ _ b hb hv hu
        refine ⟨fun p hp => nov hp, .bool b, ?_, rfl⟩
        have := h1 9999
        simp [execOp, h2, h3 .eql (.inl rfl), Op.equal, Op.maxDepth, this]
      · rename_i b hb
        cases hr
        obtain ⟨h1, h2, h3⟩ := h M w x' y' _ _ b hb hv hu
        refine ⟨fun p hp => nov hp, .bool (!b), ?_, rfl⟩
        have := h1 9999
        simp [execOp, h2, h3 .neq (.inr rfl), Op.equal, Op.maxDepth, this]
      · cases hr
    · cases hr

theorem b_ptrcmp {op : BinOp} {e : TypeId} {n : Nat} (ht : P.underlying t = some (.pointer e)) (hz : (P.info? e).map (·.size) = some n) (hn : n ≠ 0) (hd : d < N) : OpB P N ⟨some d, .binOp op t x y t', ty, pos, af, g⟩ (askX x fun v => askX y fun u => .ret (rs1 d (cmpV samePS op v u))) := by
  obtain ⟨i, hi, hin⟩ := Option.map_eq_some_iff.1 hz
  refine cmp_fin hd fun M w x y v u b hb hv hu => ?_
  unfold samePS at hb
  split at hb
  · cases hb
    have hv : v = _ := hv; have hu : u = _ := hu
    subst hv; subst hu
    exact ⟨fun d => by simp [Op.equalIn, run_underlying ht], fun o x' y' => by cases o <;> simp [eqGuard], fun o ho => by rcases ho with rfl | rfl <;> rfl⟩
  · cases hb
    have hv : v = _ := hv; have hu : u = _ := hu
    subst hv; subst hu
    exact ⟨fun d => by simp [Op.equalIn, run_underlying ht], fun o x' y' => by cases o <;> simp [eqGuard], fun o ho => by rcases ho with rfl | rfl <;> rfl⟩
  · cases hb
    have hv : v = _ := hv; have hu : u = _ := hu
    subst hv; subst hu
    exact ⟨fun d => by simp [Op.equalIn, run_underlying ht], fun o x' y' => by cases o <;> simp [eqGuard], fun o ho => by rcases ho with rfl | rfl <;> rfl⟩
  · rename_i i1 u1 k1 s1 j1 i2 u2 k2 s2 j2
    cases hc : (Nat.beq i1 i2 && Nat.beq u1 u2) && (Nat.beq k1 k2 && (Nat.beq s1 s2 && Nat.beq j1 j2)) with
    | false => rw [hc] at hb; cases hb
    | true =>
      rw [hc] at hb; cases hb
      simp only [Bool.and_eq_true] at hc
      obtain ⟨⟨h1, h2⟩, h3, h4, h5⟩ := hc
      have h1 : i1 = i2 := by simpa using h1
      have h2 : u1 = u2 := by simpa using h2
      have h3 : k1 = k2 := by simpa using h3
      have h4 : s1 = s2 := by simpa using h4
      have h5 : j1 = j2 := by simpa using h5
      subst h1; subst h2; subst h3; subst h4; subst h5
      have hv : v = _ := hv; have hu : u = _ := hu
      subst hv; subst hu
      exact ⟨fun d => by simp [Op.equalIn, run_underlying ht, sizeOf, typeInfo, hi, hin, hn, run_sameAddr_same], fun o x' y' => by cases o <;> simp [eqGuard], fun o ho => by rcases ho with rfl | rfl <;> rfl⟩
  · cases hb

theorem b_slcmp {op : BinOp} {e : TypeId} (ht : P.underlying t = some (.slice e)) (hd : d < N) : OpB P N ⟨some d, .binOp op t x y t', ty, pos, af, g⟩ (askX x fun v => askX y fun u => .ret (rs1 d (cmpV samePL op v u))) := by
  refine cmp_fin hd fun M w x y v u b hb hv hu => ?_
  unfold samePL at hb
  split at hb
  · cases hb
    have hv : v = _ := hv; have hu : u = _ := hu
    subst hv; subst hu
    exact ⟨fun d => by simp [Op.equalIn, run_underlying ht], fun o x' y' => by cases o <;> simp [eqGuard], fun o ho => by rcases ho with rfl | rfl <;> rfl⟩
  · cases hb
    have hu : u = _ := hu
    subst hu
    obtain ⟨p, n, c, hv⟩ : ∃ p n c, v = .slice (some p) n c := by
      rcases hv with ⟨_, _, p, h⟩ | ⟨c, h, _⟩
      · exact ⟨_, _, _, h⟩
      · exact ⟨_, _, _, h⟩
    subst hv
    exact ⟨fun d => by simp [Op.equalIn, run_underlying ht], fun o x' y' => by cases o <;> simp [eqGuard], fun o ho => by rcases ho with rfl | rfl <;> rfl⟩
  · cases hb
    have hv : v = _ := hv
    subst hv
    obtain ⟨p, n, c, hu⟩ : ∃ p n c, u = .slice (some p) n c := by
      rcases hu with ⟨_, _, p, h⟩ | ⟨c, h, _⟩
      · exact ⟨_, _, _, h⟩
      · exact ⟨_, _, _, h⟩
    subst hu
    exact ⟨fun d => by simp [Op.equalIn, run_underlying ht], fun o x' y' => by cases o <;> simp [eqGuard], fun o ho => by rcases ho with rfl | rfl <;> rfl⟩
  · cases hb

/-! ### Structs of numbers -/
/-- A struct all of whose fields are whole numbers. -/
structure Ints (P : Program) (t : TypeId) (n : Nat) : Prop where
  und : P.underlying t = some (.struct (P.fieldsOf t))
  held : P.stoodInHeld t = false
  guard : P.eqGuardType P.depth t = false
  len : (P.fieldsOf t).size = n
  at_ : ∀ (i : Nat) (f : Field), (P.fieldsOf t)[i]? = some f → f.name ≠ "_" ∧ P.underlying f.type = some (.int .i64) ∧ Sh P f.type = some (false, 1) ∧ f.offset = i

theorem run_eqInts {n : Nat} (hI : Ints P t n) (w : World) (xs ys : Array Value) (l m : List Int) (hx : xs.toList = l.map (Value.int .i64)) (hy : ys.toList = m.map (Value.int .i64)) (hl : l.length = n) (hm : m.length = n) (dd : Nat) :
    (Op.eqFields (dd + 1) xs ys (P.fieldsOf t).toList).run P w = .ok (decide (l = m)) w := by
  have key : ∀ (fs : List Field) (k : Nat), (∀ (i : Nat) (f : Field), fs[i]? = some f → f.name ≠ "_" ∧ P.underlying f.type = some (.int .i64) ∧ Sh P f.type = some (false, 1) ∧ f.offset = k + i) → k + fs.length = n →
      (Op.eqFields (dd + 1) xs ys fs).run P w = .ok (decide (l.drop k = m.drop k)) w := by
    intro fs
    induction fs with
    | nil =>
      intro k _ hk
      simp only [List.length_nil, Nat.add_zero] at hk
      rw [List.drop_of_length_le (by omega), List.drop_of_length_le (by omega)]
      simp [Op.eqFields]
    | cons f fs ih =>
      intro k hf hk
      simp only [List.length_cons] at hk
      obtain ⟨h1, h2, h3, h4⟩ := hf 0 f rfl
      have hkl : k < l.length := by omega
      have hkm : k < m.length := by omega
      have p1 : (part f.type xs f.offset).run P w = .ok (.int .i64 l[k]) w := by
        have : xs[f.offset]? = some (.int .i64 l[k]) := by
          rw [h4, ← Array.getElem?_toList, hx]; simp [hkl]
        simp [part, (Sh_isAgg h3 w).1, this]
      have p2 : (part f.type ys f.offset).run P w = .ok (.int .i64 m[k]) w := by
        have : ys[f.offset]? = some (.int .i64 m[k]) := by
          rw [h4, ← Array.getElem?_toList, hy]; simp [hkm]
        simp [part, (Sh_isAgg h3 w).1, this]
      have p3 := run_equalIn_int (P := P) w dd f.type .i64 .i64 l[k] m[k] h2
      have p4 := ih (k + 1) (fun i f' hf' => by
        have := hf (i + 1) f' (by simpa using hf')
        refine ⟨this.1, this.2.1, this.2.2.1, by rw [this.2.2.2]; omega⟩) (by omega)
      have e1 : l.drop k = l[k] :: l.drop (k + 1) := List.drop_eq_getElem_cons hkl
      have e2 : m.drop k = m[k] :: m.drop (k + 1) := List.drop_eq_getElem_cons hkm
      have hg : decide (l.drop k = m.drop k) = ((l[k] == m[k]) && decide (l.drop (k + 1) = m.drop (k + 1))) := by
        rw [Bool.eq_iff_iff]
        simp only [decide_eq_true_eq, Bool.and_eq_true, beq_iff_eq]
        rw [e1, e2]
        exact List.cons_eq_cons
      rw [hg]
      simp only [Op.eqFields, h1, ne_eq, not_false_eq_true, if_true, Sem.run_bind, p1, p2, p3, Result.andThen_ok]
      cases l[k] == m[k] with
      | true => simp [p4]
      | false => simp
  have := key (P.fieldsOf t).toList 0 (fun i f hf => by
    have := hI.at_ i f (by simpa using hf)
    simpa using this) (by simp [hI.len])
  simpa using this

def intsOf : List SV → Option (List Int)
  | [] => some []
  | .v (.int .i64 n) :: l => match intsOf l with
    | some m => some (n :: m)
    | none => none
  | _ :: _ => none

theorem intsOf_rel {M : Mp} : ∀ {l : List SV} {m : List Int} {xs : List Value}, intsOf l = some m → relL M l xs → xs = m.map (Value.int .i64)
  | [], m, xs, h, hr => by
    cases h
    cases xs with
    | nil => rfl
    | cons _ _ => exact hr.elim
  | x :: l, m, xs, h, hr => by
    cases xs with
    | nil => exact hr.elim
    | cons v xs =>
      unfold intsOf at h
      split at h
      · rename_i heq; cases heq
      · rename_i n l' heq
        cases heq
        split at h
        · rename_i m' hm'
          cases h
          have h1 : v = .int .i64 n := hr.1
          rw [h1, intsOf_rel hm' hr.2]; rfl
        · cases h
      · cases h

/-- '==' and '!=' of such structs. -/
def seqV (n : Nat) (op : BinOp) (x y : AV) : Option AV :=
  match x, y with
  | .o (.a l), .o (.a m) => match intsOf l, intsOf m with
    | some p, some q => bif Nat.beq p.length n && Nat.beq q.length n then (match op with
      | .eql => some (.q (decide (p = q)))
      | .neq => some (.q (!(decide (p = q))))
      | _ => none) else none
    | _, _ => none
  | _, _ => none

theorem b_seq {n : Nat} {op : BinOp} (hI : Ints P t n) (hd : d < N) : OpB P N ⟨some d, .binOp op t x y t', ty, pos, af, g⟩ (askX x fun v => askX y fun u => .ret (rs1 d (seqV n op v u))) :=
  OpB.pure2 rfl hd fun c M τ a w hh v u hv hu r hr => by
    unfold seqV at hr
    split at hr
    · rename_i l m
      split at hr
      · rename_i p q hp hq
        cases hc : Nat.beq p.length n && Nat.beq q.length n with
        | false => rw [hc] at hr; cases hr
        | true =>
          rw [hc] at hr
          simp only [Bool.and_eq_true] at hc
          have l1 : p.length = n := by simpa using hc.1
          have l2 : q.length = n := by simpa using hc.2
          obtain ⟨xs, ex, hx⟩ := hv
          obtain ⟨ys, ey, hy⟩ := hu
          have gx := intsOf_rel hp hx
          have gy := intsOf_rel hq hy
          have hrun : ∀ dd, (Op.eqFields (dd + 1) xs ys (P.fieldsOf t).toList).run P w = .ok (decide (p = q)) w := run_eqInts hI w xs ys p q gx gy l1 l2
          have heq : (Op.equalIn 10000 t (.agg xs) (.agg ys)).run P w = .ok (decide (p = q)) w := by
            have := run_equalIn_struct (P := P) w 9999 t xs ys hI.und hI.held
            rw [this]; exact hrun 9998
          have hg : ∀ o, (eqGuard o t x y (.agg xs) (.agg ys)).run P w = .ok () w := fun o => by
            cases o <;> simp [eqGuard, hI.guard]
          simp only [cond_true] at hr
          split at hr
          · cases hr
            refine ⟨fun p hp => nov hp, .bool (decide (p = q)), ?_, rfl⟩
            simp [execOp, ex, ey, hg, binOp, Op.equal, Op.maxDepth, heq]
          · cases hr
            refine ⟨fun p hp => nov hp, .bool (!decide (p = q)), ?_, rfl⟩
            simp [execOp, ex, ey, hg, binOp, Op.equal, Op.maxDepth, heq]
          · cases hr
      · cases hr
    · cases hr

end
end DX
end Go.Proofs.YtmfljpjdpfbfoaaGreatDoor
