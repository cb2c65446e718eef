/- A deterministic evaluator of the model's code, part e: places, parts, lengths, cuts, structs held against each other, functions as values. -/
import Derived.Test.YtmfljpjdpfbfoaaGreatDoorDd
namespace Go.Proofs.YtmfljpjdpfbfoaaGreatDoor
namespace DX

section
variable {P : Program} {N : Nat} {τ : St}
variable {d : Nat} {x y z : Operand} {t t' u ty : TypeId} {pos : String} {af : Array Edge} {g : Option (Nat × Bool)}

/-- A type's shape in memory: is it a struct or an array; its cells. -/
def Sh (P : Program) (t : TypeId) : Option (Bool × Nat) :=
  match P.underlying t, P.info? t with
  | some (.struct _), some i | some (.array _ _), some i => some (true, i.size)
  | some _, some i => some (false, i.size)
  | _, _ => none

theorem Sh_isAgg {t : TypeId} {b : Bool} {n : Nat} (h : Sh P t = some (b, n)) (w : World) : (isAgg t).run P w = .ok b w ∧ (sizeOf t).run P w = .ok n w := by
  unfold Sh at h
  cases hu : P.underlying t with
  | none => rw [hu] at h; simp at h
  | some d =>
    cases hi : P.info? t with
    | none => rw [hu, hi] at h; cases d <;> simp at h
    | some i =>
      rw [hu, hi] at h
      refine ⟨?_, ?_⟩
      · cases d <;> simp at h <;> simp [isAgg, run_underlying hu, h.1]
      · cases d <;> simp at h <;> simp [sizeOf, typeInfo, hi, h.2]

theorem add_none (b o j : Nat) : (⟨b, o, none⟩ : Addr).add j = ⟨b, o + j, none⟩ := by
  unfold Addr.add
  split
  · rename_i h; subst h; rfl
  · rfl

theorem blt_iff {m n : Nat} : Nat.blt m n = true ↔ m < n := by simp [Nat.blt_eq]

/-! ### Fields -/
def faddrV (off : Nat) : AV → Option AV
  | .o (.s (.p i u k sz j)) => some (.s (.p i u k sz (j + off)))
  | _ => none

/-- Where a type's field lies, if it has cells; is it a struct or an array; its cells. -/
def fieldOff (P : Program) (t : TypeId) (f : Nat) : Option (Nat × Bool × Nat) :=
  match P.underlying t with
  | some (.struct fs) => match fs[f]? with
    | some fd => match Sh P fd.type with
      | some (b, n) => if n = 0 then none else some (fd.offset, b, n)
      | none => none
    | none => none
  | _ => none

theorem fieldOff_run {f off n : Nat} {b : Bool} (h : fieldOff P t f = some (off, b, n)) : ∃ fs fd, P.underlying t = some (.struct fs) ∧ fs[f]? = some fd ∧ fd.offset = off ∧ Sh P fd.type = some (b, n) ∧ n ≠ 0 := by
  unfold fieldOff at h
  split at h
  · rename_i fs hu
    split at h
    · rename_i fd hf
      split at h
      · rename_i b' n' hS
        split at h
        · cases h
        · rename_i hn; cases h; exact ⟨fs, fd, hu, hf, rfl, hS, hn⟩
      · cases h
    · cases h
  · cases h

theorem run_fieldAt {f off n : Nat} {b : Bool} (h : fieldOff P t f = some (off, b, n)) (ad : Addr) (w : World) : (Instr.fieldAt t (.pointer (some ad)) f).run P w = .ok (.pointer (some (ad.add off))) w := by
  obtain ⟨fs, fd, hu, hf, rfl, hS, hz⟩ := fieldOff_run h
  have hs := (Sh_isAgg hS w).2
  simp [Instr.fieldAt, Instr.sureAddr, run_underlying hu, hf, fieldPlace, hs, hz]

theorem b_faddr {off n : Nat} {b : Bool} {f : Nat} (h : fieldOff P t f = some (off, b, n)) (hd : d < N) : OpB P N ⟨some d, .fieldAddr t x f, ty, pos, af, g⟩ (askX x fun v => .ret (rs1 d (faddrV off v))) :=
  OpB.pure1 rfl hd fun c M τ a w hh v hv r hr => by
    unfold faddrV at hr
    split at hr
    · rename_i i u k sz j
      cases hr
      have e : a.eval x = .pointer (some ⟨(M.β i u).1, (M.β i u).2 + (k * sz + j), none⟩) := hv
      refine ⟨fun k hk => hk, .pointer (some ⟨(M.β i u).1, (M.β i u).2 + (k * sz + j) + off, none⟩), ?_, ?_⟩
      · have := run_fieldAt (P := P) h ⟨(M.β i u).1, (M.β i u).2 + (k * sz + j), none⟩ w
        rw [add_none] at this
        simp [execOp, e, this]
      · show _ = _; rw [Nat.add_assoc, Nat.add_assoc]
    · cases hr

/-- A field of a struct that lies in a slot. -/
def fieldV (off : Nat) (b : Bool) (n : Nat) : AV → Option AV
  | .o (.a l) => match b with
    | true => bif Nat.ble (off + n) l.length then some (.a ((l.drop off).take n)) else none
    | false => match l[off]? with
      | some y => some (.s y)
      | none => none
  | _ => none

theorem idsL_drop_take {p : Nat × Nat} {o n : Nat} {l : List SV} (h : p ∈ idsL ((l.drop o).take n)) : p ∈ idsL l := by
  rw [mem_idsL] at h ⊢
  obtain ⟨x, hx, hi⟩ := h
  exact ⟨x, List.mem_of_mem_drop (List.mem_of_mem_take hx), hi⟩

theorem b_field {off n : Nat} {b : Bool} {f : Nat} (h : fieldOff P t f = some (off, b, n)) (hd : d < N) : OpB P N ⟨some d, .field t x f, ty, pos, af, g⟩ (askX x fun v => .ret (rs1 d (fieldV off b n v))) :=
  OpB.pure1 rfl hd fun c M τ a w hh v hv r hr => by
    obtain ⟨fs, fd, hu, hf, rfl, hS, hz⟩ := fieldOff_run h
    obtain ⟨h1, h2⟩ := Sh_isAgg hS w
    unfold fieldV at hr
    split at hr
    · rename_i l
      obtain ⟨cs, e, hl⟩ := hv
      have hlen := relL_len hl
      split at hr
      · cases hb : Nat.ble (fd.offset + n) l.length with
        | false => rw [hb] at hr; cases hr
        | true =>
          rw [hb] at hr; cases hr
          refine ⟨fun i hi => idsL_drop_take hi, .agg (cs.extract fd.offset (fd.offset + n)), ?_, _, rfl, ?_⟩
          · simp [execOp, e, Instr.field, run_underlying hu, hf, asAgg, part, h1, h2]
          · have := relL_take n (relL_drop fd.offset hl)
            simpa [Array.toList_extract, List.extract_eq_take_drop] using this
      · split at hr
        · rename_i y hy
          cases hr
          obtain ⟨v, hv, hr⟩ := relL_at hl hy
          refine ⟨fun i hi => mem_idsL.2 ⟨y, List.mem_of_getElem? hy, hi⟩, v, ?_, hr⟩
          have hv' : cs[fd.offset]? = some v := by simpa using hv
          simp [execOp, e, Instr.field, run_underlying hu, hf, asAgg, part, h1, hv']
        · cases hr
    · cases hr

/-! ### Parts of a tuple -/
def extractV (i : Nat) : AV → Option AV
  | .t l => match l[i]? with
    | some y => some (.o y)
    | none => none
  | _ => none

theorem b_extract {i : Nat} (hd : d < N) : OpB P N ⟨some d, .extract x i, ty, pos, af, g⟩ (askX x fun v => .ret (rs1 d (extractV i v))) :=
  OpB.pure1 rfl hd fun c M τ a w hh v hv r hr => by
    unfold extractV at hr
    split at hr
    · rename_i l
      split at hr
      · rename_i z hz
        cases hr
        obtain ⟨vs, e, hrel⟩ := hv
        obtain ⟨v, hvi, hr⟩ := relT_at hrel hz
        refine ⟨fun k hk => mem_idsT.2 ⟨z, List.mem_of_getElem? hz, hk⟩, v, ?_, hr⟩
        have hvi' : vs[i]? = some v := by simpa using hvi
        simp [execOp, e, Instr.extract, hvi']
      · cases hr
    · cases hr

/-! ### Places of elements -/
/-- The element type of a slice type, and its cells. -/
def elemSh (P : Program) (t : TypeId) : Option Nat :=
  match P.underlying t with
  | some (.slice e) => (P.info? e).map (·.size)
  | _ => none

theorem elemSh_run {n : Nat} (h : elemSh P t = some n) : ∃ e, P.underlying t = some (.slice e) ∧ ∀ w, (sizeOf e).run P w = .ok n w := by
  unfold elemSh at h
  split at h
  · rename_i e he
    obtain ⟨i, hi, rfl⟩ := Option.map_eq_some_iff.1 h
    exact ⟨e, he, fun w => by simp [sizeOf, typeInfo, hi]⟩
  · cases h

/-- A number that is an index. -/
def natOf : Int → Option Nat
  | .ofNat n => some n
  | .negSucc _ => none
theorem natOf_some {n : Int} {m : Nat} (h : natOf n = some m) : n = m := by
  cases n <;> cases h; rfl

def addO : Nat → Nat → Nat
  | 0, k => k
  | o, k => o + k
theorem addO_eq (o k : Nat) : addO o k = o + k := by cases o <;> simp [addO]

def iaddrV (sz : Nat) (x y : AV) : Option AV :=
  match x, y with
  | .o (.s (.s i u sz' o m _)), .o (.s (.v (.int .i64 n))) => bif Nat.beq sz' sz then (match natOf n with
    | some k => bif Nat.blt k m then some (.s (.p i u (addO o k) sz 0)) else none
    | none => none) else none
  | _, _ => none

theorem run_indexAt {e : TypeId} {sz : Nat} (he : P.underlying t = some (.slice e)) (hsz : ∀ w, (sizeOf e).run P w = .ok sz w) {b o len cap n : Nat} (h1 : n < len) (w : World) :
    (Instr.indexAt t (.slice (some ⟨b, o, none⟩) len cap) (.int .i64 (n : Int))).run P w = .ok (.pointer (some ⟨b, o + n * sz, none⟩)) w := by
  simp [Instr.indexAt, asIntOf, run_underlying he, h1, hsz, add_none]

theorem b_iaddr {sz : Nat} (h : elemSh P t = some sz) (hd : d < N) : OpB P N ⟨some d, .indexAddr t x y, ty, pos, af, g⟩ (askX x fun v => askX y fun u => .ret (rs1 d (iaddrV sz v u))) :=
  OpB.pure2 rfl hd fun c M τ a w hh v u hv hu r hr => by
    obtain ⟨e, he, hsz⟩ := elemSh_run h
    unfold iaddrV at hr
    split at hr
    · rename_i i u' sz' o m cp n
      cases hb : Nat.beq sz' sz with
      | false => rw [hb] at hr; cases hr
      | true =>
        rw [hb] at hr
        have : sz' = sz := by simpa using hb
        subst this
        simp only [cond_true] at hr
        split at hr
        · rename_i k hk
          have := natOf_some hk
          subst this
          cases hlt : Nat.blt k m with
          | false => rw [hlt] at hr; cases hr
          | true =>
            rw [hlt] at hr; cases hr
            have hkm := blt_iff.1 hlt
            have e2 : a.eval y = .int .i64 k := hu
            rcases hv with ⟨hm, _⟩ | ⟨cap, e1, hc, _, _⟩
            · omega
            · refine ⟨fun p hp => .inl hp, .pointer (some ⟨(M.β i u').1, (M.β i u').2 + o * sz' + k * sz', none⟩), ?_, ?_⟩
              · have := run_indexAt (P := P) he hsz (b := (M.β i u').1) (o := (M.β i u').2 + o * sz') (len := m) (cap := cap) hkm w
                simp [execOp, e1, e2, this]
              · show _ = _
                rw [addO_eq, Nat.add_mul, Nat.add_zero, Nat.add_assoc]
        · cases hr
    · cases hr

/-! ### Bytes of strings -/
noncomputable def nthB (l : List UInt8) (n : Nat) : Option UInt8 := List.rec (motive := fun _ => Nat → Option UInt8) (fun _ => none) (fun b _ ih n => Nat.rec (motive := fun _ => Option UInt8) (some b) (fun m _ => ih m) n) l n
theorem nthB_eq : ∀ (l : List UInt8) (n : Nat), nthB l n = l[n]?
  | [], _ => rfl
  | b :: l, 0 => rfl
  | b :: l, n + 1 => by
    show nthB l n = (b :: l)[n + 1]?
    rw [nthB_eq l n]; simp

noncomputable def indexV (x y : AV) : Option AV :=
  match x, y with
  | .o (.s (.v (.string s))), .o (.s (.v (.int _ n))) => match natOf n with
    | some k => match nthB s.data.toList k with
      | some b => some (.s (.v (.int .u8 (b.toNat : Int))))
      | none => none
    | none => none
  | _, _ => none

theorem b_index (h : P.underlying t = some .string) (hd : d < N) : OpB P N ⟨some d, .index t x y, ty, pos, af, g⟩ (askX x fun v => askX y fun u => .ret (rs1 d (indexV v u))) :=
  OpB.pure2 rfl hd fun c M τ a w hh v u hv hu r hr => by
    unfold indexV at hr
    split at hr
    · rename_i s kd n
      split at hr
      · rename_i k hk
        have := natOf_some hk
        subst this
        split at hr
        · rename_i b hb
          cases hr
          rw [nthB_eq] at hb
          have e1 : a.eval x = .string s := hv
          have e2 : a.eval y = .int kd k := hu
          have hs : s[k]? = some b := by
            have h2 : s.data[k]? = some b := by simpa using hb
            obtain ⟨h3, h4⟩ := Array.getElem?_eq_some_iff.1 h2
            have h5 : k < s.size := h3
            rw [show s[k]? = some s[k] by simp [h5]]
            exact congrArg some h4
          refine ⟨fun p hp => nov hp, .int .u8 (b.toNat : Int), ?_, rfl⟩
          simp [execOp, e1, e2, Instr.index, asIntOf, run_underlying h, hs]
        · cases hr
      · cases hr
    · cases hr

/-! ### Lengths -/
def lenV (strs : Bool) : AV → Option AV
  | .o (.s (.v (.string s))) => match strs with
    | true => some (.int (s.size : Int))
    | false => none
  | .o (.s (.s _ _ _ _ m _)) => match strs with
    | false => some (.int (m : Int))
    | true => none
  | .o (.s (.v (.slice none 0 0))) => match strs with
    | false => some (.int 0)
    | true => none
  | _ => none

theorem b_lenS (ht : P.underlying t = some .string) (hd : d < N) : OpB P N ⟨some d, .call ⟨.builtin .len, #[x], #[t]⟩, ty, pos, af, g⟩ (askX x fun v => .ret (rs1 d (lenV true v))) :=
  OpB.pure1 rfl hd fun c M τ a w hh v hv r hr => by
    unfold lenV at hr
    split at hr
    · rename_i s
      cases hr
      have e : a.eval x = .string s := hv
      exact ⟨fun p hp => nov hp, .int .i64 s.size, by simp [execOp, resolve, invoke, builtin, Builtin.len_, e, run_underlying ht, goInt], rfl⟩
    all_goals cases hr

theorem b_lenL {n : Nat} (ht : elemSh P t = some n) (hd : d < N) : OpB P N ⟨some d, .call ⟨.builtin .len, #[x], #[t]⟩, ty, pos, af, g⟩ (askX x fun v => .ret (rs1 d (lenV false v))) :=
  OpB.pure1 rfl hd fun c M τ a w hh v hv r hr => by
    obtain ⟨e, he, _⟩ := elemSh_run ht
    have fin : ∀ (p : Option Addr) (len cap : Nat), a.eval x = .slice p len cap → (execOp a.eval ⟨some d, .call ⟨.builtin .len, #[x], #[t]⟩, ty, pos, af, g⟩).run P w = .ok (.value (.int .i64 len)) w := fun p len cap e1 => by
      simp [execOp, resolve, invoke, builtin, Builtin.len_, e1, run_underlying he, goInt]
    unfold lenV at hr
    split at hr
    · cases hr
    · rename_i i u sz o m cp
      cases hr
      rcases hv with ⟨hl, _, p, e1⟩ | ⟨cap, e1, _⟩
      · subst hl; exact ⟨fun p hp => nov hp, _, fin _ _ _ e1, rfl⟩
      · exact ⟨fun p hp => nov hp, _, fin _ _ _ e1, rfl⟩
    · cases hr
      exact ⟨fun p hp => nov hp, _, fin none 0 0 hv, rfl⟩
    · cases hr

/-! ### Cuts -/
/-- A number that may be left out. -/
noncomputable def askI (x : Option Operand) (k : Option Nat → Q Rs) : Q Rs :=
  match x with
  | none => k none
  | some x => askX x fun
    | .o (.s (.v (.int .i64 n))) => match natOf n with
      | some m => k (some m)
      | none => .ret none
    | _ => .ret none

theorem askI_some {c : Ctx} {M : Mp} {a : Act} {w : World} (h : Holds N c M τ a w) {x : Option Operand} {k : Option Nat → Q Rs} {u : Upd} (hu : (askI x k).run τ = some u) : ∃ m, (k m).run τ = some u ∧ x.map a.eval = m.map (fun n : Nat => Value.int .i64 (n : Int)) := by
  cases x with
  | none => exact ⟨none, hu, rfl⟩
  | some x =>
    obtain ⟨v, hx, hu⟩ := askX_some hu
    split at hu
    · rename_i n
      split at hu
      · rename_i m hm
        have := natOf_some hm
        subst this
        have e : a.eval x = .int .i64 m := ev_rel h hx
        exact ⟨some m, hu, by simp [e]⟩
      · cases hu
    · cases hu

/-- A cut of a string. -/
def cutS (x : AV) (l h m : Option Nat) : Option AV :=
  match x, m with
  | .o (.s (.v (.string s))), none => bif Nat.ble (l.getD 0) (h.getD s.size) && Nat.ble (h.getD s.size) s.size then some (.str (cutB s (l.getD 0) (h.getD s.size))) else none
  | _, _ => none

/-- A cut of a slice. -/
def cutL (sz : Nat) (x : AV) (l h m : Option Nat) : Option AV :=
  match x with
  | .o (.s (.s i u sz' o n cp)) => bif Nat.beq sz' sz && (Nat.ble (l.getD 0) (h.getD n) && (Nat.ble (h.getD n) n && (match m with
        | none => true
        | some k => h.isSome && (Nat.ble (h.getD n) k && Nat.ble k n)))) then
        some (.s (.s i u sz' (addO o (l.getD 0)) (h.getD n - l.getD 0) (match m, cp with
          | none, some c => some (c - l.getD 0)
          | none, none => none
          | some k, _ => some (k - l.getD 0)))) else none
  | .o (.s (.v (.slice none 0 0))) => bif Nat.beq (l.getD 0) 0 && (Nat.beq (h.getD 0) 0 && (match m with
        | none => true
        | some k => h.isSome && Nat.beq k 0)) then some (.s (.v (.slice none 0 0))) else none
  | _ => none

abbrev nv (m : Option Nat) : Option Value := m.map (fun n : Nat => Value.int .i64 (n : Int))

theorem run_bound (i y : Nat) (code : BoundsCode) (h : i ≤ y) (w : World) : (Instr.sliceBound (.int .i64 (i : Int)) y code).run P w = .ok i w := by
  have := run_sliceBound (P := P) (w := w) .i64 (i : Int) y code (by omega) (by omega)
  simpa using this

theorem run_bounds (isS : Bool) (len cap : Nat) (l h m : Option Nat) (hlh : l.getD 0 ≤ h.getD len) (hh : h.getD len ≤ m.getD cap) (hm : m.getD cap ≤ cap) (hs : m.isSome = true → h.isSome = true) (w : World) :
    (Instr.sliceBounds isS len cap (nv l) (nv h) (nv m)).run P w = .ok (l.getD 0, h.getD len, m.getD cap) w := by
  cases m with
  | none =>
    cases h with
    | none =>
      cases l with
      | none => simp [Instr.sliceBounds]
      | some l =>
        simp only [Option.getD_some, Option.getD_none] at hlh hh
        simp [Instr.sliceBounds, run_bound l len .sliceB (by omega)]
    | some h =>
      simp only [Option.getD_some, Option.getD_none] at hlh hh
      have h1 := run_bound (P := P) h cap (if isS = true then BoundsCode.sliceAcap else BoundsCode.sliceAlen) hh w
      cases l with
      | none => simp [Instr.sliceBounds, h1]
      | some l =>
        simp only [Option.getD_some] at hlh
        simp [Instr.sliceBounds, h1, run_bound l h .sliceB (by omega)]
  | some m =>
    cases h with
    | none => simp at hs
    | some h =>
      simp only [Option.getD_some] at hlh hh hm
      have h0 := run_bound (P := P) m cap (if isS = true then BoundsCode.slice3Acap else BoundsCode.slice3Alen) hm w
      have h1 := run_bound (P := P) h m .slice3B hh w
      cases l with
      | none => simp [Instr.sliceBounds, h0, h1]
      | some l =>
        simp only [Option.getD_some] at hlh
        simp [Instr.sliceBounds, h0, h1, run_bound l h .slice3C (by omega)]

theorem OpB.cut {o : Oper} {l h m : Option Operand} {f : AV → Option Nat → Option Nat → Option Nat → Option AV} (ho : o.dst = some d) (hd : d < N)
    (hs : ∀ c M τ a w, Holds N c M τ a w → ∀ v l' h' m', v.rel M (a.eval x) → l.map a.eval = nv l' → h.map a.eval = nv h' → m.map a.eval = nv m' → ∀ r, f v l' h' m' = some r → (∀ p ∈ r.ids, p ∈ v.ids) ∧ ∃ val, (execOp a.eval o).run P w = .ok (.value val) w ∧ r.rel M val) :
    OpB P N o (askX x fun v => askI l fun l' => askI h fun h' => askI m fun m' => .ret (rs1 d (f v l' h' m'))) := by
  intro c τ a w hr u hu K Q' hK
  obtain ⟨M, hh⟩ := hr
  obtain ⟨v, hx, hu⟩ := askX_some hu
  obtain ⟨l', hu, hl⟩ := askI_some hh hu
  obtain ⟨h', hu, hh'⟩ := askI_some hh hu
  obtain ⟨m', hu, hm⟩ := askI_some hh hu
  obtain ⟨r, hr, rfl⟩ := rs1_some hu
  obtain ⟨h1, val, h2, h3⟩ := hs c M τ a w hh v l' h' m' (ev_rel hh hx) hl hh' hm r hr
  exact OpB.value hh ho hd h2 h3 (fun p hp => ev_named hh hx p (h1 p hp)) hK

theorem b_cutS {l h m : Option Operand} (ht : P.underlying t = some .string) (hd : d < N) : OpB P N ⟨some d, .slice t x l h m, ty, pos, af, g⟩ (askX x fun v => askI l fun l' => askI h fun h' => askI m fun m' => .ret (rs1 d (cutS v l' h' m'))) :=
  OpB.cut rfl hd fun c M τ a w hh v l' h' m' hv e2 e3 e4 r hr => by
    unfold cutS at hr
    split at hr
    · rename_i s
      cases hc : Nat.ble (l'.getD 0) (h'.getD s.size) && Nat.ble (h'.getD s.size) s.size with
      | false => rw [hc] at hr; cases hr
      | true =>
        rw [hc] at hr; cases hr
        simp only [Bool.and_eq_true] at hc
        have h1 := Nat.le_of_ble_eq_true hc.1
        have h2 := Nat.le_of_ble_eq_true hc.2
        have e1 : a.eval x = .string s := hv
        refine ⟨fun p hp => nov hp, .string (s.extract (l'.getD 0) (h'.getD s.size)), ?_, by rw [cutB_eq]; rfl⟩
        have hbd := run_bounds (P := P) false s.size s.size l' h' none h1 h2 (Nat.le_refl _) (by simp) w
        simp only [Option.map_none] at hbd e4
        simp [execOp, e1, e2, e3, e4, Instr.sliceAt, Instr.slice, run_underlying ht, hbd]
    · cases hr

theorem b_cutL {sz : Nat} {l h m : Option Operand} (ht : elemSh P t = some sz) (hd : d < N) : OpB P N ⟨some d, .slice t x l h m, ty, pos, af, g⟩ (askX x fun v => askI l fun l' => askI h fun h' => askI m fun m' => .ret (rs1 d (cutL sz v l' h' m'))) :=
  OpB.cut rfl hd fun c M τ a w hh v l' h' m' hv e2 e3 e4 r hr => by
    obtain ⟨e, he, hsz⟩ := elemSh_run ht
    have fin : ∀ {v1 v2 : Value}, a.eval x = v1 → (Instr.slice t v1 (nv l') (nv h') (nv m')).run P w = .ok v2 w → (execOp a.eval ⟨some d, .slice t x l h m, ty, pos, af, g⟩).run P w = .ok (.value v2) w := by
      intro v1 v2 e1 hrun
      simp [execOp, e1, e2, e3, e4, Instr.sliceAt, run_underlying he, hrun]
    unfold cutL at hr
    split at hr
    · rename_i i u sz' o n cp
      generalize hmq : (match m' with
        | none => true
        | some k => h'.isSome && (Nat.ble (h'.getD n) k && Nat.ble k n)) = mq at hr
      cases hc : Nat.beq sz' sz && (Nat.ble (l'.getD 0) (h'.getD n) && (Nat.ble (h'.getD n) n && mq)) with
      | false => rw [hc] at hr; cases hr
      | true =>
        rw [hc] at hr; cases hr
        simp only [Bool.and_eq_true] at hc
        have hs : sz' = sz := by simpa using hc.1
        subst hs
        have h1 := Nat.le_of_ble_eq_true hc.2.1
        have h2 := Nat.le_of_ble_eq_true hc.2.2.1
        have h3 := hc.2.2.2
        refine ⟨fun p hp => hp, ?_⟩
        -- the bounds, at a capacity
        have hb : ∀ cap, n ≤ cap → h'.getD n ≤ m'.getD cap ∧ m'.getD cap ≤ cap ∧ (m'.isSome = true → h'.isSome = true) := by
          intro cap hcap
          cases m' with
          | none => exact ⟨by simp only [Option.getD_none]; omega, Nat.le_refl _, by simp⟩
          | some k =>
            rw [← hmq] at h3
            simp only [Bool.and_eq_true] at h3
            have h4 := Nat.le_of_ble_eq_true h3.2.1
            have h5 := Nat.le_of_ble_eq_true h3.2.2
            exact ⟨h4, by simp only [Option.getD_some]; omega, fun _ => h3.1⟩
        rcases hv with ⟨hn, hcp, p, e1⟩ | ⟨cap, e1, hnc, hcp, hz⟩
        · subst hn
          obtain ⟨b1, b2, b3⟩ := hb 0 (Nat.le_refl _)
          have hbd := run_bounds (P := P) true 0 0 l' h' m' h1 b1 b2 b3 w
          have z1 : l'.getD 0 = 0 := by omega
          have z2 : h'.getD 0 = 0 := by omega
          have z3 : m'.getD 0 = 0 := by omega
          rw [z1, z2, z3] at hbd
          refine ⟨.slice p 0 0, fin e1 ?_, .inl ⟨by omega, ?_, p, rfl⟩⟩
          · simp [Instr.slice, run_underlying he, hbd, hsz]
          · rw [z1]
            cases m' with
            | none =>
              rcases hcp with rfl | rfl
              · exact .inl rfl
              · exact .inr rfl
            | some k =>
              right
              simp only [Option.getD_some] at z3
              subst z3; rfl
        · obtain ⟨b1, b2, b3⟩ := hb cap hnc
          have hbd := run_bounds (P := P) true n cap l' h' m' h1 b1 b2 b3 w
          generalize hB : (M.β i u).1 = B at e1 ⊢
          have hrun : (Instr.slice t (.slice (some ⟨B, (M.β i u).2 + o * sz', none⟩) n cap) (nv l') (nv h') (nv m')).run P w =
              .ok (.slice (some ⟨B, if m'.getD cap = l'.getD 0 then (M.β i u).2 + o * sz' else (M.β i u).2 + o * sz' + l'.getD 0 * sz', none⟩) (h'.getD n - l'.getD 0) (m'.getD cap - l'.getD 0)) w := by
            by_cases hmc : m'.getD cap = l'.getD 0
            · simp [Instr.slice, run_underlying he, hbd, hsz, hmc]
            · simp [Instr.slice, run_underlying he, hbd, hsz, hmc, add_none]
          refine ⟨_, fin e1 hrun, ?_⟩
          by_cases hmc : m'.getD cap = l'.getD 0
          · refine .inl ⟨by omega, ?_, ⟨B, (M.β i u).2 + o * sz', none⟩, ?_⟩
            · cases m' with
              | none =>
                simp only [Option.getD_none] at hmc
                cases cp with
                | none => exact .inl rfl
                | some cc => right; have := hcp cc rfl; show some (cc - l'.getD 0) = some 0; congr 1; omega
              | some k => right; simp only [Option.getD_some] at hmc; show some (k - l'.getD 0) = some 0; congr 1; omega
            · rw [if_pos hmc]; congr 1 <;> omega
          · refine .inr ⟨m'.getD cap - l'.getD 0, ?_, by omega, ?_, ?_⟩
            · rw [if_neg hmc, addO_eq, Nat.add_mul, hB]; rw [Nat.add_assoc]
            · intro cc hcc
              cases m' with
              | none =>
                cases cp with
                | none => cases hcc
                | some c0 => cases hcc; have := hcp c0 rfl; simp only [Option.getD_none]; omega
              | some k => cases hcc; rfl
            · refine Nat.le_trans (Nat.add_le_add_left (Nat.mul_le_mul_right _ ?_) _) hz
              rw [addO_eq]; omega
    · generalize hmq : (match m' with
        | none => true
        | some k => h'.isSome && Nat.beq k 0) = mq at hr
      cases hc : Nat.beq (l'.getD 0) 0 && (Nat.beq (h'.getD 0) 0 && mq) with
      | false => rw [hc] at hr; cases hr
      | true =>
        rw [hc] at hr; cases hr
        simp only [Bool.and_eq_true] at hc
        have z1 : l'.getD 0 = 0 := by simpa using hc.1
        have z2 : h'.getD 0 = 0 := by simpa using hc.2.1
        have h3 := hc.2.2
        have hbm : m'.getD 0 = 0 ∧ (m'.isSome = true → h'.isSome = true) := by
          cases m' with
          | none => exact ⟨rfl, by simp⟩
          | some k =>
            rw [← hmq] at h3
            simp only [Bool.and_eq_true] at h3
            exact ⟨by simpa using h3.2, fun _ => h3.1⟩
        have hbd := run_bounds (P := P) true 0 0 l' h' m' (by omega) (by omega) (by omega) hbm.2 w
        rw [z1, z2, hbm.1] at hbd
        refine ⟨fun p hp => hp, .slice none 0 0, fin hv ?_, rfl⟩
        simp [Instr.slice, run_underlying he, hbd, hsz]
    · cases hr

end
end DX
end Go.Proofs.YtmfljpjdpfbfoaaGreatDoor
