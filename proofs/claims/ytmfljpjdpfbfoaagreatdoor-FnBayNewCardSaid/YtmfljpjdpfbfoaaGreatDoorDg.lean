/- A deterministic evaluator of the model's code, part g: variables; structs and slices that are written out; slices that are made. -/
import Derived.Test.YtmfljpjdpfbfoaaGreatDoorDf
namespace Go.Proofs.YtmfljpjdpfbfoaaGreatDoor
namespace DX

section
variable {P : Program} {N : Nat} {τ : St}
variable {d id : Nat} {x y z : Operand} {t u ty : TypeId} {pos : String} {af : Array Edge} {g : Option (Nat × Bool)}

/-! ### Variables -/
def zeroOf (P : Program) (t : TypeId) : Option (List Value) :=
  match P.info? t with
  | some i => match i.zero with
    | some z => some z.cells.toList
    | none => none
  | none => none

theorem run_zero {zs : List Value} (h : zeroOf P t = some zs) (w : World) : ∃ z, (zeroValue t).run P w = .ok z w ∧ z.cells.toList = zs := by
  unfold zeroOf at h
  split at h
  · rename_i i hi
    split at h
    · rename_i z hz
      cases h
      exact ⟨z, by simp [zeroValue, typeInfo, hi, hz], rfl⟩
    · cases h
  · cases h

def mapV : List Value → List SV
  | [] => []
  | v :: l => .v v :: mapV l

theorem mapV_rel {M : Mp} : ∀ l : List Value, relL M (mapV l) l
  | [] => trivial
  | v :: l => ⟨rfl, mapV_rel l⟩
theorem mapV_ids : ∀ l : List Value, idsL (mapV l) = []
  | [] => rfl
  | v :: l => by simp [mapV, idsL, SV.ids, mapV_ids l]
theorem mapV_len : ∀ l : List Value, (mapV l).length = l.length
  | [] => rfl
  | v :: l => by simp [mapV, mapV_len l]

/-- A new block of cells, and a value that leads to it. -/
noncomputable def newQ (id d : Nat) (ty : TypeId) (r : AV) (l : List SV) : Q Rs := askN id (.ret (forceL l fun l => some [(.s d, .x r), (.b id, .b ⟨ty, .c l, [(0, l.length)], 1, false⟩)]))

theorem newQ_ok {c : Ctx} {M : Mp} {a : Act} {w w' : World} (hh : Holds N c M τ a w) (hd : d < N) {r : AV} {l : List SV} {upd : Upd} (hu : (newQ id d ty r l).run τ = some upd) {cs : Array Value} (hp : Pushed w (.cells cs ty (0, 0)) w') (hl : relL M l (cs.toList.take l.length)) (hids : ∀ p ∈ idsL l, nm τ p)
    {o : Oper} (ho : o.dst = some d) {v : Value} (hex : (execOp a.eval o).run P w = .ok (.value v) w') (hr : ∀ M' : Mp, M'.β id 0 = (w.heap.size, 0) → M'.Z id 0 = cs.size → r.rel M' v) (hri : ∀ p ∈ r.ids, p = (id, 0))
    {K : Act → World → Prop} {Q' : Exit → Act → World → Prop} (hK : ∀ a' w', Rel N c (τ.ap upd) a' w' → K a' w') : o.wp P a w K Q' := by
  obtain ⟨hn, hu⟩ := askN_some hu
  simp only [Q.run, forceL_eq] at hu
  cases hu
  unfold Oper.wp
  rw [hex]
  show K (a.put o.dst v) w'
  rw [ho]
  have h1 := hh.alloc hn hp hl hids
  exact hK _ _ ⟨_, h1.put hd (av := r) (hr _ Mp.set_at.1 Mp.set_at.2) (fun p hp => by
    rw [hri p hp]
    exact .inr ⟨_, by rw [ap1, if_pos rfl], Nat.one_pos⟩)⟩

noncomputable def allocQ (id d : Nat) (ty : TypeId) (l : List SV) : Q Rs := newQ id d ty (.s (.p id 0 0 0 0)) l

theorem b_alloc {zs : List Value} (hz : zeroOf P t = some zs) (hd : d < N) : OpB P N ⟨some d, .alloc t, ty, pos, af, g⟩ (allocQ id d t (mapV zs)) := by
  intro c τ a w hr u hu K Q' hK
  obtain ⟨M, hh⟩ := hr
  obtain ⟨z, hrun, hzs⟩ := run_zero (P := P) hz w
  have hex : (execOp a.eval ⟨some d, .alloc t, ty, pos, af, g⟩).run P w = .ok (.value (.pointer (some ⟨w.heap.size, 0, none⟩))) { w with heap := w.heap.push (.cells z.cells t (0, 0)) } := by
    simp [execOp, Instr.alloc, hrun, newVar, newRow]
  have hl : (mapV zs).length = z.cells.toList.length := by rw [mapV_len, hzs]
  exact newQ_ok hh hd hu (cs := z.cells) (w' := { w with heap := w.heap.push (.cells z.cells t (0, 0)) }) (v := .pointer (some ⟨w.heap.size, 0, none⟩)) ⟨rfl, rfl, rfl, rfl⟩ (by rw [hl, List.take_length, hzs]; exact mapV_rel _) (by rw [mapV_ids]; simp) rfl hex (fun M' h1 _ => by show _ = _; rw [h1]) (by simp [AV.ids, A0.ids, SV.ids]) hK

noncomputable def boxQ (id d : Nat) (ty : TypeId) (v : AV) : Q Rs :=
  match flatV v with
  | none => .ret none
  | some l => bif allOne l then newQ id d ty (.s (.p id 0 0 0 0)) l else .ret none

theorem b_box (hd : d < N) : OpB P N ⟨some d, .box t x, ty, pos, af, g⟩ (askX x fun v => boxQ id d t v) := by
  intro c τ a w hr u hu K Q' hK
  obtain ⟨M, hh⟩ := hr
  obtain ⟨v, hx, hu⟩ := askX_some hu
  unfold boxQ at hu
  split at hu
  · cases hu
  · rename_i l hm
    cases ho : allOne l with
    | false => rw [ho] at hu; cases hu
    | true =>
      rw [ho] at hu
      obtain ⟨hrel, _⟩ := flatV_rel hm ho (ev_rel hh hx)
      have hex : (execOp a.eval ⟨some d, .box t x, ty, pos, af, g⟩).run P w = .ok (.value (.pointer (some ⟨w.heap.size, 0, none⟩))) { w with heap := w.heap.push (.cells (a.eval x).cells t (0, 0)) } := by
        simp [execOp, Instr.box, newVar, newRow]
      exact newQ_ok hh hd hu (cs := (a.eval x).cells) (w' := { w with heap := w.heap.push (.cells (a.eval x).cells t (0, 0)) }) (v := .pointer (some ⟨w.heap.size, 0, none⟩)) ⟨rfl, rfl, rfl, rfl⟩ (by rw [relL_len hrel, List.take_length]; exact hrel) (fun p hp => ev_named hh hx p (flatV_ids hm hp)) rfl hex (fun M' h1 _ => by show _ = _; rw [h1]) (by simp [AV.ids, A0.ids, SV.ids]) hK

/-! ### Structs -/
noncomputable def askL (l : List (Nat × Operand)) (k : List (Nat × AV) → Q Rs) : Q Rs :=
  match l with
  | [] => k []
  | p :: l => askX p.2 fun v => askL l fun vs => k ((p.1, v) :: vs)

/-- The parts are what they are. -/
def partsRel (τ : St) (M : Mp) (ρ : Operand → Value) : List (Nat × Operand) → List (Nat × AV) → Prop
  | [], [] => True
  | p :: l, q :: m => (q.1 = p.1 ∧ q.2.rel M (ρ p.2) ∧ ∀ i ∈ q.2.ids, nm τ i) ∧ partsRel τ M ρ l m
  | _, _ => False

theorem askL_some {c : Ctx} {M : Mp} {a : Act} {w : World} (hh : Holds N c M τ a w) : ∀ {l : List (Nat × Operand)} {k : List (Nat × AV) → Q Rs} {u : Upd}, (askL l k).run τ = some u → ∃ vs, partsRel τ M a.eval l vs ∧ (k vs).run τ = some u
  | [], k, u, h => ⟨[], trivial, h⟩
  | p :: l, k, u, h => by
    obtain ⟨v, hv, h⟩ := askX_some h
    obtain ⟨vs, h1, h2⟩ := askL_some hh h
    exact ⟨(p.1, v) :: vs, ⟨⟨rfl, ev_rel hh hv, ev_named hh hv⟩, h1⟩, h2⟩

theorem foldl_set (vs : List Value) : ∀ (off k : Nat) (cs : Array Value), (vs.zipIdx k).foldl (fun cs (p : Value × Nat) => cs.setIfInBounds (off + p.2) p.1) cs = spl cs (off + k) vs := by
  induction vs with
  | nil => intro off k cs; rfl
  | cons v vs ih =>
    intro off k cs
    simp only [List.zipIdx_cons, List.foldl_cons, spl]
    rw [ih off (k + 1)]
    rfl

theorem fill_step {place : Nat → Option (Nat × Nat)} {i off size : Nat} {v : Value} {rest : List (Nat × Value)} {cs : Array Value} (hp : place i = some (off, size)) (hs : v.cells.size = size) (hle : off + size ≤ cs.size) :
    Instr.fill place cs ((i, v) :: rest) = Instr.fill place (spl cs off v.cells.toList) rest := by
  have hfold : v.cells.zipIdx.foldl (fun cs (p : Value × Nat) => cs.setIfInBounds (off + p.2) p.1) cs = spl cs off v.cells.toList := by
    rw [← Array.foldl_toList, Array.toList_zipIdx]
    exact foldl_set _ _ 0 _
  have hno : ¬ (v.cells.size ≠ size ∨ off + v.cells.size > cs.size) := by omega
  simp only [Instr.fill, hp]
  rw [if_neg (by simpa using hno), hfold]

/-- What a struct's fields and its zero value are. -/
def bldOf (P : Program) (t : TypeId) : Option (List (Nat × Nat) × List Value) :=
  match P.info? t, P.underlying t with
  | some it, some (.struct fs) => match it.zero, fs.toList.mapM (fun f => (P.info? f.type).map fun i => (f.offset, i.size)) with
    | some z, some places => some (places, z.cells.toList)
    | _, _ => none
  | _, _ => none

noncomputable def fillS (place : Nat → Option (Nat × Nat)) (l : List SV) : List (Nat × AV) → Option (List SV)
  | [] => some l
  | p :: rest => match place p.1, flatV p.2 with
    | some (off, size), some m => bif (Nat.beq m.length size && Nat.ble (off + size) l.length) && allOne m then fillS place (splS l off m) rest else none
    | _, _ => none

theorem fillS_run {M : Mp} {ρ : Operand → Value} {place : Nat → Option (Nat × Nat)} : ∀ (parts : List (Nat × Operand)) (vs : List (Nat × AV)) (l l' : List SV) (cs : Array Value), partsRel τ M ρ parts vs → fillS place l vs = some l' → relL M l cs.toList → (∀ i ∈ idsL l, nm τ i) →
    ∃ cs', Instr.fill place cs (parts.map fun p => (p.1, ρ p.2)) = some cs' ∧ relL M l' cs'.toList ∧ cs'.size = cs.size ∧ ∀ i ∈ idsL l', nm τ i
  | [], [], l, l', cs, h1, h2, h3, h4 => by
    cases h2
    exact ⟨cs, rfl, h3, rfl, h4⟩
  | [], _ :: _, _, _, _, h1, _, _, _ => h1.elim
  | _ :: _, [], _, _, _, h1, _, _, _ => h1.elim
  | p :: parts, q :: vs, l, l', cs, h1, h2, h3, h4 => by
    obtain ⟨⟨e1, e2, e3⟩, h1⟩ := h1
    simp only [fillS] at h2
    split at h2
    · rename_i off size m hpl hm
      cases hc : (Nat.beq m.length size && Nat.ble (off + size) l.length) && allOne m with
      | false => rw [hc] at h2; cases h2
      | true =>
        rw [hc] at h2
        simp only [Bool.and_eq_true] at hc
        have hms : m.length = size := by simpa using hc.1.1
        have hle := Nat.le_of_ble_eq_true hc.1.2
        obtain ⟨hrel, _⟩ := flatV_rel hm hc.2 e2
        have hml := relL_len hrel
        have hll := relL_len h3
        have hsz : (ρ p.2).cells.size = size := by rw [← hms, hml]; simp
        obtain ⟨cs', g1, g2, g3, g4⟩ := fillS_run parts vs (splS l off m) l' (spl cs off (ρ p.2).cells.toList) h1 h2 (relL_spl l cs off hrel h3) (fun i hi => by
          rcases splS_ids m l off hi with h | h
          · exact h4 i h
          · exact e3 i (flatV_ids hm h))
        refine ⟨cs', ?_, g2, by rw [g3, spl_size], g4⟩
        rw [e1] at hpl
        rw [List.map_cons, fill_step (place := place) hpl hsz (by simp at hll; omega)]
        exact g1
    · cases h2

noncomputable def buildV (places : List (Nat × Nat)) (zs : List Value) (vs : List (Nat × AV)) : Option AV :=
  match fillS (fun i => places[i]?) (mapV zs) vs with
  | some l => some (.a l)
  | none => none

theorem b_build {places : List (Nat × Nat)} {zs : List Value} {parts : Array (Nat × Operand)} (hb : bldOf P t = some (places, zs)) (hd : d < N) : OpB P N ⟨some d, .build t parts, ty, pos, af, g⟩ (askL parts.toList fun vs => .ret (rs1 d (buildV places zs vs))) := by
  intro c τ a w hr u hu K Q' hK
  obtain ⟨M, hh⟩ := hr
  obtain ⟨vs, hvs, hu⟩ := askL_some hh hu
  obtain ⟨r, hr, rfl⟩ := rs1_some hu
  unfold buildV at hr
  split at hr
  · rename_i l hl
    cases hr
    unfold bldOf at hb
    split at hb
    · rename_i it fs hi hud
      split at hb
      · rename_i z pl hz hpl
        cases hb
        obtain ⟨cs', h1, h2, _, h3⟩ := fillS_run parts.toList vs _ l z.cells hvs hl (mapV_rel _) (by rw [mapV_ids]; simp)
        have hbuilt : P.built t (parts.map fun p => (p.1, a.eval p.2)).toList = some cs' := by
          unfold Program.built
          rw [hi, hud]
          simp only [hz, hpl]
          simpa using h1
        have := run_build (P := P) w t _ cs' hbuilt
        exact OpB.value (av := .a l) hh rfl hd (v := .agg cs') (by simp [execOp, this]) ⟨cs', rfl, h2⟩ h3 hK
      · cases hb
    · cases hb
  · cases hr

/-! ### Slices -/
/-- The element type of a slice type: its number, its cells, its bytes, its zero cells. -/
def elemI (P : Program) (t : TypeId) : Option (TypeId × Nat × Nat × List Value) :=
  match P.underlying t with
  | some (.slice e) => match P.info? e with
    | some i => match i.zero with
      | some z => some (e, i.size, i.bytes, z.cells.toList)
      | none => none
    | none => none
  | _ => none

theorem elemI_run {e : TypeId} {sz by_ : Nat} {zs : List Value} (h : elemI P t = some (e, sz, by_, zs)) : ∃ i z, P.underlying t = some (.slice e) ∧ P.info? e = some i ∧ i.zero = some z ∧ i.size = sz ∧ i.bytes = by_ ∧ z.cells.toList = zs := by
  unfold elemI at h
  split at h
  · rename_i e he
    split at h
    · rename_i i hi
      split at h
      · rename_i z hz
        cases h
        exact ⟨i, z, he, hi, hz, rfl, rfl, rfl⟩
      · cases h
    · cases h
  · cases h

/-- The elements: small ones, with cells. -/
structure Fits (P : Program) (t : TypeId) (e : TypeId) (sz by_ : Nat) (zs : List Value) : Prop where
  info : elemI P t = some (e, sz, by_, zs)
  zl : zs.length = sz
  pos : 0 < sz
  small : by_ ≤ 1048576

theorem Fits.sh {e : TypeId} {sz by_ : Nat} {zs : List Value} (h : Fits P t e sz by_ zs) : elemSh P t = some sz := by
  obtain ⟨i, z, h1, h2, h3, h4, _⟩ := elemI_run h.info
  simp [elemSh, h1, h2, h4]

/-- n times the zero cells. -/
def repV (zs : List SV) : Nat → List SV
  | 0 => []
  | n + 1 => zs ++ repV zs n

def repW (zs : List Value) : Nat → List Value
  | 0 => []
  | n + 1 => zs ++ repW zs n

theorem repV_rel {M : Mp} (zs : List Value) : ∀ n, relL M (repV (mapV zs) n) (repW zs n)
  | 0 => trivial
  | n + 1 => relL_append (mapV_rel zs) (repV_rel zs n)
theorem repV_ids (zs : List Value) : ∀ n, idsL (repV (mapV zs) n) = []
  | 0 => rfl
  | n + 1 => by
    rw [List.eq_nil_iff_forall_not_mem]
    intro p hp
    obtain ⟨x, hx, h⟩ := mem_idsL.1 hp
    rcases List.mem_append.1 hx with h1 | h1
    · have := mem_idsL.2 ⟨x, h1, h⟩; rw [mapV_ids] at this; cases this
    · have := mem_idsL.2 ⟨x, h1, h⟩; rw [repV_ids zs n] at this; cases this
theorem repW_len (zs : List Value) : ∀ n, (repW zs n).length = n * zs.length
  | 0 => by simp [repW]
  | n + 1 => by simp [repW, repW_len zs n, Nat.add_mul]; omega

theorem repW_at {zs : List Value} : ∀ (n k j : Nat), k < n → j < zs.length → (repW zs n)[k * zs.length + j]? = zs[j]?
  | 0, k, j, h, _ => by omega
  | n + 1, 0, j, _, hj => by simp only [repW, Nat.zero_mul, Nat.zero_add]; rw [List.getElem?_append_left hj]
  | n + 1, k + 1, j, h, hj => by
    have e : (k + 1) * zs.length + j = zs.length + (k * zs.length + j) := by rw [Nat.add_mul, Nat.one_mul]; omega
    rw [repW, e, List.getElem?_append_right (by omega)]
    have := repW_at n k j (by omega) hj
    rwa [show zs.length + (k * zs.length + j) - zs.length = k * zs.length + j by omega]

/-- Cells made out of zero cells. -/
theorem made_rep {zs : List Value} (hpos : 0 < zs.length) {z : Array Value} (hz : z.toList = zs) (n : Nat) : ((Array.range (n * zs.length)).map (fun i => z[i % z.size]!)).toList = repW zs n := by
  have hzs : z.size = zs.length := by rw [← hz]; simp
  apply List.ext_getElem?
  intro i
  by_cases hi : i < n * zs.length
  · have hk : i / zs.length < n := Nat.div_lt_of_lt_mul (by rwa [Nat.mul_comm])
    have hj : i % zs.length < zs.length := Nat.mod_lt _ hpos
    have h1 := repW_at (zs := zs) n (i / zs.length) (i % zs.length) hk hj
    have hi' : i / zs.length * zs.length + i % zs.length = i := by rw [Nat.mul_comm]; exact Nat.div_add_mod i zs.length
    rw [hi'] at h1
    rw [h1, ← hz]
    have h2 : z.toList[i % zs.length]? = some z[i % zs.length]! := by
      simp [Array.getElem!_eq_getD, Array.getD_eq_getD_getElem?, hzs, hj]
    rw [hz] at h2 ⊢
    rw [h2]
    simp [hi, hzs]
  · rw [List.getElem?_eq_none (by simp; omega), List.getElem?_eq_none (by rw [repW_len]; omega)]

noncomputable def makeQ (id d : Nat) (e : TypeId) (sz : Nat) (zs : List Value) (v u : AV) : Q Rs :=
  match v, u with
  | .o (.s (.v (.int .i64 m))), .o (.s (.v (.int .i64 n))) => match natOf m, natOf n with
    | some m, some n => bif Nat.ble m n && Nat.ble n 1048576 then newQ id d e (.s (.s id 0 sz 0 m (some n))) (repV (mapV zs) n) else .ret none
    | _, _ => .ret none
  | _, _ => .ret none

theorem repV_len (zs : List Value) (n : Nat) : (repV (mapV zs) n).length = n * zs.length := by
  have := relL_len (repV_rel (M := ⟨fun _ _ => (0, 0), fun _ _ => 0⟩) zs n)
  rw [this, repW_len]

theorem b_make {e : TypeId} {sz by_ : Nat} {zs : List Value} (hf : Fits P t e sz by_ zs) (hd : d < N) : OpB P N ⟨some d, .makeSlice t x y, ty, pos, af, g⟩ (askX x fun v => askX y fun u => makeQ id d e sz zs v u) := by
  intro c τ a w hr u hu K Q' hK
  obtain ⟨M, hh⟩ := hr
  obtain ⟨v, hx, hu⟩ := askX_some hu
  obtain ⟨v2, hy, hu⟩ := askX_some hu
  unfold makeQ at hu
  split at hu
  · rename_i m0 n0
    split at hu
    · rename_i m n hm hn
      have := natOf_some hm; subst this
      have := natOf_some hn; subst this
      cases hc : Nat.ble m n && Nat.ble n 1048576 with
      | false => rw [hc] at hu; cases hu
      | true =>
        rw [hc] at hu
        simp only [Bool.and_eq_true] at hc
        have h1 := Nat.le_of_ble_eq_true hc.1
        have h2 := Nat.le_of_ble_eq_true hc.2
        obtain ⟨i, z, ht, hi, hz, hsz, hby, hzs⟩ := elemI_run hf.info
        have e1 : a.eval x = .int .i64 (m : Int) := ev_rel hh hx
        have e2 : a.eval y = .int .i64 (n : Int) := ev_rel hh hy
        have hzl : z.cells.size = sz := by rw [← hf.zl, ← hzs]; simp
        let cs : Array Value := (Array.range (n * zs.length)).map (fun k => z.cells[k % z.cells.size]!)
        have hcs : cs.toList = repW zs n := made_rep (by rw [hf.zl]; exact hf.pos) hzs n
        have hcsz : cs.size = n * sz := by simp [cs, hf.zl]
        have hb : (by_ : Int) * (n : Int) ≤ 281474976710656 := by
          have hs := hf.small
          have h3 : by_ * n ≤ 1048576 * 1048576 := Nat.mul_le_mul hs h2
          have h4 : ((by_ * n : Nat) : Int) ≤ ((1048576 * 1048576 : Nat) : Int) := Int.ofNat_le.2 h3
          simp only [Int.natCast_mul] at h4
          omega
        have hwm := wrap_in (n := (m : Int)) (by simp only [imin]; omega) (by simp only [imax]; omega)
        have hwn := wrap_in (n := (n : Int)) (by simp only [imin]; omega) (by simp only [imax]; omega)
        have hb' : ¬ (281474976710656 < (i.bytes : Int) * (n : Int)) := by rw [hby]; omega
        have hmn : ¬ ((n : Int) < (m : Int)) := by omega
        have hn0 : ¬ ((n : Int) < 0) := by omega
        have hm0 : ¬ ((m : Int) < 0) := by omega
        have hex : (execOp a.eval ⟨some d, .makeSlice t x y, ty, pos, af, g⟩).run P w = .ok (.value (.slice (some ⟨w.heap.size, 0, none⟩) m n)) { w with heap := w.heap.push (.cells cs e (0, 0)) } := by
          have hle2 : (i.bytes : Int) * (m : Int) ≤ 281474976710656 := by
            have : (i.bytes : Int) * (m : Int) ≤ (i.bytes : Int) * (n : Int) := Int.mul_le_mul_of_nonneg_left (by omega) (by omega)
            rw [hby] at this ⊢; omega
          by_cases hz0 : n * i.size = 0
          · have hcs0 : cs = (Array.range (n * i.size)).map (fun k => (#[] : Array Value)[k % (#[] : Array Value).size]!) := by
              have : n * zs.length = 0 := by rw [hf.zl, ← hsz]; exact hz0
              simp [cs, this, hz0]
            rw [hcs0]
            simp [execOp, e1, e2, Instr.makeSlice, run_underlying ht, asInt, asIntOf, typeInfo, hi, hwm, hwn, hb', hmn, hn0, hm0, sizeOf, hz0, newRow]
          · have hcs0 : cs = (Array.range (n * i.size)).map (fun k => z.cells[k % z.cells.size]!) := by simp only [cs, hf.zl, hsz]
            rw [hcs0]
            simp [execOp, e1, e2, Instr.makeSlice, run_underlying ht, asInt, asIntOf, typeInfo, hi, hwm, hwn, hb', hmn, hn0, hm0, sizeOf, hz0, newRow, zeroValue, hz]
        refine newQ_ok hh hd hu (cs := cs) (w' := { w with heap := w.heap.push (.cells cs e (0, 0)) }) (v := .slice (some ⟨w.heap.size, 0, none⟩) m n) ⟨rfl, rfl, rfl, rfl⟩ ?_ (by rw [repV_ids]; simp) rfl hex (fun M' g1 g2 => .inr ⟨n, ?_, h1, ?_, ?_⟩) (by simp [AV.ids, A0.ids, SV.ids]) hK
        · rw [hcs, repV_len, ← repW_len, List.take_length]; exact repV_rel zs n
        · rw [g1]; simp
        · intro c hc; cases hc; rfl
        · rw [g1, g2, hcsz]; simp
    · cases hu
  · cases hu

noncomputable def bsliceQ (id d : Nat) (e : TypeId) (sz : Nat) (zs : List Value) (k : Nat) (vs : List (Nat × AV)) : Q Rs :=
  match fillS (fun i => some (i * sz, sz)) (repV (mapV zs) k) vs with
  | some l => bif Nat.ble (k * sz) 16777216 && Nat.beq l.length (k * sz) then newQ id d e (.s (.s id 0 sz 0 k (some k))) l else .ret none
  | none => .ret none

theorem b_bslice {e : TypeId} {sz by_ k : Nat} {zs : List Value} {parts : Array (Nat × Operand)} (hf : Fits P t e sz by_ zs) (hd : d < N) : OpB P N ⟨some d, .buildSlice t k parts, ty, pos, af, g⟩ (askL parts.toList fun vs => bsliceQ id d e sz zs k vs) := by
  intro c τ a w hr u hu K Q' hK
  obtain ⟨M, hh⟩ := hr
  obtain ⟨vs, hvs, hu⟩ := askL_some hh hu
  unfold bsliceQ at hu
  split at hu
  · rename_i l hl
    cases hc : Nat.ble (k * sz) 16777216 && Nat.beq l.length (k * sz) with
    | false => rw [hc] at hu; cases hu
    | true =>
      rw [hc] at hu
      simp only [Bool.and_eq_true] at hc
      have hb := Nat.le_of_ble_eq_true hc.1
      have hll : l.length = k * sz := by simpa using hc.2
      obtain ⟨i, z, ht, hi, hz, hsz, hby, hzs⟩ := elemI_run hf.info
      have hzl : z.cells.size = sz := by rw [← hf.zl, ← hzs]; simp
      let cs : Array Value := (Array.range (k * zs.length)).map (fun k => z.cells[k % z.cells.size]!)
      have hcs : cs.toList = repW zs k := made_rep (by rw [hf.zl]; exact hf.pos) hzs k
      obtain ⟨cs', h1, h2, h3, h4⟩ := fillS_run parts.toList vs _ l cs hvs hl (by rw [hcs]; exact repV_rel zs k) (by rw [repV_ids]; simp)
      have hcsz : cs'.size = k * sz := by rw [h3]; simp [cs, hf.zl]
      have hex : (execOp a.eval ⟨some d, .buildSlice t k parts, ty, pos, af, g⟩).run P w = .ok (.value (.slice (some ⟨w.heap.size, 0, none⟩) k k)) { w with heap := w.heap.push (.cells cs' e (0, 0)) } := by
        have h24 : ¬ (16777216 < k * i.size) := by rw [hsz]; omega
        have hfill' : Instr.fill (fun x => some (x * i.size, i.size)) cs (parts.toList.map fun p => (p.1, a.eval p.2)) = some cs' := by rw [hsz]; exact h1
        by_cases hz0 : k * i.size = 0
        · have hcs0 : cs = #[] := by
            have : k * zs.length = 0 := by rw [hf.zl, ← hsz]; exact hz0
            simp [cs, this]
          rw [hcs0] at hfill'
          have hfill2 : Instr.fill (fun x => some (x * i.size, i.size)) #[] (List.map (fun p => (p.1, a.eval p.2)) parts.toList) = some cs' := hfill'
          have e0 : (Array.map (fun _ : Nat => (default : Value)) (Array.range 0)) = #[] := by simp
          simp [execOp, Instr.buildSlice, run_underlying ht, sizeOf, typeInfo, hi, h24, hz0, newRow]
          rw [e0, hfill2]
          simp
        · have hcs0 : cs = (Array.range (k * i.size)).map (fun k => z.cells[k % z.cells.size]!) := by simp only [cs, hf.zl, hsz]
          rw [hcs0] at hfill'
          simp [execOp, Instr.buildSlice, run_underlying ht, sizeOf, typeInfo, hi, h24, hz0, newRow, zeroValue, hz]
          simp [hfill']
      refine newQ_ok hh hd hu (cs := cs') (w' := { w with heap := w.heap.push (.cells cs' e (0, 0)) }) (v := .slice (some ⟨w.heap.size, 0, none⟩) k k) ⟨rfl, rfl, rfl, rfl⟩ ?_ h4 rfl hex (fun M' g1 g2 => .inr ⟨k, ?_, Nat.le_refl _, ?_, ?_⟩) (by simp [AV.ids, A0.ids, SV.ids]) hK
      · rw [relL_len h2, List.take_length]; exact h2
      · rw [g1]; simp
      · intro c hc; cases hc; rfl
      · rw [g1, g2, hcsz]; simp
  · cases hu

end
end DX
end Go.Proofs.YtmfljpjdpfbfoaaGreatDoor
