/- A deterministic evaluator of the model's code, part h: append. -/
import Derived.Test.YtmfljpjdpfbfoaaGreatDoorDg
import Derived.Lib.AppendStr
namespace Go.Proofs.YtmfljpjdpfbfoaaGreatDoor
namespace DX

section
variable {P : Program} {N : Nat} {τ : St}
variable {d id : Nat} {x y z : Operand} {t t2 u ty : TypeId} {pos : String} {af : Array Edge} {g : Option (Nat × Bool)}

/-- What a slice's cells are: m elements of sz cells each. -/
def RdV (w : World) (sz : Nat) (v : Value) (m : Nat) (vs : List Value) : Prop :=
  (m = 0 ∧ vs = [] ∧ ∃ p cap, v = .slice p 0 cap) ∨ ∃ b o cap cs e fr, v = .slice (some ⟨b, o, none⟩) m cap ∧ w.heap[b]? = some (.cells cs e fr) ∧ win cs o vs ∧ vs.length = m * sz

/-- A string's bytes as cells. -/
def strV (s : ByteArray) : List Value := s.data.toList.map fun b => .int .u8 b.toNat

/-- Where the cells that are appended come from. -/
def Src (P : Program) (t t2 : TypeId) (w : World) (sz : Nat) (v : Value) (m : Nat) (vs : List Value) : Prop :=
  (t = t2 ∧ RdV w sz v m vs) ∨ (P.underlying t2 = some .string ∧ sz = 1 ∧ ∃ s, v = .string s ∧ m = s.size ∧ vs = strV s)

theorem strV_len (s : ByteArray) : (strV s).length = s.size := by simp [strV]
theorem strV_str (s : ByteArray) : strV s = Lib.strCells s := by simp [strV, Lib.strCells]

theorem cells_win {w : World} {b o : Nat} {cs : Array Value} {e : TypeId} {fr : Nat × Nat} {l : List Value} (hb : w.heap[b]? = some (.cells cs e fr)) (hw : win cs o l) : ∀ j v, l[j]? = some v → w.cell? ((⟨b, o, none⟩ : Addr).add j) = some v := by
  intro j v hj
  rw [add_none, cell_at hb]
  exact hw j v hj

/-- Nothing is appended. -/
theorem run_app0 {e : TypeId} {sz by_ : Nat} {zs : List Value} (hf : Fits P t e sz by_ zs) (w : World) {p : Option Addr} {m cap : Nat} {y2 : Value} {vs : List Value} (hR : Src P t t2 w sz y2 0 vs) (hm : m ≤ cap) (hp : p = none → cap = 0) : (Builtin.append_ #[t, t2] ty #[.slice p m cap, y2]).run P w = .ok (.slice p m cap) w := by
  obtain ⟨i, z, ht, hi, hz, hsz, hby, hzs⟩ := elemI_run hf.info
  have key : ∃ d2, P.underlying t2 = some d2 ∧ (d2 = .slice e ∨ d2 = .string) ∧ (Builtin.lenOf y2).run P w = .ok 0 w ∧ (Builtin.firstCells i.size 0 y2).run P w = .ok #[] w := by
    rcases hR with ⟨rfl, h⟩ | ⟨hu, _, s, rfl, h0, _⟩
    · refine ⟨_, ht, .inl rfl, ?_⟩
      obtain ⟨p2, c2, rfl⟩ : ∃ p cap, y2 = .slice p 0 cap := by
        rcases h with ⟨_, _, p, cap, h⟩ | ⟨b, o, cap, _, _, _, h, _⟩
        · exact ⟨p, cap, h⟩
        · exact ⟨_, _, h⟩
      refine ⟨by simp [Builtin.lenOf], ?_⟩
      cases p2 with
      | none => simp [Builtin.firstCells]
      | some b => exact run_firstCells_some (P := P) w i.size 0 b 0 c2 [] (by simp) (by simp)
    · refine ⟨_, hu, .inr rfl, by simp [Builtin.lenOf, ← h0], ?_⟩
      simp [Builtin.firstCells]
  obtain ⟨d2, hd2, hni, hlen, h2⟩ := key
  cases p with
  | none =>
    have hc := hp rfl
    subst hc
    have hm0 : m = 0 := by omega
    subst hm0
    rcases hni with rfl | rfl <;> simp [Builtin.append_, run_underlying ht, run_underlying hd2, sizeOf, typeInfo, hi, hlen, h2]
  | some a =>
    rcases hni with rfl | rfl <;> simp [Builtin.append_, run_underlying ht, run_underlying hd2, sizeOf, typeInfo, hi, hlen, h2, hm, storeCells]

/-- There is room. -/
theorem run_app1 {e : TypeId} {sz by_ : Nat} {zs : List Value} (hf : Fits P t e sz by_ zs) {w : World} {b o n cap : Nat} {cs : Array Value} {e' : TypeId} {fr : Nat × Nat} (hb : w.heap[b]? = some (.cells cs e' fr)) (hfr : free fr cs.size) {m : Nat} {news : List Value} {y2 : Value} (h2 : Src P t t2 w sz y2 m news) (hne : 0 < m) (hone : ∀ v ∈ news, one v = true) (hroom : n + m ≤ cap) (hsz' : o + (n + m) * sz ≤ cs.size) :
    ∃ w', (Builtin.append_ #[t, t2] ty #[.slice (some ⟨b, o, none⟩) n cap, y2]).run P w = .ok (.slice (some ⟨b, o, none⟩) (n + m) cap) w' ∧ Only w b (.cells (spl cs (o + n * sz) news) e' fr) w' := by
  obtain ⟨i, z, ht, hi, hz, hsz, hby, hzs⟩ := elemI_run hf.info
  have key : ∃ d2, P.underlying t2 = some d2 ∧ (d2 = .slice e ∨ d2 = .string) ∧ (Builtin.lenOf y2).run P w = .ok m w ∧ (Builtin.firstCells i.size m y2).run P w = .ok news.toArray w ∧ news.length = m * sz := by
    rcases h2 with ⟨rfl, h⟩ | ⟨hu, h1, s, rfl, rfl, rfl⟩
    · refine ⟨_, ht, .inl rfl, ?_⟩
      rcases h with ⟨h, _⟩ | ⟨b2, o2, c2, cs2, e2, fr2, rfl, hb2, hw2, hl2⟩
      · omega
      · exact ⟨by simp [Builtin.lenOf], run_firstCells_some (P := P) w i.size m ⟨b2, o2, none⟩ m c2 news (by rw [hl2, hsz]) (cells_win hb2 hw2), hl2⟩
    · refine ⟨_, hu, .inr rfl, by simp [Builtin.lenOf], ?_, by rw [strV_len, h1, Nat.mul_one]⟩
      have := Lib.run_firstCells_string (P := P) w i.size s
      rw [strV_str]; exact this
  obtain ⟨d2, hd2, hni, hlen, hfc, hl2⟩ := key
  obtain ⟨w', hst, hw⟩ := run_storeCells (P := P) (b := b) (off := o + n * i.size) news 0 cs w hb (by rw [hl2, hsz, Nat.add_zero, Nat.add_assoc, ← Nat.add_mul]; exact hsz') hfr hone
  refine ⟨w', ?_, by rw [Nat.add_zero, hsz] at hw; exact hw⟩
  rcases hni with rfl | rfl <;> simp [Builtin.append_, run_underlying ht, run_underlying hd2, sizeOf, typeInfo, hi, hlen, hroom, hfc, add_none, hst]

/-- It is laid anew. -/
theorem run_app2 {e : TypeId} {sz by_ : Nat} {zs : List Value} (hf : Fits P t e sz by_ zs) {w : World} {p : Option Addr} {n cap : Nat} {olds : List Value} (h1 : (n = 0 ∧ olds = [] ∧ (p = none → cap = 0)) ∨ ∃ b o cs e' fr, p = some ⟨b, o, none⟩ ∧ w.heap[b]? = some (.cells cs e' fr) ∧ win cs o olds ∧ olds.length = n * sz) {m : Nat} {news : List Value} {y2 : Value} (h2 : Src P t t2 w sz y2 m news) (hne : 0 < m) (hroom : cap < n + m) (hle : n + m ≤ 1048576) :
    ∃ w' cap' cs zz, (Builtin.append_ #[t, t2] ty #[.slice p n cap, y2]).run P w = .ok (.slice (some ⟨w.heap.size, 0, none⟩) (n + m) cap') w' ∧ Pushed w (.cells cs e (0, 0)) w' ∧ cs.toList = olds ++ news ++ zz ∧ cs.size = cap' * sz ∧ n + m ≤ cap' := by
  obtain ⟨i, z, ht, hi, hz, hsz, hby, hzs⟩ := elemI_run hf.info
  have hbig : (n + m) * i.bytes ≤ 140737488355328 := by
    have hs := hf.small
    have : (n + m) * i.bytes ≤ 1048576 * 1048576 := Nat.mul_le_mul hle (by rw [hby]; exact hs)
    omega
  have hzl : z.cells.size = sz := by rw [← hf.zl, ← hzs]; simp
  have hzz : ∀ k, (Builtin.zeroCells z.cells k).size = k * sz := fun k => by simp [Builtin.zeroCells, hzl]
  rcases h2 with ⟨rfl, ⟨h, _⟩ | ⟨b2, o2, c2, cs2, e2, fr2, rfl, hb2, hw2, hl2⟩⟩ | ⟨hu2, hs1, s, rfl, rfl, rfl⟩
  · omega
  rotate_left
  · have hl2 : (strV s).length = s.size * sz := by rw [strV_len, hs1, Nat.mul_one]
    have fin : ∀ (pa : Addr), p = some pa → olds.length = n * sz → (∀ j v, olds[j]? = some v → w.cell? (pa.add j) = some v) → ∃ w' cap' cs zz, (Builtin.append_ #[t, t2] ty #[.slice p n cap, .string s]).run P w = .ok (.slice (some ⟨w.heap.size, 0, none⟩) (n + s.size) cap') w' ∧ Pushed w (.cells cs e (0, 0)) w' ∧ cs.toList = olds ++ strV s ++ zz ∧ cs.size = cap' * sz ∧ n + s.size ≤ cap' := by
      intro pa hpa hol hc1
      subst hpa
      have hfit := growslice_fits (need := n + s.size) (old := cap) (bytes := i.bytes) hroom hbig
      have hrun := Lib.run_append_grow_string (P := P) (w := w) t t2 ty e i z ht hu2 hi hz pa n cap olds (by rw [hol, hsz]) hc1 s hroom (by omega) hfit
      have hcap : n + s.size ≤ grownCap w (n + s.size) cap e := by unfold grownCap; simp only [Question.cut]; omega
      refine ⟨_, _, _, (Builtin.zeroCells z.cells (grownCap w (n + s.size) cap e - (n + s.size))).toList, hrun, ⟨rfl, rfl, rfl, rfl⟩, by simp [strV_str], ?_, hcap⟩
      simp only [Array.size_append, List.size_toArray, hzz, hol, ← strV_str, hl2]
      rw [← Nat.add_mul, ← Nat.add_mul]; congr 1; omega
    rcases h1 with ⟨rfl, rfl, hp⟩ | ⟨b, o, cs, e', fr, rfl, hb, hw, hol⟩
    · cases p with
      | none =>
        have hc := hp rfl
        subst hc
        have hrun := run_append_nil_string (P := P) (w := w) t t2 ty e i z ht hu2 hi hz s hne (by simp at hle; omega) (by simp at hbig; omega)
        have hcap : s.size ≤ grownCap w s.size 0 e := by unfold grownCap; simp only [Question.cut]; omega
        refine ⟨w.drew.alloc (.cells (s.data.map (fun b => Value.int .u8 b.toNat) ++ Builtin.zeroCells z.cells (grownCap w s.size 0 e - s.size)) e), grownCap w s.size 0 e, s.data.map (fun b => Value.int .u8 b.toNat) ++ Builtin.zeroCells z.cells (grownCap w s.size 0 e - s.size), (Builtin.zeroCells z.cells (grownCap w s.size 0 e - s.size)).toList, ?_, ⟨rfl, rfl, rfl, rfl⟩, by simp [strV], ?_, by omega⟩
        · rw [Nat.zero_add]; exact hrun
        have hsd : (s.data.map (fun b => Value.int .u8 b.toNat)).size = s.size * sz := by rw [hs1]; simp
        simp only [Array.size_append, hzz, hsd]
        rw [← Nat.add_mul]; congr 1; omega
      | some pa => exact fin pa rfl (by simp) (by simp)
    · exact fin _ rfl hol (cells_win hb hw)
  · have hcell2 := cells_win hb2 hw2
    have fin : ∀ (pa : Addr), p = some pa → olds.length = n * sz → (∀ j v, olds[j]? = some v → w.cell? (pa.add j) = some v) → ∃ w' cap' cs zz, (Builtin.append_ #[t, t] ty #[.slice p n cap, .slice (some ⟨b2, o2, none⟩) m c2]).run P w = .ok (.slice (some ⟨w.heap.size, 0, none⟩) (n + m) cap') w' ∧ Pushed w (.cells cs e (0, 0)) w' ∧ cs.toList = olds ++ news ++ zz ∧ cs.size = cap' * sz ∧ n + m ≤ cap' := by
      intro pa hpa hol hc1
      subst hpa
      have hfit := growslice_fits (need := n + m) (old := cap) (bytes := i.bytes) hroom hbig
      have hrun := run_append_grow (P := P) (w := w) t ty e i z ht hi hz pa n cap olds (by rw [hol, hsz]) hc1 ⟨b2, o2, none⟩ m c2 news (by rw [hl2, hsz]) hcell2 hroom (by omega) hfit
      have hcap : n + m ≤ grownCap w (n + m) cap e := by unfold grownCap; simp only [Question.cut]; omega
      refine ⟨_, _, _, (Builtin.zeroCells z.cells (grownCap w (n + m) cap e - (n + m))).toList, hrun, ⟨rfl, rfl, rfl, rfl⟩, by simp, ?_, hcap⟩
      simp only [Array.size_append, List.size_toArray, hzz, hol, hl2]
      rw [← Nat.add_mul, ← Nat.add_mul]; congr 1; omega
    rcases h1 with ⟨rfl, rfl, hp⟩ | ⟨b, o, cs, e', fr, rfl, hb, hw, hol⟩
    · cases p with
      | none =>
        have hc := hp rfl
        subst hc
        have hrun := run_append_nil (P := P) (w := w) t ty e i z ht hi hz ⟨b2, o2, none⟩ m c2 news (by rw [hl2, hsz]) hcell2 hne (by simp at hle; omega) (by simp at hbig; omega)
        have hcap : m ≤ grownCap w m 0 e := by unfold grownCap; simp only [Question.cut]; omega
        refine ⟨w.drew.alloc (.cells (news.toArray ++ Builtin.zeroCells z.cells (grownCap w m 0 e - m)) e), grownCap w m 0 e, news.toArray ++ Builtin.zeroCells z.cells (grownCap w m 0 e - m), (Builtin.zeroCells z.cells (grownCap w m 0 e - m)).toList, ?_, ⟨rfl, rfl, rfl, rfl⟩, by simp, ?_, by omega⟩
        · rw [Nat.zero_add]; exact hrun
        simp only [Array.size_append, List.size_toArray, hzz, hl2]
        rw [← Nat.add_mul]; congr 1; omega
      | some pa => exact fin pa rfl (by simp) (by simp)
    · exact fin _ rfl hol (cells_win hb hw)

/-! ### What is appended -/
def mapB : List UInt8 → List SV
  | [] => []
  | b :: l => .v (.int .u8 b.toNat) :: mapB l

theorem mapB_rel {M : Mp} : ∀ l : List UInt8, relL M (mapB l) (l.map fun b => Value.int .u8 b.toNat)
  | [] => trivial
  | _ :: l => ⟨rfl, mapB_rel l⟩
theorem mapB_ids : ∀ l : List UInt8, idsL (mapB l) = []
  | [] => rfl
  | _ :: l => by simp [mapB, idsL, SV.ids, mapB_ids l]
theorem mapB_len : ∀ l : List UInt8, (mapB l).length = l.length
  | [] => rfl
  | _ :: l => by simp [mapB, mapB_len l]

noncomputable def newsQ (str : Bool) (sz : Nat) (v : AV) (k : Nat → List SV → Q Rs) : Q Rs :=
  match str with
  | true => (match v with
    | .o (.s (.v (.string s))) => bif Nat.beq sz 1 then k s.data.toList.length (mapB s.data.toList) else .ret none
    | _ => .ret none)
  | false => match v with
  | .o (.s (.s j u sz' o m _)) => bif Nat.beq sz' sz then askB j fun B => match B.con, verHi B.vs u with
      | .c l, some hi => bif Nat.ble ((o + m) * sz) hi then k m ((l.drop (o * sz)).take (m * sz)) else .ret none
      | _, _ => .ret none
    else .ret none
  | .o (.s (.v (.slice none 0 0))) => k 0 []
  | _ => .ret none

theorem newsQ_some {t t2 : TypeId} {c : Ctx} {M : Mp} {a : Act} {w : World} (hh : Holds N c M τ a w) {str : Bool} (hstr : (str = true → P.underlying t2 = some .string) ∧ (str = false → t = t2)) {sz : Nat} {v : AV} {k : Nat → List SV → Q Rs} {u : Upd} (hu : (newsQ str sz v k).run τ = some u) {y : Value} (hr : v.rel M y) :
    ∃ m l vs, (k m l).run τ = some u ∧ l.length = m * sz ∧ relL M l vs ∧ Src P t t2 w sz y m vs ∧ ∀ p ∈ idsL l, nm τ p := by
  cases str with
  | true =>
    unfold newsQ at hu
    simp only at hu
    split at hu
    · rename_i s
      cases hb : Nat.beq sz 1 with
      | false => rw [hb] at hu; cases hu
      | true =>
        rw [hb] at hu
        have : sz = 1 := by simpa using hb
        subst this
        have hy : y = .string s := hr
        exact ⟨_, _, _, hu, by rw [mapB_len, Nat.mul_one], mapB_rel _, .inr ⟨hstr.1 rfl, rfl, s, hy, by simp, rfl⟩, by rw [mapB_ids]; simp⟩
    · cases hu
  | false =>
  suffices hs : ∃ m l vs, (k m l).run τ = some u ∧ l.length = m * sz ∧ relL M l vs ∧ RdV w sz y m vs ∧ ∀ p ∈ idsL l, nm τ p by
    obtain ⟨m, l, vs, h1, h2, h3, h4, h5⟩ := hs
    exact ⟨m, l, vs, h1, h2, h3, .inl ⟨hstr.2 rfl, h4⟩, h5⟩
  unfold newsQ at hu
  simp only at hu
  split at hu
  · rename_i j u' sz' o m cp
    cases hb : Nat.beq sz' sz with
    | false => rw [hb] at hu; cases hu
    | true =>
      rw [hb] at hu
      have : sz' = sz := by simpa using hb
      subst this
      simp only [cond_true] at hu
      obtain ⟨B, hB, hu⟩ := askB_some hu
      split at hu
      · rename_i l hi hc hhi
        cases hle : Nat.ble ((o + m) * sz') hi with
        | false => rw [hle] at hu; cases hu
        | true =>
          rw [hle] at hu
          have hle := Nat.le_of_ble_eq_true hle
          obtain ⟨h1, cs, fr, h2, h3, h4, h5, h6⟩ := hh.cells hB hc hhi
          have hle' : o * sz' + m * sz' ≤ hi := by rw [← Nat.add_mul]; exact hle
          obtain ⟨vs, g1, g2, g3⟩ := rel_part (o := o * sz') (n := m * sz') hle' h5 h6
          refine ⟨m, _, vs, hu, by simp; omega, g3, ?_, fun p hp => hh.named _ _ hB p (by show p ∈ B.con.ids; rw [hc]; exact idsL_drop_take hp)⟩
          rcases hr with ⟨hm, _, p, rfl⟩ | ⟨cap, rfl, _⟩
          · subst hm
            exact .inl ⟨rfl, List.length_eq_zero_iff.1 (by rw [g1]; simp), p, 0, rfl⟩
          · exact .inr ⟨_, _, cap, cs, B.ty, fr, rfl, h2, g2, g1⟩
      · cases hu
    
  · exact ⟨0, [], [], hu, by simp, trivial, .inl ⟨rfl, rfl, none, 0, hr⟩, by simp [idsL]⟩
  · cases hu

/-- The latest versions alone. -/
def keepVs (l : List (Nat × Nat)) : List (Nat × Nat) := match l with
  | a :: b :: c :: _ => [a, b, c]
  | l => l

theorem keepVs_mem {l : List (Nat × Nat)} {v : Nat × Nat} (h : v ∈ keepVs l) : v ∈ l := by
  unfold keepVs at h
  split at h
  · simp only [List.mem_cons, List.not_mem_nil, or_false] at h
    rcases h with rfl | rfl | rfl <;> simp
  · exact h

def cutAll (o : Nat) : List (Nat × Nat) → List (Nat × Nat)
  | [] => []
  | v :: l => (v.1, bif Nat.ble v.2 o then v.2 else o) :: cutAll o l

theorem cutAll_mem {o : Nat} : ∀ {l : List (Nat × Nat)} {v : Nat × Nat}, v ∈ cutAll o l → v.2 ≤ o ∧ ∃ v0 ∈ l, v.1 = v0.1 ∧ v.2 ≤ v0.2
  | [], _, h => by cases h
  | v0 :: l, v, h => by
    simp only [cutAll] at h
    rcases List.mem_cons.1 h with h | h
    · subst h
      refine ⟨?_, v0, by simp, rfl, ?_⟩
      · cases hc : Nat.ble v0.2 o with
        | true => exact Nat.le_of_ble_eq_true hc
        | false => exact Nat.le_refl _
      · cases hc : Nat.ble v0.2 o with
        | true => exact Nat.le_refl _
        | false => simp only [cond_false]; have := Nat.not_le_of_not_ble_eq_true (by rw [hc]; simp); omega
    · obtain ⟨h2, w, hw, h3⟩ := cutAll_mem h
      exact ⟨h2, w, by simp [hw], h3⟩

noncomputable def appQ (id d : Nat) (e : TypeId) (sz : Nat) (v : AV) (m : Nat) (news : List SV) : Q Rs :=
  bif Nat.beq m 0 then (match v with
    | .o (.s (.v (.slice none 0 0))) => .ret (some [(.s d, .x v)])
    | .o (.s (.s _ _ _ _ _ _)) => .ret (some [(.s d, .x v)])
    | _ => .ret none)
  else bif allOne news then (match v with
    | .o (.s (.v (.slice none 0 0))) => bif Nat.ble m 1048576 then newQ id d e (.s (.s id 0 sz 0 m none)) news else .ret none
    | .o (.s (.s i u sz' o n cp)) => bif Nat.beq sz' sz && Nat.ble (n + m) 1048576 then askB i fun B => match B.con, verHi B.vs u with
      | .c l, some hi => match cp with
        | some c => bif Nat.ble (n + m) c then
            .ret (bif !B.ro && Nat.ble ((o + n + m) * sz) hi then splK news l ((o + n) * sz) fun l' => some [(.s d, .x (.s (.s i u sz o (n + m) (some c)))), (.b i, .b ⟨B.ty, .c l', (u, hi) :: cutVs u ((o + n) * sz) B.vs, B.nx, false⟩)] else none)
          else bif Nat.ble ((o + n) * sz) hi then newQ id d e (.s (.s id 0 sz 0 (n + m) none)) ((l.drop (o * sz)).take (n * sz) ++ news) else .ret none
        | none => .ret (bif (!B.ro && (Nat.beq o 0 && Nat.beq B.ty e)) && Nat.ble (n * sz) hi then tapK (n * sz) news l fun l' => some [(.s d, .x (.s (.s i B.nx sz 0 (n + m) none))), (.b i, .b ⟨B.ty, .c l', (B.nx, (n + m) * sz) :: cutAll (n * sz) (keepVs B.vs), B.nx + 1, false⟩)] else none)
      | _, _ => .ret none
      else .ret none
    | _ => .ret none) else .ret none

theorem app_exec {a : Act} {w : World} {v : Value} {w' : World} (hr : (Builtin.append_ #[t, t2] ty #[a.eval x, a.eval y]).run P w = .ok v w') : (execOp a.eval ⟨some d, .call ⟨.builtin .append, #[x, y], #[t, t2]⟩, ty, pos, af, g⟩).run P w = .ok (.value v) w' := by
  simp [execOp, resolve, invoke, builtin, hr]

/-- A block's cells are written behind a place: what is known of its versions behind it. -/
theorem blk_written {M : Mp} {w w' : World} {i u' hi O : Nat} {B : Blk} {l m : List SV} {vs : List Value} {cs : Array Value} (hold : BlkOK M w i B) (hcon : B.con = .c l) (hro : B.ro = false) (hue : (u', hi) ∈ B.vs) (hle : O + vs.length ≤ hi) (h1 : hi ≤ l.length) (h2 : w.heap[(M.β i u').1]? = some (.cells cs B.ty (0, 0))) (h3 : cs.size = M.Z i u')
    (h5 : relL M (l.take hi) ((cs.toList.drop (M.β i u').2).take hi)) (h6 : (M.β i u').2 + hi ≤ cs.size) (hrel : relL M m vs) (hw : Only w (M.β i u').1 (.cells (spl cs ((M.β i u').2 + O) vs) B.ty (0, 0)) w') :
    BlkOK M w' i ⟨B.ty, .c (splS l O m), (u', hi) :: cutVs u' O B.vs, B.nx, false⟩ := by
  have hml := relL_len hrel
  have hnew : ∀ v, v ∈ (u', hi) :: cutVs u' O B.vs → v = (u', hi) ∨ (v.1 ≠ u' ∧ v.2 ≤ O ∧ ∃ v0 ∈ B.vs, v.1 = v0.1 ∧ v.2 ≤ v0.2) := fun v hv => by
    rcases List.mem_cons.1 hv with h | h
    · exact .inl h
    · exact .inr (cutVs_mem h)
  have hin : ∀ v, v ∈ (u', hi) :: cutVs u' O B.vs → ∃ v0 ∈ B.vs, v.1 = v0.1 := fun v hv => by
    rcases hnew v hv with rfl | ⟨_, _, v0, g1, g2, _⟩
    · exact ⟨_, hue, rfl⟩
    · exact ⟨v0, g1, g2⟩
  refine ⟨fun v hv => ?_, fun v hv => ?_, fun v hv v' hv' he => ?_, fun v hv => by obtain ⟨v0, g1, g2⟩ := hin v hv; rw [g2]; exact hold.zero v0 g1⟩
  · obtain ⟨v0, g1, g2⟩ := hin v hv
    rw [g2]; exact hold.low _ g1
  · show v.2 ≤ (splS l O m).length ∧ _
    rw [splS_length]
    rcases hnew v hv with rfl | ⟨g3, g4, v0, g1, g2, g5⟩
    · refine ⟨h1, _, (0, 0), hw.at_, by rw [spl_size]; exact h3, fun _ => rfl, ?_, by rw [spl_size]; exact h6⟩
      rw [spl_window hle h6, splS_take_in m l O hi (by omega)]
      exact relL_spl _ _ _ hrel (by simpa using h5)
    · have hat := hold.at_ v0 g1
      rw [hcon, ← g2] at hat
      obtain ⟨a1, cs0, fr0, a2, a3, a4, a5, a6⟩ := hat
      have a5' := relL_take v.2 a5
      rw [List.take_take, List.take_take, Nat.min_eq_left g5] at a5'
      refine ⟨by omega, ?_⟩
      rw [splS_take m l O v.2 g4]
      by_cases hreal : (M.β i v.1).1 = (M.β i u').1
      · have hbase := hold.same v0 g1 (u', hi) hue (by rw [← g2]; exact hreal)
        rw [← g2] at hbase
        simp only at hbase
        rw [hreal, h2] at a2
        cases a2
        refine ⟨_, (0, 0), by rw [hreal]; exact hw.at_, by rw [spl_size]; exact a3, fun _ => rfl, ?_, by rw [spl_size]; omega⟩
        rw [hbase, spl_before g4 (by omega), ← hbase]
        exact a5'
      · exact ⟨cs0, fr0, by rw [hw.other _ hreal]; exact a2, a3, fun _ => a4 hro, a5', by omega⟩
  · obtain ⟨v0, g1, g2⟩ := hin v hv
    obtain ⟨v1, g1', g2'⟩ := hin v' hv'
    rw [g2, g2'] at he ⊢
    exact hold.same v0 g1 v1 g1' he

theorem relL_take' {M : Mp} {l : List SV} {cs : List Value} {n : Nat} (h : relL M l cs) (hn : l.length = n) {zz : List Value} : relL M l ((cs ++ zz).take n) := by
  have := relL_len h
  rw [List.take_append_of_le_length (by omega), List.take_of_length_le (by omega)]; exact h

theorem b_app {str : Bool} (hstr : (str = true → P.underlying t2 = some .string) ∧ (str = false → t = t2)) {e : TypeId} {sz by_ : Nat} {zs : List Value} (hf : Fits P t e sz by_ zs) (hd : d < N) : OpB P N ⟨some d, .call ⟨.builtin .append, #[x, y], #[t, t2]⟩, ty, pos, af, g⟩ (askX x fun v => askX y fun u => newsQ str sz u fun m l => appQ id d e sz v m l) := by
  intro c τ a w hr u hu K Q' hK
  obtain ⟨M, hh⟩ := hr
  obtain ⟨v, hx, hu⟩ := askX_some hu
  obtain ⟨v2, hy, hu⟩ := askX_some hu
  obtain ⟨m, news, vs, hu, hnl, hnr, hR, hnm⟩ := newsQ_some (P := P) (t := t) (t2 := t2) hh hstr hu (ev_rel hh hy)
  have hv := ev_rel hh hx
  have hxn := ev_named hh hx
  have hvl := relL_len hnr
  unfold appQ at hu
  cases hm0 : Nat.beq m 0 with
  | true =>
    rw [hm0] at hu
    have : m = 0 := by simpa using hm0
    subst this
    simp only [cond_true] at hu
    have fin : ∀ {p1 : Option Addr} {n cap : Nat}, a.eval x = .slice p1 n cap → n ≤ cap → (p1 = none → cap = 0) → Oper.wp P ⟨some d, .call ⟨.builtin .append, #[x, y], #[t, t2]⟩, ty, pos, af, g⟩ a w K Q' ∨ u ≠ [(.s d, .x v)] := by
      intro p1 n cap e1 h1 h2
      by_cases hue : u = [(.s d, .x v)]
      · subst hue
        have h0 := run_app0 (ty := ty) hf w hR h1 h2
        rw [← e1] at h0
        exact .inl (OpB.value hh rfl hd (app_exec h0) (av := v) hv hxn hK)
      · exact .inr hue
    split at hu
    · cases hu
      have e1 : a.eval x = .slice none 0 0 := hv
      exact (fin e1 (Nat.le_refl _) (fun _ => rfl)).resolve_right (by simp)
    · cases hu
      rcases hv with ⟨hn, _, p, e1⟩ | ⟨cap, e1, hnc, _, _⟩
      · exact (fin e1 (Nat.le_refl _) (fun _ => rfl)).resolve_right (by simp)
      · exact (fin e1 hnc (by simp)).resolve_right (by simp)
    · cases hu
  | false =>
    rw [hm0] at hu
    have hmp : 0 < m := by
      have : m ≠ 0 := by intro h; rw [h] at hm0; simp at hm0
      omega
    simp only [cond_false] at hu
    cases hone : allOne news with
    | false => rw [hone] at hu; cases hu
    | true =>
      rw [hone] at hu
      simp only [cond_true] at hu
      have hones := relL_one hone hnr
      split at hu
      · cases hb : Nat.ble m 1048576 with
        | false => rw [hb] at hu; cases hu
        | true =>
          rw [hb] at hu
          have hb := Nat.le_of_ble_eq_true hb
          have e1 : a.eval x = .slice none 0 0 := hv
          obtain ⟨w', cap', cs, zz, hrun, hpu, hcs, hsz, hcap⟩ := run_app2 (ty := ty) hf (p := none) (n := 0) (cap := 0) (olds := []) (.inl ⟨rfl, rfl, fun _ => rfl⟩) hR hmp (by omega) (by omega)
          rw [← e1] at hrun
          simp only [Nat.zero_add] at hrun hcap
          refine newQ_ok hh hd hu hpu ?_ hnm rfl (app_exec hrun) (fun M' g1 g2 => .inr ⟨cap', ?_, hcap, by simp, ?_⟩) (by simp [AV.ids, A0.ids, SV.ids]) hK
          · rw [hcs, List.nil_append]; exact relL_take' hnr rfl
          · rw [g1]; simp
          · rw [g1, g2, hsz]; simp
      · rename_i i u' sz' o n cp _ _
        cases hc : Nat.beq sz' sz && Nat.ble (n + m) 1048576 with
        | false => rw [hc] at hu; cases hu
        | true =>
          rw [hc] at hu
          simp only [Bool.and_eq_true] at hc
          have : sz' = sz := by simpa using hc.1
          subst this
          have hle := Nat.le_of_ble_eq_true hc.2
          simp only [cond_true] at hu
          obtain ⟨B, hB, hu⟩ := askB_some hu
          split at hu
          · rename_i l hi hcon hhi
            obtain ⟨h1, cs, fr, h2, h3, h4, h5, h6⟩ := hh.cells hB hcon hhi
            have hold := hh.blks i B hB
            have hue := verHi_mem hhi
            have hlids : ∀ p ∈ idsL l, nm τ p := fun p hp => hh.named _ _ hB p (by show p ∈ B.con.ids; rw [hcon]; exact hp)
            have hnmi : nm τ (i, u') := hxn (i, u') (by simp [AV.ids, A0.ids, SV.ids])
            -- the old elements, in memory
            have olds : (o + n) * sz' ≤ hi → ∃ os : List Value, os.length = n * sz' ∧ win cs ((M.β i u').2 + o * sz') os ∧ relL M ((l.drop (o * sz')).take (n * sz')) os := fun h => rel_part (by rw [← Nat.add_mul]; exact h) h5 h6
            split at hu
            · rename_i c0 _ _ _
              cases hroom : Nat.ble (n + m) c0 with
              | true =>
                rw [hroom] at hu
                have hroom := Nat.le_of_ble_eq_true hroom
                simp only [cond_true, Q.run, splK_eq] at hu
                cases hb : !B.ro && Nat.ble ((o + n + m) * sz') hi with
                | false => rw [hb] at hu; cases hu
                | true =>
                  rw [hb] at hu; cases hu
                  simp only [Bool.and_eq_true, Bool.not_eq_true'] at hb
                  have hle2 := Nat.le_of_ble_eq_true hb.2
                  have hfr := h4 hb.1
                  subst hfr
                  rcases hv with ⟨hn, hcp, p, e1⟩ | ⟨cap, e1, hnc, hcp, hz⟩
                  · rcases hcp with hcp | hcp
                    · cases hcp
                    · cases hcp; omega
                  · have : cap = c0 := hcp c0 rfl
                    subst this
                    have hO : (o + n) * sz' + vs.length ≤ hi := by
                      rw [← hvl, hnl, ← Nat.add_mul]; exact hle2
                    obtain ⟨w', hrun, hw⟩ := run_app1 (ty := ty) hf (b := (M.β i u').1) (o := (M.β i u').2 + o * sz') (n := n) (cap := cap) h2 (free00 _) hR hmp hones hroom (by rw [Nat.add_assoc, ← Nat.add_mul, ← Nat.add_assoc]; omega)
                    rw [← e1] at hrun
                    unfold Oper.wp
                    rw [app_exec hrun]
                    refine hK (a.put (some d) _) _ ⟨M, ?_⟩
                    have hOe : (M.β i u').2 + o * sz' + n * sz' = (M.β i u').2 + (o + n) * sz' := by rw [Nat.add_mul, Nat.add_assoc]
                    rw [hOe] at hw
                    have hmod := hh.mod hB (M' := M) (w' := w') (B' := ⟨B.ty, .c (splS l ((o + n) * sz') news), (u', hi) :: cutVs u' ((o + n) * sz') B.vs, B.nx, false⟩) (fun _ _ _ => ⟨rfl, rfl⟩) (Nat.le_refl _) (fun b _ hb2 => hw.other b (fun e => hb2 _ hue e)) (by rw [hw.size]; exact Nat.le_refl _) hw.os hw.tape hw.output
                      (blk_written hold hcon hb.1 hue hO h1 h2 h3 h5 h6 hnr hw) (fun v hv => by
                        rcases List.mem_cons.1 hv with rfl | hv
                        · exact .inr ⟨_, hue, rfl⟩
                        · obtain ⟨_, _, v0, g1, g2, _⟩ := cutVs_mem hv
                          exact .inr ⟨v0, g1, by rw [g2]⟩) (fun p hp => by
                        rcases splS_ids news l _ hp with h7 | h7
                        · exact hlids p h7
                        · exact hnm p h7)
                    have := hmod.put hd (av := .s (.s i u' sz' o (n + m) (some cap))) (v := .slice (some ⟨(M.β i u').1, (M.β i u').2 + o * sz', none⟩) (n + m) cap) (.inr ⟨cap, rfl, hroom, fun c h => by cases h; rfl, hz⟩) (fun p hp => nm_up hB (B' := ⟨B.ty, .c (splS l ((o + n) * sz') news), (u', hi) :: cutVs u' ((o + n) * sz') B.vs, B.nx, false⟩) (Nat.le_refl _) (by
                      simp [AV.ids, A0.ids, SV.ids] at hp; subst hp; exact hnmi))
                    exact this
              | false =>
                rw [hroom] at hu
                simp only [cond_false] at hu
                have hroom : ¬ n + m ≤ c0 := fun h => by rw [Nat.ble_eq_true_of_le h] at hroom; cases hroom
                cases hb : Nat.ble ((o + n) * sz') hi with
                | false => rw [hb] at hu; cases hu
                | true =>
                  rw [hb] at hu
                  obtain ⟨os, g1, g2, g3⟩ := olds (Nat.le_of_ble_eq_true hb)
                  simp only [cond_true] at hu
                  have key : ∃ w' cap' cs' zz, (Builtin.append_ #[t, t2] ty #[a.eval x, a.eval y]).run P w = .ok (.slice (some ⟨w.heap.size, 0, none⟩) (n + m) cap') w' ∧ Pushed w (.cells cs' e (0, 0)) w' ∧ cs'.toList = os ++ vs ++ zz ∧ cs'.size = cap' * sz' ∧ n + m ≤ cap' := by
                    rcases hv with ⟨hn, hcp, p, e1⟩ | ⟨cap, e1, hnc, hcp, hz⟩
                    · subst hn
                      have : os = [] := List.length_eq_zero_iff.1 (by rw [g1]; simp)
                      subst this
                      rw [e1]
                      exact run_app2 (ty := ty) hf (.inl ⟨rfl, rfl, fun _ => rfl⟩) hR hmp (by omega) hle
                    · have : cap = c0 := hcp c0 rfl
                      subst this
                      rw [e1]
                      exact run_app2 (ty := ty) hf (.inr ⟨_, _, cs, B.ty, fr, rfl, h2, g2, g1⟩) hR hmp (by omega) hle
                  obtain ⟨w', cap', cs', zz, hrun, hpu, hcs, hsz, hcap⟩ := key
                  refine newQ_ok hh hd hu hpu ?_ (fun p hp => ?_) rfl (app_exec hrun) (fun M' g1 g2 => .inr ⟨cap', ?_, hcap, by simp, ?_⟩) (by simp [AV.ids, A0.ids, SV.ids]) hK
                  · rw [hcs]; exact relL_take' (relL_append g3 hnr) rfl
                  · obtain ⟨x, hx, hpx⟩ := mem_idsL.1 hp
                    rcases List.mem_append.1 hx with h | h
                    · exact hlids p (idsL_drop_take (mem_idsL.2 ⟨x, h, hpx⟩))
                    · exact hnm p (mem_idsL.2 ⟨x, h, hpx⟩)
                  · rw [g1]; simp
                  · rw [g1, g2, hsz]; simp
            · simp only [Q.run, tapK_eq] at hu
              cases hb : (!B.ro && (Nat.beq o 0 && Nat.beq B.ty e)) && Nat.ble (n * sz') hi with
              | false => rw [hb] at hu; cases hu
              | true =>
                rw [hb] at hu; cases hu
                simp only [Bool.and_eq_true, Bool.not_eq_true'] at hb
                have ho : o = 0 := by simpa using hb.1.2.1
                have hte : B.ty = e := by simpa using hb.1.2.2
                subst ho
                have hro : B.ro = false := hb.1.1
                have hni := Nat.le_of_ble_eq_true hb.2
                have hfr := h4 hro
                subst hfr
                obtain ⟨os, g1, g2, g3⟩ := olds (by rw [Nat.zero_add]; exact hni)
                rw [Nat.zero_mul, List.drop_zero] at g3
                rw [Nat.zero_mul, Nat.add_zero] at g2
                have hnids : ∀ p ∈ idsL (l.take (n * sz') ++ news), nm τ p := fun p hp => by
                  obtain ⟨x, hx, hpx⟩ := mem_idsL.1 hp
                  rcases List.mem_append.1 hx with h | h
                  · exact hlids p (mem_idsL.2 ⟨x, List.mem_of_mem_take h, hpx⟩)
                  · exact hnm p (mem_idsL.2 ⟨x, h, hpx⟩)
                have hlen : (l.take (n * sz') ++ news).length = (n + m) * sz' := by
                  rw [List.length_append, List.length_take, hnl, Nat.min_eq_left (by omega), ← Nat.add_mul]
                have hfull : (l.take (n * sz') ++ news).take ((n + m) * sz') = l.take (n * sz') ++ news := List.take_of_length_le (by rw [hlen]; exact Nat.le_refl _)
                have hcuts : ∀ v, v ∈ (B.nx, (n + m) * sz') :: cutAll (n * sz') (keepVs B.vs) → v = (B.nx, (n + m) * sz') ∨ (v.1 < B.nx ∧ v.2 ≤ n * sz' ∧ ∃ v0 ∈ B.vs, v.1 = v0.1 ∧ v.2 ≤ v0.2) := fun v hv => by
                  rcases List.mem_cons.1 hv with h | h
                  · exact .inl h
                  · obtain ⟨k1, v0, k2, k3, k4⟩ := cutAll_mem h
                    have k2 := keepVs_mem k2
                    exact .inr ⟨by rw [k3]; exact hold.low _ k2, k1, v0, k2, k3, k4⟩
                -- what is known of the old versions stays
                have oldv : ∀ {M' : Mp} {w' : World}, (∀ j u, (j ≠ i ∨ u < B.nx) → Ag M M' (j, u)) → (∀ v0 ∈ B.vs, ∀ cs0 fr0, w.heap[(M.β i v0.1).1]? = some (.cells cs0 B.ty fr0) → ∃ cs1, w'.heap[(M.β i v0.1).1]? = some (.cells cs1 B.ty fr0) ∧ cs1.size = cs0.size ∧ (cs1.toList.drop (M.β i v0.1).2).take (n * sz') = (cs0.toList.drop (M.β i v0.1).2).take (n * sz')) →
                    ∀ v : Nat × Nat, v.2 ≤ n * sz' → (∃ v0 ∈ B.vs, v.1 = v0.1 ∧ v.2 ≤ v0.2) → BC.at M' w' i v.1 v.2 false B.ty (.c (l.take (n * sz') ++ news)) := by
                  intro M' w' hM hw v hv2 ⟨v0, k2, k3, k4⟩
                  have hat := hold.at_ v0 k2
                  rw [hcon] at hat
                  obtain ⟨a1, cs0, fr0, a2, a3, a4, a5, a6⟩ := hat
                  obtain ⟨cs1, b1, b2, b3⟩ := hw v0 k2 cs0 fr0 a2
                  have hag := hM i v.1 (.inr (by rw [k3]; exact hold.low _ k2))
                  obtain ⟨ag1, ag2⟩ := hag
                  simp only at ag1 ag2
                  refine ⟨by rw [hlen]; exact Nat.le_trans hv2 (Nat.mul_le_mul_right _ (by omega)), cs1, fr0, by rw [ag1, k3]; exact b1, by rw [ag2, k3, b2]; exact a3, fun _ => a4 hro, ?_, by rw [ag1, k3, b2]; omega⟩
                  have e1 : (l.take (n * sz') ++ news).take v.2 = l.take v.2 := by
                    rw [List.take_append_of_le_length (by rw [List.length_take]; omega), List.take_take, Nat.min_eq_left hv2]
                  have e2 : ((cs1.toList.drop (M.β i v0.1).2).take v.2) = (cs0.toList.drop (M.β i v0.1).2).take v.2 := by
                    have := congrArg (List.take v.2) b3
                    rwa [List.take_take, List.take_take, Nat.min_eq_left hv2] at this
                  rw [e1, ag1, k3, e2]
                  have a5' := relL_take v.2 a5
                  rw [List.take_take, List.take_take, Nat.min_eq_left k4] at a5'
                  refine relL_ag (fun p hp => ?_) a5'
                  refine hM p.1 p.2 ?_
                  by_cases e : p.1 = i
                  · right
                    obtain ⟨y, hy, hp⟩ := mem_idsL.1 hp
                    rcases hlids p (mem_idsL.2 ⟨y, List.mem_of_mem_take hy, hp⟩) with hq | ⟨B0, k5, k6⟩
                    · rw [e, hB] at hq; cases hq
                    · rw [e, hB] at k5; cases k5; exact k6
                  · exact .inl e
                have agx : ∀ {M' : Mp}, (∀ j u, (j ≠ i ∨ u < B.nx) → Ag M M' (j, u)) → relL M' (l.take (n * sz') ++ news) (os ++ vs) := by
                  intro M' hM
                  refine relL_ag (fun p hp => ?_) (relL_append g3 hnr)
                  refine hM p.1 p.2 ?_
                  by_cases e : p.1 = i
                  · right
                    rcases hnids p hp with hq | ⟨B0, k5, k6⟩
                    · rw [e, hB] at hq; cases hq
                    · rw [e, hB] at k5; cases k5; exact k6
                  · exact .inl e
                by_cases hplace : ∃ cap, a.eval x = .slice (some ⟨(M.β i u').1, (M.β i u').2 + 0 * sz', none⟩) n cap ∧ n ≤ cap ∧ (M.β i u').2 + (0 + cap) * sz' ≤ M.Z i u' ∧ n + m ≤ cap
                · -- in place
                  obtain ⟨cap, e1, hnc, hz, hroom⟩ := hplace
                  rw [Nat.zero_mul, Nat.add_zero] at e1
                  rw [Nat.zero_add] at hz
                  have hcm : (n + m) * sz' ≤ cap * sz' := Nat.mul_le_mul_right _ hroom
                  obtain ⟨w', hrun, hw⟩ := run_app1 (ty := ty) hf (b := (M.β i u').1) (o := (M.β i u').2) (n := n) (cap := cap) h2 (free00 _) hR hmp hones hroom (by omega)
                  rw [← e1] at hrun
                  have hM : ∀ j u, (j ≠ i ∨ u < B.nx) → Ag M (M.set i B.nx (M.β i u') (M.Z i u')) (j, u) := fun j u h => Mp.set_ne (h.imp (fun h => h) (fun h => by omega))
                  have hspl : (spl cs ((M.β i u').2 + n * sz') vs).toList = cs.toList.take ((M.β i u').2 + n * sz') ++ vs ++ cs.toList.drop ((M.β i u').2 + n * sz' + vs.length) := spl_toList _ _ _ (by rw [← hvl, hnl, Nat.add_assoc, ← Nat.add_mul]; omega)
                  unfold Oper.wp
                  rw [app_exec hrun]
                  show K (a.put (some d) _) w'
                  refine hK _ _ ⟨M.set i B.nx (M.β i u') (M.Z i u'), ?_⟩
                  have hmod := hh.mod hB (M' := M.set i B.nx (M.β i u') (M.Z i u')) (w' := w') (B' := ⟨B.ty, .c (l.take (n * sz') ++ news), (B.nx, (n + m) * sz') :: cutAll (n * sz') (keepVs B.vs), B.nx + 1, false⟩) hM (Nat.le_succ _) (fun b _ hb2 => hw.other b (fun e => hb2 _ hue e)) (by rw [hw.size]; exact Nat.le_refl _) hw.os hw.tape hw.output
                    ⟨fun v hv => ?_, fun v hv => ?_, fun v hv v' hv' he => ?_, fun v hv => by rcases hcuts v hv with rfl | ⟨k1, k2, v0, k3, k4, _⟩; (rw [Mp.set_at.1]; exact hold.zero _ hue); (rw [(hM i v.1 (.inr k1)).1, k4]; exact hold.zero v0 k3)⟩ (fun v hv => ?_) hnids
                  · have := hmod.put hd (av := .s (.s i B.nx sz' 0 (n + m) none)) (v := .slice (some ⟨(M.β i u').1, (M.β i u').2, none⟩) (n + m) cap) (.inr ⟨cap, by rw [Mp.set_at.1]; simp, hroom, by simp, by rw [Mp.set_at.1, Mp.set_at.2]; simpa using hz⟩) (fun p hp => by
                      simp [AV.ids, A0.ids, SV.ids] at hp; subst hp
                      exact .inr ⟨_, by rw [ap1, if_pos rfl], Nat.lt_succ_self _⟩)
                    exact this
                  · rcases hcuts v hv with rfl | ⟨k1, _⟩
                    · exact Nat.lt_succ_self _
                    · exact Nat.lt_succ_of_lt k1
                  · rcases hcuts v hv with rfl | ⟨k1, k2, k3⟩
                    · refine ⟨by rw [hlen]; exact Nat.le_refl _, _, (0, 0), by rw [Mp.set_at.1]; exact hw.at_, by rw [Mp.set_at.2, spl_size]; exact h3, fun _ => rfl, ?_, by rw [Mp.set_at.1, spl_size]; simp only; omega⟩
                      show relL _ ((l.take (n * sz') ++ news).take ((n + m) * sz')) (((spl cs ((M.β i u').2 + n * sz') vs).toList.drop ((M.set i B.nx (M.β i u') (M.Z i u')).β i B.nx).2).take ((n + m) * sz'))
                      rw [hfull, Mp.set_at.1, hspl]
                      have e3 : (cs.toList.take ((M.β i u').2 + n * sz')).drop (M.β i u').2 = os := by
                        have hl1 : ((cs.toList.take ((M.β i u').2 + n * sz')).drop (M.β i u').2).length = os.length := by rw [g1]; simp; omega
                        refine List.ext_getElem? fun k => ?_
                        by_cases hk : k < os.length
                        · have := g2 k os[k] (by simp [hk])
                          rw [List.getElem?_drop, List.getElem?_take, if_pos (by omega), Array.getElem?_toList, this]; simp [hk]
                        · rw [List.getElem?_eq_none (by omega), List.getElem?_eq_none (by omega)]
                      rw [List.append_assoc, List.drop_append_of_le_length (by simp; omega), e3, ← List.append_assoc]
                      have e4 : (os ++ vs).length = (n + m) * sz' := by rw [List.length_append, g1, ← hvl, hnl, ← Nat.add_mul]
                      rw [List.take_append_of_le_length (by omega), List.take_of_length_le (l := os ++ vs) (by omega)]
                      exact agx hM
                    · refine oldv hM (fun v0 hv0 cs0 fr0 hq => ?_) v k2 k3
                      by_cases hreal : (M.β i v0.1).1 = (M.β i u').1
                      · have hbase : (M.β i v0.1).2 = (M.β i u').2 := hold.same v0 hv0 (u', hi) hue hreal
                        rw [hreal, h2] at hq
                        cases hq
                        refine ⟨_, by rw [hreal]; exact hw.at_, spl_size _ _ _, ?_⟩
                        rw [hbase]
                        exact spl_before (Nat.le_refl _) (by rw [← hvl, hnl, Nat.add_assoc, ← Nat.add_mul]; omega)
                      · exact ⟨cs0, by rw [hw.other _ hreal]; exact hq, rfl, rfl⟩
                  · have place : ∀ v, v ∈ (B.nx, (n + m) * sz') :: cutAll (n * sz') (keepVs B.vs) → ∃ v0 ∈ B.vs, (M.set i B.nx (M.β i u') (M.Z i u')).β i v.1 = M.β i v0.1 := fun v hv => by
                      rcases hcuts v hv with rfl | ⟨k1, k2, v0, k3, k4, _⟩
                      · exact ⟨_, hue, Mp.set_at.1⟩
                      · exact ⟨v0, k3, by rw [(hM i v.1 (.inr k1)).1, k4]⟩
                    obtain ⟨v0, k1, k2⟩ := place v hv
                    obtain ⟨v1, k3, k4⟩ := place v' hv'
                    rw [k2, k4] at he ⊢
                    exact hold.same v0 k1 v1 k3 he
                  · rcases hcuts v hv with rfl | ⟨k1, k2, v0, k3, k4, _⟩
                    · exact .inr ⟨_, hue, by rw [Mp.set_at.1]⟩
                    · exact .inr ⟨v0, k3, by rw [(hM i v.1 (.inr k1)).1, k4]⟩
                · -- laid anew
                  have key : ∃ w' cap' cs' zz, (Builtin.append_ #[t, t2] ty #[a.eval x, a.eval y]).run P w = .ok (.slice (some ⟨w.heap.size, 0, none⟩) (n + m) cap') w' ∧ Pushed w (.cells cs' e (0, 0)) w' ∧ cs'.toList = os ++ vs ++ zz ∧ cs'.size = cap' * sz' ∧ n + m ≤ cap' := by
                    rcases hv with ⟨hn, hcp, p, e1⟩ | ⟨cap, e1, hnc, hcp, hz⟩
                    · subst hn
                      have : os = [] := List.length_eq_zero_iff.1 (by rw [g1]; simp)
                      subst this
                      rw [e1]
                      exact run_app2 (ty := ty) hf (.inl ⟨rfl, rfl, by simp⟩) hR hmp (by omega) hle
                    · have hroom : ¬ n + m ≤ cap := fun h => hplace ⟨cap, e1, hnc, hz, h⟩
                      rw [e1]
                      exact run_app2 (ty := ty) hf (.inr ⟨_, _, cs, B.ty, (0, 0), rfl, h2, by rw [Nat.zero_mul, Nat.add_zero]; exact g2, g1⟩) hR hmp (by omega) hle
                  obtain ⟨w', cap', cs', zz, hrun, hpu, hcs, hsz, hcap⟩ := key
                  have hM : ∀ j u, (j ≠ i ∨ u < B.nx) → Ag M (M.set i B.nx (w.heap.size, 0) cs'.size) (j, u) := fun j u h => Mp.set_ne (h.imp (fun h => h) (fun h => by omega))
                  have hbt : B.ty = e ∨ True := .inr trivial
                  unfold Oper.wp
                  rw [app_exec hrun]
                  show K (a.put (some d) _) w'
                  refine hK _ _ ⟨M.set i B.nx (w.heap.size, 0) cs'.size, ?_⟩
                  have hmod := hh.mod hB (M' := M.set i B.nx (w.heap.size, 0) cs'.size) (w' := w') (B' := ⟨B.ty, .c (l.take (n * sz') ++ news), (B.nx, (n + m) * sz') :: cutAll (n * sz') (keepVs B.vs), B.nx + 1, false⟩) hM (Nat.le_succ _) (fun b hb1 _ => hpu.old hb1) (by rw [hpu.size]; omega) hpu.os hpu.tape hpu.output
                    ⟨fun v hv => ?_, fun v hv => ?_, fun v hv v' hv' he => ?_, fun v hv => by rcases hcuts v hv with rfl | ⟨k1, k2, v0, k3, k4, _⟩; (rw [Mp.set_at.1]); (rw [(hM i v.1 (.inr k1)).1, k4]; exact hold.zero v0 k3)⟩ (fun v hv => ?_) hnids
                  · have := hmod.put hd (av := .s (.s i B.nx sz' 0 (n + m) none)) (v := .slice (some ⟨w.heap.size, 0, none⟩) (n + m) cap') (.inr ⟨cap', by rw [Mp.set_at.1]; simp, hcap, by simp, by rw [Mp.set_at.1, Mp.set_at.2, hsz]; simp⟩) (fun p hp => by
                      simp [AV.ids, A0.ids, SV.ids] at hp; subst hp
                      exact .inr ⟨_, by rw [ap1, if_pos rfl], Nat.lt_succ_self _⟩)
                    exact this
                  · rcases hcuts v hv with rfl | ⟨k1, _⟩
                    · exact Nat.lt_succ_self _
                    · exact Nat.lt_succ_of_lt k1
                  · rcases hcuts v hv with rfl | ⟨k1, k2, k3⟩
                    · have e4 : (os ++ vs).length = (n + m) * sz' := by rw [List.length_append, g1, ← hvl, hnl, ← Nat.add_mul]
                      refine ⟨by rw [hlen]; exact Nat.le_refl _, cs', (0, 0), by rw [Mp.set_at.1, hte]; exact hpu.new, by rw [Mp.set_at.2], fun _ => rfl, ?_, by rw [Mp.set_at.1, hsz]; simp only [Nat.zero_add]; exact Nat.mul_le_mul_right _ hcap⟩
                      show relL _ ((l.take (n * sz') ++ news).take ((n + m) * sz')) ((cs'.toList.drop ((M.set i B.nx (w.heap.size, 0) cs'.size).β i B.nx).2).take ((n + m) * sz'))
                      rw [hfull, Mp.set_at.1, List.drop_zero, hcs, List.take_append_of_le_length (by omega), List.take_of_length_le (l := os ++ vs) (by omega)]
                      exact agx hM
                    · refine oldv hM (fun v0 hv0 cs0 fr0 hq => ⟨cs0, ?_, rfl, rfl⟩) v k2 k3
                      rw [hpu.old (hh.lt ⟨B, v0.2, hB, hv0⟩)]; exact hq
                  · have old : ∀ v0 ∈ B.vs, (M.β i v0.1).1 < w.heap.size := fun v0 hv0 => hh.lt ⟨B, v0.2, hB, hv0⟩
                    rcases hcuts v hv with rfl | ⟨k1, k2, v0, k3, k4, _⟩
                    · rcases hcuts v' hv' with rfl | ⟨k1', k2', v1, k3', k4', _⟩
                      · rfl
                      · rw [Mp.set_at.1, (hM i v'.1 (.inr k1')).1] at he
                        have := old v1 k3'
                        simp only [k4'] at he
                        omega
                    · rcases hcuts v' hv' with rfl | ⟨k1', k2', v1, k3', k4', _⟩
                      · rw [Mp.set_at.1, (hM i v.1 (.inr k1)).1] at he
                        have := old v0 k3
                        simp only [k4] at he
                        omega
                      · rw [(hM i v.1 (.inr k1)).1, (hM i v'.1 (.inr k1')).1, k4, k4'] at he ⊢
                        exact hold.same v0 k3 v1 k3' he
                  · rcases hcuts v hv with rfl | ⟨k1, k2, v0, k3, k4, _⟩
                    · left; rw [Mp.set_at.1]; exact Nat.le_refl _
                    · exact .inr ⟨v0, k3, by rw [(hM i v.1 (.inr k1)).1, k4]⟩
          · cases hu
      · cases hu

end
end DX
end Go.Proofs.YtmfljpjdpfbfoaaGreatDoor
