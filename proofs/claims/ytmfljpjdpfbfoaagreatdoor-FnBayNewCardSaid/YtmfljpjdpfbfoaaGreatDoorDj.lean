/- A deterministic evaluator of the model's code, part j: texts out of bytes, places without a type, maps. -/
import Derived.Test.YtmfljpjdpfbfoaaGreatDoorDi
namespace Go.Proofs.YtmfljpjdpfbfoaaGreatDoor
namespace DX

section
variable {P : Program} {N : Nat} {τ : St}
variable {d id : Nat} {x y z : Operand} {t t2 t' u ty : TypeId} {pos : String} {af : Array Edge} {g : Option (Nat × Bool)}

/-! ### Texts out of bytes -/
def bytesOf : List SV → Option (List UInt8)
  | [] => some []
  | .v (.int .u8 (.ofNat k)) :: l => bif Nat.ble k 255 then (match bytesOf l with
    | some m => some (UInt8.ofNat k :: m)
    | none => none) else none
  | _ :: _ => none

theorem bytesOf_rel {M : Mp} : ∀ {l : List SV} {m : List UInt8} {xs : List Value}, bytesOf l = some m → relL M l xs → xs = m.map (fun b => Value.int .u8 b.toNat)
  | [], m, xs, h, hr => by
    cases h
    cases xs with
    | nil => rfl
    | cons _ _ => exact hr.elim
  | x :: l, m, xs, h, hr => by
    cases xs with
    | nil => exact hr.elim
    | cons v xs =>
      unfold bytesOf at h
      split at h
      · rename_i heq; cases heq
      · rename_i k l' heq
        cases heq
        cases hb : Nat.ble k 255 with
        | false => rw [hb] at h; cases h
        | true =>
          rw [hb] at h
          have hk := Nat.le_of_ble_eq_true hb
          simp only [cond_true] at h
          split at h
          · rename_i m' hm'
            cases h
            have h1 : v = .int .u8 (Int.ofNat k) := hr.1
            have h2 : (UInt8.ofNat k).toNat = k := by simp; omega
            rw [h1, bytesOf_rel hm' hr.2, List.map_cons, h2]; rfl
          · cases h
      · cases h

theorem fold_push : ∀ (ns : List Int) (s : ByteArray), ns.foldl (fun r n => r.push (UInt8.ofNat n.toNat)) s = ⟨⟨s.data.toList ++ ns.map (fun n => UInt8.ofNat n.toNat)⟩⟩
  | [], s => by simp
  | n :: ns, s => by rw [List.foldl_cons, fold_push ns]; simp [ByteArray.push]

noncomputable def textQ (d : Nat) (v : AV) : Q Rs :=
  match v with
  | .o (.s (.s i u sz o m _)) => bif Nat.beq sz 1 then askB i fun B => match B.con, verHi B.vs u with
      | .c l, some hi => bif Nat.ble (o + m) hi then (match bytesOf ((l.drop o).take m) with
        | some s => .ret (some [(.s d, .x (.str ⟨⟨s⟩⟩))])
        | none => .ret none) else .ret none
      | _, _ => .ret none
    else .ret none
  | .o (.s (.v (.slice none 0 0))) => .ret (some [(.s d, .x (.str ⟨⟨[]⟩⟩))])
  | _ => .ret none

theorem b_text {e : TypeId} (hs : P.underlying t = some (.slice e)) (he : P.underlying e = some (.int .u8)) (hu : P.underlying u = some .string) (hd : d < N) : OpB P N ⟨some d, .convert t u x, ty, pos, af, g⟩ (askX x fun v => textQ d v) := by
  intro c τ a w hr u' hq K Q' hK
  obtain ⟨M, hh⟩ := hr
  obtain ⟨v, hx, hq⟩ := askX_some hq
  have hv := ev_rel hh hx
  unfold textQ at hq
  split at hq
  · rename_i i u1 sz o m cp
    cases hb : Nat.beq sz 1 with
    | false => rw [hb] at hq; cases hq
    | true =>
      rw [hb] at hq
      have : sz = 1 := by simpa using hb
      subst this
      simp only [cond_true] at hq
      obtain ⟨B, hB, hq⟩ := askB_some hq
      split at hq
      · rename_i l hi hc hhi
        cases hle : Nat.ble (o + m) hi with
        | false => rw [hle] at hq; cases hq
        | true =>
          rw [hle] at hq
          simp only [cond_true] at hq
          split at hq
          · rename_i s hs'
            cases hq
            obtain ⟨h1, cs, fr, h2, h3, h4, h5, h6⟩ := hh.cells hB hc hhi
            obtain ⟨vs, g1, g2, g3⟩ := rel_part (o := o) (n := m) (Nat.le_of_ble_eq_true hle) h5 h6
            have e1' := bytesOf_rel hs' g3
            obtain ⟨ns, e1, e2⟩ : ∃ ns : List Int, vs = ns.map (Value.int .u8) ∧ s = ns.map (fun n => UInt8.ofNat n.toNat) := ⟨s.map (fun b => (b.toNat : Int)), by rw [e1', List.map_map]; rfl, by rw [List.map_map]; simp [Function.comp_def]⟩
            have hnl : ns.length = m := by rw [← g1, e1]; simp
            have key : ∃ p cap, a.eval x = .slice (some p) m cap ∧ (loadCells p m).run P w = .ok (ns.map (Value.int .u8)).toArray w := by
              rcases hv with ⟨hm, _, p, e3⟩ | ⟨cap, e3, _⟩
              · subst hm
                refine ⟨p, 0, e3, ?_⟩
                have : ns = [] := List.length_eq_zero_iff.1 hnl
                subst this
                simp [loadCells, loadCellsFrom]
              · refine ⟨_, cap, e3, ?_⟩
                have hl := run_loadCells_list (P := P) w ⟨(M.β i u1).1, (M.β i u1).2 + o * 1, none⟩ (ns.map (Value.int .u8)) (cells_win h2 (by rw [Nat.mul_one, ← e1]; exact g2))
                rw [List.length_map, hnl] at hl
                exact hl
            obtain ⟨p, cap, e3, hl⟩ := key
            have hrun := run_bytesToString (P := P) w p m cap ns hl
            rw [fold_push] at hrun
            refine OpB.value (av := .str ⟨⟨s⟩⟩) hh rfl hd (v := .string ⟨⟨s⟩⟩) ?_ rfl (fun p hp => nov hp) hK
            have hes : (⟨⟨ByteArray.empty.data.toList ++ ns.map (fun n => UInt8.ofNat n.toNat)⟩⟩ : ByteArray) = ⟨⟨s⟩⟩ := by rw [e2]; rfl
            rw [hes] at hrun
            simp [execOp, e3, convert, run_underlying hs, run_underlying he, run_underlying hu, hrun]
          · cases hq
      · cases hq
  · cases hq
    have e1 : a.eval x = .slice none 0 0 := hv
    refine OpB.value (av := .str ⟨⟨[]⟩⟩) hh rfl hd (v := .string .empty) ?_ rfl (fun p hp => nov hp) hK
    simp [execOp, e1, convert, run_underlying hs, run_underlying he, run_underlying hu, Conv.bytesToString]
  · cases hq

/-! ### Places without a type -/
/-- A pointer turned into an unsafe one, or back. -/
noncomputable def toUQ (d : Nat) (v : AV) : Q Rs :=
  match v with
  | .o (.s (.p i u k sz j)) => askB i fun B => match B.con, verHi B.vs u with
      | .c _, some hi => .ret (bif Nat.blt (k * sz + j) hi then some [(.s d, .x v)] else none)
      | _, _ => .ret none
  | _ => .ret none

theorem b_toU {e : TypeId} {n : Nat} (ht : P.underlying t = some (.pointer e)) (hu : P.underlying u = some .unsafePointer) (hz : (P.info? e).map (·.size) = some n) (hn : n ≠ 0) (hd : d < N) : OpB P N ⟨some d, .convert t u x, ty, pos, af, g⟩ (askX x fun v => toUQ d v) := by
  intro c τ a w hr u' hq K Q' hK
  obtain ⟨M, hh⟩ := hr
  obtain ⟨v, hx, hq⟩ := askX_some hq
  have hv := ev_rel hh hx
  have hnv := ev_named hh hx
  obtain ⟨ji, hi, hin⟩ := Option.map_eq_some_iff.1 hz
  unfold toUQ at hq
  split at hq
  · rename_i i u1 k sz j
    obtain ⟨B, hB, hq⟩ := askB_some hq
    split at hq
    · rename_i l hi' hc hhi
      simp only [Q.run] at hq
      cases hb : Nat.blt (k * sz + j) hi' with
      | false => rw [hb] at hq; cases hq
      | true =>
        rw [hb] at hq; cases hq
        have hlt := blt_iff.1 hb
        obtain ⟨h1, cs, fr, h2, h3, h4, h5, h6⟩ := hh.cells hB hc hhi
        have e1 : a.eval x = .pointer (some ⟨(M.β i u1).1, (M.β i u1).2 + (k * sz + j), none⟩) := hv
        have := Lib.run_to_unsafe (P := P) w ⟨(M.β i u1).1, (M.β i u1).2 + (k * sz + j), none⟩ ht hu hi (by rw [hin]; exact hn) (cells := cs.size) (e := B.ty) (by simp [World.shape?, h2]) (by show _ < cs.size; simp only; omega)
        exact OpB.value (av := .s (.p i u1 k sz j)) hh rfl hd (v := a.eval x) (by rw [e1]; simp [execOp, e1, this]) hv hnv hK
    · cases hq
  · cases hq

theorem liesAt_self {e : TypeId} {n count : Nat} (hz : (P.info? e).map (·.size) = some n) (hn : n ≠ 0) (hc : 1 ≤ count) : liesAt P P.depth e count 0 e 1 = true := by
  have hd : P.depth = (2 * (P.types.size + Made.depth) + 1) + 1 := rfl
  have hce : P.cellsOf e = n := by
    obtain ⟨ji, hi, hin⟩ := Option.map_eq_some_iff.1 hz
    simp [Program.cellsOf, hi, hin]
  rw [hd]
  simp only [liesAt, Bool.or_eq_true]
  left
  rw [hd]
  simp [rowAt, hce, hn, hc, sameLayout]

/-- An unsafe pointer turned into one of a type that lies there. -/
noncomputable def fromUQ (d : Nat) (e : TypeId) (n : Nat) (v : AV) : Q Rs :=
  match v with
  | .o (.s (.p i u k sz j)) => bif Nat.beq (k * sz + j) 0 then askB i fun B => match B.con, verHi B.vs u with
      | .c _, some hi => .ret (bif Nat.beq B.ty e && Nat.ble n hi then some [(.s d, .x v)] else none)
      | _, _ => .ret none
    else .ret none
  | _ => .ret none

theorem b_fromU {e : TypeId} {n : Nat} (ht : P.underlying t = some .unsafePointer) (hu : P.underlying u = some (.pointer e)) (hz : (P.info? e).map (·.size) = some n) (hn : n ≠ 0) (hd : d < N) : OpB P N ⟨some d, .convert t u x, ty, pos, af, g⟩ (askX x fun v => fromUQ d e n v) := by
  intro c τ a w hr u' hq K Q' hK
  obtain ⟨M, hh⟩ := hr
  obtain ⟨v, hx, hq⟩ := askX_some hq
  have hv := ev_rel hh hx
  have hnv := ev_named hh hx
  obtain ⟨ji, hi, hin⟩ := Option.map_eq_some_iff.1 hz
  have hce : P.cellsOf e = n := by simp [Program.cellsOf, hi, hin]
  unfold fromUQ at hq
  split at hq
  · rename_i i u1 k sz j
    cases h0 : Nat.beq (k * sz + j) 0 with
    | false => rw [h0] at hq; cases hq
    | true =>
      rw [h0] at hq
      have h0 : k * sz + j = 0 := by simpa using h0
      simp only [cond_true] at hq
      obtain ⟨B, hB, hq⟩ := askB_some hq
      split at hq
      · rename_i l hi' hc hhi
        simp only [Q.run] at hq
        cases hb : Nat.beq B.ty e && Nat.ble n hi' with
        | false => rw [hb] at hq; cases hq
        | true =>
          rw [hb] at hq; cases hq
          simp only [Bool.and_eq_true] at hb
          have hte : B.ty = e := by simpa using hb.1
          have hle := Nat.le_of_ble_eq_true hb.2
          obtain ⟨h1, cs, fr, h2, h3, h4, h5, h6⟩ := hh.cells hB hc hhi
          have hb0 := (hh.blks i B hB).zero _ (verHi_mem hhi)
          simp only at hb0
          have e1 : a.eval x = .pointer (some ⟨(M.β i u1).1, (M.β i u1).2 + (k * sz + j), none⟩) := hv
          rw [hb0, h0] at e1
          have hcnt : 1 ≤ cs.size / P.cellsOf e := by
            rw [hce]
            exact Nat.div_pos (by omega) (by omega)
          have := Lib.run_from_unsafe (P := P) w ⟨(M.β i u1).1, 0, none⟩ ht hu hi (cells := cs.size) (e := e) (by simp [World.shape?, h2, hte]) (liesAt_self hz hn hcnt)
          exact OpB.value (av := .s (.p i u1 k sz j)) hh rfl hd (v := a.eval x) (by simp only [Nat.zero_add] at e1; simp [execOp, e1, this]) hv hnv hK
      · cases hq
  · cases hq

def dataV : AV → Option AV
  | .o (.s (.s i u sz o n _)) => bif Nat.blt 0 n then some (.s (.p i u o sz 0)) else none
  | .o (.s (.v (.slice none 0 0))) => some (.s (.v (.pointer none)))
  | _ => none

theorem b_data (hd : d < N) {ts : Array TypeId} : OpB P N ⟨some d, .call ⟨.builtin .unsafeSliceData, #[x], ts⟩, ty, pos, af, g⟩ (askX x fun v => .ret (rs1 d (dataV v))) :=
  OpB.pure1 rfl hd fun c M τ a w hh v hv r hr => by
    unfold dataV at hr
    split at hr
    · rename_i i u sz o n cp
      cases hb : Nat.blt 0 n with
      | false => rw [hb] at hr; cases hr
      | true =>
        rw [hb] at hr; cases hr
        have hlt := blt_iff.1 hb
        rcases hv with ⟨hn, _⟩ | ⟨cap, e1, hnc, _⟩
        · omega
        · refine ⟨fun p hp => hp, .pointer (some ⟨(M.β i u).1, (M.β i u).2 + o * sz, none⟩), ?_, rfl⟩
          have := Lib.run_unsafeSliceData_row (P := P) w ts ty ⟨(M.β i u).1, (M.β i u).2 + o * sz, none⟩ n cap (by omega)
          simp [execOp, resolve, invoke, builtin, e1, this]
    · cases hr
      have e1 : a.eval x = .slice none 0 0 := hv
      refine ⟨fun p hp => nov hp, .pointer none, ?_, rfl⟩
      have := Lib.run_unsafeSliceData_nil (P := P) w ts ty 0 0
      simp [execOp, resolve, invoke, builtin, e1, this]
    · cases hr

noncomputable def ustrQ (d : Nat) (e : TypeId) (v u : AV) : Q Rs :=
  match u with
  | .o (.s (.v (.int .i64 n))) => match natOf n with
    | some 0 => (match v with
      | .o (.s (.p _ _ _ _ _)) => .ret (some [(.s d, .x (.str ⟨⟨[]⟩⟩))])
      | .o (.s (.v (.pointer none))) => .ret (some [(.s d, .x (.str ⟨⟨[]⟩⟩))])
      | _ => .ret none)
    | some (m + 1) => (match v with
      | .o (.s (.p i u k sz j)) => bif Nat.beq (k * sz + j) 0 then askB i fun B => match B.con, verHi B.vs u with
          | .c l, some hi => bif (Nat.beq B.ty e && Nat.ble (m + 1) hi) && Nat.ble (m + 1) 9223372036854775807 then (match bytesOf (l.take (m + 1)) with
            | some s => .ret (some [(.s d, .x (.str ⟨⟨s⟩⟩)), (.b i, .b ⟨B.ty, .c l, B.vs, B.nx, true⟩)])
            | none => .ret none) else .ret none
          | _, _ => .ret none
        else .ret none
      | _ => .ret none)
    | none => .ret none
  | _ => .ret none

theorem b_ustr {pt it e : TypeId} (hp : P.underlying pt = some (.pointer e)) (hz : (P.info? e).map (·.size) = some 1) (hd : d < N) : OpB P N ⟨some d, .call ⟨.builtin .unsafeString, #[x, y], #[pt, it]⟩, ty, pos, af, g⟩ (askX x fun v => askX y fun u => ustrQ d e v u) := by
  intro c τ a w hr u' hq K Q' hK
  obtain ⟨M, hh⟩ := hr
  obtain ⟨v, hx, hq⟩ := askX_some hq
  obtain ⟨v2, hy, hq⟩ := askX_some hq
  have hv := ev_rel hh hx
  have hnv := ev_named hh hx
  have hv2 := ev_rel hh hy
  obtain ⟨ji, hi, hin⟩ := Option.map_eq_some_iff.1 hz
  have hce : P.cellsOf e = 1 := by simp [Program.cellsOf, hi, hin]
  have fin0 : ∀ {p : Option Addr}, a.eval x = .pointer p → a.eval y = .int .i64 0 → (execOp a.eval ⟨some d, .call ⟨.builtin .unsafeString, #[x, y], #[pt, it]⟩, ty, pos, af, g⟩).run P w = .ok (.value (.string .empty)) w := fun {p} e1 e2 => by
    have := Lib.run_unsafeString_none (P := P) w pt it ty p
    simp [execOp, resolve, invoke, builtin, e1, e2, this]
  unfold ustrQ at hq
  split at hq
  · rename_i n
    split at hq
    · rename_i hn
      have := natOf_some hn
      subst this
      have e2 : a.eval y = .int .i64 0 := hv2
      split at hq
      · rename_i i u k sz j _
        cases hq
        have e1 : a.eval x = .pointer (some ⟨(M.β i u).1, (M.β i u).2 + (k * sz + j), none⟩) := hv
        exact OpB.value (av := .str ⟨⟨[]⟩⟩) hh rfl hd (fin0 e1 e2) rfl (fun p hp => nov hp) hK
      · cases hq
        have e1 : a.eval x = .pointer none := hv
        exact OpB.value (av := .str ⟨⟨[]⟩⟩) hh rfl hd (fin0 e1 e2) rfl (fun p hp => nov hp) hK
      · cases hq
    · rename_i m hn
      have := natOf_some hn
      subst this
      have e2 : a.eval y = .int .i64 ((m + 1 : Nat) : Int) := hv2
      split at hq
      · rename_i i u1 k sz j _
        cases h0 : Nat.beq (k * sz + j) 0 with
        | false => rw [h0] at hq; cases hq
        | true =>
          rw [h0] at hq
          have h0 : k * sz + j = 0 := by simpa using h0
          simp only [cond_true] at hq
          obtain ⟨B, hB, hq⟩ := askB_some hq
          split at hq
          · rename_i l hi' hc hhi
            cases hb : (Nat.beq B.ty e && Nat.ble (m + 1) hi') && Nat.ble (m + 1) 9223372036854775807 with
            | false => rw [hb] at hq; cases hq
            | true =>
              rw [hb] at hq
              simp only [cond_true] at hq
              simp only [Bool.and_eq_true] at hb
              have hte : B.ty = e := by simpa using hb.1.1
              have hle := Nat.le_of_ble_eq_true hb.1.2
              have h63 := Nat.le_of_ble_eq_true hb.2
              split at hq
              · rename_i s hs
                cases hq
                obtain ⟨h1, cs, fr, h2, h3, h4, h5, h6⟩ := hh.cells hB hc hhi
                have hold := hh.blks i B hB
                have hue := verHi_mem hhi
                have hb0 := hold.zero _ hue
                simp only at hb0
                obtain ⟨vs, g1, g2, g3⟩ := rel_part (o := 0) (n := m + 1) (by omega) h5 h6
                rw [List.drop_zero] at g3
                rw [hb0] at g2
                have f1 := bytesOf_rel hs g3
                have e1 : a.eval x = .pointer (some ⟨(M.β i u1).1, (M.β i u1).2 + (k * sz + j), none⟩) := hv
                rw [hb0, h0] at e1
                simp only [Nat.zero_add] at e1
                have hsl : s.length = m + 1 := by rw [← g1, f1, List.length_map]
                have hrun := Lib.run_unsafeString_row (P := P) w pt it ty e hp hce (M.β i u1).1 cs.size (by simp [World.shape?, h2, hte]) s (by intro h; rw [h] at hsl; simp at hsl) (by omega) (by omega) (fun jj xx hj => by
                  rw [add_none, cell_at h2]
                  have := g2 jj (.int .u8 xx.toNat) (by rw [f1, List.getElem?_map, hj]; rfl)
                  simpa using this)
                rw [hsl] at hrun
                have hex : (execOp a.eval ⟨some d, .call ⟨.builtin .unsafeString, #[x, y], #[pt, it]⟩, ty, pos, af, g⟩).run P w = .ok (.value (.string ⟨⟨s⟩⟩)) (w.freeze ⟨(M.β i u1).1, 0, none⟩ (m + 1)) := by
                  simp only [Int.natCast_add, Int.cast_ofNat_Int] at hrun e2
                  simp [execOp, resolve, invoke, builtin, e1, e2, hrun]
                have hfz : ∃ fr', Only w (M.β i u1).1 (.cells cs B.ty fr') (w.freeze ⟨(M.β i u1).1, 0, none⟩ (m + 1)) := by
                  obtain ⟨lo, hi0⟩ := fr
                  refine ⟨_, ⟨by simp [World.freeze, Array.getElem?_modify, h2]; rfl, fun k hk => by simp only [World.freeze]; rw [if_neg (by omega)]; simp only [Array.getElem?_modify]; rw [if_neg (by omega)], by simp [World.freeze], rfl, rfl, rfl⟩⟩
                obtain ⟨fr', hw⟩ := hfz
                unfold Oper.wp
                rw [hex]
                show K (a.put (some d) _) _
                refine hK _ _ ⟨M, ?_⟩
                have hmod := hh.mod hB (M' := M) (w' := w.freeze ⟨(M.β i u1).1, 0, none⟩ (m + 1)) (B' := ⟨B.ty, .c l, B.vs, B.nx, true⟩) (fun _ _ _ => ⟨rfl, rfl⟩) (Nat.le_refl _) (fun b _ hb2 => hw.other b (fun e => hb2 _ hue e)) (by rw [hw.size]; exact Nat.le_refl _) hw.os hw.tape hw.output
                  ⟨hold.low, fun v hv => ?_, hold.same, hold.zero⟩ (fun v hv => .inr ⟨v, hv, rfl⟩) (fun p hp => hh.named _ _ hB p (by show p ∈ B.con.ids; rw [hc]; exact hp))
                · have := hmod.put hd (av := .str ⟨⟨s⟩⟩) (v := .string ⟨⟨s⟩⟩) rfl (fun p hp => nov hp)
                  exact this
                · have hat := hold.at_ v hv
                  rw [hc] at hat
                  obtain ⟨a1, cs0, fr0, a2, a3, a4, a5, a6⟩ := hat
                  by_cases hreal : (M.β i v.1).1 = (M.β i u1).1
                  · rw [hreal, h2] at a2
                    cases a2
                    exact ⟨a1, cs, fr', by rw [hreal]; exact hw.at_, a3, by simp, a5, a6⟩
                  · exact ⟨a1, cs0, fr0, by rw [hw.other _ hreal]; exact a2, a3, by simp, a5, a6⟩
              · cases hq
          · cases hq
      · cases hq
    · cases hq
  · cases hq

/-! ### Maps -/
noncomputable def newMQ (id d : Nat) : Q Rs := askN id (.ret (some [(.s d, .x (.s (.m id 0))), (.b id, .b ⟨0, .m [], [(0, 0)], 1, false⟩)]))

theorem b_map (hd : d < N) : OpB P N ⟨some d, .makeMap t none, ty, pos, af, g⟩ (newMQ id d) := by
  intro c τ a w hr u' hq K Q' hK
  obtain ⟨M, hh⟩ := hr
  obtain ⟨hn, hq⟩ := askN_some hq
  cases hq
  have hp : Pushed w (.map #[] 0) { w with heap := w.heap.push (.map #[] 0) } := ⟨rfl, rfl, rfl, rfl⟩
  have hex : (execOp a.eval ⟨some d, .makeMap t none, ty, pos, af, g⟩).run P w = .ok (.value (.map (some w.heap.size))) { w with heap := w.heap.push (.map #[] 0) } := by
    simp [execOp, Instr.makeMap, newObj]
    rfl
  unfold Oper.wp
  rw [hex]
  show K (a.put (some d) _) _
  have hnew : Holds N c (M.set id 0 (w.heap.size, 0) 0) (τ.ap [(.b id, .b ⟨0, .m [], [(0, 0)], 1, false⟩)]) a { w with heap := w.heap.push (.map #[] 0) } := by
    refine hh.new hn (fun j u hj => Mp.set_ne (.inl hj)) (fun j u hl => hp.old (hh.lt hl)) (fun b h1 _ => hp.old (Nat.lt_of_lt_of_le h1 hh.grows)) (by rw [hp.size]; omega) rfl rfl rfl ⟨?_, ?_, ?_, ?_⟩ ?_ (by simp [BC.ids, idsM])
    · intro v hv; simp at hv; subst hv; exact Nat.one_pos
    · intro v hv
      simp at hv; subst hv
      exact ⟨#[], 0, by simp only [Mp.set_at]; exact hp.new, trivial⟩
    · intro v hv v' hv' _; simp at hv hv'; subst hv; subst hv'; rfl
    · intro v hv; simp at hv; subst hv; simp only [Mp.set_at]
    · intro v hv; simp at hv; subst hv; left; simp only [Mp.set_at]; exact Nat.le_refl _
  refine hK _ _ ⟨_, hnew.put hd (av := .s (.m id 0)) (v := .map (some w.heap.size)) ?_ (fun p hp => ?_)⟩
  · show _ = _; rw [Mp.set_at.1]
  · simp [AV.ids, A0.ids, SV.ids] at hp; subst hp
    exact .inr ⟨_, by rw [ap1, if_pos rfl], Nat.one_pos⟩

end
end DX
end Go.Proofs.YtmfljpjdpfbfoaaGreatDoor
