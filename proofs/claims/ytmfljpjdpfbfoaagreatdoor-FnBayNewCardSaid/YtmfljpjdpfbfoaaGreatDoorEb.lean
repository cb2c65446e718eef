/- FnBayNew returns true, whatever it draws. -/
import Derived.Test.YtmfljpjdpfbfoaaGreatDoorDz
import Derived.Test.YtmfljpjdpfbfoaaGreatDoorEa
import Derived.Below
namespace Go.Proofs.YtmfljpjdpfbfoaaGreatDoor
open Go Go.RowKit
namespace DX

/-- The rest of a body, evaluated, where nothing is known of memory. -/
theorem rest_ok {P : Program} {E : Env} (hE : EnvOK P E) (hm : P.follows .mixedOrders = true) {n N : Nat} {cd : Code} {s : FS} {rs : List ResultVar} {r : AV} {u : Upd} {ck' : Nat} {fn : Func} (hrs : fn.results.toList = rs) (hInv : Inv s noSt)
    (hev : (evN E n N cd s (fin E rs)).run noSt = some (r, u, ck')) {a : Act} {w : World} (hRel : Rel N ⟨w, fun _ => False, ⟨fun _ _ => (0, 0), fun _ _ => 0⟩, fun _ => False⟩ (s.st noSt) a w) {R : Ending → World → Prop}
    (hR : ∀ v M w', r.rel M v → Below w.heap.size w w' → R (.returned v) w') : Code.wp P cd (bodyPost P fn R) a w := by
  refine wp_mono (evN_sound hE hm n N cd s _ noSt _ hInv hev _ a w hRel) ?_
  rintro e a' w' ⟨s', ex, hmm, hi', ⟨M', hh'⟩, hk⟩
  have fini : ∀ ex, (match ex with | .exit _ => False | _ => True) → (fin E rs ex s').run noSt = some (r, u, ck') → ∃ v, (results fn a'.tmps).run P w' = .ok v w' ∧ R (.returned v) w' := by
    intro ex hex hk
    have hk : resA E s' rs = some r := by
      cases ex with
      | exit _ => exact hex.elim
      | nrm =>
        simp only [fin] at hk
        split at hk
        · rename_i r' hr'; cases hk; exact hr'
        · cases hk
      | ret =>
        simp only [fin] at hk
        split at hk
        · rename_i r' hr'; cases hk; exact hr'
        · cases hk
    obtain ⟨v, hv, hrv, _⟩ := resA_run hE hh' (fn := fn) (by rw [hrs]; exact hk)
    exact ⟨v, hv, hR v M' w' hrv ⟨hh'.os, hh'.tape, hh'.output, hh'.grows, fun i hi => hh'.frame i hi (fun h => h)⟩⟩
  cases e with
  | normal =>
    cases ex with
    | nrm =>
      obtain ⟨v, hv, hKv⟩ := fini .nrm trivial hk
      exact ⟨hh'.defs, v, hv, hKv⟩
    | _ => exact hmm.elim
  | ret =>
    cases ex with
    | ret =>
      obtain ⟨v, hv, hKv⟩ := fini .ret trivial hk
      exact ⟨hh'.defs, v, hv, hKv⟩
    | _ => exact hmm.elim
  | exit i =>
    cases ex with
    | exit j => simp only [fin] at hk; cases hk
    | _ => exact hmm.elim
  | _ => cases ex <;> exact hmm.elim

theorem fs0_get (b : Bool) (m : Nat) : (fs0 b).sl.get m = if m = 3 then some (.x (.q b)) else none := by
  show ((Tri.lf : Tri RV).put 3 (.x (.q b))).get m = _
  rw [get_put]
  rfl

theorem fs0_inv (b : Bool) : Inv (fs0 b) noSt := { clean := fun n x h => (by cases h), dirty := fun n x h => (by cases h), known := fun n h => (by cases h) }

theorem fs0_rel {b : Bool} {a : Act} {w : World} (hd : a.defers = []) (hs : a.tmps.size = 58) (h3 : a.tmps[3]? = some (.bool b)) : Rel 58 ⟨w, fun _ => False, ⟨fun _ _ => (0, 0), fun _ _ => 0⟩, fun _ => False⟩ ((fs0 b).st noSt) a w :=
  ⟨⟨fun _ _ => (0, 0), fun _ _ => 0⟩, {
    defs := hd
    size := hs
    slots := fun i x hx => by
      have hx : (fs0 b).sl.get i = some (.x x) := hx
      rw [fs0_get] at hx
      by_cases e : i = 3
      · rw [if_pos e] at hx; cases hx
        exact ⟨.bool b, by rw [e]; exact h3, rfl⟩
      · rw [if_neg e] at hx; cases hx
    blks := fun i B h => by cases h
    own := fun i u h => by obtain ⟨B, hi, h, _⟩ := h; cases h
    apart := fun i j u v _ h _ => by obtain ⟨B, hi, h, _⟩ := h; cases h
    named := fun r x h p hp => by
      cases r with
      | s m =>
        have hx : (fs0 b).sl.get m = some x := h
        rw [fs0_get] at hx
        by_cases e : m = 3
        · rw [if_pos e] at hx; cases hx; exact nov (v := .bool b) hp
        · rw [if_neg e] at hx; cases hx
      | b m => cases h
    sorts := fun j x h => by cases h
    frame := fun _ _ _ => rfl
    grows := Nat.le_refl _
    os := rfl
    tape := rfl
    output := rfl
    keep := fun p h => h.elim }⟩

/-- Behind the draw. -/
theorem behind (b : Bool) {a : Act} {w : World} (hd : a.defers = []) (hs : a.tmps.size = 58) (h3 : a.tmps[3]? = some (.bool b)) {R : Ending → World → Prop}
    (hR : ∀ w', Below w.heap.size w w' → R (.returned (.bool true)) w') : Code.wp Tryz.prog lawRest (bodyPost Tryz.prog Tryz.f4 R) a w := by
  have key : ∀ {E : Env} (hE : EnvOK Tryz.prog E), yes ((evN E 5000 58 lawRest (fs0 b) (fin E [.tmp 2])).run noSt) = true → Code.wp Tryz.prog lawRest (bodyPost Tryz.prog Tryz.f4 R) a w := by
    intro E hE hy
    obtain ⟨u, ck, h⟩ := yes_at hy
    refine rest_ok hE mixed (rs := [.tmp 2]) (by kernel_rfl) (fs0_inv b) h (fs0_rel hd hs h3) fun v M w' hv h1 => ?_
    have : v = .bool true := hv
    subst this
    exact hR w' h1
  cases b with
  | false => exact key Lf_ok ev_f
  | true => exact key Lt_ok ev_t

end DX

theorem seq3 {P : Program} {Q : Exit → Act → World → Prop} {A : Act} {W : World} {a b c x : Code} (h : ∀ cd, cd = x → Code.wp P (.seq a (.seq b (.seq c cd))) Q A W) : Code.wp P (.seq a (.seq b (.seq c x))) Q A W := h x rfl

/-- What is known of the bytes. -/
inductive BytesAt (W : World) : Value → Prop where
  | none (p : Option Addr) (cap : Nat) : BytesAt W (.slice p 0 cap)
  | some (b o len cap : Nat) (n : Int) (h0 : 0 < len) (h1 : len ≤ cap) (hlt : b < W.heap.size) (hc : W.cell? ⟨b, o, Option.none⟩ = Option.some (.int .u8 n)) (hn0 : 0 ≤ n) (hn1 : n ≤ 255) : BytesAt W (.slice (Option.some ⟨b, o, Option.none⟩) len cap)

theorem draw_any {W : World} {v : Value} (h : BytesAt W v) : Calls Tryz.prog 10 #[v] W fun e w' => (∃ b, e = .returned (.bool b)) ∧ Ext W w' := by
  cases h with
  | none p cap => exact draw_none p cap W
  | some b o len cap n h0 h1 hlt hc hn0 hn1 =>
    by_cases h2 : len ≤ 2000
    · exact draw_some b o len cap n W h0 h2 h1 hlt hc hn0 hn1
    · exact draw_long b o len cap n W (by omega) h1 hlt hc hn0 hn1

set_option maxRecDepth 100000 in
theorem law_walk (p : Option Addr) (len cap : Nat) (W : World) (hb : BytesAt W (.slice p len cap)) : Calls Tryz.prog 4 #[.slice p len cap] W fun e w' => e = .returned (.bool true) ∧ Below W.heap.size W w' := by
  have hd := draw_any hb
  have Hb : Hid (BytesAt W (.slice p len cap)) := hb
  have Hd : Hid (Calls Tryz.prog 10 #[.slice p len cap] W fun e w' => (∃ b, e = .returned (.bool b)) ∧ Ext W w') := hd
  clear hb hd
  by_cases hl : (len : Int) > 1048576
  · go_enter Tryz.func4, Tryz.ntmps4
    refine seq3 fun cd hcd => ?_
    have H : Hid (cd = _) := hcd
    clear hcd
    go_wp2
    go_ret
    exact ⟨rfl, Below.refl _ _⟩
  · go_enter Tryz.func4, Tryz.ntmps4
    refine seq3 fun cd hcd => ?_
    have H : Hid (cd = _) := hcd
    clear hcd
    go_wp2_with (go_at_call 10; refine Calls.mono Hd ?_; rintro e w' ⟨⟨b, rfl⟩, hx⟩)
    have hcd : cd = DX.lawRest := by
      have h := H
      unfold Hid at h
      exact h.trans (Eq.refl DX.lawRest)
    rw [hcd]
    refine DX.behind b rfl rfl rfl fun w2 h1 => ?_
    exact ⟨rfl, (⟨hx.os, hx.tape, hx.output, hx.size, hx.old⟩ : Below W.heap.size W w').trans (h1.mono hx.size)⟩
#print axioms law_walk

end Go.Proofs.YtmfljpjdpfbfoaaGreatDoor
