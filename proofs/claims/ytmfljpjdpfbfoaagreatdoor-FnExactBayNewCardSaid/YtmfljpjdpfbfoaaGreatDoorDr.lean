/- FnExactBayNew returns true, whichever truth it is given: the row's statement and the tied card's. -/
import Derived.Test.YtmfljpjdpfbfoaaGreatDoorDq
import Derived.Test.YtmfljpjdpfbfoaaGreatDoorRows
import Derived.Test.YtmfljpjdpfbfoaaGreatDoorCards
import Derived.Test.YtmfljpjdpfbfoaaGreatDoorTie
import Derived.ProofKit
import Derived.OpenShut
import Derived.LaidMore
import Derived.Lay
import Derived.SevenTiedAt
import Derived.Stop.Joined
namespace Go.Proofs.YtmfljpjdpfbfoaaGreatDoor
open Go Go.ChangeShapes Go.WideShapes Go.ChangeAt Go.RowKit

theorem own : ownKnob Tryz.prog.godebug = none := by kernel_rfl

theorem law_walk (b : Bool) (W : World) : Calls Tryz.prog 3 #[.bool b] W fun e w' => e = .returned (.bool true) ∧ w'.os = W.os ∧ w'.output = W.output ∧ W.heap.size ≤ w'.heap.size ∧ ∀ i, i < W.heap.size → w'.heap[i]? = W.heap[i]? := by
  have key : ∀ {E : DX.Env} (hE : DX.EnvOK Tryz.prog E), DX.yes ((DX.callF E (DX.evN E 5000) 1 3 [.q b]).run DX.noSt) = true → Calls Tryz.prog 3 #[.bool b] W fun e w' => e = .returned (.bool true) ∧ w'.os = W.os ∧ w'.output = W.output ∧ W.heap.size ≤ w'.heap.size ∧ ∀ i, i < W.heap.size → w'.heap[i]? = W.heap[i]? := by
    intro E hE hy
    obtain ⟨u, ck, h⟩ := DX.yes_at hy
    refine (DX.top_ok hE DX.mixed (args := [.q b]) (vs := [.bool b]) (fun M => ⟨rfl, trivial⟩) rfl h Tryz.func3 (cd := DX.lawBody) (by kernel_rfl) (by decide +kernel) W).mono ?_
    rintro e w' ⟨v, M, rfl, hv, h2⟩
    have : v = .bool true := hv
    subst this
    exact ⟨rfl, h2⟩
  cases b with
  | false => exact key DX.Ef_ok DX.ev_f
  | true => exact key DX.Et_ok DX.ev_t

set_option maxRecDepth 100000 in
theorem lifted (os : Os) (started : os.Started) (H : Type) (enc : TypeId × Value → H) :
    ReturnsInHanded {} Tryz.checked os 3 .any (fun w args => (Rows.fnExactBayNewSpec.pre enc Tryz.prog Tryz.f3 Rows.fnExactBayNewRow.domain false w args ∧ laidMetH Tryz.prog Rows.fnExactBayNewRow.laid w) ∧ sizedMet enc Tryz.prog Tryz.f3 (OpenSpec.ofChange Rows.fnExactBayNewSpec) false w args)
      (Rows.fnExactBayNewSpec.post enc Tryz.prog Tryz.f3 false true false false) := by
  refine returnsInHanded_of_change_and (C := Tryz.checked) (X := fun w _ => laidMetH Tryz.prog Rows.fnExactBayNewRow.laid w) (fun _ _ _ hh h => h.of_heap hh) own started (by kernel_rfl) Tryz.func3
    (ChangeSpec.witness_shaped (enc := enc) (C := Tryz.checked) (os := os) (X := fun w _ => laidMetH Tryz.prog Rows.fnExactBayNewRow.laid w) false (World.laidAll Tryz.prog os Rows.fnExactBayNewRow.laid) #[.bool false] 8 (World.laidAll_os _ _ _)
      (World.shaped_of_ZipB (by kernel_rfl) (by kernel_rfl)) (by kernel_rfl) (by kernel_rfl) (by kernel_rfl)
      (by rw [MakeChecks.laidMetH_plain _ _ _ (by kernel_rfl)]; exact laidMet_laidAll _ (by kernel_rfl) (by kernel_rfl))) ?_
  intro W base args ds gs before hval0 hW hc _ hL _
  have hval : ∀ (j : Nat) t v, Tryz.f3.params[j]? = some t → args[j]? = some v → Value.okWide Tryz.prog W .any base t v := hval0
  have hW' := hW
  obtain ⟨p, q, hA0, hV, rfl, _, _⟩ := hW
  have hA : DataW.TrodAll enc Tryz.prog W 0 (fun _ => true) true Tryz.f3.params.toList args.toList ds p := hA0
  rw [Tryz.params3] at hA hval
  obtain ⟨v0, d0, rfl, rfl, h0⟩ := trodAll_one hA
  obtain ⟨rfl, rfl⟩ := trodVars_none hV
  obtain ⟨b, rfl, rfl, rfl⟩ := open_bool Tryz.underlying4 (hval 0 4 v0 rfl rfl) h0
  simp only [List.append_nil] at hW'
  refine (law_walk b W).mono fun e W' ⟨he, h1, h2, h3, h4⟩ => ?_
  subst he
  refine ⟨_, rfl, ?_⟩
  refine ⟨_, _, _, [], [], [], hW', trodAll_mk1 (shut_bool Tryz.underlying4 _), trodAll_mk1 (shut_bool Tryz.underlying4 _), rfl, ⟨h1, h2, fun i hi => ?_⟩, fun h => by cases h⟩
  rw [h4 i hi]
  cases hx : W.heap[i]? with
  | none => rfl
  | some o =>
    cases o with
    | cells cs t fr => exact ⟨rfl, rfl, rfl, fun _ _ => rfl⟩
    | map es ck => exact .inr ⟨rfl, rfl⟩
    | _ => rfl

theorem fnExactBayNew_holds : Rows.FnExactBayNewSaid :=
  OpenClaim.holds_of_wide 3 Tryz.f3 rfl rfl rfl rfl rfl rfl rfl ⟨rfl, rfl, rfl, rfl, rfl⟩ rfl rfl rfl rfl rfl (by kernel_rfl) Tryz.func3 (by kernel_rfl)
    (of_decide_eq_true (by kernel_rfl)) (by unfold Func.isWrapper; first | (rw [if_pos (by decide +kernel)]; kernel_rfl) | (rw [if_neg (by decide +kernel)]; exact ⟨rfl, rfl⟩))
    (fun os started H enc _ => lifted os started H enc)

theorem fnExactBayNew_card_holds : Rows.FnExactBayNewCardSaid :=
  Claim7.holds_tied_plain_at .later [] [.data, .data, .data, .data, .sentinel, .sentinel, .pinned] true (true, "930b28ef5e815b4415193cfb3e2e472ba81fd84d865d7801175b6df8e234e5e4") true fnExactBayNew_holds (fun _ h => by cases h) (by kernel_rfl) (fun _ h => by cases h) fnExactBayNew_row_tie rfl ⟨rfl, rfl⟩ (by kernel_rfl) rfl
    (fun f fn hf hfn => by
      obtain rfl : f = 3 := Option.some.inj ((show Tryz.prog.funcNamed "loop.example/poolfiles/laws.FnExactBayNew" = some 3 by kernel_rfl).symm.trans hf) |>.symm
      obtain rfl : fn = Tryz.f3 := (Option.some.inj (Tryz.func3.symm.trans hfn)).symm
      exact ⟨by kernel_rfl, fun j t ht => by
        rw [Tryz.params3] at ht
        have hm : t ∈ [4] := by simpa using Array.mem_of_getElem? ht
        have hall : ([4].all fun u => !Tryz.prog.wantsStandIn u) = true := by kernel_rfl
        exact (show Tryz.prog.wantsStandIn t = false by simpa using List.all_eq_true.1 hall t hm)⟩)
    (by kernel_rfl)
#print axioms fnExactBayNew_card_holds
end Go.Proofs.YtmfljpjdpfbfoaaGreatDoor
