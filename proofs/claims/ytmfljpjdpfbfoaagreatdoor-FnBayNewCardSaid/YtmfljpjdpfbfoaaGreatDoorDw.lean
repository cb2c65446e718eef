/- What the entry IndexByteString gives; the tables with it. -/
import Derived.Test.YtmfljpjdpfbfoaaGreatDoorDs
import Derived.Lib.Bytealg
namespace Go.Proofs.YtmfljpjdpfbfoaaGreatDoor
namespace DX
open Go

def idxL (c : Nat) : List UInt8 → Nat → Int
  | [], _ => .negSucc 0
  | b :: l, k => bif Nat.beq b.toNat c then .ofNat k else idxL c l (Nat.succ k)

theorem idxL_eq (c : UInt8) : ∀ (l : List UInt8) (k : Nat), idxL c.toNat l k = if Lib.indexByte l c == -1 then -1 else Lib.indexByte l c + k
  | [], k => rfl
  | b :: l, k => by
    have ih := idxL_eq c l (k + 1)
    have hge := Lib.indexByte_ge l c
    unfold idxL Lib.indexByte
    cases hb : Nat.beq b.toNat c.toNat with
    | true =>
      have : b = c := UInt8.toNat_inj.1 (by simpa using hb)
      subst this
      simp
    | false =>
      have hne : ¬ b = c := fun e => by subst e; simp at hb
      have hne' : (b == c) = false := by simpa using hne
      simp only [cond_false, hne', Bool.false_eq_true, if_false]
      rw [ih]
      by_cases h1 : Lib.indexByte l c = -1
      · simp [h1]
      · have h2 : (Lib.indexByte l c == -1) = false := by simpa using h1
        have h3 : (Lib.indexByte l c + 1 == -1) = false := by
          rw [beq_eq_false_iff_ne]; omega
        simp only [h2, h3, Bool.false_eq_true, if_false]
        push_cast
        omega

noncomputable def idxQ (ck : Nat) (args : List AV) : Q Rf := match args with
  | [.o (.s (.v (.string s))), .o (.s (.v (.int .u8 (.ofNat c))))] => bif Nat.ble c 255 then .ret (some (.int (idxL c s.data.toList 0), [], ck)) else .ret none
  | _ => .ret none

theorem relV_two {M : Mp} {x y : AV} {vs : List Value} (h : relV M [x, y] vs) : ∃ v u, vs = [v, u] ∧ x.rel M v ∧ y.rel M u := by
  match vs, h with
  | [v, u], ⟨h1, h2, _⟩ => exact ⟨v, u, rfl, h1, h2⟩

theorem idxQ_ok {P : Program} {f : FuncId} {fn : Func} (hf : P.funcs[f]? = some fn) (h1 : (fn.name == "runtime.NumGoroutine") = false) (h2 : fn.body.isNone = true) (h3 : Extern.findNext fn = none) (h4 : Extern.find fn = some Extern.BytealgIndexByte.indexByte) (ck : Nat) (args : List AV) : CallOK P f args (idxQ ck args) := by
  intro N c M τ a w hh vs hrel hnm r u ck' hq K hK
  unfold idxQ at hq
  split at hq
  · rename_i s n
    obtain ⟨v1, v2, rfl, e1, e2⟩ := relV_two hrel
    cases hb : Nat.ble n 255 with
    | false => rw [hb] at hq; cases hq
    | true =>
      rw [hb] at hq; cases hq
      have hn := Nat.le_of_ble_eq_true hb
      have e1 : v1 = .string s := e1
      have e2 : v2 = .int .u8 (n : Int) := e2
      left
      refine ⟨.int .i64 (idxL n s.data.toList 0), w, ?_, hK _ w M rfl (fun p hp => nov hp) hh⟩
      rw [run_callFunc_extern hf h1 h2 h3 h4, e1, e2, Lib.run_indexByteString]
      have hc : ((n : Int).toNat.toUInt8).toNat = n := by
        show (UInt8.ofNat ((n : Int).toNat)).toNat = n
        simp; omega
      have := idxL_eq ((n : Int).toNat.toUInt8) s.data.toList 0
      rw [hc] at this
      rw [this]
      simp only [Result.andThen, Int.natCast_zero, Int.add_zero]
      have h5 : ∀ z : Int, (if (z == -1) = true then -1 else z) = z := fun z => by
        by_cases hz : z = -1
        · simp [hz]
        · simp [hz]
      rw [h5]
  · cases hq

set_option maxRecDepth 100000
theorem ix1 : (Tryz.f286.name == "runtime.NumGoroutine") = false := by kernel_rfl
theorem ix2 : Tryz.f286.body.isNone = true := by kernel_rfl
theorem ix3 : Extern.findNext Tryz.f286 = none := by kernel_rfl
theorem ix4 : Extern.find Tryz.f286 = some Extern.BytealgIndexByte.indexByte := by kernel_rfl

/-- The tables, with the entry. -/
noncomputable def EI : Env := withC EE [(286, idxQ)]

theorem EI_ok : EnvOK Tryz.prog EI := withC_ok EE_ok fun p hp ck args => by
  simp only [List.mem_cons, List.not_mem_nil, or_false] at hp
  subst hp
  exact idxQ_ok Tryz.func286 ix1 ix2 ix3 ix4 ck args

end DX
end Go.Proofs.YtmfljpjdpfbfoaaGreatDoor
