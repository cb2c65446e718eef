/- A drawn law returns true for every code (its row lists package variables, tied by the card): part 50. -/
import Derived.Test.YtnkbdhldiinfdaaGreatDoorPbw
set_option maxHeartbeats 20000000
set_option maxRecDepth 100000
set_option linter.all false
namespace Go.Proofs.YtnkbdhldiinfdaaGreatDoor
open Go Go.ChangeShapes Go.WideShapes Go.ChangeAt Go.RowKit
theorem jF1:(Rows.fnTreeGetRow.inPlace==Tryz.prog.inPlace 3)=true:=by kernel_rfl
theorem jF2:(Rows.fnTreeGetRow.unfollowed==Tryz.prog.unfollowed 3)=true:=by kernel_rfl
theorem jF3:(Rows.fnTreeGetRow.recurses==Tryz.prog.recurses 3)=true:=by kernel_rfl
theorem jF4:(Rows.fnTreeGetRow.named==Tryz.prog.varsNamed 3)=true:=by kernel_rfl
theorem jF5:Tryz.prog.stopsHeard=true:=by kernel_rfl
theorem jF6:Tryz.prog.mayEnter=true:=by kernel_rfl
theorem jF7:(Rows.fnTreeGetRow.lifted==Tryz.prog.liftsFinal)=true:=by kernel_rfl
theorem jF0:joinedFacts Tryz.prog 3 Tryz.f3 Rows.fnTreeGetSpec Rows.fnTreeGetRow=true:=by
 unfold joinedFacts
 rw [laidOut,jF1,jF2,jF3,jF4,jF5,jF6,jF7]
 kernel_rfl
theorem fnTreeGet_holds (hwalk:anY):Rows.FnTreeGetSaid:=
 OpenClaim.holds_of_wide 3 Tryz.f3 rfl rfl rfl rfl rfl rfl rfl ⟨rfl,rfl,rfl,rfl,rfl⟩ rfl rfl rfl rfl rfl (by kernel_rfl) Tryz.func3 jF0
  (aJ (by kernel_rfl)) (by unfold Func.isWrapper;first|(rw [if_pos (by decide+kernel)];kernel_rfl)|(rw [if_neg (by decide+kernel)];exact⟨rfl,rfl⟩))
  (fun os started H enc _=>lifted hwalk os started H enc)
end Go.Proofs.YtnkbdhldiinfdaaGreatDoor
