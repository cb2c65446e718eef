/- Part 32 of the proof of a drawn law. -/
import Derived.Test.YtnkbdhldiinfdaaGreatDoorPbe
set_option maxHeartbeats 20000000
set_option maxRecDepth 100000
set_option linter.all false
namespace Go.Proofs.YtnkbdhldiinfdaaGreatDoor
open Go Go.ChangeShapes Go.WideShapes Go.ChangeAt Go.RowKit
theorem jF1:(Rows.fnTableFreeRow.inPlace==Tryz.prog.inPlace 5)=true:=by kernel_rfl
theorem jF2:(Rows.fnTableFreeRow.unfollowed==Tryz.prog.unfollowed 5)=true:=by kernel_rfl
theorem jF3:(Rows.fnTableFreeRow.recurses==Tryz.prog.recurses 5)=true:=by kernel_rfl
theorem jF4:(Rows.fnTableFreeRow.named==Tryz.prog.varsNamed 5)=true:=by kernel_rfl
theorem jF5:Tryz.prog.stopsHeard=true:=by kernel_rfl
theorem jF6:Tryz.prog.mayEnter=true:=by kernel_rfl
theorem jF7:(Rows.fnTableFreeRow.lifted==Tryz.prog.liftsFinal)=true:=by kernel_rfl
theorem jF0:joinedFacts Tryz.prog 5 Tryz.f5 Rows.fnTableFreeSpec Rows.fnTableFreeRow=true:=by
 unfold joinedFacts
 rw [laidOut,jF1,jF2,jF3,jF4,jF5,jF6,jF7]
 kernel_rfl
theorem fnTableFree_holds (hwalk:apl):Rows.FnTableFreeSaid:=
 OpenClaim.holds_of_wide 5 Tryz.f5 rfl rfl rfl rfl rfl rfl rfl ⟨rfl,rfl,rfl,rfl,rfl⟩ rfl rfl rfl rfl rfl (by kernel_rfl) Tryz.func5 jF0
  (aJ (by kernel_rfl)) (by unfold Func.isWrapper;first|(rw [if_pos (by decide+kernel)];kernel_rfl)|(rw [if_neg (by decide+kernel)];exact⟨rfl,rfl⟩))
  (λos started H enc _=>lifted hwalk os started H enc)
