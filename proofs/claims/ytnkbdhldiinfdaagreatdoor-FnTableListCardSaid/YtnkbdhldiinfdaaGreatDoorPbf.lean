/- Part 32 of the proof of a drawn law. -/
import Derived.Test.YtnkbdhldiinfdaaGreatDoorPbe
set_option maxHeartbeats 20000000
set_option maxRecDepth 100000
set_option linter.all false
namespace Go.Proofs.YtnkbdhldiinfdaaGreatDoor
open Go Go.ChangeShapes Go.WideShapes Go.ChangeAt Go.RowKit
theorem jF1:(Rows.fnTableListRow.inPlace==Tryz.prog.inPlace 6)=true:=by kernel_rfl
theorem jF2:(Rows.fnTableListRow.unfollowed==Tryz.prog.unfollowed 6)=true:=by kernel_rfl
theorem jF3:(Rows.fnTableListRow.recurses==Tryz.prog.recurses 6)=true:=by kernel_rfl
theorem jF4:(Rows.fnTableListRow.named==Tryz.prog.varsNamed 6)=true:=by kernel_rfl
theorem jF5:Tryz.prog.stopsHeard=true:=by kernel_rfl
theorem jF6:Tryz.prog.mayEnter=true:=by kernel_rfl
theorem jF7:(Rows.fnTableListRow.lifted==Tryz.prog.liftsFinal)=true:=by kernel_rfl
theorem jF0:joinedFacts Tryz.prog 6 Tryz.f6 Rows.fnTableListSpec Rows.fnTableListRow=true:=by
 unfold joinedFacts
 rw [laidOut,jF1,jF2,jF3,jF4,jF5,jF6,jF7]
 kernel_rfl
theorem fnTableList_holds (hwalk:apm):Rows.FnTableListSaid:=
 OpenClaim.holds_of_wide 6 Tryz.f6 rfl rfl rfl rfl rfl rfl rfl ⟨rfl,rfl,rfl,rfl,rfl⟩ rfl rfl rfl rfl rfl (by kernel_rfl) Tryz.func6 jF0
  (aJ (by kernel_rfl)) (by unfold Func.isWrapper;first|(rw [if_pos (by decide+kernel)];kernel_rfl)|(rw [if_neg (by decide+kernel)];exact⟨rfl,rfl⟩))
  (λos started H enc _=>lifted hwalk os started H enc)
