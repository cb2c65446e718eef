/- Part 33 of the proof of a drawn law. -/
import Derived.Test.YtnkbdhldiinfdaaGreatDoorPbf
set_option maxHeartbeats 20000000
set_option maxRecDepth 100000
set_option linter.all false
namespace Go.Proofs.YtnkbdhldiinfdaaGreatDoor
open Go Go.ChangeShapes Go.WideShapes Go.ChangeAt Go.RowKit
theorem jF1:(Rows.fnTableGetRow.inPlace==Tryz.prog.inPlace 7)=true:=by kernel_rfl
theorem jF2:(Rows.fnTableGetRow.unfollowed==Tryz.prog.unfollowed 7)=true:=by kernel_rfl
theorem jF3:(Rows.fnTableGetRow.recurses==Tryz.prog.recurses 7)=true:=by kernel_rfl
theorem jF4:(Rows.fnTableGetRow.named==Tryz.prog.varsNamed 7)=true:=by kernel_rfl
theorem jF5:Tryz.prog.stopsHeard=true:=by kernel_rfl
theorem jF6:Tryz.prog.mayEnter=true:=by kernel_rfl
theorem jF7:(Rows.fnTableGetRow.lifted==Tryz.prog.liftsFinal)=true:=by kernel_rfl
theorem jF0:joinedFacts Tryz.prog 7 Tryz.f7 Rows.fnTableGetSpec Rows.fnTableGetRow=true:=by
 unfold joinedFacts
 rw [laidOut,jF1,jF2,jF3,jF4,jF5,jF6,jF7]
 kernel_rfl
theorem fnTableGet_holds (hwalk:apX):Rows.FnTableGetSaid:=
 OpenClaim.holds_of_wide 7 Tryz.f7 rfl rfl rfl rfl rfl rfl rfl ⟨rfl,rfl,rfl,rfl,rfl⟩ rfl rfl rfl rfl rfl (by kernel_rfl) Tryz.func7 jF0
  (aJ (by kernel_rfl)) (by unfold Func.isWrapper;first|(rw [if_pos (by decide+kernel)];kernel_rfl)|(rw [if_neg (by decide+kernel)];exact⟨rfl,rfl⟩))
  (λos started H enc _=>lifted hwalk os started H enc)
