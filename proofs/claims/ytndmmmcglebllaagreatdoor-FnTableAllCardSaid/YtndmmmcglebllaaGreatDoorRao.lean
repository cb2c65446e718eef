/- Part 15 of the proof of FnTableAll. -/
import Derived.Test.YtndmmmcglebllaaGreatDoorRan
set_option maxHeartbeats 20000000
set_option maxRecDepth 100000
set_option linter.all false
namespace Go.Proofs.YtndmmmcglebllaaGreatDoor
open Go Go.ChangeShapes Go.WideShapes Go.ChangeAt Go.RowKit
theorem jF1:(Rows.fnTableAllRow.inPlace==Tryz.prog.inPlace 3)=true:=by kernel_rfl
theorem jF2:(Rows.fnTableAllRow.unfollowed==Tryz.prog.unfollowed 3)=true:=by kernel_rfl
theorem jF3:(Rows.fnTableAllRow.recurses==Tryz.prog.recurses 3)=true:=by kernel_rfl
theorem jF4:(Rows.fnTableAllRow.named==Tryz.prog.varsNamed 3)=true:=by kernel_rfl
theorem jF5:Tryz.prog.stopsHeard=true:=by kernel_rfl
theorem jF6:Tryz.prog.mayEnter=true:=by kernel_rfl
theorem jF7:(Rows.fnTableAllRow.lifted==Tryz.prog.liftsFinal)=true:=by kernel_rfl
theorem jF0:joinedFacts Tryz.prog 3 Tryz.f3 Rows.fnTableAllSpec Rows.fnTableAllRow=true:=by
 unfold joinedFacts
 rw [laidOut,jF1,jF2,jF3,jF4,jF5,jF6,jF7]
 kernel_rfl
theorem fnTableAll_holds (hwalk:XA):Rows.FnTableAllSaid:=
 OpenClaim.holds_of_wide 3 Tryz.f3 rfl rfl rfl rfl rfl rfl rfl ⟨rfl,rfl,rfl,rfl,rfl⟩ rfl rfl rfl rfl rfl (by kernel_rfl) Tryz.func3 jF0
  (aF (by kernel_rfl)) (by unfold Func.isWrapper;first|(rw [if_pos (by decide+kernel)];kernel_rfl)|(rw [if_neg (by decide+kernel)];exact⟨rfl,rfl⟩))
  (λos started H enc _=>lifted hwalk os started H enc)
