/- Part 33 of the proof of a drawn law. -/
import Derived.Test.YtnkbdhldiinfdaaGreatDoorPbf
set_option maxHeartbeats 20000000
set_option maxRecDepth 100000
set_option linter.all false
namespace Go.Proofs.YtnkbdhldiinfdaaGreatDoor
open Go Go.ChangeShapes Go.WideShapes Go.ChangeAt Go.RowKit
theorem jC1 : Tryz.prog.mainIs = some (true, "eaa0742e907348102ec3026a2f2efc365c8b72a6cc690d23fc708df6a9cbaf29".toList) := by kernel_rfl
theorem jC2:true=Tryz.prog.looks []:=by kernel_rfl
theorem jC3:false=Rows.fnTableListRow.goesBy Tryz.prog:=by kernel_rfl
theorem aqJ (hwalk:apm):Rows.FnTableListCardSaid:=
 Claim7.holds_tied_plain_at .later [] [.data, .data, .data, .data, .sentinel, .sentinel, .pinned] true (true, "eaa0742e907348102ec3026a2f2efc365c8b72a6cc690d23fc708df6a9cbaf29") true (fnTableList_holds hwalk) (fun _ h => by cases h) (by kernel_rfl) (fun _ h => by cases h) fnTableList_row_tie rfl ⟨rfl, rfl⟩ jC1 rfl
  (λf fn hf hfn=>by
   obtain rfl : f = 6 := ZG8 ((show Tryz.prog.funcNamed "loop.example/poolfiles/laws.FnTableList" = some 6 by kernel_rfl).symm.trans hf) |>.symm
   obtain rfl:fn=Tryz.f6:=(ZG8 (Tryz.func6.symm.trans hfn)).symm
   exact⟨jC2,λj t ht=>by
    rw [Tryz.params6] at ht
    have hm:t∈[22]:=by simpa using Array.mem_of_getElem? ht
    have uH:([22].all λu=> !Tryz.prog.wantsStandIn u)=true:=by kernel_rfl
    exact (show Tryz.prog.wantsStandIn t=false by simpa using ZC9.1 uH t hm)⟩)
  jC3
