/- Part 51 of A drawn law. -/
import Derived.Test.YtkgpljpmdkflmaaGreatDoorPbx
set_option maxHeartbeats 20000000
set_option maxRecDepth 100000
set_option linter.all false
namespace Go.Proofs.YtkgpljpmdkflmaaGreatDoor
open Go Go.ChangeShapes Go.WideShapes Go.ChangeAt Go.RowKit
theorem jC1 : Tryz.prog.mainIs = some (true, "91914b1adf739445fb7f3ae597d2c5da6844ed860058ebb3120e229a49c14890".toList) := by kernel_rfl
theorem jC2:true=Tryz.prog.looks []:=by kernel_rfl
theorem jC3:false=Rows.fnBlobShareRow.goesBy Tryz.prog:=by kernel_rfl
theorem anj (hwalk:amX):Rows.FnBlobShareCardSaid:=
 Claim7.holds_tied_plain_at .later [] [.data, .data, .data, .data, .sentinel, .sentinel, .pinned] true (true, "91914b1adf739445fb7f3ae597d2c5da6844ed860058ebb3120e229a49c14890") true (fnBlobShare_holds hwalk) (fun _ h => by cases h) (by kernel_rfl) (fun _ h => by cases h) fnBlobShare_row_tie rfl ⟨rfl, rfl⟩ jC1 rfl
  (fun f fn hf hfn=>by
   obtain rfl : f = 7 := ZG5 ((show Tryz.prog.funcNamed "loop.example/poolfiles/laws.FnBlobShare" = some 7 by kernel_rfl).symm.trans hf) |>.symm
   obtain rfl:fn=Tryz.f7:=(ZG5 (Tryz.func7.symm.trans hfn)).symm
   exact⟨jC2,fun j t ht=>by
    rw [Tryz.params7] at ht
    have hm:t∈[22]:=by simpa using Array.mem_of_getElem? ht
    have uK:([22].all fun u=> !Tryz.prog.wantsStandIn u)=true:=by kernel_rfl
    exact (show Tryz.prog.wantsStandIn t=false by simpa using ZC8.1 uK t hm)⟩)
  jC3
end Go.Proofs.YtkgpljpmdkflmaaGreatDoor
