/- A drawn law returns true for every code (its row lists package variables, tied by the card): part 51. -/
import Derived.Test.YtclcgjhhehbdeaaGreatDoorPbx
set_option maxHeartbeats 20000000
set_option maxRecDepth 100000
set_option linter.all false
namespace Go.Proofs.YtclcgjhhehbdeaaGreatDoor
open Go Go.ChangeShapes Go.WideShapes Go.ChangeAt Go.RowKit
theorem jC1 : Tryz.prog.mainIs = some (true, "a5c1020147605b2ce802af284dba9b61cf49ec5fab08d131c1520ff231e11d50".toList) := by kernel_rfl
theorem jC2:true=Tryz.prog.looks []:=by kernel_rfl
theorem jC3:false=Rows.fnBlobSameRow.goesBy Tryz.prog:=by kernel_rfl
theorem aoO (hwalk:an2):Rows.FnBlobSameCardSaid:=
 Claim7.holds_tied_plain_at .later [] [.data, .data, .data, .data, .sentinel, .sentinel, .pinned] true (true, "a5c1020147605b2ce802af284dba9b61cf49ec5fab08d131c1520ff231e11d50") true (fnBlobSame_holds hwalk) (fun _ h => by cases h) (by kernel_rfl) (fun _ h => by cases h) fnBlobSame_row_tie rfl ⟨rfl, rfl⟩ jC1 rfl
  (fun f fn hf hfn=>by
   obtain rfl : f = 4 := ZG5 ((show Tryz.prog.funcNamed "loop.example/poolfiles/laws.FnBlobSame" = some 4 by kernel_rfl).symm.trans hf) |>.symm
   obtain rfl:fn=Tryz.f4:=(ZG5 (Tryz.func4.symm.trans hfn)).symm
   exact⟨jC2,fun j t ht=>by
    rw [Tryz.params4] at ht
    have hm:t∈[22]:=by simpa using Array.mem_of_getElem? ht
    have uD:([22].all fun u=> !Tryz.prog.wantsStandIn u)=true:=by kernel_rfl
    exact (show Tryz.prog.wantsStandIn t=false by simpa using ZC8.1 uD t hm)⟩)
  jC3
end Go.Proofs.YtclcgjhhehbdeaaGreatDoor
