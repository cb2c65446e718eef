/- A drawn law returns true for every code (its row lists package variables, tied by the card): part 51. -/
import Derived.Test.YtnkbdhldiinfdaaGreatDoorPbx
set_option maxHeartbeats 20000000
set_option maxRecDepth 100000
set_option linter.all false
namespace Go.Proofs.YtnkbdhldiinfdaaGreatDoor
open Go Go.ChangeShapes Go.WideShapes Go.ChangeAt Go.RowKit
theorem jC1 : Tryz.prog.mainIs = some (true, "eaa0742e907348102ec3026a2f2efc365c8b72a6cc690d23fc708df6a9cbaf29".toList) := by kernel_rfl
theorem jC2:true=Tryz.prog.looks []:=by kernel_rfl
theorem jC3:false=Rows.fnTreeGetRow.goesBy Tryz.prog:=by kernel_rfl
theorem ao1 (hwalk:anY):Rows.FnTreeGetCardSaid:=
 Claim7.holds_tied_plain_at .later [] [.data, .data, .data, .data, .sentinel, .sentinel, .pinned] true (true, "eaa0742e907348102ec3026a2f2efc365c8b72a6cc690d23fc708df6a9cbaf29") true (fnTreeGet_holds hwalk) (fun _ h => by cases h) (by kernel_rfl) (fun _ h => by cases h) fnTreeGet_row_tie rfl ⟨rfl, rfl⟩ jC1 rfl
  (fun f fn hf hfn=>by
   obtain rfl : f = 3 := ZG8 ((show Tryz.prog.funcNamed "loop.example/poolfiles/laws.FnTreeGet" = some 3 by kernel_rfl).symm.trans hf) |>.symm
   obtain rfl:fn=Tryz.f3:=(ZG8 (Tryz.func3.symm.trans hfn)).symm
   exact⟨jC2,fun j t ht=>by
    rw [Tryz.params3] at ht
    have hm:t∈[22]:=by simpa using Array.mem_of_getElem? ht
    have uH:([22].all fun u=> !Tryz.prog.wantsStandIn u)=true:=by kernel_rfl
    exact (show Tryz.prog.wantsStandIn t=false by simpa using ZC9.1 uH t hm)⟩)
  jC3
end Go.Proofs.YtnkbdhldiinfdaaGreatDoor
