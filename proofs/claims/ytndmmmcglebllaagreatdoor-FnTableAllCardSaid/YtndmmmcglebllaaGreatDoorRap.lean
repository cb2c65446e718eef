/- Part 16 of the proof of FnTableAll. -/
import Derived.Test.YtndmmmcglebllaaGreatDoorRao
set_option maxHeartbeats 20000000
set_option maxRecDepth 100000
set_option linter.all false
namespace Go.Proofs.YtndmmmcglebllaaGreatDoor
open Go Go.ChangeShapes Go.WideShapes Go.ChangeAt Go.RowKit
theorem jC1 : Tryz.prog.mainIs = some (true, "d100747de7a173f6d8502c8e0bb533edcb8db230ddbe460badfe1ca83a0b985c".toList) := by kernel_rfl
theorem jC2:true=Tryz.prog.looks []:=by kernel_rfl
theorem jC3:false=Rows.fnTableAllRow.goesBy Tryz.prog:=by kernel_rfl
theorem alS (hwalk:XA):Rows.FnTableAllCardSaid:=
 Claim7.holds_tied_plain_at .later [] [.data, .data, .data, .data, .sentinel, .sentinel, .pinned] true (true, "d100747de7a173f6d8502c8e0bb533edcb8db230ddbe460badfe1ca83a0b985c") true (fnTableAll_holds hwalk) (fun _ h => by cases h) (by kernel_rfl) (fun _ h => by cases h) fnTableAll_row_tie rfl ⟨rfl, rfl⟩ jC1 rfl
  (λf fn hf hfn=>by
   obtain rfl : f = 3 := ZF4 ((show Tryz.prog.funcNamed "loop.example/poolfiles/laws.FnTableAll" = some 3 by kernel_rfl).symm.trans hf) |>.symm
   obtain rfl:fn=Tryz.f3:=(ZF4 (Tryz.func3.symm.trans hfn)).symm
   exact⟨jC2,λj t ht=>by
    rw [Tryz.params3] at ht
    have hm:t∈[22]:=by simpa using Array.mem_of_getElem? ht
    have qw:([22].all λu=> !Tryz.prog.wantsStandIn u)=true:=by kernel_rfl
    exact (show Tryz.prog.wantsStandIn t=false by simpa using ZD3.1 qw t hm)⟩)
  jC3
