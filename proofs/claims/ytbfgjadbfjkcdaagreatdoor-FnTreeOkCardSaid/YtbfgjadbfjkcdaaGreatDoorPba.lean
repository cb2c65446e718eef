/- FnTreeOk returns true for every code (its row lists package variables, tied by the card): part 27 of 39. -/
import Derived.Shelf.LaysC
import Derived.Shelf.LaysM
import Derived.Shelf.Strconv.Atoi
import Derived.Shelf.Strconv.ErrVar
import Derived.Shelf.Strconv.Itoa3
import Derived.Shelf.Strings.OnBuilder
import Derived.Shelf.Strings.Split
import Derived.Shelf.Strings.SplitShaped
import Derived.Sort.Grow
import Derived.Test.YtbfgjadbfjkcdaaGreatDoorProg
import Derived.Test.YtbfgjadbfjkcdaaGreatDoorPaj
import Derived.Test.YtbfgjadbfjkcdaaGreatDoorPaz
set_option maxHeartbeats 20000000
set_option linter.all false
namespace Go.Proofs.YtbfgjadbfjkcdaaGreatDoor
namespace GL
def M9 (n:Nat) (f:Nat→Bool):Bool:=(List.range n).all f
theorem UG {n i:Nat} {f:Nat→Bool} (hi:i < n) (h:f i=false):M9 n f=false:=by
 unfold M9;rw [Bool.eq_false_iff];intro h2;rw [List.all_eq_true.1 h2 i (List.mem_range.2 hi)] at h;cases h
theorem M8 {n:Nat} {f:Nat→Bool} (h:∀i,i < n→f i=true):M9 n f=true:=List.all_eq_true.2 fun i hi=>h i (List.mem_range.1 hi)
theorem aeT {n:Nat} {f:Nat→Bool} (h:M9 n f=true) {i:Nat} (hi:i < n):f i=true:=List.all_eq_true.1 h i (List.mem_range.2 hi)
theorem IV {n a b:Int}:ir n a b=false↔¬(a≤n∧n≤b):=by rw [←cn,Bool.not_eq_true]
def KP (n l:Int) (k:Nat):Bool:=decide ((0≤n∧n≤l∧l≤900)∧(n=0→l=0)∧(0 < n→8≤k))
def xx (rf la:List Int) (k:Nat):Bool:=KP (nth ae rf k) (nth ae la k) k
section
variable {n l:Int} {k:Nat}
theorem aiO (h:(!(ir l 0 900))=true):KP n l k=false:=decide_eq_false (by rw [Bool.not_eq_true',IV] at h;omega)
theorem aiN (h:(!(ir n 0 l))=true):KP n l k=false:=decide_eq_false (by rw [Bool.not_eq_true',IV] at h;omega)
theorem agP (h:decide (n=0)=true) (h2:decide (l≠0)=true):KP n l k=false:=decide_eq_false (by have:=cw h;have:=cw h2;omega)
theorem agO (hk:k < 64) (h:(!(ir (k:Int) 8 63))=true) (h2:decide (n > 0)=true):KP n l k=false:=decide_eq_false (by rw [Bool.not_eq_true',IV] at h;have:=cw h2;omega)
theorem Y7 (h:(!(ir l 0 900))=false) (h2:(!(ir n 0 l))=false) (h3:decide (n=0)=false∨decide (l≠0)=false) (h4:(!(ir (k:Int) 8 63))=false∨decide (n > 0)=false):KP n l k=true:=decide_eq_true (by
 have a1:=cn.1 (cB h);have a2:=cn.1 (cB h2)
 refine ⟨by omega,?_,?_⟩
 ·rcases h3 with h3 |h3
  ·have:=ca h3;omega
  ·have:=ca h3;omega
 ·rcases h4 with h4 |h4
  ·have:=cn.1 (cB h4);omega
  ·have:=ca h4;omega)
end
def ry (p:List Int×List Int):Bool:=bif decide ((p.1.length:Int)≠64) then false else bif decide ((p.2.length:Int)≠64) then false else M9 64 (xx p.1 p.2)
theorem N3 {p:List Int×List Int} (h:decide ((p.1.length:Int)≠64)=true):ry p=false:=by unfold ry;rw [h];rfl
theorem N2 {p:List Int×List Int} (h:decide ((p.2.length:Int)≠64)=true):ry p=false:=by unfold ry;rw [h];cases decide ((p.1.length:Int)≠64)<;>rfl
theorem U9 {p:List Int×List Int} (h:decide ((p.1.length:Int)≠64)=false) (h2:decide ((p.2.length:Int)≠64)=false):ry p=M9 64 (xx p.1 p.2):=by unfold ry;rw [h,h2];rfl
def nO (sp:List Int×List Int):Prop:=True
def cQ (sp:List Int×List Int):AV:=.s (.q (ry sp))
def WU (sp:List Int×List Int):List AV:=[]
def nc:Con where
 A:=[.a [.vz ae, .vz ae]]
 B:=[]
 pre:=fun x b=>nO x
 α:=fun _ _=>Unit
 φ:=fun _ _ _=>True
 r:=fun x b _=>cQ x
 o:=fun x b _=>WU x
 nf:=0
set_option maxRecDepth 100000 in
theorem CM:Has Tryz.prog 23 nc:=by
 refine Has.ofE (fun _=>true) (fun _=>false) (fun _=>false) (l:=[(24,dy),(55,oP)]) ⟨im,zJ,trivial⟩ (fn:=Tryz.f23) Tryz.func23 rfl (by decide) (cH rfl) ?_
 rintro ⟨(dv:List Int),(eD:List Int)⟩ _ (hp:nO (dv,eD))
 show vc _ _ _ _ (entry [.a [.vz ae dv, .vz ae eD]] []) _
 refine ⟨tv,fun w1=>?_,fun w2=>⟨fun w3=>?_,fun w4=>?_⟩⟩
 all_goals first|refine au ?_|refine aw ?_|exact sa|(dsimp only [dy,gO];omega)|(dsimp only [oP,r6];omega)|exact sb|skip
 ·refine ⟨[],[],_,_,_,rfl,rp,(),tv,?_,?_,rfl⟩
  ·(show _=cQ (dv,eD));unfold cQ;first |(rw [N3 (p:=(dv,eD)) w1];rfl) |rfl
  ·rfl
 ·refine ⟨[],[],_,_,_,rfl,rp,(),tv,?_,?_,rfl⟩
  ·(show _=cQ (dv,eD));unfold cQ;first |(rw [N2 (p:=(dv,eD)) w3];rfl) |rfl
  ·rfl
 ·have l1:dv.length=64:=by have:=ca w2;omega
  have l2:eD.length=64:=by have:=ca w4;omega
  have hE:=U9 (p:=(dv,eD)) w2 w4
  refine cI (l:=[(24,dy),(55,oP)]) (ex:=fun _=>true) (wr:=fun _=>false) (pt:=fun _=>false) ⟨im,zJ,trivial⟩ [.s 1, .b 1001] (fun i:Nat=>[(.s 3, .int i)]) (fun i=>i≤64∧∀j,j < i→xx dv eD j=true) (fun i=>64 - i) 0 [] ⟨Nat.zero_le _,fun j hj=>absurd hj (by omega)⟩ ru ?_
  rintro i ⟨(hi:i≤64),hj⟩
  have cg:decide ((i:Int) < 64)=true→i < 64:=fun h=>by have:=cw h;omega
  have bM:∀l:List Int,l.length=64→decide ((i:Int) < 64)=true→(i:Int) < (l.length:Int):=fun l hl h=>by rw [hl];exact cw h
  have iu:i < 64→xx dv eD i=false→ry (dv,eD)=false:=fun h h2=>by rw [hE];exact UG h h2
  have hgo:xx dv eD i=true→∀j,j < i+1→xx dv eD j=true:=fun h j yR=>by
   by_cases e:j=i
   ·rw [e];exact h
   ·exact hj j (by omega)
  refine ⟨fun w1=>⟨[.s 1],[.s 18],rfl,[.s 18, .b 1001],[.s 19],rfl,[.s 3],[.s 20],rfl,[.s 19, .s 20],[.s 21],rfl,⟨?_,?_⟩,[.s 21],[.s 22],rfl,[.s 22],[.s 23],rfl,⟨⟨tv,tv,tv,tv⟩,tv⟩,?_,fun x2 w3=>⟨[.s 23],[.s 24],rfl,[.s 24],[.s 25],rfl,tv,fun w4=>⟨[.s 25],[.s 26],rfl,[.s 25],[.s 27],rfl,[.s 25],[.s 28],rfl,[.s 25],[.s 29],rfl,[.s 25],[.s 30],rfl,[.s 25],[.s 31],rfl,[.s 25],[.s 32],rfl,[.s 25],[.s 33],rfl,[.s 25],[.s 34],rfl,[.s 25],[.s 35],rfl,[.s 25],[.s 36],rfl,[.s 25],[.s 37],rfl,[.s 25, .s 37],[.s 38],rfl,[.s 38],[.s 39],rfl,[.s 39],[.s 40],rfl,[.s 39],[.s 41],rfl,[.s 39],[.s 42],rfl,[.s 39],[.s 43],rfl,[.s 39],[.s 44],rfl,[.s 39],[.s 45],rfl,[.s 39],[.s 46],rfl,[.s 46],[.s 47],rfl,[.s 46],[.s 48],rfl,[.s 46],[.s 49],rfl,[.s 46],[.s 50],rfl,[.s 46],[.s 51],rfl,[.s 46],[.s 52],rfl,[.s 39],[.s 53],rfl,[.s 39, .s 53],[.s 54],rfl,[.s 54],[.s 55],rfl,[.s 55],[.s 56],rfl,[.s 55],[.s 57],rfl,[.s 55],[.s 58],rfl,[.s 55],[.s 59],rfl,[.s 59],[.s 60],rfl,[.s 59],[.s 61],rfl,[.s 59],[.s 62],rfl,[.s 59],[.s 63],rfl,[.s 59],[.s 64],rfl,[.s 59],[.s 65],rfl,[.s 55],[.s 66],rfl,[.s 55, .s 66],[.s 67],rfl,?_⟩,fun w5=>⟨[.s 25, .s 1],[.s 26],rfl,[.s 25, .s 26, .b 1001],[.s 27],rfl,[.s 25, .s 3],[.s 28],rfl,[.s 25, .s 27, .s 28],[.s 29],rfl,⟨?_,?_⟩,[.s 25, .s 29],[.s 30],rfl,[.s 25, .s 1],[.s 31],rfl,[.s 25, .s 31, .b 1001],[.s 32],rfl,[.s 25, .s 3],[.s 33],rfl,[.s 25, .s 32, .s 33],[.s 34],rfl,⟨?_,?_⟩,[.s 25, .s 34],[.s 35],rfl,[.s 25, .s 30, .s 35],[.s 36],rfl,⟨⟨tv,tv,tv,tv⟩,tv⟩,?_,fun x6 w7=>⟨[.s 25, .s 36],[.s 37],rfl,[.s 25, .s 37],[.s 38],rfl,[.s 38],[.s 39],rfl,tv,fun w8=>⟨[.s 39],[.s 40],rfl,[.s 39],[.s 41],rfl,[.s 39],[.s 42],rfl,[.s 39],[.s 43],rfl,[.s 39],[.s 44],rfl,[.s 39],[.s 45],rfl,[.s 39],[.s 46],rfl,[.s 46],[.s 47],rfl,[.s 46],[.s 48],rfl,[.s 46],[.s 49],rfl,[.s 46],[.s 50],rfl,[.s 46],[.s 51],rfl,[.s 46],[.s 52],rfl,[.s 39],[.s 53],rfl,[.s 39, .s 53],[.s 54],rfl,[.s 54],[.s 55],rfl,[.s 55],[.s 56],rfl,[.s 55],[.s 57],rfl,[.s 55],[.s 58],rfl,[.s 55],[.s 59],rfl,[.s 59],[.s 60],rfl,[.s 59],[.s 61],rfl,[.s 59],[.s 62],rfl,[.s 59],[.s 63],rfl,[.s 59],[.s 64],rfl,[.s 59],[.s 65],rfl,[.s 55],[.s 66],rfl,[.s 55, .s 66],[.s 67],rfl,?_⟩,fun w9=>⟨[.s 39, .s 1],[.s 40],rfl,[.s 39, .s 40, .b 1001],[.s 41],rfl,[.s 39, .s 3],[.s 42],rfl,[.s 39, .s 41, .s 42],[.s 43],rfl,⟨?_,?_⟩,[.s 39, .s 43],[.s 44],rfl,[.s 39, .s 44],[.s 45],rfl,[.s 39, .s 45],[.s 46],rfl,tv,fun df=>⟨[.s 46, .s 1],[.s 47],rfl,[.s 46, .s 47, .b 1001],[.s 48],rfl,[.s 46, .s 3],[.s 49],rfl,[.s 46, .s 48, .s 49],[.s 50],rfl,⟨?_,?_⟩,[.s 46, .s 50],[.s 51],rfl,[.s 46, .s 51],[.s 52],rfl,[.s 39, .s 46, .s 52],[.s 53],rfl,[.s 39, .s 53],[.s 54],rfl,[.s 54],[.s 55],rfl,tv,fun ka=>⟨[.s 55],[.s 56],rfl,[.s 55],[.s 57],rfl,[.s 55],[.s 58],rfl,[.s 55],[.s 59],rfl,[.s 59],[.s 60],rfl,[.s 59],[.s 61],rfl,[.s 59],[.s 62],rfl,[.s 59],[.s 63],rfl,[.s 59],[.s 64],rfl,[.s 59],[.s 65],rfl,[.s 55],[.s 66],rfl,[.s 55, .s 66],[.s 67],rfl,?_⟩,fun dC=>⟨[.s 55, .s 3],[.s 56],rfl,[.s 55, .s 56],[.s 57],rfl,⟨⟨tv,tv⟩,tv⟩,?_,fun rP gx=>⟨[.s 55, .s 57],[.s 58],rfl,[.s 55, .s 58],[.s 59],rfl,tv,fun oU=>⟨[.s 59, .s 1],[.s 60],rfl,[.s 59, .s 60, .b 1001],[.s 61],rfl,[.s 59, .s 3],[.s 62],rfl,[.s 59, .s 61, .s 62],[.s 63],rfl,⟨?_,?_⟩,[.s 59, .s 63],[.s 64],rfl,[.s 59, .s 64],[.s 65],rfl,[.s 55, .s 59, .s 65],[.s 66],rfl,[.s 55, .s 66],[.s 67],rfl,fun j9=>?_,fun wu=>⟨⟨?_,?_⟩,?_⟩⟩,fun qI=>⟨[.s 59],[.s 60],rfl,[.s 59],[.s 61],rfl,[.s 59],[.s 62],rfl,[.s 59],[.s 63],rfl,[.s 59],[.s 64],rfl,[.s 59],[.s 65],rfl,[.s 55, .s 59, .s 65],[.s 66],rfl,[.s 55, .s 66],[.s 67],rfl,⟨?_,?_⟩,?_⟩⟩⟩⟩,fun ot=>⟨[.s 46],[.s 47],rfl,[.s 46],[.s 48],rfl,[.s 46],[.s 49],rfl,[.s 46],[.s 50],rfl,[.s 46],[.s 51],rfl,[.s 46],[.s 52],rfl,[.s 39, .s 46, .s 52],[.s 53],rfl,[.s 39, .s 53],[.s 54],rfl,[.s 54],[.s 55],rfl,[.s 55, .s 3],[.s 56],rfl,[.s 55, .s 56],[.s 57],rfl,⟨⟨tv,tv⟩,tv⟩,?_,fun x20 zg=>⟨[.s 55, .s 57],[.s 58],rfl,[.s 55, .s 58],[.s 59],rfl,tv,fun zf=>⟨[.s 59, .s 1],[.s 60],rfl,[.s 59, .s 60, .b 1001],[.s 61],rfl,[.s 59, .s 3],[.s 62],rfl,[.s 59, .s 61, .s 62],[.s 63],rfl,⟨?_,?_⟩,[.s 59, .s 63],[.s 64],rfl,[.s 59, .s 64],[.s 65],rfl,[.s 55, .s 59, .s 65],[.s 66],rfl,[.s 55, .s 66],[.s 67],rfl,fun xv=>?_,fun rl=>⟨⟨?_,?_⟩,?_⟩⟩,fun w25=>⟨[.s 59],[.s 60],rfl,[.s 59],[.s 61],rfl,[.s 59],[.s 62],rfl,[.s 59],[.s 63],rfl,[.s 59],[.s 64],rfl,[.s 59],[.s 65],rfl,[.s 55, .s 59, .s 65],[.s 66],rfl,[.s 55, .s 66],[.s 67],rfl,⟨?_,?_⟩,?_⟩⟩⟩⟩⟩⟩⟩⟩,fun EL=>?_⟩
  all_goals first|refine au ?_|refine aw ?_|exact sa|(dsimp only [dy,gO];omega)|(dsimp only [oP,r6];omega)|exact sb|exact bM _ l1 w1|exact bM _ l2 w1|skip
  ·refine ⟨[],[],_,_,_,rfl,rp,(),tv,?_,?_,rfl⟩
   ·(show _=cQ (dv,eD));unfold cQ;first |(rw [iu (cg w1) (aiO w4)];rfl) |rfl
   ·rfl
  ·refine ⟨[],[],_,_,_,rfl,rp,(),tv,?_,?_,rfl⟩
   ·(show _=cQ (dv,eD));unfold cQ;first |(rw [iu (cg w1) (aiN w8)];rfl) |rfl
   ·rfl
  ·refine ⟨[],[],_,_,_,rfl,rp,(),tv,?_,?_,rfl⟩
   ·(show _=cQ (dv,eD));unfold cQ;first |(rw [iu (cg w1) (agP df ka)];rfl) |rfl
   ·rfl
  ·refine ⟨[],[],_,_,_,rfl,rp,(),tv,?_,?_,rfl⟩
   ·(show _=cQ (dv,eD));unfold cQ;first |(rw [iu (cg w1) (agO (cg w1) oU j9)];rfl) |rfl
   ·rfl
  ·refine ⟨(i+1),[],?_,?_,?_⟩
   rotate_right
   ·exact rq
   ·exact ⟨cg w1,hgo (Y7 w5 w9 (.inr dC) (.inr wu))⟩
   ·show 64 - (i+1) < 64 - i;have:=cg w1;omega
  ·refine ⟨(i+1),[],?_,?_,?_⟩
   rotate_right
   ·exact rq
   ·exact ⟨cg w1,hgo (Y7 w5 w9 (.inr dC) (.inl qI))⟩
   ·show 64 - (i+1) < 64 - i;have:=cg w1;omega
  ·refine ⟨[],[],_,_,_,rfl,rp,(),tv,?_,?_,rfl⟩
   ·(show _=cQ (dv,eD));unfold cQ;first |(rw [iu (cg w1) (agO (cg w1) zf xv)];rfl) |rfl
   ·rfl
  ·refine ⟨(i+1),[],?_,?_,?_⟩
   rotate_right
   ·exact rq
   ·exact ⟨cg w1,hgo (Y7 w5 w9 (.inl ot) (.inr rl))⟩
   ·show 64 - (i+1) < 64 - i;have:=cg w1;omega
  ·refine ⟨(i+1),[],?_,?_,?_⟩
   rotate_right
   ·exact rq
   ·exact ⟨cg w1,hgo (Y7 w5 w9 (.inl ot) (.inl w25))⟩
   ·show 64 - (i+1) < 64 - i;have:=cg w1;omega
  ·have e:ry (dv,eD)=true:=by rw [hE];exact M8 fun j yR=>hj j (by have:=ca EL;omega)
   refine ⟨[],[],_,_,_,rfl,rp,(),tv,?_,?_,rfl⟩
   ·(show _=cQ (dv,eD));unfold cQ;first |(rw [e];rfl) |rfl
   ·rfl
end GL
end Go.Proofs.YtbfgjadbfjkcdaaGreatDoor
namespace Go.Proofs
open Go.Shelf
def Tryz.DX:Go.Shelf.Ren:=⟨fun |156=>127 |165=>148 |166=>149 |169=>150 |240=>164 |241=>165 |276=>178 |277=>179 |n=>n,fun |31=>23 |9=>9 |3=>3 |4=>4 |0=>0 |20=>20 |72=>176 |76=>172 |70=>174 |37=>22 |75=>171 |127=>186 |164=>195 |5=>5 |80=>178 |n=>n,fun |n=>n⟩
theorem Tryz.ZZ:Go.Proofs.Lays.n156 Tryz.prog Tryz.DX:= {
 mixed:=by kernel_rfl
 f156:=Tryz.func127.trans (congrArg some (by kernel_rfl))
 f165:=Tryz.func148.trans (congrArg some (by kernel_rfl))
 f166:=Tryz.func149.trans (congrArg some (by kernel_rfl))
 f169:=Tryz.func150.trans (congrArg some (by kernel_rfl))
 f240:=Tryz.func164.trans (congrArg some (by kernel_rfl))
 f241:=Tryz.func165.trans (congrArg some (by kernel_rfl))
 f276:=Tryz.func178.trans (congrArg some (by kernel_rfl))
 f277:=Tryz.func179.trans (congrArg some (by kernel_rfl))
 t0:=Tryz.underlying0
 a0:=Tryz.isAgg0
 z0:=Tryz.sizeOf0
 v0:=Tryz.zeroValue0
 t3:=Tryz.underlying3
 a3:=Tryz.isAgg3
 z3:=Tryz.sizeOf3
 v3:=Tryz.zeroValue3
 t4:=Tryz.underlying4
 a4:=Tryz.isAgg4
 z4:=Tryz.sizeOf4
 v4:=Tryz.zeroValue4
 t9:=Tryz.underlying9
 a9:=Tryz.isAgg9
 z9:=Tryz.sizeOf9
 v9:=Tryz.zeroValue9
 t20:=Tryz.underlying20
 a20:=Tryz.isAgg20
 z20:=Tryz.sizeOf20
 v20:=Tryz.zeroValue20
 t31:=Tryz.underlying23
 a31:=Tryz.isAgg23
 z31:=Tryz.sizeOf23
 v31:=Tryz.zeroValue23
 t37:=Tryz.underlying22
 a37:=Tryz.isAgg22
 z37:=Tryz.sizeOf22
 v37:=Tryz.zeroValue22
 t70:=Tryz.underlying174
 a70:=Tryz.isAgg174
 z70:=Tryz.sizeOf174
 v70:=Tryz.zeroValue174
 t72:=Tryz.underlying176
 a72:=Tryz.isAgg176
 z72:=Tryz.sizeOf176
 v72:=Tryz.zeroValue176
 t75:=Tryz.underlying171
 a75:=Tryz.isAgg171
 z75:=Tryz.sizeOf171
 v75:=Tryz.zeroValue171
 t76:=Tryz.underlying172
 a76:=Tryz.isAgg172
 z76:=Tryz.sizeOf172
 v76:=Tryz.zeroValue172
 t127:=Tryz.underlying186
 a127:=Tryz.isAgg186
 z127:=Tryz.sizeOf186
 v127:=Tryz.zeroValue186
 t164:=Tryz.underlying195
 a164:=Tryz.isAgg195
 z164:=Tryz.sizeOf195
 v164:=Tryz.zeroValue195 }
theorem Tryz.rk:Builder.Extra Tryz.prog Tryz.DX:= {
 sizeBuilder:=by kernel_rfl
 liesBuilder:=by kernel_rfl
 t5:=Tryz.underlying5
 a5:=Tryz.isAgg5
 z5:=Tryz.sizeOf5
 v5:=Tryz.zeroValue5
 infoByte:=by kernel_rfl
 cellsByte:=by kernel_rfl
 sizeByte:=by kernel_rfl
 neB5:=by decide }
open Go.RowKit in
theorem Tryz.strings_Join_none (a:Option Addr) (c:Nat) (sep:ByteArray) (w:World):
  Calls Tryz.prog 127 #[.slice a 0 c, .string sep] w fun e w'=>e= .returned (.string ⟨#[]⟩)∧w'=w:=Any.strings_Join_none Tryz.ZZ Tryz.rk a c sep w
open Go.RowKit in
theorem Tryz.strings_Join (bk o c:Nat) (xs:List ByteArray) (sep:ByteArray) (w:World) (I3:∀(j:Nat) x,xs[j]?=some x→w.cell? ⟨bk,o+j,none⟩=some (.string x)) (hbk:bk < w.heap.size) (hN:xs.length≤140737488355328) (EU:xs.length≤c) (hlen:(Lib.join (xs.map (·.data.toList)) sep.data.toList).length≤140737488355328):
  Calls Tryz.prog 127 #[.slice (some ⟨bk,o,none⟩) xs.length c, .string sep] w fun e w'=>e= .returned (.string ⟨(Lib.join (xs.map (·.data.toList)) sep.data.toList).toArray⟩)∧Below w.heap.size w w':=Any.strings_Join Tryz.ZZ Tryz.rk bk o c xs sep w I3 hbk hN EU hlen
def Tryz.TG:Go.Shelf.Ren:=⟨fun |172=>146 |244=>161 |245=>162 |247=>172 |279=>173 |280=>174 |281=>175 |282=>176 |287=>182 |316=>183 |171=>163 |205=>184 |321=>186 |322=>187 |243=>177 |246=>185 |283=>188 |284=>189 |285=>190 |286=>191 |129=>193 |317=>192 |318=>194 |319=>195 |320=>196 |337=>197 |338=>198 |n=>n,fun |9=>9 |3=>3 |75=>171 |76=>172 |4=>4 |5=>5 |167=>189 |37=>22 |0=>0 |85=>190 |2=>2 |168=>192 |53=>205 |175=>206 |46=>188 |210=>209 |127=>186 |145=>215 |143=>213 |21=>21 |171=>216 |173=>219 |212=>222 |51=>202 |20=>20 |213=>223 |232=>226 |233=>227 |80=>178 |n=>n,fun |15=>3 |16=>4 |17=>5 |18=>6 |19=>7 |n=>n⟩
theorem Tryz.af0:Go.Proofs.Lays.n172 Tryz.prog Tryz.TG:= {
 mixed:=by kernel_rfl
 f129:=Tryz.func193.trans (congrArg some (by kernel_rfl))
 f171:=Tryz.func163.trans (congrArg some (by kernel_rfl))
 f172:=Tryz.func146.trans (congrArg some (by kernel_rfl))
 f205:=Tryz.func184.trans (congrArg some (by kernel_rfl))
 f243:=Tryz.func177.trans (congrArg some (by kernel_rfl))
 f244:=Tryz.func161.trans (congrArg some (by kernel_rfl))
 f245:=Tryz.func162.trans (congrArg some (by kernel_rfl))
 f246:=Tryz.func185.trans (congrArg some (by kernel_rfl))
 f247:=Tryz.func172.trans (congrArg some (by kernel_rfl))
 f279:=Tryz.func173.trans (congrArg some (by kernel_rfl))
 f280:=Tryz.func174.trans (congrArg some (by kernel_rfl))
 f281:=Tryz.func175.trans (congrArg some (by kernel_rfl))
 f282:=Tryz.func176.trans (congrArg some (by kernel_rfl))
 f283:=Tryz.func188.trans (congrArg some (by kernel_rfl))
 f284:=Tryz.func189.trans (congrArg some (by kernel_rfl))
 f285:=Tryz.func190.trans (congrArg some (by kernel_rfl))
 f286:=Tryz.func191.trans (congrArg some (by kernel_rfl))
 f287:=Tryz.func182.trans (congrArg some (by kernel_rfl))
 f316:=Tryz.func183.trans (congrArg some (by kernel_rfl))
 f317:=Tryz.func192.trans (congrArg some (by kernel_rfl))
 f318:=Tryz.func194.trans (congrArg some (by kernel_rfl))
 f319:=Tryz.func195.trans (congrArg some (by kernel_rfl))
 f320:=Tryz.func196.trans (congrArg some (by kernel_rfl))
 f321:=Tryz.func186.trans (congrArg some (by kernel_rfl))
 f322:=Tryz.func187.trans (congrArg some (by kernel_rfl))
 f337:=Tryz.func197.trans (congrArg some (by kernel_rfl))
 f338:=Tryz.func198.trans (congrArg some (by kernel_rfl))
 t0:=Tryz.underlying0
 a0:=Tryz.isAgg0
 z0:=Tryz.sizeOf0
 v0:=Tryz.zeroValue0
 t2:=Tryz.underlying2
 a2:=Tryz.isAgg2
 z2:=Tryz.sizeOf2
 v2:=Tryz.zeroValue2
 t3:=Tryz.underlying3
 a3:=Tryz.isAgg3
 z3:=Tryz.sizeOf3
 v3:=Tryz.zeroValue3
 t4:=Tryz.underlying4
 a4:=Tryz.isAgg4
 z4:=Tryz.sizeOf4
 v4:=Tryz.zeroValue4
 t5:=Tryz.underlying5
 a5:=Tryz.isAgg5
 z5:=Tryz.sizeOf5
 v5:=Tryz.zeroValue5
 t9:=Tryz.underlying9
 a9:=Tryz.isAgg9
 z9:=Tryz.sizeOf9
 v9:=Tryz.zeroValue9
 t20:=Tryz.underlying20
 a20:=Tryz.isAgg20
 z20:=Tryz.sizeOf20
 v20:=Tryz.zeroValue20
 t21:=Tryz.underlying21
 a21:=Tryz.isAgg21
 z21:=Tryz.sizeOf21
 v21:=Tryz.zeroValue21
 t37:=Tryz.underlying22
 a37:=Tryz.isAgg22
 z37:=Tryz.sizeOf22
 v37:=Tryz.zeroValue22
 t46:=Tryz.underlying188
 a46:=Tryz.isAgg188
 z46:=Tryz.sizeOf188
 v46:=Tryz.zeroValue188
 t51:=Tryz.underlying202
 a51:=Tryz.isAgg202
 z51:=Tryz.sizeOf202
 v51:=Tryz.zeroValue202
 t53:=Tryz.underlying205
 a53:=Tryz.isAgg205
 z53:=Tryz.sizeOf205
 v53:=Tryz.zeroValue205
 t75:=Tryz.underlying171
 a75:=Tryz.isAgg171
 z75:=Tryz.sizeOf171
 v75:=Tryz.zeroValue171
 t76:=Tryz.underlying172
 a76:=Tryz.isAgg172
 z76:=Tryz.sizeOf172
 v76:=Tryz.zeroValue172
 t85:=Tryz.underlying190
 a85:=Tryz.isAgg190
 z85:=Tryz.sizeOf190
 v85:=Tryz.zeroValue190
 t127:=Tryz.underlying186
 a127:=Tryz.isAgg186
 z127:=Tryz.sizeOf186
 v127:=Tryz.zeroValue186
 t143:=Tryz.underlying213
 a143:=Tryz.isAgg213
 z143:=Tryz.sizeOf213
 v143:=Tryz.zeroValue213
 t145:=Tryz.underlying215
 a145:=Tryz.isAgg215
 z145:=Tryz.sizeOf215
 v145:=Tryz.zeroValue215
 t167:=Tryz.underlying189
 a167:=Tryz.isAgg189
 z167:=Tryz.sizeOf189
 v167:=Tryz.zeroValue189
 t168:=Tryz.underlying192
 a168:=Tryz.isAgg192
 z168:=Tryz.sizeOf192
 v168:=Tryz.zeroValue192
 t171:=Tryz.underlying216
 a171:=Tryz.isAgg216
 z171:=Tryz.sizeOf216
 v171:=Tryz.zeroValue216
 t173:=Tryz.underlying219
 a173:=Tryz.isAgg219
 z173:=Tryz.sizeOf219
 v173:=Tryz.zeroValue219
 t175:=Tryz.underlying206
 a175:=Tryz.isAgg206
 z175:=Tryz.sizeOf206
 v175:=Tryz.zeroValue206
 t210:=Tryz.underlying209
 a210:=Tryz.isAgg209
 z210:=Tryz.sizeOf209
 v210:=Tryz.zeroValue209
 t212:=Tryz.underlying222
 a212:=Tryz.isAgg222
 z212:=Tryz.sizeOf222
 v212:=Tryz.zeroValue222
 t213:=Tryz.underlying223
 a213:=Tryz.isAgg223
 z213:=Tryz.sizeOf223
 t232:=Tryz.underlying226
 a232:=Tryz.isAgg226
 z232:=Tryz.sizeOf226
 v232:=Tryz.zeroValue226
 t233:=Tryz.underlying227
 a233:=Tryz.isAgg227
 z233:=Tryz.sizeOf227
 v233:=Tryz.zeroValue227
 g15:=by kernel_rfl
 g16:=by kernel_rfl
 g17:=by kernel_rfl
 g18:=by kernel_rfl
 g19:=by kernel_rfl }
open Go.RowKit in
theorem Tryz.strconv_Atoi (s:ByteArray) (n:Int) (hl:s.size≤18) (h:Lib.atoi s.data.toList=some n) (w:World):
  Calls Tryz.prog 146 #[.string s] w fun e w'=>e= .returned (.tuple #[.int .i64 n, .nilIface])∧∃t,w'=Lib.bytesWorld w 5 t:=Any.strconv_Atoi Tryz.af0 s n hl h w
def Tryz.O6:Go.Shelf.Ren:=⟨fun |171=>163 |243=>177 |246=>185 |283=>188 |284=>189 |285=>190 |286=>191 |129=>193 |317=>192 |318=>194 |319=>195 |320=>196 |337=>197 |338=>198 |n=>n,fun |3=>3 |9=>9 |2=>2 |4=>4 |171=>216 |0=>0 |53=>205 |37=>22 |5=>5 |173=>219 |212=>222 |51=>202 |20=>20 |213=>223 |46=>188 |232=>226 |233=>227 |n=>n,fun |17=>5 |18=>6 |19=>7 |n=>n⟩
theorem Tryz.adR:Go.Proofs.LaysM.n171 Tryz.prog Tryz.O6:= {
 mixed:=by kernel_rfl
 f129:=Tryz.func193.trans (congrArg some (by kernel_rfl))
 f171:=Tryz.func163.trans (congrArg some (by kernel_rfl))
 f243:=Tryz.func177.trans (congrArg some (by kernel_rfl))
 f246:=Tryz.func185.trans (congrArg some (by kernel_rfl))
 f283:=Tryz.func188.trans (congrArg some (by kernel_rfl))
 f284:=Tryz.func189.trans (congrArg some (by kernel_rfl))
 f285:=Tryz.func190.trans (congrArg some (by kernel_rfl))
 f286:=Tryz.func191.trans (congrArg some (by kernel_rfl))
 f317:=Tryz.func192.trans (congrArg some (by kernel_rfl))
 f318:=Tryz.func194.trans (congrArg some (by kernel_rfl))
 f319:=Tryz.func195.trans (congrArg some (by kernel_rfl))
 f320:=Tryz.func196.trans (congrArg some (by kernel_rfl))
 f337:=Tryz.func197.trans (congrArg some (by kernel_rfl))
 f338:=Tryz.func198.trans (congrArg some (by kernel_rfl))
 t0:=Tryz.underlying0
 a0:=Tryz.isAgg0
 z0:=Tryz.sizeOf0
 v0:=Tryz.zeroValue0
 t2:=Tryz.underlying2
 a2:=Tryz.isAgg2
 z2:=Tryz.sizeOf2
 v2:=Tryz.zeroValue2
 t3:=Tryz.underlying3
 a3:=Tryz.isAgg3
 z3:=Tryz.sizeOf3
 v3:=Tryz.zeroValue3
 t4:=Tryz.underlying4
 a4:=Tryz.isAgg4
 z4:=Tryz.sizeOf4
 v4:=Tryz.zeroValue4
 t5:=Tryz.underlying5
 a5:=Tryz.isAgg5
 z5:=Tryz.sizeOf5
 v5:=Tryz.zeroValue5
 t9:=Tryz.underlying9
 a9:=Tryz.isAgg9
 z9:=Tryz.sizeOf9
 v9:=Tryz.zeroValue9
 t20:=Tryz.underlying20
 a20:=Tryz.isAgg20
 z20:=Tryz.sizeOf20
 v20:=Tryz.zeroValue20
 t37:=Tryz.underlying22
 a37:=Tryz.isAgg22
 z37:=Tryz.sizeOf22
 v37:=Tryz.zeroValue22
 t46:=Tryz.underlying188
 a46:=Tryz.isAgg188
 z46:=Tryz.sizeOf188
 v46:=Tryz.zeroValue188
 t51:=Tryz.underlying202
 a51:=Tryz.isAgg202
 z51:=Tryz.sizeOf202
 v51:=Tryz.zeroValue202
 t53:=Tryz.underlying205
 a53:=Tryz.isAgg205
 z53:=Tryz.sizeOf205
 v53:=Tryz.zeroValue205
 t171:=Tryz.underlying216
 a171:=Tryz.isAgg216
 z171:=Tryz.sizeOf216
 v171:=Tryz.zeroValue216
 t173:=Tryz.underlying219
 a173:=Tryz.isAgg219
 z173:=Tryz.sizeOf219
 v173:=Tryz.zeroValue219
 t212:=Tryz.underlying222
 a212:=Tryz.isAgg222
 z212:=Tryz.sizeOf222
 v212:=Tryz.zeroValue222
 t213:=Tryz.underlying223
 a213:=Tryz.isAgg223
 z213:=Tryz.sizeOf223
 t232:=Tryz.underlying226
 a232:=Tryz.isAgg226
 z232:=Tryz.sizeOf226
 v232:=Tryz.zeroValue226
 t233:=Tryz.underlying227
 a233:=Tryz.isAgg227
 z233:=Tryz.sizeOf227
 v233:=Tryz.zeroValue227
 g17:=by kernel_rfl
 g18:=by kernel_rfl
 g19:=by kernel_rfl
 i0:=by kernel_rfl
 i2:=by kernel_rfl
 i3:=by kernel_rfl
 i4:=by kernel_rfl
 i5:=by kernel_rfl
 i9:=by kernel_rfl
 i20:=by kernel_rfl
 i37:=by kernel_rfl
 i46:=by kernel_rfl
 i51:=by kernel_rfl
 i53:=by kernel_rfl
 i171:=by kernel_rfl
 i173:=by kernel_rfl
 i212:=by kernel_rfl
 i232:=by kernel_rfl
 i233:=by kernel_rfl
 m17:=by kernel_rfl
 m18:=by kernel_rfl
 m19:=by kernel_rfl }
open Go.RowKit Go.Sort Go.Lib in
theorem Tryz.strconv_Itoa (n : Int) (h0 : -9223372036854775808 ≤ n) (h1 : n ≤ 9223372036854775807) (w : World) (htab : Lib.TabIs Tryz.prog w "internal/strconv.uint64pow10" .u64 Lib.pow10Tab) :
  Calls Tryz.prog 163 #[.int .i64 n] w fun e w'=>e= .returned (.string ⟨(Lib.itoa n).toArray⟩)∧∃k os,w'=grow (w.drewN k) os:=Any.strconv_Itoa Tryz.adR n h0 h1 w htab
def Tryz.O7:Go.Shelf.Ren:=⟨fun |172=>146 |244=>161 |245=>162 |247=>172 |279=>173 |280=>174 |281=>175 |282=>176 |287=>182 |316=>183 |171=>163 |205=>184 |321=>186 |322=>187 |243=>177 |246=>185 |283=>188 |284=>189 |285=>190 |286=>191 |129=>193 |317=>192 |318=>194 |319=>195 |320=>196 |337=>197 |338=>198 |n=>n,fun |9=>9 |3=>3 |75=>171 |76=>172 |4=>4 |5=>5 |167=>189 |37=>22 |0=>0 |85=>190 |2=>2 |168=>192 |53=>205 |175=>206 |46=>188 |210=>209 |127=>186 |145=>215 |143=>213 |21=>21 |171=>216 |173=>219 |212=>222 |51=>202 |20=>20 |213=>223 |232=>226 |233=>227 |80=>178 |n=>n,fun |15=>3 |16=>4 |17=>5 |18=>6 |19=>7 |n=>n⟩
theorem Tryz.adS:Go.Proofs.LaysC.n172 Tryz.prog Tryz.O7:= {
 mixed:=by kernel_rfl
 f129:=Tryz.func193.trans (congrArg some (by kernel_rfl))
 f171:=Tryz.func163.trans (congrArg some (by kernel_rfl))
 f172:=Tryz.func146.trans (congrArg some (by kernel_rfl))
 f205:=Tryz.func184.trans (congrArg some (by kernel_rfl))
 f243:=Tryz.func177.trans (congrArg some (by kernel_rfl))
 f244:=Tryz.func161.trans (congrArg some (by kernel_rfl))
 f245:=Tryz.func162.trans (congrArg some (by kernel_rfl))
 f246:=Tryz.func185.trans (congrArg some (by kernel_rfl))
 f247:=Tryz.func172.trans (congrArg some (by kernel_rfl))
 f279:=Tryz.func173.trans (congrArg some (by kernel_rfl))
 f280:=Tryz.func174.trans (congrArg some (by kernel_rfl))
 f281:=Tryz.func175.trans (congrArg some (by kernel_rfl))
 f282:=Tryz.func176.trans (congrArg some (by kernel_rfl))
 f283:=Tryz.func188.trans (congrArg some (by kernel_rfl))
 f284:=Tryz.func189.trans (congrArg some (by kernel_rfl))
 f285:=Tryz.func190.trans (congrArg some (by kernel_rfl))
 f286:=Tryz.func191.trans (congrArg some (by kernel_rfl))
 f287:=Tryz.func182.trans (congrArg some (by kernel_rfl))
 f316:=Tryz.func183.trans (congrArg some (by kernel_rfl))
 f317:=Tryz.func192.trans (congrArg some (by kernel_rfl))
 f318:=Tryz.func194.trans (congrArg some (by kernel_rfl))
 f319:=Tryz.func195.trans (congrArg some (by kernel_rfl))
 f320:=Tryz.func196.trans (congrArg some (by kernel_rfl))
 f321:=Tryz.func186.trans (congrArg some (by kernel_rfl))
 f322:=Tryz.func187.trans (congrArg some (by kernel_rfl))
 f337:=Tryz.func197.trans (congrArg some (by kernel_rfl))
 f338:=Tryz.func198.trans (congrArg some (by kernel_rfl))
 t0:=Tryz.underlying0
 a0:=Tryz.isAgg0
 z0:=Tryz.sizeOf0
 v0:=Tryz.zeroValue0
 t2:=Tryz.underlying2
 a2:=Tryz.isAgg2
 z2:=Tryz.sizeOf2
 v2:=Tryz.zeroValue2
 t3:=Tryz.underlying3
 a3:=Tryz.isAgg3
 z3:=Tryz.sizeOf3
 v3:=Tryz.zeroValue3
 t4:=Tryz.underlying4
 a4:=Tryz.isAgg4
 z4:=Tryz.sizeOf4
 v4:=Tryz.zeroValue4
 t5:=Tryz.underlying5
 a5:=Tryz.isAgg5
 z5:=Tryz.sizeOf5
 v5:=Tryz.zeroValue5
 t9:=Tryz.underlying9
 a9:=Tryz.isAgg9
 z9:=Tryz.sizeOf9
 v9:=Tryz.zeroValue9
 t20:=Tryz.underlying20
 a20:=Tryz.isAgg20
 z20:=Tryz.sizeOf20
 v20:=Tryz.zeroValue20
 t21:=Tryz.underlying21
 a21:=Tryz.isAgg21
 z21:=Tryz.sizeOf21
 v21:=Tryz.zeroValue21
 t37:=Tryz.underlying22
 a37:=Tryz.isAgg22
 z37:=Tryz.sizeOf22
 v37:=Tryz.zeroValue22
 t46:=Tryz.underlying188
 a46:=Tryz.isAgg188
 z46:=Tryz.sizeOf188
 v46:=Tryz.zeroValue188
 t51:=Tryz.underlying202
 a51:=Tryz.isAgg202
 z51:=Tryz.sizeOf202
 v51:=Tryz.zeroValue202
 t53:=Tryz.underlying205
 a53:=Tryz.isAgg205
 z53:=Tryz.sizeOf205
 v53:=Tryz.zeroValue205
 t75:=Tryz.underlying171
 a75:=Tryz.isAgg171
 z75:=Tryz.sizeOf171
 v75:=Tryz.zeroValue171
 t76:=Tryz.underlying172
 a76:=Tryz.isAgg172
 z76:=Tryz.sizeOf172
 v76:=Tryz.zeroValue172
 t85:=Tryz.underlying190
 a85:=Tryz.isAgg190
 z85:=Tryz.sizeOf190
 v85:=Tryz.zeroValue190
 t127:=Tryz.underlying186
 a127:=Tryz.isAgg186
 z127:=Tryz.sizeOf186
 v127:=Tryz.zeroValue186
 t143:=Tryz.underlying213
 a143:=Tryz.isAgg213
 z143:=Tryz.sizeOf213
 v143:=Tryz.zeroValue213
 t145:=Tryz.underlying215
 a145:=Tryz.isAgg215
 z145:=Tryz.sizeOf215
 v145:=Tryz.zeroValue215
 t167:=Tryz.underlying189
 a167:=Tryz.isAgg189
 z167:=Tryz.sizeOf189
 v167:=Tryz.zeroValue189
 t168:=Tryz.underlying192
 a168:=Tryz.isAgg192
 z168:=Tryz.sizeOf192
 v168:=Tryz.zeroValue192
 t171:=Tryz.underlying216
 a171:=Tryz.isAgg216
 z171:=Tryz.sizeOf216
 v171:=Tryz.zeroValue216
 t173:=Tryz.underlying219
 a173:=Tryz.isAgg219
 z173:=Tryz.sizeOf219
 v173:=Tryz.zeroValue219
 t175:=Tryz.underlying206
 a175:=Tryz.isAgg206
 z175:=Tryz.sizeOf206
 v175:=Tryz.zeroValue206
 t210:=Tryz.underlying209
 a210:=Tryz.isAgg209
 z210:=Tryz.sizeOf209
 v210:=Tryz.zeroValue209
 t212:=Tryz.underlying222
 a212:=Tryz.isAgg222
 z212:=Tryz.sizeOf222
 v212:=Tryz.zeroValue222
 t213:=Tryz.underlying223
 a213:=Tryz.isAgg223
 z213:=Tryz.sizeOf223
 t232:=Tryz.underlying226
 a232:=Tryz.isAgg226
 z232:=Tryz.sizeOf226
 v232:=Tryz.zeroValue226
 t233:=Tryz.underlying227
 a233:=Tryz.isAgg227
 z233:=Tryz.sizeOf227
 v233:=Tryz.zeroValue227
 g15:=by kernel_rfl
 g16:=by kernel_rfl
 g17:=by kernel_rfl
 g18:=by kernel_rfl
 g19:=by kernel_rfl
 t80:=Tryz.underlying178
 a80:=Tryz.isAgg178
 z80:=Tryz.sizeOf178
 v80:=Tryz.zeroValue178
 i0:=by kernel_rfl
 i2:=by kernel_rfl
 i3:=by kernel_rfl
 i4:=by kernel_rfl
 i5:=by kernel_rfl
 i9:=by kernel_rfl
 i20:=by kernel_rfl
 i21:=by kernel_rfl
 i37:=by kernel_rfl
 i46:=by kernel_rfl
 i51:=by kernel_rfl
 i53:=by kernel_rfl
 i75:=by kernel_rfl
 i76:=by kernel_rfl
 i80:=by kernel_rfl
 i85:=by kernel_rfl
 i127:=by kernel_rfl
 i143:=by kernel_rfl
 i145:=by kernel_rfl
 i167:=by kernel_rfl
 i168:=by kernel_rfl
 i171:=by kernel_rfl
 i173:=by kernel_rfl
 i175:=by kernel_rfl
 i210:=by kernel_rfl
 i212:=by kernel_rfl
 i232:=by kernel_rfl
 i233:=by kernel_rfl
 m15:=by kernel_rfl
 m16:=by kernel_rfl
 m17:=by kernel_rfl
 m18:=by kernel_rfl
 m19:=by kernel_rfl
 c0:=by kernel_rfl
 c2:=by kernel_rfl
 c3:=by kernel_rfl
 c4:=by kernel_rfl
 c5:=by kernel_rfl
 c9:=by kernel_rfl
 c20:=by kernel_rfl
 c21:=by kernel_rfl
 c37:=by kernel_rfl
 c46:=by kernel_rfl
 c51:=by kernel_rfl
 c53:=by kernel_rfl
 c75:=by kernel_rfl
 c76:=by kernel_rfl
 c80:=by kernel_rfl
 c85:=by kernel_rfl
 c127:=by kernel_rfl
 c143:=by kernel_rfl
 c145:=by kernel_rfl
 c167:=by kernel_rfl
 c168:=by kernel_rfl
 c171:=by kernel_rfl
 c173:=by kernel_rfl
 c175:=by kernel_rfl
 c210:=by kernel_rfl
 c212:=by kernel_rfl
 c213:=by kernel_rfl
 c232:=by kernel_rfl
 c233:=by kernel_rfl }
open Go.RowKit in
theorem Tryz.strconv_Atoi_err_var (s : ByteArray) (hl : s.size ≤ 18) (h : Lib.atoi s.data.toList = none) (tp : TypeId) (p : Value) (w : World) (hvar : w.var? Tryz.prog "strconv.ErrSyntax" = some #[.iface tp p]) :
  Calls Tryz.prog 146 #[.string s] w fun e w'=>∃N,e= .returned (.tuple #[.int .i64 0, .iface 192 (.pointer (some ⟨N,0,none⟩))])∧w.heap.size≤N∧w'.heap[N]?=some (.cells #[.string ⟨#[65,116,111,105]⟩, .string s, .iface tp p] 209 (0,0))∧Below w.heap.size w w':=Any.strconv_Atoi_err_var Tryz.adS s hl h tp p w hvar
def Tryz.TH:Go.Shelf.Ren:=⟨fun |146=>90 |221=>122 |268=>143 |138=>144 |143=>145 |195=>157 |197=>158 |218=>159 |219=>160 |260=>167 |217=>168 |225=>169 |224=>170 |267=>171 |266=>180 |314=>181 |n=>n,fun |9=>9 |31=>23 |3=>3 |4=>4 |0=>0 |105=>182 |21=>21 |5=>5 |46=>188 |119=>198 |139=>201 |138=>200 |146=>203 |51=>202 |n=>n,fun |1=>0 |3=>1 |4=>2 |n=>n⟩
theorem Tryz.af1:Go.Proofs.Lays.n146 Tryz.prog Tryz.TH:= {
 mixed:=by kernel_rfl
 f138:=Tryz.func144.trans (congrArg some (by kernel_rfl))
 f143:=Tryz.func145.trans (congrArg some (by kernel_rfl))
 f146:=Tryz.func90.trans (congrArg some (by kernel_rfl))
 f195:=Tryz.func157.trans (congrArg some (by kernel_rfl))
 f197:=Tryz.func158.trans (congrArg some (by kernel_rfl))
 f217:=Tryz.func168.trans (congrArg some (by kernel_rfl))
 f218:=Tryz.func159.trans (congrArg some (by kernel_rfl))
 f219:=Tryz.func160.trans (congrArg some (by kernel_rfl))
 f221:=Tryz.func122.trans (congrArg some (by kernel_rfl))
 f224:=Tryz.func170.trans (congrArg some (by kernel_rfl))
 f225:=Tryz.func169.trans (congrArg some (by kernel_rfl))
 f260:=Tryz.func167.trans (congrArg some (by kernel_rfl))
 f266:=Tryz.func180.trans (congrArg some (by kernel_rfl))
 f267:=Tryz.func171.trans (congrArg some (by kernel_rfl))
 f268:=Tryz.func143.trans (congrArg some (by kernel_rfl))
 f314:=Tryz.func181.trans (congrArg some (by kernel_rfl))
 t0:=Tryz.underlying0
 a0:=Tryz.isAgg0
 z0:=Tryz.sizeOf0
 v0:=Tryz.zeroValue0
 t3:=Tryz.underlying3
 a3:=Tryz.isAgg3
 z3:=Tryz.sizeOf3
 v3:=Tryz.zeroValue3
 t4:=Tryz.underlying4
 a4:=Tryz.isAgg4
 z4:=Tryz.sizeOf4
 v4:=Tryz.zeroValue4
 t5:=Tryz.underlying5
 a5:=Tryz.isAgg5
 z5:=Tryz.sizeOf5
 v5:=Tryz.zeroValue5
 t9:=Tryz.underlying9
 a9:=Tryz.isAgg9
 z9:=Tryz.sizeOf9
 v9:=Tryz.zeroValue9
 t21:=Tryz.underlying21
 a21:=Tryz.isAgg21
 z21:=Tryz.sizeOf21
 v21:=Tryz.zeroValue21
 t31:=Tryz.underlying23
 a31:=Tryz.isAgg23
 z31:=Tryz.sizeOf23
 v31:=Tryz.zeroValue23
 t46:=Tryz.underlying188
 a46:=Tryz.isAgg188
 z46:=Tryz.sizeOf188
 v46:=Tryz.zeroValue188
 t51:=Tryz.underlying202
 a51:=Tryz.isAgg202
 z51:=Tryz.sizeOf202
 v51:=Tryz.zeroValue202
 t105:=Tryz.underlying182
 a105:=Tryz.isAgg182
 z105:=Tryz.sizeOf182
 v105:=Tryz.zeroValue182
 t119:=Tryz.underlying198
 a119:=Tryz.isAgg198
 z119:=Tryz.sizeOf198
 t138:=Tryz.underlying200
 a138:=Tryz.isAgg200
 z138:=Tryz.sizeOf200
 v138:=Tryz.zeroValue200
 t139:=Tryz.underlying201
 a139:=Tryz.isAgg201
 z139:=Tryz.sizeOf201
 v139:=Tryz.zeroValue201
 t146:=Tryz.underlying203
 a146:=Tryz.isAgg203
 z146:=Tryz.sizeOf203
 v146:=Tryz.zeroValue203
 g1:=by kernel_rfl
 g3:=by kernel_rfl
 g4:=by kernel_rfl }
open Go.RowKit Go.Lib in
theorem Tryz.strings_Split (s sep:ByteArray) (m:Int) (w:World) (hs:s.size < 4294967281) (hm:w.cell? ⟨0,0,none⟩=some (.int .i64 m)) (h1:1≤sep.size):
  Calls Tryz.prog 90 #[.string s, .string sep] w fun e w'=>
   e= .returned (.slice (some ⟨w.heap.size,0,none⟩) (Lib.countB s sep+1) (Lib.countB s sep+1))∧w'=w.alloc (.cells ((Lib.splitB sep 0 (Lib.countB s sep) s).map Value.string).toArray 9):=Any.strings_Split Tryz.af1 (by kernel_rfl) s sep m w hs hm h1
end Go.Proofs
namespace Go.Proofs.YtbfgjadbfjkcdaaGreatDoor
namespace GL
open Go.RowKit
def OZ (T:a7) (W w':World):a7:=fun b=>if b < W.heap.size then T b else match w'.heap[b]? with
 |some (.cells cs e fr)=>some (.ro cs e fr)
 |_=>none
theorem zF {T:a7} {W w':World} {b:Nat} (h:b < W.heap.size):OZ T W w' b=T b:=by unfold OZ;rw [if_pos h]
theorem adE {T:a7} {W w':World} {b:Nat} (h:W.heap.size≤b) {cs:Array Value} {e:TypeId} {fr:Nat×Nat} (hb:w'.heap[b]?=some (.cells cs e fr)):OZ T W w' b=some (.ro cs e fr):=by
 unfold OZ;rw [if_neg (by omega),hb]
theorem W7 {W w':World} {T:a7} {β:Nat→Nat} (hT:WT T W) (hN:UY T) (hB:Below W.heap.size W w'):aaK W T β 0 (OZ T W w') w' where
 typed:=fun b k hb=>by
  by_cases h:b < W.heap.size
  ·rw [zF h] at hb
   exact BK.sw (hT b k hb) (hB.block b h)
  ·unfold OZ at hb
   rw [if_neg h] at hb
   split at hb
   ·rename_i cs e fr hc;cases hb;exact hc
   ·cases hb
 aiX:= {
  no:=fun b ek n cs hb=>by
   by_cases h:b < W.heap.size
   ·rw [zF h] at hb;exact hN.no b ek n cs hb
   ·unfold OZ at hb
    rw [if_neg h] at hb
    split at hb<;>cases hb
  qF:=fun g hg=>by
   obtain ⟨cs,e,fr,h1,h2⟩:=hN.qF g hg
   exact ⟨cs,e,fr,by rw [zF (BK.lt (hT _ _ h1))];exact h1,h2⟩ }
 new:=fun b hb=>zF hb
 frame:=fun b hb _ _=>hB.block b hb
 gG:=hB.size
 os:=hB.os
 tape:=hB.tape
 output:=hB.output
theorem Has.lib {f:FuncId} {A:List AP} {pre:APs.Ty A→Prop} {r:APs.Ty A→AV} (hE:Enters Tryz.prog f) (qd:∀x,(r x).boxes=[]∧(r x).od=true)
  (h:∀x,pre x→∀(W:World) (T:a7) (β:Nat→Nat) (vs:List Value),WT T W→UY T→rZ T β (APs.iS A x) vs→Calls Tryz.prog f vs.toArray W fun e w'=>∃v,e= .returned v∧Below W.heap.size W w'∧(r x).rel (OZ T W w') β v):Has Tryz.prog f (YD A pre r):=by
 refine ⟨fun x y hp=>?_,hE⟩
 intro W T β vs hT hN cV hbx cg
 refine (h x hp W T β vs hT hN cV).mono fun e w' ⟨v,he,hB,hr⟩=>?_
 refine ⟨v,r x,[],OZ T W w',β,he,⟨(),trivial,rfl,rfl,rfl⟩,hr,⟨by rw [(qd x).1];simp,(qd x).2⟩,W7 hT hN hB,?_⟩
 exact { len:=Nat.le_refl _,same:=fun i hi=>rfl,at_:=fun i av hi _=>by simp at hi,inj:=fun i j av av' hi _ _ _ _=>by simp at hi }
theorem below_freeze (W w:World) (h:Below W.heap.size W w) (a:Addr) (n:Nat) (ha:W.heap.size≤a.block):Below W.heap.size W (w.freeze a n) where
 os:=by simp only [World.freeze];split<;>exact h.os
 tape:=by simp only [World.freeze];split<;>exact h.tape
 output:=by simp only [World.freeze];split<;>exact h.output
 size:=by
  simp only [World.freeze]
  split
  ·exact h.size
  ·simp only [Array.size_modify];exact h.size
 block:=fun k hk=>by
  simp only [World.freeze]
  split
  ·exact h.block k hk
  ·simp only [Array.getElem?_modify]
   rw [if_neg (by omega)]
   exact h.block k hk
theorem UT (W:World) (e:TypeId) (s:ByteArray):Below W.heap.size W (Lib.bytesWorld W e s):=
 below_freeze W _ ((Below.refl _ _).drew.alloc (Nat.le_refl _) _) _ _ (Nat.le_refl _)
theorem YK (W:World) (n:Nat) (os:Array Obj):Below W.heap.size W (Go.Sort.grow (W.drewN n) os) where
 os:=rfl
 tape:=rfl
 output:=rfl
 size:=by show W.heap.size≤(W.heap++os).size;simp
 block:=fun k hk=>by
  show (W.heap++os)[k]?=_
  exact Array.getElem?_append_left hk
theorem PR {T:a7} {W:World} (hT:WT T W) (hN:UY T) {g:Nat} {p:Array Value→Prop} (h:(g,p)∈uB):∃cs e fr,W.heap[g]?=some (.cells cs e fr)∧p cs:=by
 obtain ⟨cs,e,fr,h1,h2⟩:=hN.qF _ h
 exact ⟨cs,e,fr,hT _ _ h1,h2⟩
def iT (s:ByteArray):Int×Bool:=match Lib.atoi s.data.toList with
 |some n=>(n,true)
 |none=>(0,false)
def YI:Con:=YD [.s .str] (fun s=>s.size≤18) fun s=>.t [.s (.int (iT s).1), .s (.er (iT s).2)]
theorem ahN:Has Tryz.prog 146 YI:=by
 refine Has.lib ⟨_,Tryz.func146,by rfl,by decide⟩ (fun x=>⟨rfl,rfl⟩) fun (s:ByteArray) (hp:s.size≤18) W T β vs hT hN cV=>?_
 obtain ⟨v,rfl⟩:∃v,vs=[v]:=by
  match vs,cV with
  |[v],_=>exact ⟨v,rfl⟩
  |[],h=>exact h.elim
  |_::_::_,h=>exact h.2.elim
 have hv:v= .string s:=cV.1
 subst hv
 cases ha:Lib.atoi s.data.toList with
 |some n=>
  refine (Tryz.strconv_Atoi s n hp ha W).mono ?_
  rintro e w' ⟨rfl,t,rfl⟩
  refine ⟨_,rfl,UT W _ t,?_⟩
  have e1:iT s=(n,true):=by unfold iT;rw [ha]
  show AV.rel _ _ (.t [.s (.int (iT s).1), .s (.er (iT s).2)]) _
  rw [e1]
  exact ⟨_,rfl,rfl,rfl,trivial⟩
 |none=>
  obtain ⟨cs,e,fr,h1,tp,p,rfl⟩:=PR hT hN (g:=3) (p:=fun cs=>∃t v,cs= #[.iface t v]) (by unfold uB;simp)
  have hvar : W.var? Tryz.prog "strconv.ErrSyntax" = some #[.iface tp p] := by
   have hg : Tryz.prog.globalNamed "strconv.ErrSyntax" = some 3 := by kernel_rfl
   simp [World.var?,hg,h1]
  refine (Tryz.strconv_Atoi_err_var s hp ha tp p W hvar).mono ?_
  rintro e w' ⟨N,rfl,_,_,hB⟩
  refine ⟨_,rfl,hB,?_⟩
  have e1:iT s=(0,false):=by unfold iT;rw [ha]
  show AV.rel _ _ (.t [.s (.int (iT s).1), .s (.er (iT s).2)]) _
  rw [e1]
  exact ⟨_,rfl,rfl,⟨_,_,rfl⟩,trivial⟩
def aee (n:Int):ByteArray:=⟨(Lib.itoa n).toArray⟩
def YG:Con:=YD [.s .int] (fun n=>gD≤n∧n≤imax) fun n=>.s (.str (aee n))
theorem ahM:Has Tryz.prog 163 YG:=by
 refine Has.lib ⟨_,Tryz.func163,by rfl,by decide⟩ (fun x=>⟨rfl,rfl⟩) fun (n:Int) (hp:gD≤n∧n≤imax) W T β vs hT hN cV=>?_
 obtain ⟨v,rfl⟩:∃v,vs=[v]:=by
  match vs,cV with
  |[v],_=>exact ⟨v,rfl⟩
  |[],h=>exact h.elim
  |_::_::_,h=>exact h.2.elim
 have hv:v= .int .i64 n:=cV.1
 subst hv
 obtain ⟨cs,e,fr,h1,rfl⟩:=PR hT hN (g:=5) (p:=fun cs=>cs=(Lib.pow10Tab.map fun z=>Value.int .u64 z).toArray) (by unfold uB;simp)
 have hvar : Lib.TabIs Tryz.prog W "internal/strconv.uint64pow10" .u64 Lib.pow10Tab := by
  have hg : Tryz.prog.globalNamed "internal/strconv.uint64pow10" = some 5 := by kernel_rfl
  simp [Lib.TabIs,World.var?,hg,h1]
 refine (Tryz.strconv_Itoa n hp.1 hp.2 W hvar).mono ?_
 rintro e w' ⟨rfl,k,os,rfl⟩
 exact ⟨_,rfl,YK W k os,rfl⟩
theorem I6:∀l:List ByteArray,flat [.str 4096] l=l.map Value.string
 |[]=>rfl
 |x::l=>by rw [iL,I6 l];rfl
def gU (s sep:ByteArray):List ByteArray:=Lib.splitB sep 0 (Lib.countB s sep) s
def iy:Con:=YD [.s .str, .s .str] (fun (s,sep)=>s.size≤1000000∧1≤sep.size) fun (s,sep)=>.s (.vw aa (gU s sep))
theorem FF:Has Tryz.prog 90 iy:=by
 refine Has.lib ⟨_,Tryz.func90,by rfl,by decide⟩ (fun x=>⟨rfl,rfl⟩) fun (x:ByteArray×ByteArray) (hp:x.1.size≤1000000∧1≤x.2.size) W T β vs hT hN cV=>?_
 obtain ⟨s,sep⟩:=x
 obtain ⟨v,u,rfl⟩:∃v u,vs=[v,u]:=by
  match vs,cV with
  |[v,u],_=>exact ⟨v,u,rfl⟩
  |[],h=>exact h.elim
  |[_],h=>exact h.2.elim
  |_::_::_::_,h=>exact h.2.2.elim
 have hv:v= .string s:=cV.1
 have hu:u= .string sep:=cV.2.1
 subst hv;subst hu
 obtain ⟨cs,e,fr,h1,m,rfl⟩:=PR hT hN (g:=0) (p:=fun cs=>∃n,cs= #[.int .i64 n]) (by unfold uB;simp)
 have hm:W.cell? ⟨0,0,none⟩=some (.int .i64 m):=by rw [rh h1];rfl
 have hp1:s.size≤1000000:=hp.1
 have hs:s.size < 4294967281:=by omega
 refine (Tryz.strings_Split s sep m W hs hm hp.2).mono ?_
 rintro e w' ⟨rfl,rfl⟩
 have hlen:(gU s sep).length=Lib.countB s sep+1:=Lib.splitB_all sep hp.2 0 _ s rfl
 refine ⟨_,rfl,(Below.refl _ _).alloc (Nat.le_refl _) _,?_⟩
 show (SV.vw aa (gU s sep)).rel _ β _
 refine .inr ⟨W.heap.size,0,Lib.countB s sep+1,_,_,_,?_,?_,adE (Nat.le_refl _) (fr:=(0,0)) (Array.getElem?_push_size ..),?_⟩
 ·rw [hlen]
 ·rw [hlen];exact Nat.le_refl _
 ·rw [I6]
  intro j v hj
  simpa [gU] using hj
def zO (sep:ByteArray) (l:List ByteArray):ByteArray:=⟨(Lib.join (l.map (·.data.toList)) sep.data.toList).toArray⟩
def kT:Con:=YD [.s (.vz aa), .s .str] (fun (l,sep)=>(Lib.join (l.map (·.data.toList)) sep.data.toList).length≤1000000∧l.length≤1000000) fun (l,sep)=>.s (.str (zO sep l))
theorem PM:Has Tryz.prog 127 kT:=by
 refine Has.lib ⟨_,Tryz.func127,by rfl,by decide⟩ (fun x=>⟨rfl,rfl⟩) fun (x:List ByteArray×ByteArray) (hp:(Lib.join (x.1.map (·.data.toList)) x.2.data.toList).length≤1000000∧x.1.length≤1000000) W T β vs hT hN cV=>?_
 obtain ⟨l,sep⟩:=x
 obtain ⟨v,u,rfl⟩:∃v u,vs=[v,u]:=by
  match vs,cV with
  |[v,u],_=>exact ⟨v,u,rfl⟩
  |[],h=>exact h.elim
  |[_],h=>exact h.2.elim
  |_::_::_::_,h=>exact h.2.2.elim
 have hu:u= .string sep:=cV.2.1
 subst hu
 have hv:(SV.vz aa l).rel T β v:=cV.1
 rcases hv with ⟨rfl,p,cap,rfl⟩ |⟨b,o,cap,cs,rfl,hlc,dA,hw⟩
 ·refine (Tryz.strings_Join_none p cap sep W).mono ?_
  rintro e w' ⟨rfl,rfl⟩
  exact ⟨_,rfl,Below.refl _ _,rfl⟩
 ·obtain ⟨te,fr,hc⟩:=E6 hT dA
  have hp1:(Lib.join (l.map (·.data.toList)) sep.data.toList).length≤1000000:=hp.1
  have hp2:l.length≤1000000:=hp.2
  refine (Tryz.strings_Join b o cap l sep W (fun j x hj=>?_) ?_ (by omega) hlc (by omega)).mono ?_
  ·rw [rh hc]
   refine hw j _ ?_
   rw [I6,List.getElem?_map,hj];rfl
  ·rcases Nat.lt_or_ge b W.heap.size with h |h
   ·exact h
   ·rw [Array.getElem?_eq_none h] at hc;cases hc
  ·rintro e w' ⟨rfl,hB⟩
   exact ⟨_,rfl,hB,rfl⟩
end GL
end Go.Proofs.YtbfgjadbfjkcdaaGreatDoor
