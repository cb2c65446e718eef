/- A drawn law returns true for every code (its row lists package variables, tied by the card): part 36. -/
import Derived.Test.YtkgpljpmdkflmaaGreatDoorPbi
set_option maxHeartbeats 20000000
set_option maxRecDepth 100000
set_option linter.all false
namespace Go.Proofs.YtkgpljpmdkflmaaGreatDoor
namespace GL
def fsA (b0 b1 b2 b3 b4:Nat) (F:fp):List SV:=[.xs b0 1 0 F.1.rows.length,.xs b1 1 0 F.1.refs.length,.xs b2 1 0 F.1.last.length,.int F.1.cj,.xs b3 5 0 F.1.gone.length,.int F.1.ca,.xs b4 5 0 F.1.dead.length,.q F.1.same,.int F.2.1.1,.int F.2.1.2.1,.int F.2.1.2.2.1,.int F.2.1.2.2.2.1,.int F.2.1.2.2.2.2.1,.int F.2.1.2.2.2.2.2.1,.int F.2.1.2.2.2.2.2.2,.q F.2.2]
def fsO (F:fp):List AV:=[.a (fsA 1 2 3 4 5 F),.rs ab F.1.rows,.rs ag F.1.refs,.rs ag F.1.last,.rs ae F.1.gone,.rs ae F.1.dead]
def fsP (F:fp):List AV:=[.a (fsA 1 2 3 6 7 F),.rs ab F.1.rows,.rs ag F.1.refs,.rs ag F.1.last,.zz,.zz,.rs ae F.1.gone,.rs ae F.1.dead]
def fg (F:fp) (id:Int):Prop:=F.1.rd∧F.2.1.ok
def pI (F:fp) (id:Int):AV:=.o (ndA (cL F.1 F.2.1 id).1)
def rK (F:fp) (id:Int):List AV:=fsO F
def dF:ct where
 A:=[.b 0,.s .int]
 B:=[.a [.xb 1 ab,.xb 2 ag,.xb 3 ag,.int,.xb 4 ae,.int,.xb 5 ae,.bool,.int,.int,.int,.int,.int,.int,.int,.bool],.r ab,.r ag,.r ag,.r ae,.r ae]
 pre:=fun x b=>fsW b∧fg (oI b) (x.2)
 r:=fun x b _=>pI (oI b) (x.2)
 o:=fun x b _=>rK (oI b) (x.2)
 ro:=true
theorem jX:Has Tryz.prog 224 dF:=by
 refine Has.fu zT zF zF (l:=[(257,jG)]) ⟨vC,aa⟩ Tryz.func224 ?_
 rintro⟨_,(id:Int)⟩ ⟨⟨(Fm1:Nat),(Fm2:Nat),(Fm3:Nat),(aM:Int),(Fm4:Nat),(aW:Int),(Fm5:Nat),(aV:Bool),(aU:Int),(aS:Int),(aR:Int),(aQ:Int),(aP:Int),(aO:Int),(aN:Int),(aX:Bool)⟩,(aE:List ByteArray),(aF:List Int),(aG:List Int),(aH:List Pt),(aI:List Pt)⟩ ⟨⟨(jB:Fm1=List.length aE),(jA:Fm2=List.length aF),(jz:Fm3=List.length aG),(jy:Fm4=List.length aH),(jx:Fm5=List.length aI)⟩,(hp:fg ((aE,aF,aG,aM,aH,aW,aI,aV),(aU,aS,aR,aQ,aP,aO,aN),aX) id)⟩
 subst jB jA jz jy jx
 show vc _ _ _ _ (entry [.s (.bp 0 0),.int id] [.a [.xs 1 1 0 aE.length,.xs 2 1 0 aF.length,.xs 3 1 0 aG.length,.int aM,.xs 4 5 0 aH.length,.int aW,.xs 5 5 0 aI.length,.q aV,.int aU,.int aS,.int aR,.int aQ,.int aP,.int aO,.int aN,.q aX],.rs ab aE,.rs ag aF,.rs ag aG,.rs ae aH,.rs ae aI]) _
 obtain⟨dG,cH⟩:=hp
 refine⟨Sq0,Sq8,rfl,Sq8,Sq9,rfl,Sq9,Sq10,rfl,[.s 10,.b 0],Sq11,rfl,Sq0,Sq12,rfl,Sq12,Sq13,rfl,Sq13,Sq14,rfl,[.s 14,.b 0],Sq15,rfl,Sq1,Sq16,rfl,[.s 11,.s 15,.s 16,.b 1,.b 2,.b 3,.b 4,.b 5],Sq17,rfl,⟨⟨⟨⟨?_,?_⟩,⟨?_,?_⟩,⟨?_,?_⟩,aa,⟨?_,?_⟩,aa,⟨?_,?_⟩,aa,aa⟩,⟨aa,aa,aa,aa,aa,aa,aa,aa⟩,aa,aa⟩,?_,?_⟩,?_,fun x1 w2=>⟨Sq17,Sq7,rfl,Sq7,Sq18,rfl,Sq7,Sq19,rfl,[.b 1005],[.s 5,.b 1005],rfl,[.s 5,.s 18,.b 1005],[.b 1005],rfl,Sq19,Sq6,rfl,?_⟩⟩
 all_goals first|refine aw ?_|refine ax ?_|exact a8|(dsimp only [jG,kL];omega)|exact a7|exact dG|exact cH|skip
 refine⟨[],[],_,_,_,rfl,az,(),aa,?_,?_,rfl⟩
 ·(show _=pI ((aE,aF,aG,aM,aH,aW,aI,aV),(aU,aS,aR,aQ,aP,aO,aN),aX) id);unfold pI;first|rfl
 ·(show _=rK ((aE,aF,aG,aM,aH,aW,aI,aV),(aU,aS,aR,aQ,aP,aO,aN),aX) id);unfold rK;first|rfl
def fm (F:fp) (id:Int):Prop:=F.1.rd∧F.2.1.ok
def lH (F:fp) (id:Int):AV:=.s (.vw aK (bK F.1 (a6 F id)).1)
def mT (F:fp) (id:Int):List AV:=fsO F
def dU:ct where
 A:=[.b 0,.s .int]
 B:=[.a [.xb 1 ab,.xb 2 ag,.xb 3 ag,.int,.xb 4 ae,.int,.xb 5 ae,.bool,.int,.int,.int,.int,.int,.int,.int,.bool],.r ab,.r ag,.r ag,.r ae,.r ae]
 pre:=fun x b=>fsW b∧fm (oI b) (x.2)
 r:=fun x b _=>lH (oI b) (x.2)
 o:=fun x b _=>mT (oI b) (x.2)
 ro:=true
theorem kG:Has Tryz.prog 218 dU:=by
 refine Has.fu zT zF zF (l:=[(224,dF),(254,iE)]) ⟨jX,tJ,aa⟩ Tryz.func218 ?_
 rintro⟨_,(id:Int)⟩ ⟨⟨(Fm1:Nat),(Fm2:Nat),(Fm3:Nat),(aM:Int),(Fm4:Nat),(aW:Int),(Fm5:Nat),(aV:Bool),(aU:Int),(aS:Int),(aR:Int),(aQ:Int),(aP:Int),(aO:Int),(aN:Int),(aX:Bool)⟩,(aE:List ByteArray),(aF:List Int),(aG:List Int),(aH:List Pt),(aI:List Pt)⟩ ⟨⟨(jB:Fm1=List.length aE),(jA:Fm2=List.length aF),(jz:Fm3=List.length aG),(jy:Fm4=List.length aH),(jx:Fm5=List.length aI)⟩,(hp:fm ((aE,aF,aG,aM,aH,aW,aI,aV),(aU,aS,aR,aQ,aP,aO,aN),aX) id)⟩
 subst jB jA jz jy jx
 show vc _ _ _ _ (entry [.s (.bp 0 0),.int id] [.a [.xs 1 1 0 aE.length,.xs 2 1 0 aF.length,.xs 3 1 0 aG.length,.int aM,.xs 4 5 0 aH.length,.int aW,.xs 5 5 0 aI.length,.q aV,.int aU,.int aS,.int aR,.int aQ,.int aP,.int aO,.int aN,.q aX],.rs ab aE,.rs ag aF,.rs ag aG,.rs ae aH,.rs ae aI]) _
 obtain⟨dG,cH⟩:=hp
 refine⟨Sq0,Sq8,rfl,Sq8,Sq9,rfl,Sq9,Sq10,rfl,[.s 10,.b 0],Sq11,rfl,Sq0,Sq12,rfl,Sq1,Sq13,rfl,[.s 12,.s 13,.b 0,.b 1,.b 2,.b 3,.b 4,.b 5],Sq14,rfl,⟨⟨⟨aa,aa,aa⟩,⟨?_,?_,?_,?_,?_⟩,?_,?_⟩,fun x1 w2=>?_⟩,?_,fun x3 w4=>⟨[.s 11,.s 14,.b 1,.b 2,.b 3,.b 4,.b 5],Sq15,rfl,⟨⟨⟨⟨?_,?_⟩,⟨?_,?_⟩,⟨?_,?_⟩,aa,⟨?_,?_⟩,aa,⟨?_,?_⟩,aa,aa⟩,⟨aa,aa,aa,aa,aa,aa,aa,aa,aa,aa,aa⟩,aa⟩,?_⟩,?_,fun x5 w6=>⟨Sq15,Sq7,rfl,Sq7,Sq16,rfl,Sq7,Sq17,rfl,Sq16,Sq5,rfl,Sq17,Sq6,rfl,?_⟩⟩⟩
 all_goals first|refine aw ?_|refine ax ?_|exact a8|(dsimp only [dF,fg,iE,jn,oI];omega)|exact a7|exact dG|exact cH|exact⟨dG,cH⟩|exact fun _ _=>rfl|skip
 refine⟨[],[],_,_,_,rfl,az,(),aa,?_,?_,rfl⟩
 ·(show _=lH ((aE,aF,aG,aM,aH,aW,aI,aV),(aU,aS,aR,aQ,aP,aO,aN),aX) id);unfold lH;first|rfl
 ·(show _=mT ((aE,aF,aG,aM,aH,aW,aI,aV),(aU,aS,aR,aQ,aP,aO,aN),aX) id);unfold mT;first|rfl
def gI (F:fp) (id:Int) (n:fv):Prop:=F.1.wg 1046000∧F.2.1.ok∧0≤id∧id≤15
def kj (F:fp) (id:Int) (n:fv):AV:=.t []
def lY (F:fp) (id:Int) (n:fv):List AV:=fsP (nb F id n)
def fk:ct where
 A:=[.b 0,.s .int,.a [.int,.int,.int,.int,.int,.int,.int,.int,.int,.int]]
 B:=[.a [.xb 1 ab,.xb 2 ag,.xb 3 ag,.int,.xb 4 ae,.int,.xb 5 ae,.bool,.int,.int,.int,.int,.int,.int,.int,.bool],.r ab,.r ag,.r ag,.r ae,.r ae]
 pre:=fun x b=>fsW b∧gI (oI b) (x.2.1) (x.2.2)
 r:=fun x b _=>kj (oI b) (x.2.1) (x.2.2)
 o:=fun x b _=>lY (oI b) (x.2.1) (x.2.2)
 nf:=2
 mv:=true
theorem oa:Has Tryz.prog 219 fk:=by
 refine Has.ofZ zT zF zF (l:=[(127,vW)]) ⟨S7,aa⟩ Tryz.func219 ?_
 rintro⟨_,(id:Int),⟨(n1:Int),(n2:Int),(n3:Int),(n4:Int),(n5:Int),(n6:Int),(n7:Int),(n8:Int),(n9:Int),(cx:Int)⟩⟩ ⟨⟨(Fm1:Nat),(Fm2:Nat),(Fm3:Nat),(aM:Int),(Fm4:Nat),(aW:Int),(Fm5:Nat),(aV:Bool),(aU:Int),(aS:Int),(aR:Int),(aQ:Int),(aP:Int),(aO:Int),(aN:Int),(aX:Bool)⟩,(aE:List ByteArray),(aF:List Int),(aG:List Int),(aH:List Pt),(aI:List Pt)⟩ ⟨⟨(jB:Fm1=List.length aE),(jA:Fm2=List.length aF),(jz:Fm3=List.length aG),(jy:Fm4=List.length aH),(jx:Fm5=List.length aI)⟩,(hp:gI ((aE,aF,aG,aM,aH,aW,aI,aV),(aU,aS,aR,aQ,aP,aO,aN),aX) id (n1,n2,n3,n4,n5,n6,n7,n8,n9,cx))⟩
 subst jB jA jz jy jx
 show vc _ _ _ _ (entry [.s (.bp 0 0),.int id,.a [.int n1,.int n2,.int n3,.int n4,.int n5,.int n6,.int n7,.int n8,.int n9,.int cx]] [.a [.xs 1 1 0 aE.length,.xs 2 1 0 aF.length,.xs 3 1 0 aG.length,.int aM,.xs 4 5 0 aH.length,.int aW,.xs 5 5 0 aI.length,.q aV,.int aU,.int aS,.int aR,.int aQ,.int aP,.int aO,.int aN,.q aX],.rs ab aE,.rs ag aF,.rs ag aG,.rs ae aH,.rs ae aI]) _
 obtain⟨lu,cH,hi0,mu⟩:=hp
 refine⟨fun w1=>?_,fun w2=>⟨Sq0,Sq14,rfl,Sq14,Sq15,rfl,Sq15,Sq16,rfl,[.s 16,.b 0],Sq17,rfl,Sq0,Sq18,rfl,Sq18,Sq19,rfl,Sq19,Sq20,rfl,[.s 20,.b 0],Sq21,rfl,Sq1,Sq22,rfl,[.s 5,.b 1005],Sq23,rfl,[.s 17,.s 21,.s 22,.s 23,.b 1,.b 2,.b 3,.b 4,.b 5,.b 1000250001,.b 1000250000],[.s 24,.b 1,.b 2,.b 3,.b 4,.b 5,.b 1000250000,.b 1000250001],rfl,⟨⟨⟨aa,aa,aa,aa,aa,aa,aa,aa,aa⟩,⟨aa,aa,aa,aa,aa,aa,aa,aa⟩,aa,⟨aa,aa,aa,aa,aa,aa,aa,aa,aa,aa,aa⟩,aa⟩,⟨?_,?_,?_,?_,?_⟩,?_,?_,?_,?_⟩,?_,fun x3 w4=>⟨Sq24,Sq13,rfl,Sq13,Sq25,rfl,Sq13,Sq26,rfl,Sq13,Sq27,rfl,[.b 1006],[.s 6,.b 1006],rfl,[.b 1007],[.s 7,.b 1007],rfl,[.s 6,.s 25,.b 1006],[.b 1006],rfl,[.s 7,.s 26,.b 1007],[.b 1007],rfl,Sq27,Sq8,rfl,?_⟩⟩⟩
 all_goals first|refine aw ?_|refine ax ?_|exact a8|(dsimp only [vW,tl,gQ];omega)|exact a7|exact lu|exact cH|skip
 ·refine⟨[4,5],[],_,_,_,rfl,az,(),0,aa,?_,?_,rfl⟩
  ·(show _=kj ((aE,aF,aG,aM,aH,aW,aI,aV),(aU,aS,aR,aQ,aP,aO,aN),aX) id (n1,n2,n3,n4,n5,n6,n7,n8,n9,cx));unfold kj;first|(rw [PQ (F:=((aE,aF,aG,aM,aH,aW,aI,aV),(aU,aS,aR,aQ,aP,aO,aN),aX)) w1];rfl)|rfl
  ·(show _=lY ((aE,aF,aG,aM,aH,aW,aI,aV),(aU,aS,aR,aQ,aP,aO,aN),aX) id (n1,n2,n3,n4,n5,n6,n7,n8,n9,cx));unfold lY;first|(rw [PQ (F:=((aE,aF,aG,aM,aH,aW,aI,aV),(aU,aS,aR,aQ,aP,aO,aN),aX)) w1];rfl)|rfl
 ·refine⟨[1000250000,1000250001],[],_,_,_,rfl,az,(),0,aa,?_,?_,rfl⟩
  ·(show _=kj ((aE,aF,aG,aM,aH,aW,aI,aV),(aU,aS,aR,aQ,aP,aO,aN),aX) id (n1,n2,n3,n4,n5,n6,n7,n8,n9,cx));unfold kj;first|(rw [PO (F:=((aE,aF,aG,aM,aH,aW,aI,aV),(aU,aS,aR,aQ,aP,aO,aN),aX)) w2];rfl)|rfl
  ·(show _=lY ((aE,aF,aG,aM,aH,aW,aI,aV),(aU,aS,aR,aQ,aP,aO,aN),aX) id (n1,n2,n3,n4,n5,n6,n7,n8,n9,cx));unfold lY;first|(rw [PO (F:=((aE,aF,aG,aM,aH,aW,aI,aV),(aU,aS,aR,aQ,aP,aO,aN),aX)) w2];rfl)|rfl
def iN (F:fp) (path:ByteArray):Prop:=F.1.rd∧F.2.1.ok∧path.size≤1000000
def dT (F:fp) (path:ByteArray):AV:=.t [.s (.int (dS F path).1),.s (.int (dS F path).2)]
def eu (F:fp) (path:ByteArray):List AV:=fsO F
def gM:ct where
 A:=[.b 0,.s .str]
 B:=[.a [.xb 1 ab,.xb 2 ag,.xb 3 ag,.int,.xb 4 ae,.int,.xb 5 ae,.bool,.int,.int,.int,.int,.int,.int,.int,.bool],.r ab,.r ag,.r ag,.r ae,.r ae]
 pre:=fun x b=>fsW b∧iN (oI b) (x.2)
 r:=fun x b _=>dT (oI b) (x.2)
 o:=fun x b _=>eu (oI b) (x.2)
 ro:=true
theorem rM:Has Tryz.prog 225 gM:=by
 refine Has.fu zT zF zF (l:=[(231,eR),(256,sK),(224,dF)]) ⟨mY,L8,jX,aa⟩ Tryz.func225 ?_
 rintro⟨_,(path:ByteArray)⟩ ⟨⟨(Fm1:Nat),(Fm2:Nat),(Fm3:Nat),(aM:Int),(Fm4:Nat),(aW:Int),(Fm5:Nat),(aV:Bool),(aU:Int),(aS:Int),(aR:Int),(aQ:Int),(aP:Int),(aO:Int),(aN:Int),(aX:Bool)⟩,(aE:List ByteArray),(aF:List Int),(aG:List Int),(aH:List Pt),(aI:List Pt)⟩ ⟨⟨(jB:Fm1=List.length aE),(jA:Fm2=List.length aF),(jz:Fm3=List.length aG),(jy:Fm4=List.length aH),(jx:Fm5=List.length aI)⟩,(hp:iN ((aE,aF,aG,aM,aH,aW,aI,aV),(aU,aS,aR,aQ,aP,aO,aN),aX) path)⟩
 subst jB jA jz jy jx
 show vc _ _ _ _ (entry [.s (.bp 0 0),.str path] [.a [.xs 1 1 0 aE.length,.xs 2 1 0 aF.length,.xs 3 1 0 aG.length,.int aM,.xs 4 5 0 aH.length,.int aW,.xs 5 5 0 aI.length,.q aV,.int aU,.int aS,.int aR,.int aQ,.int aP,.int aO,.int aN,.q aX],.rs ab aE,.rs ag aF,.rs ag aG,.rs ae aH,.rs ae aI]) _
 obtain⟨dG,cH,hps⟩:=hp
 have hnl:=qn (s:=path)
 have hln:(ob path).length≤1000000:=by rw [ZC0];omega
 refine⟨⟨⟨aa,aa⟩,?_⟩,fun x1 w2=>⟨fun w3=>?_,fun w4=>⟨Sq0,Sq13,rfl,Sq13,Sq14,rfl,Sq14,Sq15,rfl,[.s 15,.b 0],Sq16,rfl,Sq0,Sq17,rfl,Sq17,Sq18,rfl,Sq18,Sq19,rfl,[.s 19,.b 0],Sq20,rfl,Sq6,Sq21,rfl,Sq6,Sq22,rfl,Sq22,Sq23,rfl,Sq23,Sq24,rfl,⟨?_,?_⟩,[.s 21,.s 24],Sq25,rfl,⟨?_,?_,?_⟩,[.s 16,.s 20,.s 25,.b 1,.b 2,.b 3,.b 4,.b 5],Sq26,rfl,⟨⟨⟨⟨?_,?_⟩,⟨?_,?_⟩,⟨?_,?_⟩,aa,⟨?_,?_⟩,aa,⟨?_,?_⟩,aa,aa⟩,⟨aa,aa,aa,aa,aa,aa,aa,aa⟩,aa,aa⟩,?_,?_,?_⟩,?_,fun x5 w6=>⟨Sq26,Sq7,rfl,fun w7=>?_,fun w8=>⟨⟨⟨⟨aa,aa,aa⟩,⟨?_,?_,?_,?_,?_⟩,?_,?_⟩,fun x9 dy=>?_⟩,fun kB dK=>⟨fun iV=>?_,fun gP=>?_⟩⟩⟩⟩⟩⟩
 all_goals first|refine aw ?_|refine ax ?_|exact a8|(dsimp only [eR,fC,sK,q6,dF,fg,oI];omega)|exact a7|exact dG|exact cH|exact⟨dG,cH⟩|exact fun _ _=>rfl|skip
 ·have e:dS ((aE,aF,aG,aM,aH,aW,aI,aV),(aU,aS,aR,aQ,aP,aO,aN),aX) path=(0,3):=by unfold dS;rw [w3];rfl
  refine⟨[],[],_,_,_,rfl,az,(),aa,?_,?_,rfl⟩
  ·(show _=dT ((aE,aF,aG,aM,aH,aW,aI,aV),(aU,aS,aR,aQ,aP,aO,aN),aX) path);unfold dT;first|(rw [e];rfl)|rfl
  ·(show _=eu ((aE,aF,aG,aM,aH,aW,aI,aV),(aU,aS,aR,aQ,aP,aO,aN),aX) path);unfold eu;first|(rw [e];rfl)|rfl
 ·exact hln
 ·have e:dS ((aE,aF,aG,aM,aH,aW,aI,aV),(aU,aS,aR,aQ,aP,aO,aN),aX) path=(0,2):=by unfold dS plE;rw [w4,show decide (uP ((aE,aF,aG,aM,aH,aW,aI,aV),(aU,aS,aR,aQ,aP,aO,aN),aX).1 ((aE,aF,aG,aM,aH,aW,aI,aV),(aU,aS,aR,aQ,aP,aO,aN),aX).2.1 (ob path)<0)=true from w7];rfl
  refine⟨[],[],_,_,_,rfl,az,(),aa,?_,?_,rfl⟩
  ·(show _=dT ((aE,aF,aG,aM,aH,aW,aI,aV),(aU,aS,aR,aQ,aP,aO,aN),aX) path);unfold dT;first|(rw [e];rfl)|rfl
  ·(show _=eu ((aE,aF,aG,aM,aH,aW,aI,aV),(aU,aS,aR,aQ,aP,aO,aN),aX) path);unfold eu;first|(rw [e];rfl)|rfl
 ·have e:dS ((aE,aF,aG,aM,aH,aW,aI,aV),(aU,aS,aR,aQ,aP,aO,aN),aX) path=(0,4):=by unfold dS plE;rw [w4,show decide (uP ((aE,aF,aG,aM,aH,aW,aI,aV),(aU,aS,aR,aQ,aP,aO,aN),aX).1 ((aE,aF,aG,aM,aH,aW,aI,aV),(aU,aS,aR,aQ,aP,aO,aN),aX).2.1 (ob path)<0)=false from w8,show decide ((a6 ((aE,aF,aG,aM,aH,aW,aI,aV),(aU,aS,aR,aQ,aP,aO,aN),aX) (uP ((aE,aF,aG,aM,aH,aW,aI,aV),(aU,aS,aR,aQ,aP,aO,aN),aX).1 ((aE,aF,aG,aM,aH,aW,aI,aV),(aU,aS,aR,aQ,aP,aO,aN),aX).2.1 (ob path))).1≠2)=true from iV];rfl
  refine⟨[],[],_,_,_,rfl,az,(),aa,?_,?_,rfl⟩
  ·(show _=dT ((aE,aF,aG,aM,aH,aW,aI,aV),(aU,aS,aR,aQ,aP,aO,aN),aX) path);unfold dT;first|(rw [e];rfl)|rfl
  ·(show _=eu ((aE,aF,aG,aM,aH,aW,aI,aV),(aU,aS,aR,aQ,aP,aO,aN),aX) path);unfold eu;first|(rw [e];rfl)|rfl
 ·have e:dS ((aE,aF,aG,aM,aH,aW,aI,aV),(aU,aS,aR,aQ,aP,aO,aN),aX) path=(uP ((aE,aF,aG,aM,aH,aW,aI,aV),(aU,aS,aR,aQ,aP,aO,aN),aX).1 ((aE,aF,aG,aM,aH,aW,aI,aV),(aU,aS,aR,aQ,aP,aO,aN),aX).2.1 (ob path),0):=by unfold dS plE;rw [w4,show decide (uP ((aE,aF,aG,aM,aH,aW,aI,aV),(aU,aS,aR,aQ,aP,aO,aN),aX).1 ((aE,aF,aG,aM,aH,aW,aI,aV),(aU,aS,aR,aQ,aP,aO,aN),aX).2.1 (ob path)<0)=false from w8,show decide ((a6 ((aE,aF,aG,aM,aH,aW,aI,aV),(aU,aS,aR,aQ,aP,aO,aN),aX) (uP ((aE,aF,aG,aM,aH,aW,aI,aV),(aU,aS,aR,aQ,aP,aO,aN),aX).1 ((aE,aF,aG,aM,aH,aW,aI,aV),(aU,aS,aR,aQ,aP,aO,aN),aX).2.1 (ob path))).1≠2)=false from gP];rfl
  refine⟨[],[],_,_,_,rfl,az,(),aa,?_,?_,rfl⟩
  ·(show _=dT ((aE,aF,aG,aM,aH,aW,aI,aV),(aU,aS,aR,aQ,aP,aO,aN),aX) path);unfold dT;first|(rw [e];rfl)|rfl
  ·(show _=eu ((aE,aF,aG,aM,aH,aW,aI,aV),(aU,aS,aR,aQ,aP,aO,aN),aX) path);unfold eu;first|(rw [e];rfl)|rfl
def fW (F:fp) (path:ByteArray):Prop:=F.1.rd∧F.2.1.ok∧path.size≤1000000
def pJ (F:fp) (path:ByteArray):AV:=.s (.int (bC F path))
def rL (F:fp) (path:ByteArray):List AV:=fsO F
def eC:ct where
 A:=[.b 0,.s .str]
 B:=[.a [.xb 1 ab,.xb 2 ag,.xb 3 ag,.int,.xb 4 ae,.int,.xb 5 ae,.bool,.int,.int,.int,.int,.int,.int,.int,.bool],.r ab,.r ag,.r ag,.r ae,.r ae]
 pre:=fun x b=>fsW b∧fW (oI b) (x.2)
 r:=fun x b _=>pJ (oI b) (x.2)
 o:=fun x b _=>rL (oI b) (x.2)
 ro:=true
theorem l8:Has Tryz.prog 223 eC:=by
 refine Has.fu zT zF zF (l:=[(231,eR),(256,sK)]) ⟨mY,L8,aa⟩ Tryz.func223 ?_
 rintro⟨_,(path:ByteArray)⟩ ⟨⟨(Fm1:Nat),(Fm2:Nat),(Fm3:Nat),(aM:Int),(Fm4:Nat),(aW:Int),(Fm5:Nat),(aV:Bool),(aU:Int),(aS:Int),(aR:Int),(aQ:Int),(aP:Int),(aO:Int),(aN:Int),(aX:Bool)⟩,(aE:List ByteArray),(aF:List Int),(aG:List Int),(aH:List Pt),(aI:List Pt)⟩ ⟨⟨(jB:Fm1=List.length aE),(jA:Fm2=List.length aF),(jz:Fm3=List.length aG),(jy:Fm4=List.length aH),(jx:Fm5=List.length aI)⟩,(hp:fW ((aE,aF,aG,aM,aH,aW,aI,aV),(aU,aS,aR,aQ,aP,aO,aN),aX) path)⟩
 subst jB jA jz jy jx
 show vc _ _ _ _ (entry [.s (.bp 0 0),.str path] [.a [.xs 1 1 0 aE.length,.xs 2 1 0 aF.length,.xs 3 1 0 aG.length,.int aM,.xs 4 5 0 aH.length,.int aW,.xs 5 5 0 aI.length,.q aV,.int aU,.int aS,.int aR,.int aQ,.int aP,.int aO,.int aN,.q aX],.rs ab aE,.rs ag aF,.rs ag aG,.rs ae aH,.rs ae aI]) _
 obtain⟨dG,cH,hps⟩:=hp
 have hnl:=qn (s:=path)
 refine⟨Sq0,Sq5,rfl,Sq5,Sq6,rfl,Sq6,Sq7,rfl,[.s 7,.b 0],Sq8,rfl,Sq0,Sq9,rfl,Sq9,Sq10,rfl,Sq10,Sq11,rfl,[.s 11,.b 0],Sq12,rfl,Sq1,Sq13,rfl,Sq13,Sq14,rfl,⟨⟨aa,aa⟩,?_⟩,?_,fun x1 w2=>⟨[.s 8,.s 12,.s 14,.b 1,.b 2,.b 3,.b 4,.b 5],Sq15,rfl,⟨⟨⟨⟨?_,?_⟩,⟨?_,?_⟩,⟨?_,?_⟩,aa,⟨?_,?_⟩,aa,⟨?_,?_⟩,aa,aa⟩,⟨aa,aa,aa,aa,aa,aa,aa,aa⟩,aa,aa⟩,?_,?_,?_⟩,?_,fun x3 w4=>⟨Sq15,Sq4,rfl,?_⟩⟩⟩
 all_goals first|refine aw ?_|refine ax ?_|exact a8|(dsimp only [eR,fC,sK,q6];omega)|exact a7|exact dG|exact cH|exact ZB0 hnl hps|skip
 refine⟨[],[],_,_,_,rfl,az,(),aa,?_,?_,rfl⟩
 ·(show _=pJ ((aE,aF,aG,aM,aH,aW,aI,aV),(aU,aS,aR,aQ,aP,aO,aN),aX) path);unfold pJ;first|rfl
 ·(show _=rL ((aE,aF,aG,aM,aH,aW,aI,aV),(aU,aS,aR,aQ,aP,aO,aN),aX) path);unfold rL;first|rfl
def kD (F:fp) (path:ByteArray):Prop:=F.1.rd∧F.2.1.ok∧path.size≤1000000
def ft (F:fp) (path:ByteArray):AV:=.t [.s (.int (dw F path).1),.s (.int (dw F path).2)]
def fX (F:fp) (path:ByteArray):List AV:=fsO F
def kt:ct where
 A:=[.b 0,.s .str]
 B:=[.a [.xb 1 ab,.xb 2 ag,.xb 3 ag,.int,.xb 4 ae,.int,.xb 5 ae,.bool,.int,.int,.int,.int,.int,.int,.int,.bool],.r ab,.r ag,.r ag,.r ae,.r ae]
 pre:=fun x b=>fsW b∧kD (oI b) (x.2)
 r:=fun x b _=>ft (oI b) (x.2)
 o:=fun x b _=>fX (oI b) (x.2)
 ro:=true
theorem xD:Has Tryz.prog 217 kt:=by
 refine Has.fu zT zF zF (l:=[(225,gM),(223,eC)]) ⟨rM,l8,aa⟩ Tryz.func217 ?_
 rintro⟨_,(path:ByteArray)⟩ ⟨⟨(Fm1:Nat),(Fm2:Nat),(Fm3:Nat),(aM:Int),(Fm4:Nat),(aW:Int),(Fm5:Nat),(aV:Bool),(aU:Int),(aS:Int),(aR:Int),(aQ:Int),(aP:Int),(aO:Int),(aN:Int),(aX:Bool)⟩,(aE:List ByteArray),(aF:List Int),(aG:List Int),(aH:List Pt),(aI:List Pt)⟩ ⟨⟨(jB:Fm1=List.length aE),(jA:Fm2=List.length aF),(jz:Fm3=List.length aG),(jy:Fm4=List.length aH),(jx:Fm5=List.length aI)⟩,(hp:kD ((aE,aF,aG,aM,aH,aW,aI,aV),(aU,aS,aR,aQ,aP,aO,aN),aX) path)⟩
 subst jB jA jz jy jx
 show vc _ _ _ _ (entry [.s (.bp 0 0),.str path] [.a [.xs 1 1 0 aE.length,.xs 2 1 0 aF.length,.xs 3 1 0 aG.length,.int aM,.xs 4 5 0 aH.length,.int aW,.xs 5 5 0 aI.length,.q aV,.int aU,.int aS,.int aR,.int aQ,.int aP,.int aO,.int aN,.q aX],.rs ab aE,.rs ag aF,.rs ag aG,.rs ae aH,.rs ae aI]) _
 obtain⟨dG,cH,hps⟩:=hp
 refine⟨⟨⟨⟨aa,aa,aa⟩,⟨?_,?_,?_,?_,?_⟩,?_,?_,?_⟩,fun x1 w2=>?_⟩,fun x3 w4=>⟨fun w5=>?_,fun w6=>⟨⟨⟨⟨aa,aa,aa⟩,⟨?_,?_,?_,?_,?_⟩,?_,?_,?_⟩,fun x7 w8=>?_⟩,fun x9 dy=>⟨fun kC=>?_,fun dK=>?_⟩⟩⟩⟩
 all_goals first|refine aw ?_|refine ax ?_|exact a8|(dsimp only [gM,iN,eC,fW,oI];omega)|exact a7|exact dG|exact cH|exact⟨dG,cH,hps⟩|exact fun _ _=>rfl|skip
 ·have e:dw ((aE,aF,aG,aM,aH,aW,aI,aV),(aU,aS,aR,aQ,aP,aO,aN),aX) path=(0,(dS ((aE,aF,aG,aM,aH,aW,aI,aV),(aU,aS,aR,aQ,aP,aO,aN),aX) path).2):=by unfold dw;rw [show decide ((dS ((aE,aF,aG,aM,aH,aW,aI,aV),(aU,aS,aR,aQ,aP,aO,aN),aX) path).2>0)=true from w5];rfl
  refine⟨[],[],_,_,_,rfl,az,(),aa,?_,?_,rfl⟩
  ·(show _=ft ((aE,aF,aG,aM,aH,aW,aI,aV),(aU,aS,aR,aQ,aP,aO,aN),aX) path);unfold ft;first|(rw [e];rfl)|rfl
  ·(show _=fX ((aE,aF,aG,aM,aH,aW,aI,aV),(aU,aS,aR,aQ,aP,aO,aN),aX) path);unfold fX;first|(rw [e];rfl)|rfl
 ·have e:dw ((aE,aF,aG,aM,aH,aW,aI,aV),(aU,aS,aR,aQ,aP,aO,aN),aX) path=(0,3):=by unfold dw;rw [show decide ((dS ((aE,aF,aG,aM,aH,aW,aI,aV),(aU,aS,aR,aQ,aP,aO,aN),aX) path).2>0)=false from w6,show decide (bC ((aE,aF,aG,aM,aH,aW,aI,aV),(aU,aS,aR,aQ,aP,aO,aN),aX) path≥0)=true from kC];rfl
  refine⟨[],[],_,_,_,rfl,az,(),aa,?_,?_,rfl⟩
  ·(show _=ft ((aE,aF,aG,aM,aH,aW,aI,aV),(aU,aS,aR,aQ,aP,aO,aN),aX) path);unfold ft;first|(rw [e];rfl)|rfl
  ·(show _=fX ((aE,aF,aG,aM,aH,aW,aI,aV),(aU,aS,aR,aQ,aP,aO,aN),aX) path);unfold fX;first|(rw [e];rfl)|rfl
 ·have e:dw ((aE,aF,aG,aM,aH,aW,aI,aV),(aU,aS,aR,aQ,aP,aO,aN),aX) path=((dS ((aE,aF,aG,aM,aH,aW,aI,aV),(aU,aS,aR,aQ,aP,aO,aN),aX) path).1,0):=by unfold dw;rw [show decide ((dS ((aE,aF,aG,aM,aH,aW,aI,aV),(aU,aS,aR,aQ,aP,aO,aN),aX) path).2>0)=false from w6,show decide (bC ((aE,aF,aG,aM,aH,aW,aI,aV),(aU,aS,aR,aQ,aP,aO,aN),aX) path≥0)=false from dK];rfl
  refine⟨[],[],_,_,_,rfl,az,(),aa,?_,?_,rfl⟩
  ·(show _=ft ((aE,aF,aG,aM,aH,aW,aI,aV),(aU,aS,aR,aQ,aP,aO,aN),aX) path);unfold ft;first|(rw [e];rfl)|rfl
  ·(show _=fX ((aE,aF,aG,aM,aH,aW,aI,aV),(aU,aS,aR,aQ,aP,aO,aN),aX) path);unfold fX;first|(rw [e];rfl)|rfl
end GL
namespace GL
attribute [local irreducible] dH cL en nb aY aC
def gm (F:fp) (id:Int) (l:List eV):Prop:=F.1.wg 1040000∧F.2.1.ok∧(0≤id∧id≤15)∧KL l
def iL (F:fp) (id:Int) (l:List eV):AV:=.t []
def jt (F:fp) (id:Int) (l:List eV):List AV:=fsP (ck F id l)
def fa:ct where
 A:=[.b 0,.s .int,.s (.vz aK)]
 B:=[.a [.xb 1 ab,.xb 2 ag,.xb 3 ag,.int,.xb 4 ae,.int,.xb 5 ae,.bool,.int,.int,.int,.int,.int,.int,.int,.bool],.r ab,.r ag,.r ag,.r ae,.r ae]
 pre:=fun x b=>fsW b∧gm (oI b) (x.2.1) (x.2.2)
 r:=fun x b _=>iL (oI b) (x.2.1) (x.2.2)
 o:=fun x b _=>jt (oI b) (x.2.1) (x.2.2)
 nf:=2
 mv:=true
theorem nz:Has Tryz.prog 220 fa:=by
 refine Has.ofZ zT zF zF (l:=[(224,dF),(255,qB),(78,PT),(219,fk)]) ⟨jX,II,afQ,oa,aa⟩ Tryz.func220 ?_
 rintro⟨_,(id:Int),(l:List eV)⟩ ⟨⟨(Fm1:Nat),(Fm2:Nat),(Fm3:Nat),(aM:Int),(Fm4:Nat),(aW:Int),(Fm5:Nat),(aV:Bool),(aU:Int),(aS:Int),(aR:Int),(aQ:Int),(aP:Int),(aO:Int),(aN:Int),(aX:Bool)⟩,(aE:List ByteArray),(aF:List Int),(aG:List Int),(aH:List Pt),(aI:List Pt)⟩ ⟨⟨(jB:Fm1=List.length aE),(jA:Fm2=List.length aF),(jz:Fm3=List.length aG),(jy:Fm4=List.length aH),(jx:Fm5=List.length aI)⟩,(hp:gm ((aE,aF,aG,aM,aH,aW,aI,aV),(aU,aS,aR,aQ,aP,aO,aN),aX) id l)⟩
 subst jB jA jz jy jx
 show vc _ _ _ _ (entry [.s (.bp 0 0),.int id,.s (.vz aK l)] [.a [.xs 1 1 0 aE.length,.xs 2 1 0 aF.length,.xs 3 1 0 aG.length,.int aM,.xs 4 5 0 aH.length,.int aW,.xs 5 5 0 aI.length,.q aV,.int aU,.int aS,.int aR,.int aQ,.int aP,.int aO,.int aN,.q aX],.rs ab aE,.rs ag aF,.rs ag aG,.rs ae aH,.rs ae aI]) _
 obtain⟨lu,cH,⟨hi0,mu⟩,hl⟩:=hp
 have hl:KL l:=hl
 have lu:ay.wg ((aE,aF,aG,aM,aH,aW,aI,aV),(aU,aS,aR,aQ,aP,aO,aN),aX).1 1040000:=lu
 have cH:bf.ok ((aE,aF,aG,aM,aH,aW,aI,aV),(aU,aS,aR,aQ,aP,aO,aN),aX).2.1:=cH
 have hbo:=UF (text:=en l) lu (ph ((aE,aF,aG,aM,aH,aW,aI,aV),(aU,aS,aR,aQ,aP,aO,aN),aX).1 ((aE,aF,aG,aM,aH,aW,aI,aV),(aU,aS,aR,aQ,aP,aO,aN),aX).2.1 id)
 refine⟨fun w1=>?_,fun w2=>⟨⟨⟨⟨aa,aa,aa⟩,⟨?_,?_,?_,?_,?_⟩,?_,?_⟩,fun x3 w4=>?_⟩,fun x5 w6=>⟨⟨⟨aa,aa⟩,?_⟩,fun x7 w8=>⟨Sq0,Sq21,rfl,Sq21,Sq22,rfl,Sq22,Sq23,rfl,[.s 23,.b 0],Sq24,rfl,Sq6,Sq25,rfl,[.s 25,.b 1006],Sq26,rfl,Sq7,Sq27,rfl,[.s 24,.s 26,.s 27,.b 1,.b 2,.b 3,.b 4,.b 5,.b 1000290001,.b 1000290000],[.s 28,.b 1,.b 2,.b 3,.b 4,.b 5,.b 1000290000,.b 1000290001],rfl,⟨⟨⟨aa,aa,aa,aa,aa,aa,aa,aa,aa⟩,⟨aa,aa,aa,aa,aa,aa,aa,aa⟩,aa,aa⟩,⟨?_,?_,?_,?_,?_⟩,?_,?_,?_⟩,?_,fun x9 dy=>⟨Sq28,Sq20,rfl,Sq20,Sq29,rfl,Sq20,Sq30,rfl,Sq20,Sq31,rfl,[.b 1008],[.s 8,.b 1008],rfl,[.b 1009],[.s 9,.b 1009],rfl,[.s 8,.s 29,.b 1008],[.b 1008],rfl,[.s 9,.s 30,.b 1009],[.b 1009],rfl,Sq31,Sq10,rfl,⟨⟨aa,aa,⟨aa,aa,aa,aa,aa,aa,aa,aa,aa,aa,aa⟩,aa⟩,⟨?_,?_,?_,?_,?_⟩,?_,?_,?_,?_⟩,fun kB dK=>?_⟩⟩⟩⟩⟩
 all_goals first|refine aw ?_|refine ax ?_|exact a8|(dsimp only [dF,fg,qB,qb,PT,B1,fk,gI,gQ,oI];omega)|exact a7|exact lu.wf.rd|exact cH|exact⟨lu.wf.rd,cH⟩|exact fun _ _=>rfl|exact hl.p|exact ph _ _ _|exact hl.size|skip
 ·refine⟨[4,5],[],_,_,_,rfl,az,(),0,aa,?_,?_,rfl⟩
  ·(show _=iL ((aE,aF,aG,aM,aH,aW,aI,aV),(aU,aS,aR,aQ,aP,aO,aN),aX) id l);unfold iL;first|(rw [JI (F:=((aE,aF,aG,aM,aH,aW,aI,aV),(aU,aS,aR,aQ,aP,aO,aN),aX)) w1];rfl)|rfl
  ·(show _=jt ((aE,aF,aG,aM,aH,aW,aI,aV),(aU,aS,aR,aQ,aP,aO,aN),aX) id l);unfold jt;first|(rw [JI (F:=((aE,aF,aG,aM,aH,aW,aI,aV),(aU,aS,aR,aQ,aP,aO,aN),aX)) w1];rfl)|rfl
 ·exact lu.mono (by decide)
 ·exact hbo.1.mono (by decide)
 ·refine⟨[1000500000,1000500001],[],_,_,_,rfl,az,(),0,aa,?_,?_,rfl⟩
  ·(show _=iL ((aE,aF,aG,aM,aH,aW,aI,aV),(aU,aS,aR,aQ,aP,aO,aN),aX) id l);unfold iL;first|(exact Eq.trans rfl (congrArg fsP (JH (F:=((aE,aF,aG,aM,aH,aW,aI,aV),(aU,aS,aR,aQ,aP,aO,aN),aX)) (id:=id) (l:=l) w2).symm))|rfl
  ·(show _=jt ((aE,aF,aG,aM,aH,aW,aI,aV),(aU,aS,aR,aQ,aP,aO,aN),aX) id l);unfold jt;first|(exact Eq.trans rfl (congrArg fsP (JH (F:=((aE,aF,aG,aM,aH,aW,aI,aV),(aU,aS,aR,aQ,aP,aO,aN),aX)) (id:=id) (l:=l) w2).symm))|rfl
end GL
namespace GL
attribute [local irreducible] dH cL bK nb aY aC ck dw dS bC uP xt qU bD
def p8 (F:fp) (path:ByteArray) (kind:Int):Prop:=cZ F 1000000∧F.2.2=false∧path.size≤1000
def HA (F:fp) (path:ByteArray) (kind:Int) (z:fp×Int):Prop:=∀n,cZ F n→cZ z.1 (n+300)
def GQ (F:fp) (path:ByteArray) (kind:Int) (z:fp×Int):AV:=.s (.int z.2)
def KQ (F:fp) (path:ByteArray) (kind:Int) (z:fp×Int):List AV:=fsP z.1
def ud:ct where
 A:=[.b 0,.s .str,.s .int]
 B:=[.a [.xb 1 ab,.xb 2 ag,.xb 3 ag,.int,.xb 4 ae,.int,.xb 5 ae,.bool,.int,.int,.int,.int,.int,.int,.int,.bool],.r ab,.r ag,.r ag,.r ae,.r ae]
 pre:=fun x b=>fsW b∧p8 (oI b) (x.2.1) (x.2.2)
 α:=fun _ _=>fp×Int
 φ:=fun x b z=>HA (oI b) (x.2.1) (x.2.2) z
 r:=fun x b z=>GQ (oI b) (x.2.1) (x.2.2) z
 o:=fun x b z=>KQ (oI b) (x.2.1) (x.2.2) z
 nf:=2
 mv:=true
theorem PA:Has Tryz.prog 182 ud:=by
 refine Has.ofZ zT zF zF (l:=[(217,kt),(87,DD),(218,dU),(219,fk),(222,j8),(221,qC),(220,fa)]) ⟨xD,abG,kG,oa,wV,IJ,nz,aa⟩ Tryz.func182 ?_
 rintro⟨_,(path:ByteArray),(kind:Int)⟩ ⟨⟨(Fm1:Nat),(Fm2:Nat),(Fm3:Nat),(aM:Int),(Fm4:Nat),(aW:Int),(Fm5:Nat),(aV:Bool),(aU:Int),(aS:Int),(aR:Int),(aQ:Int),(aP:Int),(aO:Int),(aN:Int),(aX:Bool)⟩,(aE:List ByteArray),(aF:List Int),(aG:List Int),(aH:List Pt),(aI:List Pt)⟩ ⟨⟨(jB:Fm1=List.length aE),(jA:Fm2=List.length aF),(jz:Fm3=List.length aG),(jy:Fm4=List.length aH),(jx:Fm5=List.length aI)⟩,(hp:p8 ((aE,aF,aG,aM,aH,aW,aI,aV),(aU,aS,aR,aQ,aP,aO,aN),aX) path kind)⟩
 subst jB jA jz jy jx
 show vc _ _ _ _ (entry [.s (.bp 0 0),.str path,.int kind] [.a [.xs 1 1 0 aE.length,.xs 2 1 0 aF.length,.xs 3 1 0 aG.length,.int aM,.xs 4 5 0 aH.length,.int aW,.xs 5 5 0 aI.length,.q aV,.int aU,.int aS,.int aR,.int aQ,.int aP,.int aO,.int aN,.q aX],.rs ab aE,.rs ag aF,.rs ag aG,.rs ae aH,.rs ae aI]) _
 obtain⟨hF,hfu,hps⟩:=hp
 have hF:cZ ((aE,aF,aG,aM,aH,aW,aI,aV),(aU,aS,aR,aQ,aP,aO,aN),aX) 1000000:=hF
 have dG:ay.rd ((aE,aF,aG,aM,aH,aW,aI,aV),(aU,aS,aR,aQ,aP,aO,aN),aX).1:=hF.wg.wf.rd
 have cH:bf.ok ((aE,aF,aG,aM,aH,aW,aI,aV),(aU,aS,aR,aQ,aP,aO,aN),aX).2.1:=hF.ok
 have hp6:path.size≤1000000:=ZB0 hps (by decide)
 have h0:decide (xt ((aE,aF,aG,aM,aH,aW,aI,aV),(aU,aS,aR,aQ,aP,aO,aN),aX).1 ((aE,aF,aG,aM,aH,aW,aI,aV),(aU,aS,aR,aQ,aP,aO,aN),aX).2.1<0)=false→0≤xt ((aE,aF,aG,aM,aH,aW,aI,aV),(aU,aS,aR,aQ,aP,aO,aN),aX).1 ((aE,aF,aG,aM,aH,aW,aI,aV),(aU,aS,aR,aQ,aP,aO,aN),aX).2.1:=fun h=>ZG8.1 (aA h)
 have xG:decide (xt ((aE,aF,aG,aM,aH,aW,aI,aV),(aU,aS,aR,aQ,aP,aO,aN),aX).1 ((aE,aF,aG,aM,aH,aW,aI,aV),(aU,aS,aR,aQ,aP,aO,aN),aX).2.1<0)=false→xt ((aE,aF,aG,aM,aH,aW,aI,aV),(aU,aS,aR,aQ,aP,aO,aN),aX).1 ((aE,aF,aG,aM,aH,aW,aI,aV),(aU,aS,aR,aQ,aP,aO,aN),aX).2.1≤15:=fun h=>hF.free hfu (h0 h)
 have kg:decide ((dw ((aE,aF,aG,aM,aH,aW,aI,aV),(aU,aS,aR,aQ,aP,aO,aN),aX) path).2>0)=false→1≤(bD path).length∧0≤(dw ((aE,aF,aG,aM,aH,aW,aI,aV),(aU,aS,aR,aQ,aP,aO,aN),aX) path).1∧(dw ((aE,aF,aG,aM,aH,aW,aI,aV),(aU,aS,aR,aQ,aP,aO,aN),aX) path).1≤15:=MQ
 have hen:∀nd,(bK ((aE,aF,aG,aM,aH,aW,aI,aV),(aU,aS,aR,aQ,aP,aO,aN),aX).1 nd).1.length≤1000:=fun nd=>ZB0 (qx _ nd).len (by decide)
 have hmk:decide (xt ((aE,aF,aG,aM,aH,aW,aI,aV),(aU,aS,aR,aQ,aP,aO,aN),aX).1 ((aE,aF,aG,aM,aH,aW,aI,aV),(aU,aS,aR,aQ,aP,aO,aN),aX).2.1<0)=false→cZ (nb ((aE,aF,aG,aM,aH,aW,aI,aV),(aU,aS,aR,aQ,aP,aO,aN),aX) (xt ((aE,aF,aG,aM,aH,aW,aI,aV),(aU,aS,aR,aQ,aP,aO,aN),aX).1 ((aE,aF,aG,aM,aH,aW,aI,aV),(aU,aS,aR,aQ,aP,aO,aN),aX).2.1) (kind,1,0,nB)) 1000006:=fun h=>hF.make hfu (h0 h)
 have hew:decide ((dw ((aE,aF,aG,aM,aH,aW,aI,aV),(aU,aS,aR,aQ,aP,aO,aN),aX) path).2>0)=false→decide (xt ((aE,aF,aG,aM,aH,aW,aI,aV),(aU,aS,aR,aQ,aP,aO,aN),aX).1 ((aE,aF,aG,aM,aH,aW,aI,aV),(aU,aS,aR,aQ,aP,aO,aN),aX).2.1<0)=false→KL (qU (bK ((aE,aF,aG,aM,aH,aW,aI,aV),(aU,aS,aR,aQ,aP,aO,aN),aX).1 (a6 ((aE,aF,aG,aM,aH,aW,aI,aV),(aU,aS,aR,aQ,aP,aO,aN),aX) (dw ((aE,aF,aG,aM,aH,aW,aI,aV),(aU,aS,aR,aQ,aP,aO,aN),aX) path).1)).1 (dL path,xt ((aE,aF,aG,aM,aH,aW,aI,aV),(aU,aS,aR,aQ,aP,aO,aN),aX).1 ((aE,aF,aG,aM,aH,aW,aI,aV),(aU,aS,aR,aQ,aP,aO,aN),aX).2.1)):=fun h h2=>(qx _ _).add (ZB0 (KB (kg h).1) hps) ⟨h0 h2,ZE0 (xG h2) (by decide)⟩
 refine⟨⟨⟨⟨aa,aa,aa⟩,⟨?_,?_,?_,?_,?_⟩,?_,?_,?_⟩,fun x1 w2=>?_⟩,fun x3 w4=>⟨fun w5=>?_,fun w6=>⟨Sq0,Sq20,rfl,Sq20,Sq21,rfl,Sq21,Sq22,rfl,[.s 22,.b 0],Sq23,rfl,Sq0,Sq24,rfl,Sq24,Sq25,rfl,Sq25,Sq26,rfl,[.s 26,.b 0],Sq27,rfl,[.s 23,.s 27,.b 1,.b 2,.b 3,.b 4,.b 5],Sq28,rfl,⟨⟨⟨⟨?_,?_⟩,⟨?_,?_⟩,⟨?_,?_⟩,aa,⟨?_,?_⟩,aa,⟨?_,?_⟩,aa,aa⟩,⟨aa,aa,aa,aa,aa,aa,aa,aa⟩,aa⟩,?_,?_⟩,?_,fun x7 w8=>⟨Sq28,Sq9,rfl,⟨⟨⟨aa,aa,aa⟩,⟨?_,?_,?_,?_,?_⟩,?_,?_⟩,fun x9 dy=>?_⟩,fun kB dK=>⟨aa,fun iV=>?_,fun gP=>⟨fun qN=>?_,fun ki=>⟨⟨⟨aa,aa,⟨aa,aa,aa,aa,aa,aa,aa,aa,aa,aa,aa⟩,aa⟩,⟨?_,?_,?_,?_,?_⟩,?_,?_,?_,?_⟩,fun x17 rV=>⟨⟨⟨aa,aa⟩,?_,?_⟩,fun x19 uL=>⟨⟨⟨aa,⟨aa,aa,aa⟩,aa⟩,?_⟩,fun x21 A3=>⟨⟨⟨aa,aa,⟨?_,?_⟩,aa⟩,⟨?_,?_,?_,?_,?_⟩,?_,?_,⟨?_,?_⟩,?_⟩,fun x23 rU=>?_⟩⟩⟩⟩⟩⟩⟩⟩⟩⟩
 all_goals first|refine aw ?_|refine ax ?_|exact a8|(dsimp only [kt,kD,DD,vh,dU,fm,fk,gI,j8,lf,qC,qc,fa,gm,oI];omega)|exact a7|exact dG|exact cH|exact hp6|exact⟨dG,cH⟩|exact⟨dG,cH,hp6⟩|exact fun _ _=>rfl|exact hF.wg.mono (by decide)|exact h0 gP|exact xG gP|exact (kg w6).1|exact (kg w6).2.1|exact (kg w6).2.2|exact hen _|exact (hmk gP).wg.mono (by decide)|exact (hmk gP).ok|exact hew w6 gP|skip
 ·refine⟨[4,5],[],_,_,_,rfl,cg,(((aE,aF,aG,aM,aH,aW,aI,aV),(aU,aS,aR,aQ,aP,aO,aN),aX),(dw ((aE,aF,aG,aM,aH,aW,aI,aV),(aU,aS,aR,aQ,aP,aO,aN),aX) path).2),0,fun n h=>h.mono (by omega),rfl,rfl,rfl⟩
 ·refine⟨[4,5],[],_,_,_,rfl,cg,(((aE,aF,aG,aM,aH,aW,aI,aV),(aU,aS,aR,aQ,aP,aO,aN),aX),6),0,fun n h=>h.mono (by omega),rfl,rfl,rfl⟩
 ·refine⟨[4,5],[],_,_,_,rfl,cg,(((aE,aF,aG,aM,aH,aW,aI,aV),(aU,aS,aR,aQ,aP,aO,aN),aX),6),0,fun n h=>h.mono (by omega),rfl,rfl,rfl⟩
 ·refine⟨[1000530000,1000530001],[],_,_,_,rfl,cg,(ck (nb ((aE,aF,aG,aM,aH,aW,aI,aV),(aU,aS,aR,aQ,aP,aO,aN),aX) (xt ((aE,aF,aG,aM,aH,aW,aI,aV),(aU,aS,aR,aQ,aP,aO,aN),aX).1 ((aE,aF,aG,aM,aH,aW,aI,aV),(aU,aS,aR,aQ,aP,aO,aN),aX).2.1) (kind,1,0,nB)) (dw ((aE,aF,aG,aM,aH,aW,aI,aV),(aU,aS,aR,aQ,aP,aO,aN),aX) path).1 (qU (bK ((aE,aF,aG,aM,aH,aW,aI,aV),(aU,aS,aR,aQ,aP,aO,aN),aX).1 (a6 ((aE,aF,aG,aM,aH,aW,aI,aV),(aU,aS,aR,aQ,aP,aO,aN),aX) (dw ((aE,aF,aG,aM,aH,aW,aI,aV),(aU,aS,aR,aQ,aP,aO,aN),aX) path).1)).1 (dL path,xt ((aE,aF,aG,aM,aH,aW,aI,aV),(aU,aS,aR,aQ,aP,aO,aN),aX).1 ((aE,aF,aG,aM,aH,aW,aI,aV),(aU,aS,aR,aQ,aP,aO,aN),aX).2.1)),0),0,fun n h=>((h.make (kind:=kind) hfu (h0 gP)).sX (kg w6).2.1 (kg w6).2.2).1.mono (by omega),rfl,rfl,rfl⟩
end GL
namespace GL
attribute [local irreducible] dH cL bK nb aY aC ck dw dS bC uP xt qU bD nE jd cr ey lz
def mO (F:fp) (o:Opr):Prop:=cZ F 1000000∧F.2.2=false∧o.2.1.size≤1000∧0≤o.2.2.2.1∧o.2.2.2.1≤192∧o.2.2.2.2.size≤1000
def B5 (F:fp) (o:Opr) (z:fp×Int):Prop:=∀n,cZ F n→cZ z.1 (n+300)
def BH (F:fp) (o:Opr) (z:fp×Int):AV:=.s (.int z.2)
def ET (F:fp) (o:Opr) (z:fp×Int):List AV:=fsP z.1
def qA:ct where
 A:=[.b 0,.a [.int,.str,.str,.int,.str]]
 B:=[.a [.xb 1 ab,.xb 2 ag,.xb 3 ag,.int,.xb 4 ae,.int,.xb 5 ae,.bool,.int,.int,.int,.int,.int,.int,.int,.bool],.r ab,.r ag,.r ag,.r ae,.r ae]
 pre:=fun x b=>fsW b∧mO (oI b) (x.2)
 α:=fun _ _=>fp×Int
 φ:=fun x b z=>B5 (oI b) (x.2) z
 r:=fun x b z=>BH (oI b) (x.2) z
 o:=fun x b z=>ET (oI b) (x.2) z
 nf:=2
 mv:=true
theorem IH:Has Tryz.prog 186 qA:=by
 refine Has.ofZ zT zF zF (l:=[(223,eC),(224,dF),(132,yY),(230,J1),(219,fk)]) ⟨l8,jX,W3,adV,oa,aa⟩ Tryz.func186 ?_
 rintro⟨_,⟨(o1:Int),(o2:ByteArray),(o3:ByteArray),(o4:Int),(o5:ByteArray)⟩⟩ ⟨⟨(Fm1:Nat),(Fm2:Nat),(Fm3:Nat),(aM:Int),(Fm4:Nat),(aW:Int),(Fm5:Nat),(aV:Bool),(aU:Int),(aS:Int),(aR:Int),(aQ:Int),(aP:Int),(aO:Int),(aN:Int),(aX:Bool)⟩,(aE:List ByteArray),(aF:List Int),(aG:List Int),(aH:List Pt),(aI:List Pt)⟩ ⟨⟨(jB:Fm1=List.length aE),(jA:Fm2=List.length aF),(jz:Fm3=List.length aG),(jy:Fm4=List.length aH),(jx:Fm5=List.length aI)⟩,(hp:mO ((aE,aF,aG,aM,aH,aW,aI,aV),(aU,aS,aR,aQ,aP,aO,aN),aX) (o1,o2,o3,o4,o5))⟩
 subst jB jA jz jy jx
 show vc _ _ _ _ (entry [.s (.bp 0 0),.a [.int o1,.str o2,.str o3,.int o4,.str o5]] [.a [.xs 1 1 0 aE.length,.xs 2 1 0 aF.length,.xs 3 1 0 aG.length,.int aM,.xs 4 5 0 aH.length,.int aW,.xs 5 5 0 aI.length,.q aV,.int aU,.int aS,.int aR,.int aQ,.int aP,.int aO,.int aN,.q aX],.rs ab aE,.rs ag aF,.rs ag aG,.rs ae aH,.rs ae aI]) _
 obtain⟨hF,hfu,hps,ha0,ha1,htx⟩:=hp
 have hF:cZ ((aE,aF,aG,aM,aH,aW,aI,aV),(aU,aS,aR,aQ,aP,aO,aN),aX) 1000000:=hF
 have dG:ay.rd ((aE,aF,aG,aM,aH,aW,aI,aV),(aU,aS,aR,aQ,aP,aO,aN),aX).1:=hF.wg.wf.rd
 have cH:bf.ok ((aE,aF,aG,aM,aH,aW,aI,aV),(aU,aS,aR,aQ,aP,aO,aN),aX).2.1:=hF.ok
 have hp6:o2.size≤1000000:=ZB0 hps (by decide)
 have h0:decide (bC ((aE,aF,aG,aM,aH,aW,aI,aV),(aU,aS,aR,aQ,aP,aO,aN),aX) o2<0)=false→0≤bC ((aE,aF,aG,aM,aH,aW,aI,aV),(aU,aS,aR,aQ,aP,aO,aN),aX) o2:=fun h=>ZG8.1 (aA h)
 have xG:bC ((aE,aF,aG,aM,aH,aW,aI,aV),(aU,aS,aR,aQ,aP,aO,aN),aX) o2≤15:=(zk _ _).2
 have EW:decide ((a6 ((aE,aF,aG,aM,aH,aW,aI,aV),(aU,aS,aR,aQ,aP,aO,aN),aX) (bC ((aE,aF,aG,aM,aH,aW,aI,aV),(aU,aS,aR,aQ,aP,aO,aN),aX) o2)).1≠1)=false→(a6 ((aE,aF,aG,aM,aH,aW,aI,aV),(aU,aS,aR,aQ,aP,aO,aN),aX) (bC ((aE,aF,aG,aM,aH,aW,aI,aV),(aU,aS,aR,aQ,aP,aO,aN),aX) o2)).1=1:=fun h=>ZE9.1 (aA h)
 have uA:decide (bC ((aE,aF,aG,aM,aH,aW,aI,aV),(aU,aS,aR,aQ,aP,aO,aN),aX) o2<0)=false→decide ((a6 ((aE,aF,aG,aM,aH,aW,aI,aV),(aU,aS,aR,aQ,aP,aO,aN),aX) (bC ((aE,aF,aG,aM,aH,aW,aI,aV),(aU,aS,aR,aQ,aP,aO,aN),aX) o2)).1≠1)=false→cy (a6 ((aE,aF,aG,aM,aH,aW,aI,aV),(aU,aS,aR,aQ,aP,aO,aN),aX) (bC ((aE,aF,aG,aM,aH,aW,aI,aV),(aU,aS,aR,aQ,aP,aO,aN),aX) o2))=true:=fun h h2=>(hF.file hfu (h0 h) xG (EW h2)).2
 have hw:=fun h h2 (h3:o4+o5.size≤192)=>hF.iV (text:=o5) hfu (h0 h) xG (EW h2) ha0 h3
 have hc:=fun h h2=>hF.c13 hfu (h0 h) xG (EW h2) ha0 ha1
 have ahQ:decide (o4+(o5.size:Int)>192)=false→o4+(o5.size:Int)≤192:=fun h=>ZG8.1 (aA h)
 refine⟨⟨⟨⟨aa,aa,aa⟩,⟨?_,?_,?_,?_,?_⟩,?_,?_,?_⟩,fun x1 w2=>?_⟩,fun x3 w4=>⟨fun w5=>?_,fun w6=>⟨⟨⟨⟨aa,aa,aa⟩,⟨?_,?_,?_,?_,?_⟩,?_,?_⟩,fun x7 w8=>?_⟩,fun x9 dy=>⟨fun kC=>?_,fun dK=>⟨⟨?_,?_⟩,fun iV=>?_,fun gP=>⟨fun qN=>⟨Sq0,Sq31,rfl,Sq0,Sq32,rfl,Sq32,Sq33,rfl,Sq33,Sq34,rfl,[.s 34,.b 0],Sq35,rfl,[.s 6,.b 1006],Sq36,rfl,Sq3,Sq37,rfl,[.s 37,.b 1003],Sq38,rfl,Sq3,Sq39,rfl,[.s 39,.b 1003],Sq40,rfl,[.s 35,.s 36,.s 38,.s 40,.b 1,.b 2,.b 3,.b 4,.b 5,.b 1000420001,.b 1000420000],[.s 41,.b 1,.b 2,.b 3,.b 4,.b 5,.b 1000420000,.b 1000420001],rfl,⟨⟨⟨aa,aa,aa,aa,aa,aa,aa,aa,aa⟩,⟨aa,aa,aa,aa,aa,aa,aa,aa,aa,aa,aa⟩,aa,aa,aa⟩,⟨?_,?_,?_,?_,?_⟩,?_,?_,?_,?_⟩,?_,fun x16 xk=>⟨Sq41,Sq30,rfl,Sq30,Sq42,rfl,Sq30,Sq43,rfl,Sq30,Sq44,rfl,Sq31,Sq45,rfl,Sq45,Sq46,rfl,[.s 46,.s 42,.b 0],[.b 0],rfl,[.s 6,.s 43,.b 1006],[.b 1006],rfl,Sq44,Sq7,rfl,⟨⟨aa,aa,⟨aa,aa,aa,aa,aa,aa,aa,aa,aa,aa,aa⟩,aa⟩,⟨?_,?_,?_,?_,?_⟩,?_,?_,?_,?_⟩,fun qK oN=>?_⟩⟩,fun uL=>⟨Sq0,Sq48,rfl,Sq0,Sq49,rfl,Sq49,Sq50,rfl,Sq50,Sq51,rfl,[.s 51,.b 0],Sq52,rfl,[.s 6,.b 1006],Sq53,rfl,Sq3,Sq54,rfl,[.s 54,.b 1003],Sq55,rfl,[.s 52,.s 53,.s 55,.b 1,.b 2,.b 3,.b 4,.b 5,.b 1000570001,.b 1000570000],[.s 56,.b 1,.b 2,.b 3,.b 4,.b 5,.b 1000570000,.b 1000570001],rfl,⟨⟨⟨aa,aa,aa,aa,aa,aa,aa,aa,aa⟩,⟨aa,aa,aa,aa,aa,aa,aa,aa,aa,aa,aa⟩,aa,aa⟩,⟨?_,?_,?_,?_,?_⟩,?_,?_,?_,?_,?_⟩,?_,fun x21 A3=>⟨Sq56,Sq47,rfl,Sq47,Sq57,rfl,Sq47,Sq58,rfl,Sq47,Sq59,rfl,Sq48,Sq60,rfl,Sq60,Sq61,rfl,[.s 61,.s 57,.b 0],[.b 0],rfl,[.s 6,.s 58,.b 1006],[.b 1006],rfl,Sq59,Sq7,rfl,⟨⟨aa,aa,⟨aa,aa,aa,aa,aa,aa,aa,aa,aa,aa,aa⟩,aa⟩,⟨?_,?_,?_,?_,?_⟩,?_,?_,?_,?_⟩,fun x23 rU=>?_⟩⟩⟩⟩⟩⟩⟩⟩
 all_goals first|refine aw ?_|refine ax ?_|exact a8|(dsimp only [eC,fW,dF,fg,yY,tj,J1,yl,fk,gI,gQ,oI];omega)|exact a7|exact dG|exact cH|exact hp6|exact⟨dG,cH⟩|exact⟨dG,cH,hp6⟩|exact fun _ _=>rfl|exact hF.wg.mono (by decide)|exact h0 w6|exact xG|exact ahQ gP|exact HR (uA w6 dK)|exact uA w6 dK|exact EW dK|exact (hw w6 dK (ahQ gP)).1.mono (by decide)|exact (hc w6 dK).1.mono (by decide)|skip
 ·refine⟨[4,5],[],_,_,_,rfl,cg,(((aE,aF,aG,aM,aH,aW,aI,aV),(aU,aS,aR,aQ,aP,aO,aN),aX),2),0,fun n h=>h.mono (by omega),rfl,rfl,rfl⟩
 ·refine⟨[4,5],[],_,_,_,rfl,cg,(((aE,aF,aG,aM,aH,aW,aI,aV),(aU,aS,aR,aQ,aP,aO,aN),aX),4),0,fun n h=>h.mono (by omega),rfl,rfl,rfl⟩
 ·refine⟨[4,5],[],_,_,_,rfl,cg,(((aE,aF,aG,aM,aH,aW,aI,aV),(aU,aS,aR,aQ,aP,aO,aN),aX),6),0,fun n h=>h.mono (by omega),rfl,rfl,rfl⟩
 ·refine⟨[1000710000,1000710001],[],_,_,_,rfl,cg,(nb ((nE ((aE,aF,aG,aM,aH,aW,aI,aV),(aU,aS,aR,aQ,aP,aO,aN),aX).1 (a6 ((aE,aF,aG,aM,aH,aW,aI,aV),(aU,aS,aR,aQ,aP,aO,aN),aX) (bC ((aE,aF,aG,aM,aH,aW,aI,aV),(aU,aS,aR,aQ,aP,aO,aN),aX) o2)) o4 o5).1,((aE,aF,aG,aM,aH,aW,aI,aV),(aU,aS,aR,aQ,aP,aO,aN),aX).2.1,!(nE ((aE,aF,aG,aM,aH,aW,aI,aV),(aU,aS,aR,aQ,aP,aO,aN),aX).1 (a6 ((aE,aF,aG,aM,aH,aW,aI,aV),(aU,aS,aR,aQ,aP,aO,aN),aX) (bC ((aE,aF,aG,aM,aH,aW,aI,aV),(aU,aS,aR,aQ,aP,aO,aN),aX) o2)) o4 o5).2.2) (bC ((aE,aF,aG,aM,aH,aW,aI,aV),(aU,aS,aR,aQ,aP,aO,aN),aX) o2) (nE ((aE,aF,aG,aM,aH,aW,aI,aV),(aU,aS,aR,aQ,aP,aO,aN),aX).1 (a6 ((aE,aF,aG,aM,aH,aW,aI,aV),(aU,aS,aR,aQ,aP,aO,aN),aX) (bC ((aE,aF,aG,aM,aH,aW,aI,aV),(aU,aS,aR,aQ,aP,aO,aN),aX) o2)) o4 o5).2.1,0),0,fun n h=>(h.iV (text:=o5) hfu (h0 w6) xG (EW dK) ha0 (ahQ gP)).2.mono (by omega),rfl,rfl,rfl⟩
 ·refine⟨[1000710000,1000710001],[],_,_,_,rfl,cg,(nb ((jd ((aE,aF,aG,aM,aH,aW,aI,aV),(aU,aS,aR,aQ,aP,aO,aN),aX).1 (a6 ((aE,aF,aG,aM,aH,aW,aI,aV),(aU,aS,aR,aQ,aP,aO,aN),aX) (bC ((aE,aF,aG,aM,aH,aW,aI,aV),(aU,aS,aR,aQ,aP,aO,aN),aX) o2)) o4).1,((aE,aF,aG,aM,aH,aW,aI,aV),(aU,aS,aR,aQ,aP,aO,aN),aX).2.1,!(jd ((aE,aF,aG,aM,aH,aW,aI,aV),(aU,aS,aR,aQ,aP,aO,aN),aX).1 (a6 ((aE,aF,aG,aM,aH,aW,aI,aV),(aU,aS,aR,aQ,aP,aO,aN),aX) (bC ((aE,aF,aG,aM,aH,aW,aI,aV),(aU,aS,aR,aQ,aP,aO,aN),aX) o2)) o4).2.2) (bC ((aE,aF,aG,aM,aH,aW,aI,aV),(aU,aS,aR,aQ,aP,aO,aN),aX) o2) (jd ((aE,aF,aG,aM,aH,aW,aI,aV),(aU,aS,aR,aQ,aP,aO,aN),aX).1 (a6 ((aE,aF,aG,aM,aH,aW,aI,aV),(aU,aS,aR,aQ,aP,aO,aN),aX) (bC ((aE,aF,aG,aM,aH,aW,aI,aV),(aU,aS,aR,aQ,aP,aO,aN),aX) o2)) o4).2.1,0),0,fun n h=>(h.c13 hfu (h0 w6) xG (EW dK) ha0 ha1).2.mono (by omega),rfl,rfl,rfl⟩
end GL
end Go.Proofs.YtkgpljpmdkflmaaGreatDoor
