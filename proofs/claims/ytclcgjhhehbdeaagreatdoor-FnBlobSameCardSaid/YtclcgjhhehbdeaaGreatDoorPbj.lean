/- A drawn law returns true for every code (its row lists package variables, tied by the card): part 36. -/
import Derived.Test.YtclcgjhhehbdeaaGreatDoorPbi
set_option maxHeartbeats 20000000
set_option maxRecDepth 100000
set_option linter.all false
namespace Go.Proofs.YtclcgjhhehbdeaaGreatDoor
namespace GL
def fsA (b0 b1 b2 b3 b4:Nat) (F:fo):List SV:=[.xs b0 1 0 F.1.rows.length,.xs b1 1 0 F.1.refs.length,.xs b2 1 0 F.1.last.length,.int F.1.cg,.xs b3 5 0 F.1.gone.length,.int F.1.bZ,.xs b4 5 0 F.1.dead.length,.q F.1.same,.int F.2.1.1,.int F.2.1.2.1,.int F.2.1.2.2.1,.int F.2.1.2.2.2.1,.int F.2.1.2.2.2.2.1,.int F.2.1.2.2.2.2.2.1,.int F.2.1.2.2.2.2.2.2,.q F.2.2]
def fsO (F:fo):List AV:=[.a (fsA 1 2 3 4 5 F),.rs ab F.1.rows,.rs ag F.1.refs,.rs ag F.1.last,.rs ae F.1.gone,.rs ae F.1.dead]
def fsP (F:fo):List AV:=[.a (fsA 1 2 3 6 7 F),.rs ab F.1.rows,.rs ag F.1.refs,.rs ag F.1.last,.zz,.zz,.rs ae F.1.gone,.rs ae F.1.dead]
def fe (F:fo) (id:Int):Prop:=F.1.rd∧F.2.1.ok
def pB (F:fo) (id:Int):AV:=.o (ndA (cK F.1 F.2.1 id).1)
def rD (F:fo) (id:Int):List AV:=fsO F
def dD:cn where
 A:=[.b 0,.s .int]
 B:=[.a [.xb 1 ab,.xb 2 ag,.xb 3 ag,.int,.xb 4 ae,.int,.xb 5 ae,.bool,.int,.int,.int,.int,.int,.int,.int,.bool],.r ab,.r ag,.r ag,.r ae,.r ae]
 pre:=fun x b=>fsW b∧fe (oC b) (x.2)
 r:=fun x b _=>pB (oC b) (x.2)
 o:=fun x b _=>rD (oC b) (x.2)
 ro:=true
theorem jS:Has Tryz.prog 154 dD:=by
 refine Has.fl zT zF zF (l:=[(179,jC)]) ⟨vr,aa⟩ Tryz.func154 ?_
 rintro⟨_,(id:Int)⟩ ⟨⟨(Fm1:Nat),(Fm2:Nat),(Fm3:Nat),(aM:Int),(Fm4:Nat),(aW:Int),(Fm5:Nat),(aV:Bool),(aU:Int),(aS:Int),(aR:Int),(aQ:Int),(aP:Int),(aO:Int),(aN:Int),(aX:Bool)⟩,(aE:List ByteArray),(aF:List Int),(aG:List Int),(aH:List Pt),(aI:List Pt)⟩ ⟨⟨(jx:Fm1=List.length aE),(jv:Fm2=List.length aF),(ju:Fm3=List.length aG),(jt:Fm4=List.length aH),(js:Fm5=List.length aI)⟩,(hp:fe ((aE,aF,aG,aM,aH,aW,aI,aV),(aU,aS,aR,aQ,aP,aO,aN),aX) id)⟩
 subst jx jv ju jt js
 show vc _ _ _ _ (entry [.s (.bp 0 0),.int id] [.a [.xs 1 1 0 aE.length,.xs 2 1 0 aF.length,.xs 3 1 0 aG.length,.int aM,.xs 4 5 0 aH.length,.int aW,.xs 5 5 0 aI.length,.q aV,.int aU,.int aS,.int aR,.int aQ,.int aP,.int aO,.int aN,.q aX],.rs ab aE,.rs ag aF,.rs ag aG,.rs ae aH,.rs ae aI]) _
 let g':=((aE,aF,aG,aM,aH,aW,aI,aV),(aU,aS,aR,aQ,aP,aO,aN),aX)
 obtain⟨dE,cG⟩:=hp
 refine⟨Sq0,Sq8,rfl,Sq8,Sq9,rfl,Sq9,Sq10,rfl,[.s 10,.b 0],Sq11,rfl,Sq0,Sq12,rfl,Sq12,Sq13,rfl,Sq13,Sq14,rfl,[.s 14,.b 0],Sq15,rfl,Sq1,Sq16,rfl,[.s 11,.s 15,.s 16,.b 1,.b 2,.b 3,.b 4,.b 5],Sq17,rfl,⟨⟨⟨⟨?_,?_⟩,⟨?_,?_⟩,⟨?_,?_⟩,aa,⟨?_,?_⟩,aa,⟨?_,?_⟩,tv2⟩,tv8,tv2⟩,?_,?_⟩,?_,fun x1 w2=>⟨Sq17,Sq7,rfl,Sq7,Sq18,rfl,Sq7,Sq19,rfl,[.b 1005],[.s 5,.b 1005],rfl,[.s 5,.s 18,.b 1005],[.b 1005],rfl,Sq19,Sq6,rfl,?_⟩⟩
 all_goals first|refine aw ?_|refine ax ?_|exact a8|(dsimp only [jC,kG];omega)|exact a7|exact dE|exact cG|skip
 refine⟨[],[],_,_,_,rfl,az,(),aa,?_,?_,rfl⟩
 ·(show _=pB g' id);unfold pB;first|rfl
 ·(show _=rD g' id);unfold rD;first|rfl
def fk (F:fo) (id:Int):Prop:=F.1.rd∧F.2.1.ok
def lB (F:fo) (id:Int):AV:=.s (.vw aK (bJ F.1 (a6 F id)).1)
def mM (F:fo) (id:Int):List AV:=fsO F
def dS:cn where
 A:=[.b 0,.s .int]
 B:=[.a [.xb 1 ab,.xb 2 ag,.xb 3 ag,.int,.xb 4 ae,.int,.xb 5 ae,.bool,.int,.int,.int,.int,.int,.int,.int,.bool],.r ab,.r ag,.r ag,.r ae,.r ae]
 pre:=fun x b=>fsW b∧fk (oC b) (x.2)
 r:=fun x b _=>lB (oC b) (x.2)
 o:=fun x b _=>mM (oC b) (x.2)
 ro:=true
theorem kB:Has Tryz.prog 148 dS:=by
 refine Has.fl zT zF zF (l:=[(154,dD),(176,iC)]) ⟨jS,tD,aa⟩ Tryz.func148 ?_
 rintro⟨_,(id:Int)⟩ ⟨⟨(Fm1:Nat),(Fm2:Nat),(Fm3:Nat),(aM:Int),(Fm4:Nat),(aW:Int),(Fm5:Nat),(aV:Bool),(aU:Int),(aS:Int),(aR:Int),(aQ:Int),(aP:Int),(aO:Int),(aN:Int),(aX:Bool)⟩,(aE:List ByteArray),(aF:List Int),(aG:List Int),(aH:List Pt),(aI:List Pt)⟩ ⟨⟨(jx:Fm1=List.length aE),(jv:Fm2=List.length aF),(ju:Fm3=List.length aG),(jt:Fm4=List.length aH),(js:Fm5=List.length aI)⟩,(hp:fk ((aE,aF,aG,aM,aH,aW,aI,aV),(aU,aS,aR,aQ,aP,aO,aN),aX) id)⟩
 subst jx jv ju jt js
 show vc _ _ _ _ (entry [.s (.bp 0 0),.int id] [.a [.xs 1 1 0 aE.length,.xs 2 1 0 aF.length,.xs 3 1 0 aG.length,.int aM,.xs 4 5 0 aH.length,.int aW,.xs 5 5 0 aI.length,.q aV,.int aU,.int aS,.int aR,.int aQ,.int aP,.int aO,.int aN,.q aX],.rs ab aE,.rs ag aF,.rs ag aG,.rs ae aH,.rs ae aI]) _
 let g':=((aE,aF,aG,aM,aH,aW,aI,aV),(aU,aS,aR,aQ,aP,aO,aN),aX)
 obtain⟨dE,cG⟩:=hp
 refine⟨Sq0,Sq8,rfl,Sq8,Sq9,rfl,Sq9,Sq10,rfl,[.s 10,.b 0],Sq11,rfl,Sq0,Sq12,rfl,Sq1,Sq13,rfl,[.s 12,.s 13,.b 0,.b 1,.b 2,.b 3,.b 4,.b 5],Sq14,rfl,⟨⟨tv3,⟨?_,?_,?_,?_,?_⟩,?_,?_⟩,fun x1 w2=>?_⟩,?_,fun x3 w4=>⟨[.s 11,.s 14,.b 1,.b 2,.b 3,.b 4,.b 5],Sq15,rfl,⟨⟨⟨⟨?_,?_⟩,⟨?_,?_⟩,⟨?_,?_⟩,aa,⟨?_,?_⟩,aa,⟨?_,?_⟩,tv2⟩,tv11,aa⟩,?_⟩,?_,fun x5 w6=>⟨Sq15,Sq7,rfl,Sq7,Sq16,rfl,Sq7,Sq17,rfl,Sq16,Sq5,rfl,Sq17,Sq6,rfl,?_⟩⟩⟩
 all_goals first|refine aw ?_|refine ax ?_|exact a8|(dsimp only [dD,fe,iC,jj,oC];omega)|exact a7|exact dE|exact cG|exact⟨dE,cG⟩|exact fun _ _=>rfl|skip
 refine⟨[],[],_,_,_,rfl,az,(),aa,?_,?_,rfl⟩
 ·(show _=lB g' id);unfold lB;first|rfl
 ·(show _=mM g' id);unfold mM;first|rfl
def gG (F:fo) (id:Int) (n:ft):Prop:=F.1.wg 1046000∧F.2.1.ok∧0≤id∧id≤15
def ke (F:fo) (id:Int) (n:ft):AV:=.t []
def lR (F:fo) (id:Int) (n:ft):List AV:=fsP (mU F id n)
def fh:cn where
 A:=[.b 0,.s .int,.a [.int,.int,.int,.int,.int,.int,.int,.int,.int,.int]]
 B:=[.a [.xb 1 ab,.xb 2 ag,.xb 3 ag,.int,.xb 4 ae,.int,.xb 5 ae,.bool,.int,.int,.int,.int,.int,.int,.int,.bool],.r ab,.r ag,.r ag,.r ae,.r ae]
 pre:=fun x b=>fsW b∧gG (oC b) (x.2.1) (x.2.2)
 r:=fun x b _=>ke (oC b) (x.2.1) (x.2.2)
 o:=fun x b _=>lR (oC b) (x.2.1) (x.2.2)
 nf:=2
 mv:=true
theorem nU:Has Tryz.prog 149 fh:=by
 refine Has.ofZ zT zF zF (l:=[(115,vP)]) ⟨S4,aa⟩ Tryz.func149 ?_
 rintro⟨_,(id:Int),⟨(n1:Int),(n2:Int),(n3:Int),(n4:Int),(n5:Int),(n6:Int),(n7:Int),(n8:Int),(n9:Int),(cw:Int)⟩⟩ ⟨⟨(Fm1:Nat),(Fm2:Nat),(Fm3:Nat),(aM:Int),(Fm4:Nat),(aW:Int),(Fm5:Nat),(aV:Bool),(aU:Int),(aS:Int),(aR:Int),(aQ:Int),(aP:Int),(aO:Int),(aN:Int),(aX:Bool)⟩,(aE:List ByteArray),(aF:List Int),(aG:List Int),(aH:List Pt),(aI:List Pt)⟩ ⟨⟨(jx:Fm1=List.length aE),(jv:Fm2=List.length aF),(ju:Fm3=List.length aG),(jt:Fm4=List.length aH),(js:Fm5=List.length aI)⟩,(hp:gG ((aE,aF,aG,aM,aH,aW,aI,aV),(aU,aS,aR,aQ,aP,aO,aN),aX) id (n1,n2,n3,n4,n5,n6,n7,n8,n9,cw))⟩
 subst jx jv ju jt js
 show vc _ _ _ _ (entry [.s (.bp 0 0),.int id,.a [.int n1,.int n2,.int n3,.int n4,.int n5,.int n6,.int n7,.int n8,.int n9,.int cw]] [.a [.xs 1 1 0 aE.length,.xs 2 1 0 aF.length,.xs 3 1 0 aG.length,.int aM,.xs 4 5 0 aH.length,.int aW,.xs 5 5 0 aI.length,.q aV,.int aU,.int aS,.int aR,.int aQ,.int aP,.int aO,.int aN,.q aX],.rs ab aE,.rs ag aF,.rs ag aG,.rs ae aH,.rs ae aI]) _
 let g':=((aE,aF,aG,aM,aH,aW,aI,aV),(aU,aS,aR,aQ,aP,aO,aN),aX)
 let A':=(n1,n2,n3,n4,n5,n6,n7,n8,n9,cw)
 obtain⟨lh,cG,hi0,mh⟩:=hp
 refine⟨fun w1=>?_,fun w2=>⟨Sq0,Sq14,rfl,Sq14,Sq15,rfl,Sq15,Sq16,rfl,[.s 16,.b 0],Sq17,rfl,Sq0,Sq18,rfl,Sq18,Sq19,rfl,Sq19,Sq20,rfl,[.s 20,.b 0],Sq21,rfl,Sq1,Sq22,rfl,[.s 5,.b 1005],Sq23,rfl,[.s 17,.s 21,.s 22,.s 23,.b 1,.b 2,.b 3,.b 4,.b 5,.b 1000250001,.b 1000250000],[.s 24,.b 1,.b 2,.b 3,.b 4,.b 5,.b 1000250000,.b 1000250001],rfl,⟨⟨tv9,tv8,aa,tv11,aa⟩,⟨?_,?_,?_,?_,?_⟩,?_,?_,?_,?_⟩,?_,fun x3 w4=>⟨Sq24,Sq13,rfl,Sq13,Sq25,rfl,Sq13,Sq26,rfl,Sq13,Sq27,rfl,[.b 1006],[.s 6,.b 1006],rfl,[.b 1007],[.s 7,.b 1007],rfl,[.s 6,.s 25,.b 1006],[.b 1006],rfl,[.s 7,.s 26,.b 1007],[.b 1007],rfl,Sq27,Sq8,rfl,?_⟩⟩⟩
 all_goals first|refine aw ?_|refine ax ?_|exact a8|(dsimp only [vP,tf,gO];omega)|exact a7|exact lh|exact cG|skip
 ·refine⟨[4,5],[],_,_,_,rfl,az,(),0,aa,?_,?_,rfl⟩
  ·(show _=ke g' id A');unfold ke;first|(rw [PL (F:=g') w1];rfl)|rfl
  ·(show _=lR g' id A');unfold lR;first|(rw [PL (F:=g') w1];rfl)|rfl
 ·refine⟨[1000250000,1000250001],[],_,_,_,rfl,az,(),0,aa,?_,?_,rfl⟩
  ·(show _=ke g' id A');unfold ke;first|(rw [PK (F:=g') w2];rfl)|rfl
  ·(show _=lR g' id A');unfold lR;first|(rw [PK (F:=g') w2];rfl)|rfl
def iK (F:fo) (path:ByteArray):Prop:=F.1.rd∧F.2.1.ok∧path.size≤1000000
def dR (F:fo) (path:ByteArray):AV:=.t [.s (.int (dQ F path).1),.s (.int (dQ F path).2)]
def eo (F:fo) (path:ByteArray):List AV:=fsO F
def gK:cn where
 A:=[.b 0,.s .str]
 B:=[.a [.xb 1 ab,.xb 2 ag,.xb 3 ag,.int,.xb 4 ae,.int,.xb 5 ae,.bool,.int,.int,.int,.int,.int,.int,.int,.bool],.r ab,.r ag,.r ag,.r ae,.r ae]
 pre:=fun x b=>fsW b∧iK (oC b) (x.2)
 r:=fun x b _=>dR (oC b) (x.2)
 o:=fun x b _=>eo (oC b) (x.2)
 ro:=true
theorem rF:Has Tryz.prog 155 gK:=by
 refine Has.fl zT zF zF (l:=[(162,eP),(178,sD),(154,dD)]) ⟨mR,L4,jS,aa⟩ Tryz.func155 ?_
 rintro⟨_,(path:ByteArray)⟩ ⟨⟨(Fm1:Nat),(Fm2:Nat),(Fm3:Nat),(aM:Int),(Fm4:Nat),(aW:Int),(Fm5:Nat),(aV:Bool),(aU:Int),(aS:Int),(aR:Int),(aQ:Int),(aP:Int),(aO:Int),(aN:Int),(aX:Bool)⟩,(aE:List ByteArray),(aF:List Int),(aG:List Int),(aH:List Pt),(aI:List Pt)⟩ ⟨⟨(jx:Fm1=List.length aE),(jv:Fm2=List.length aF),(ju:Fm3=List.length aG),(jt:Fm4=List.length aH),(js:Fm5=List.length aI)⟩,(hp:iK ((aE,aF,aG,aM,aH,aW,aI,aV),(aU,aS,aR,aQ,aP,aO,aN),aX) path)⟩
 subst jx jv ju jt js
 show vc _ _ _ _ (entry [.s (.bp 0 0),.str path] [.a [.xs 1 1 0 aE.length,.xs 2 1 0 aF.length,.xs 3 1 0 aG.length,.int aM,.xs 4 5 0 aH.length,.int aW,.xs 5 5 0 aI.length,.q aV,.int aU,.int aS,.int aR,.int aQ,.int aP,.int aO,.int aN,.q aX],.rs ab aE,.rs ag aF,.rs ag aG,.rs ae aH,.rs ae aI]) _
 let g':=((aE,aF,aG,aM,aH,aW,aI,aV),(aU,aS,aR,aQ,aP,aO,aN),aX)
 obtain⟨dE,cG,hps⟩:=hp
 have hnl:=qg (s:=path)
 have hln:(nV path).length≤1000000:=by rw [ZC0];omega
 refine⟨⟨tv2,?_⟩,fun x1 w2=>⟨fun w3=>?_,fun w4=>⟨Sq0,Sq13,rfl,Sq13,Sq14,rfl,Sq14,Sq15,rfl,[.s 15,.b 0],Sq16,rfl,Sq0,Sq17,rfl,Sq17,Sq18,rfl,Sq18,Sq19,rfl,[.s 19,.b 0],Sq20,rfl,Sq6,Sq21,rfl,Sq6,Sq22,rfl,Sq22,Sq23,rfl,Sq23,Sq24,rfl,⟨?_,?_⟩,[.s 21,.s 24],Sq25,rfl,⟨?_,?_,?_⟩,[.s 16,.s 20,.s 25,.b 1,.b 2,.b 3,.b 4,.b 5],Sq26,rfl,⟨⟨⟨⟨?_,?_⟩,⟨?_,?_⟩,⟨?_,?_⟩,aa,⟨?_,?_⟩,aa,⟨?_,?_⟩,tv2⟩,tv8,tv2⟩,?_,?_,?_⟩,?_,fun x5 w6=>⟨Sq26,Sq7,rfl,fun w7=>?_,fun w8=>⟨⟨⟨tv3,⟨?_,?_,?_,?_,?_⟩,?_,?_⟩,fun x9 dx=>?_⟩,fun ku dI=>⟨fun iS=>?_,fun gN=>?_⟩⟩⟩⟩⟩⟩
 all_goals first|refine aw ?_|refine ax ?_|exact a8|(dsimp only [eP,fA,sD,qT,dD,fe,oC];omega)|exact a7|exact dE|exact cG|exact⟨dE,cG⟩|exact fun _ _=>rfl|skip
 ·have e:dQ g' path=(0,3):=by unfold dQ;rw [w3];rfl
  refine⟨[],[],_,_,_,rfl,az,(),aa,?_,?_,rfl⟩
  ·(show _=dR g' path);unfold dR;first|(rw [e];rfl)|rfl
  ·(show _=eo g' path);unfold eo;first|(rw [e];rfl)|rfl
 ·exact hln
 ·have e:dQ g' path=(0,2):=by unfold dQ plE;rw [w4,show decide (uI g'.1 g'.2.1 (nV path)<0)=true from w7];rfl
  refine⟨[],[],_,_,_,rfl,az,(),aa,?_,?_,rfl⟩
  ·(show _=dR g' path);unfold dR;first|(rw [e];rfl)|rfl
  ·(show _=eo g' path);unfold eo;first|(rw [e];rfl)|rfl
 ·have e:dQ g' path=(0,4):=by unfold dQ plE;rw [w4,show decide (uI g'.1 g'.2.1 (nV path)<0)=false from w8,show decide ((a6 g' (uI g'.1 g'.2.1 (nV path))).1≠2)=true from iS];rfl
  refine⟨[],[],_,_,_,rfl,az,(),aa,?_,?_,rfl⟩
  ·(show _=dR g' path);unfold dR;first|(rw [e];rfl)|rfl
  ·(show _=eo g' path);unfold eo;first|(rw [e];rfl)|rfl
 ·have e:dQ g' path=(uI g'.1 g'.2.1 (nV path),0):=by unfold dQ plE;rw [w4,show decide (uI g'.1 g'.2.1 (nV path)<0)=false from w8,show decide ((a6 g' (uI g'.1 g'.2.1 (nV path))).1≠2)=false from gN];rfl
  refine⟨[],[],_,_,_,rfl,az,(),aa,?_,?_,rfl⟩
  ·(show _=dR g' path);unfold dR;first|(rw [e];rfl)|rfl
  ·(show _=eo g' path);unfold eo;first|(rw [e];rfl)|rfl
def fV (F:fo) (path:ByteArray):Prop:=F.1.rd∧F.2.1.ok∧path.size≤1000000
def pC (F:fo) (path:ByteArray):AV:=.s (.int (bB F path))
def rE (F:fo) (path:ByteArray):List AV:=fsO F
def eA:cn where
 A:=[.b 0,.s .str]
 B:=[.a [.xb 1 ab,.xb 2 ag,.xb 3 ag,.int,.xb 4 ae,.int,.xb 5 ae,.bool,.int,.int,.int,.int,.int,.int,.int,.bool],.r ab,.r ag,.r ag,.r ae,.r ae]
 pre:=fun x b=>fsW b∧fV (oC b) (x.2)
 r:=fun x b _=>pC (oC b) (x.2)
 o:=fun x b _=>rE (oC b) (x.2)
 ro:=true
theorem lX:Has Tryz.prog 153 eA:=by
 refine Has.fl zT zF zF (l:=[(162,eP),(178,sD)]) ⟨mR,L4,aa⟩ Tryz.func153 ?_
 rintro⟨_,(path:ByteArray)⟩ ⟨⟨(Fm1:Nat),(Fm2:Nat),(Fm3:Nat),(aM:Int),(Fm4:Nat),(aW:Int),(Fm5:Nat),(aV:Bool),(aU:Int),(aS:Int),(aR:Int),(aQ:Int),(aP:Int),(aO:Int),(aN:Int),(aX:Bool)⟩,(aE:List ByteArray),(aF:List Int),(aG:List Int),(aH:List Pt),(aI:List Pt)⟩ ⟨⟨(jx:Fm1=List.length aE),(jv:Fm2=List.length aF),(ju:Fm3=List.length aG),(jt:Fm4=List.length aH),(js:Fm5=List.length aI)⟩,(hp:fV ((aE,aF,aG,aM,aH,aW,aI,aV),(aU,aS,aR,aQ,aP,aO,aN),aX) path)⟩
 subst jx jv ju jt js
 show vc _ _ _ _ (entry [.s (.bp 0 0),.str path] [.a [.xs 1 1 0 aE.length,.xs 2 1 0 aF.length,.xs 3 1 0 aG.length,.int aM,.xs 4 5 0 aH.length,.int aW,.xs 5 5 0 aI.length,.q aV,.int aU,.int aS,.int aR,.int aQ,.int aP,.int aO,.int aN,.q aX],.rs ab aE,.rs ag aF,.rs ag aG,.rs ae aH,.rs ae aI]) _
 let g':=((aE,aF,aG,aM,aH,aW,aI,aV),(aU,aS,aR,aQ,aP,aO,aN),aX)
 obtain⟨dE,cG,hps⟩:=hp
 have hnl:=qg (s:=path)
 refine⟨Sq0,Sq5,rfl,Sq5,Sq6,rfl,Sq6,Sq7,rfl,[.s 7,.b 0],Sq8,rfl,Sq0,Sq9,rfl,Sq9,Sq10,rfl,Sq10,Sq11,rfl,[.s 11,.b 0],Sq12,rfl,Sq1,Sq13,rfl,Sq13,Sq14,rfl,⟨tv2,?_⟩,?_,fun x1 w2=>⟨[.s 8,.s 12,.s 14,.b 1,.b 2,.b 3,.b 4,.b 5],Sq15,rfl,⟨⟨⟨⟨?_,?_⟩,⟨?_,?_⟩,⟨?_,?_⟩,aa,⟨?_,?_⟩,aa,⟨?_,?_⟩,tv2⟩,tv8,tv2⟩,?_,?_,?_⟩,?_,fun x3 w4=>⟨Sq15,Sq4,rfl,?_⟩⟩⟩
 all_goals first|refine aw ?_|refine ax ?_|exact a8|(dsimp only [eP,fA,sD,qT];omega)|exact a7|exact dE|exact cG|exact ZB0 hnl hps|skip
 refine⟨[],[],_,_,_,rfl,az,(),aa,?_,?_,rfl⟩
 ·(show _=pC g' path);unfold pC;first|rfl
 ·(show _=rE g' path);unfold rE;first|rfl
def ky (F:fo) (path:ByteArray):Prop:=F.1.rd∧F.2.1.ok∧path.size≤1000000
def fq (F:fo) (path:ByteArray):AV:=.t [.s (.int (dv F path).1),.s (.int (dv F path).2)]
def fW (F:fo) (path:ByteArray):List AV:=fsO F
def km:cn where
 A:=[.b 0,.s .str]
 B:=[.a [.xb 1 ab,.xb 2 ag,.xb 3 ag,.int,.xb 4 ae,.int,.xb 5 ae,.bool,.int,.int,.int,.int,.int,.int,.int,.bool],.r ab,.r ag,.r ag,.r ae,.r ae]
 pre:=fun x b=>fsW b∧ky (oC b) (x.2)
 r:=fun x b _=>fq (oC b) (x.2)
 o:=fun x b _=>fW (oC b) (x.2)
 ro:=true
theorem xw:Has Tryz.prog 146 km:=by
 refine Has.fl zT zF zF (l:=[(155,gK),(153,eA)]) ⟨rF,lX,aa⟩ Tryz.func146 ?_
 rintro⟨_,(path:ByteArray)⟩ ⟨⟨(Fm1:Nat),(Fm2:Nat),(Fm3:Nat),(aM:Int),(Fm4:Nat),(aW:Int),(Fm5:Nat),(aV:Bool),(aU:Int),(aS:Int),(aR:Int),(aQ:Int),(aP:Int),(aO:Int),(aN:Int),(aX:Bool)⟩,(aE:List ByteArray),(aF:List Int),(aG:List Int),(aH:List Pt),(aI:List Pt)⟩ ⟨⟨(jx:Fm1=List.length aE),(jv:Fm2=List.length aF),(ju:Fm3=List.length aG),(jt:Fm4=List.length aH),(js:Fm5=List.length aI)⟩,(hp:ky ((aE,aF,aG,aM,aH,aW,aI,aV),(aU,aS,aR,aQ,aP,aO,aN),aX) path)⟩
 subst jx jv ju jt js
 show vc _ _ _ _ (entry [.s (.bp 0 0),.str path] [.a [.xs 1 1 0 aE.length,.xs 2 1 0 aF.length,.xs 3 1 0 aG.length,.int aM,.xs 4 5 0 aH.length,.int aW,.xs 5 5 0 aI.length,.q aV,.int aU,.int aS,.int aR,.int aQ,.int aP,.int aO,.int aN,.q aX],.rs ab aE,.rs ag aF,.rs ag aG,.rs ae aH,.rs ae aI]) _
 let g':=((aE,aF,aG,aM,aH,aW,aI,aV),(aU,aS,aR,aQ,aP,aO,aN),aX)
 obtain⟨dE,cG,hps⟩:=hp
 refine⟨⟨⟨tv3,⟨?_,?_,?_,?_,?_⟩,?_,?_,?_⟩,fun x1 w2=>?_⟩,fun x3 w4=>⟨fun w5=>?_,fun w6=>⟨⟨⟨tv3,⟨?_,?_,?_,?_,?_⟩,?_,?_,?_⟩,fun x7 w8=>?_⟩,fun x9 dx=>⟨fun kx=>?_,fun dI=>?_⟩⟩⟩⟩
 all_goals first|refine aw ?_|refine ax ?_|exact a8|(dsimp only [gK,iK,eA,fV,oC];omega)|exact a7|exact dE|exact cG|exact⟨dE,cG,hps⟩|exact fun _ _=>rfl|skip
 ·have e:dv g' path=(0,(dQ g' path).2):=by unfold dv;rw [show decide ((dQ g' path).2>0)=true from w5];rfl
  refine⟨[],[],_,_,_,rfl,az,(),aa,?_,?_,rfl⟩
  ·(show _=fq g' path);unfold fq;first|(rw [e];rfl)|rfl
  ·(show _=fW g' path);unfold fW;first|(rw [e];rfl)|rfl
 ·have e:dv g' path=(0,3):=by unfold dv;rw [show decide ((dQ g' path).2>0)=false from w6,show decide (bB g' path≥0)=true from kx];rfl
  refine⟨[],[],_,_,_,rfl,az,(),aa,?_,?_,rfl⟩
  ·(show _=fq g' path);unfold fq;first|(rw [e];rfl)|rfl
  ·(show _=fW g' path);unfold fW;first|(rw [e];rfl)|rfl
 ·have e:dv g' path=((dQ g' path).1,0):=by unfold dv;rw [show decide ((dQ g' path).2>0)=false from w6,show decide (bB g' path≥0)=false from dI];rfl
  refine⟨[],[],_,_,_,rfl,az,(),aa,?_,?_,rfl⟩
  ·(show _=fq g' path);unfold fq;first|(rw [e];rfl)|rfl
  ·(show _=fW g' path);unfold fW;first|(rw [e];rfl)|rfl
end GL
namespace GL
attribute [local irreducible] dF cK eg mU aY aC
def gl (F:fo) (id:Int) (l:List eS):Prop:=F.1.wg 1040000∧F.2.1.ok∧(0≤id∧id≤15)∧KH l
def iI (F:fo) (id:Int) (l:List eS):AV:=.t []
def jo (F:fo) (id:Int) (l:List eS):List AV:=fsP (ch F id l)
def eY:cn where
 A:=[.b 0,.s .int,.s (.vz aK)]
 B:=[.a [.xb 1 ab,.xb 2 ag,.xb 3 ag,.int,.xb 4 ae,.int,.xb 5 ae,.bool,.int,.int,.int,.int,.int,.int,.int,.bool],.r ab,.r ag,.r ag,.r ae,.r ae]
 pre:=fun x b=>fsW b∧gl (oC b) (x.2.1) (x.2.2)
 r:=fun x b _=>iI (oC b) (x.2.1) (x.2.2)
 o:=fun x b _=>jo (oC b) (x.2.1) (x.2.2)
 nf:=2
 mv:=true
theorem nr:Has Tryz.prog 150 eY:=by
 refine Has.ofZ zT zF zF (l:=[(154,dD),(177,qu),(33,PO),(149,fh)]) ⟨jS,ID,afO,nU,aa⟩ Tryz.func150 ?_
 rintro⟨_,(id:Int),(l:List eS)⟩ ⟨⟨(Fm1:Nat),(Fm2:Nat),(Fm3:Nat),(aM:Int),(Fm4:Nat),(aW:Int),(Fm5:Nat),(aV:Bool),(aU:Int),(aS:Int),(aR:Int),(aQ:Int),(aP:Int),(aO:Int),(aN:Int),(aX:Bool)⟩,(aE:List ByteArray),(aF:List Int),(aG:List Int),(aH:List Pt),(aI:List Pt)⟩ ⟨⟨(jx:Fm1=List.length aE),(jv:Fm2=List.length aF),(ju:Fm3=List.length aG),(jt:Fm4=List.length aH),(js:Fm5=List.length aI)⟩,(hp:gl ((aE,aF,aG,aM,aH,aW,aI,aV),(aU,aS,aR,aQ,aP,aO,aN),aX) id l)⟩
 subst jx jv ju jt js
 show vc _ _ _ _ (entry [.s (.bp 0 0),.int id,.s (.vz aK l)] [.a [.xs 1 1 0 aE.length,.xs 2 1 0 aF.length,.xs 3 1 0 aG.length,.int aM,.xs 4 5 0 aH.length,.int aW,.xs 5 5 0 aI.length,.q aV,.int aU,.int aS,.int aR,.int aQ,.int aP,.int aO,.int aN,.q aX],.rs ab aE,.rs ag aF,.rs ag aG,.rs ae aH,.rs ae aI]) _
 let g':=((aE,aF,aG,aM,aH,aW,aI,aV),(aU,aS,aR,aQ,aP,aO,aN),aX)
 obtain⟨lh,cG,⟨hi0,mh⟩,hl⟩:=hp
 have hl:KH l:=hl
 have lh:ay.wg g'.1 1040000:=lh
 have cG:bf.ok g'.2.1:=cG
 have hbo:=UC (text:=eg l) lh (o9 g'.1 g'.2.1 id)
 refine⟨fun w1=>?_,fun w2=>⟨⟨⟨tv3,⟨?_,?_,?_,?_,?_⟩,?_,?_⟩,fun x3 w4=>?_⟩,fun x5 w6=>⟨⟨tv2,?_⟩,fun x7 w8=>⟨Sq0,Sq21,rfl,Sq21,Sq22,rfl,Sq22,Sq23,rfl,[.s 23,.b 0],Sq24,rfl,Sq6,Sq25,rfl,[.s 25,.b 1006],Sq26,rfl,Sq7,Sq27,rfl,[.s 24,.s 26,.s 27,.b 1,.b 2,.b 3,.b 4,.b 5,.b 1000290001,.b 1000290000],[.s 28,.b 1,.b 2,.b 3,.b 4,.b 5,.b 1000290000,.b 1000290001],rfl,⟨⟨tv9,tv8,tv2⟩,⟨?_,?_,?_,?_,?_⟩,?_,?_,?_⟩,?_,fun x9 dx=>⟨Sq28,Sq20,rfl,Sq20,Sq29,rfl,Sq20,Sq30,rfl,Sq20,Sq31,rfl,[.b 1008],[.s 8,.b 1008],rfl,[.b 1009],[.s 9,.b 1009],rfl,[.s 8,.s 29,.b 1008],[.b 1008],rfl,[.s 9,.s 30,.b 1009],[.b 1009],rfl,Sq31,Sq10,rfl,⟨⟨aa,aa,tv11,aa⟩,⟨?_,?_,?_,?_,?_⟩,?_,?_,?_,?_⟩,fun ku dI=>?_⟩⟩⟩⟩⟩
 all_goals first|refine aw ?_|refine ax ?_|exact a8|(dsimp only [dD,fe,qu,pX,PO,BW,fh,gG,gO,oC];omega)|exact a7|exact lh.wf.rd|exact cG|exact⟨lh.wf.rd,cG⟩|exact fun _ _=>rfl|exact hl.p|exact o9 _ _ _|exact hl.size|skip
 ·refine⟨[4,5],[],_,_,_,rfl,az,(),0,aa,?_,?_,rfl⟩
  ·(show _=iI g' id l);unfold iI;first|(rw [JD (F:=g') w1];rfl)|rfl
  ·(show _=jo g' id l);unfold jo;first|(rw [JD (F:=g') w1];rfl)|rfl
 ·exact lh.mono (by decide)
 ·exact hbo.1.mono (by decide)
 ·refine⟨[1000500000,1000500001],[],_,_,_,rfl,az,(),0,aa,?_,?_,rfl⟩
  ·(show _=iI g' id l);unfold iI;first|(exact Eq.trans rfl (congrArg fsP (JC (F:=g') (id:=id) (l:=l) w2).symm))|rfl
  ·(show _=jo g' id l);unfold jo;first|(exact Eq.trans rfl (congrArg fsP (JC (F:=g') (id:=id) (l:=l) w2).symm))|rfl
end GL
namespace GL
attribute [local irreducible] dF cK bJ mU aY aC ch dv dQ bB uI xk qN bC
def pU (F:fo) (path:ByteArray) (kind:Int):Prop:=cY F 1000000∧F.2.2=false∧path.size≤1000
def G6 (F:fo) (path:ByteArray) (kind:Int) (z:fo×Int):Prop:=∀n,cY F n→cY z.1 (n+300)
def GM (F:fo) (path:ByteArray) (kind:Int) (z:fo×Int):AV:=.s (.int z.2)
def KM (F:fo) (path:ByteArray) (kind:Int) (z:fo×Int):List AV:=fsP z.1
def tX:cn where
 A:=[.b 0,.s .str,.s .int]
 B:=[.a [.xb 1 ab,.xb 2 ag,.xb 3 ag,.int,.xb 4 ae,.int,.xb 5 ae,.bool,.int,.int,.int,.int,.int,.int,.int,.bool],.r ab,.r ag,.r ag,.r ae,.r ae]
 pre:=fun x b=>fsW b∧pU (oC b) (x.2.1) (x.2.2)
 α:=fun _ _=>fo×Int
 φ:=fun x b z=>G6 (oC b) (x.2.1) (x.2.2) z
 r:=fun x b z=>GM (oC b) (x.2.1) (x.2.2) z
 o:=fun x b z=>KM (oC b) (x.2.1) (x.2.2) z
 nf:=2
 mv:=true
theorem O6:Has Tryz.prog 117 tX:=by
 refine Has.ofZ zT zF zF (l:=[(146,km),(147,C8),(148,dS),(149,fh),(152,j3),(151,qv),(150,eY)]) ⟨xw,abC,kB,nU,wO,IE,nr,aa⟩ Tryz.func117 ?_
 rintro⟨_,(path:ByteArray),(kind:Int)⟩ ⟨⟨(Fm1:Nat),(Fm2:Nat),(Fm3:Nat),(aM:Int),(Fm4:Nat),(aW:Int),(Fm5:Nat),(aV:Bool),(aU:Int),(aS:Int),(aR:Int),(aQ:Int),(aP:Int),(aO:Int),(aN:Int),(aX:Bool)⟩,(aE:List ByteArray),(aF:List Int),(aG:List Int),(aH:List Pt),(aI:List Pt)⟩ ⟨⟨(jx:Fm1=List.length aE),(jv:Fm2=List.length aF),(ju:Fm3=List.length aG),(jt:Fm4=List.length aH),(js:Fm5=List.length aI)⟩,(hp:pU ((aE,aF,aG,aM,aH,aW,aI,aV),(aU,aS,aR,aQ,aP,aO,aN),aX) path kind)⟩
 subst jx jv ju jt js
 show vc _ _ _ _ (entry [.s (.bp 0 0),.str path,.int kind] [.a [.xs 1 1 0 aE.length,.xs 2 1 0 aF.length,.xs 3 1 0 aG.length,.int aM,.xs 4 5 0 aH.length,.int aW,.xs 5 5 0 aI.length,.q aV,.int aU,.int aS,.int aR,.int aQ,.int aP,.int aO,.int aN,.q aX],.rs ab aE,.rs ag aF,.rs ag aG,.rs ae aH,.rs ae aI]) _
 let g':=((aE,aF,aG,aM,aH,aW,aI,aV),(aU,aS,aR,aQ,aP,aO,aN),aX)
 obtain⟨hF,hfu,hps⟩:=hp
 have hF:cY g' 1000000:=hF
 have dE:ay.rd g'.1:=hF.wg.wf.rd
 have cG:bf.ok g'.2.1:=hF.ok
 have hp6:path.size≤1000000:=ZB0 hps (by decide)
 have h0:decide (xk g'.1 g'.2.1<0)=false→0≤xk g'.1 g'.2.1:=fun h=>ZG8.1 (aA h)
 have xz:decide (xk g'.1 g'.2.1<0)=false→xk g'.1 g'.2.1≤15:=fun h=>hF.free hfu (h0 h)
 have ka:decide ((dv g' path).2>0)=false→1≤(bC path).length∧0≤(dv g' path).1∧(dv g' path).1≤15:=MM
 have hen:∀nd,(bJ g'.1 nd).1.length≤1000:=fun nd=>ZB0 (qp _ nd).len (by decide)
 have hmk:decide (xk g'.1 g'.2.1<0)=false→cY (mU g' (xk g'.1 g'.2.1) (kind,1,0,nt)) 1000006:=fun h=>hF.make hfu (h0 h)
 have hew:decide ((dv g' path).2>0)=false→decide (xk g'.1 g'.2.1<0)=false→KH (qN (bJ g'.1 (a6 g' (dv g' path).1)).1 (dJ path,xk g'.1 g'.2.1)):=fun h h2=>(qp _ _).add (ZB0 (J7 (ka h).1) hps) ⟨h0 h2,ZE0 (xz h2) (by decide)⟩
 refine⟨⟨⟨tv3,⟨?_,?_,?_,?_,?_⟩,?_,?_,?_⟩,fun x1 w2=>?_⟩,fun x3 w4=>⟨fun w5=>?_,fun w6=>⟨Sq0,Sq20,rfl,Sq20,Sq21,rfl,Sq21,Sq22,rfl,[.s 22,.b 0],Sq23,rfl,Sq0,Sq24,rfl,Sq24,Sq25,rfl,Sq25,Sq26,rfl,[.s 26,.b 0],Sq27,rfl,[.s 23,.s 27,.b 1,.b 2,.b 3,.b 4,.b 5],Sq28,rfl,⟨⟨⟨⟨?_,?_⟩,⟨?_,?_⟩,⟨?_,?_⟩,aa,⟨?_,?_⟩,aa,⟨?_,?_⟩,tv2⟩,tv8,aa⟩,?_,?_⟩,?_,fun x7 w8=>⟨Sq28,Sq9,rfl,⟨⟨tv3,⟨?_,?_,?_,?_,?_⟩,?_,?_⟩,fun x9 dx=>?_⟩,fun ku dI=>⟨aa,fun iS=>?_,fun gN=>⟨fun qG=>?_,fun kc=>⟨⟨⟨aa,aa,tv11,aa⟩,⟨?_,?_,?_,?_,?_⟩,?_,?_,?_,?_⟩,fun x17 rO=>⟨⟨tv2,?_,?_⟩,fun x19 uE=>⟨⟨⟨aa,tv3,aa⟩,?_⟩,fun x21 AX=>⟨⟨⟨aa,aa,⟨?_,?_⟩,aa⟩,⟨?_,?_,?_,?_,?_⟩,?_,?_,⟨?_,?_⟩,?_⟩,fun x23 rN=>?_⟩⟩⟩⟩⟩⟩⟩⟩⟩⟩
 all_goals first|refine aw ?_|refine ax ?_|exact a8|(dsimp only [km,ky,C8,u9,dS,fk,fh,gG,j3,kZ,qv,pY,eY,gl,oC];omega)|exact a7|exact dE|exact cG|exact hp6|exact⟨dE,cG⟩|exact⟨dE,cG,hp6⟩|exact fun _ _=>rfl|exact hF.wg.mono (by decide)|exact h0 gN|exact xz gN|exact (ka w6).1|exact (ka w6).2.1|exact (ka w6).2.2|exact hen _|exact (hmk gN).wg.mono (by decide)|exact (hmk gN).ok|exact hew w6 gN|skip
 ·refine⟨[4,5],[],_,_,_,rfl,cf,(g',(dv g' path).2),0,fun n h=>h.mono (by omega),rfl,rfl,rfl⟩
 ·refine⟨[4,5],[],_,_,_,rfl,cf,(g',6),0,fun n h=>h.mono (by omega),rfl,rfl,rfl⟩
 ·refine⟨[4,5],[],_,_,_,rfl,cf,(g',6),0,fun n h=>h.mono (by omega),rfl,rfl,rfl⟩
 ·refine⟨[1000530000,1000530001],[],_,_,_,rfl,cf,(ch (mU g' (xk g'.1 g'.2.1) (kind,1,0,nt)) (dv g' path).1 (qN (bJ g'.1 (a6 g' (dv g' path).1)).1 (dJ path,xk g'.1 g'.2.1)),0),0,fun n h=>((h.make (kind:=kind) hfu (h0 gN)).sQ (ka w6).2.1 (ka w6).2.2).1.mono (by omega),rfl,rfl,rfl⟩
end GL
namespace GL
attribute [local irreducible] dF cK bJ mU aY aC ch dv dQ bB uI xk qN bC nw iZ cq eu ll
def mH (F:fo) (o:Opr):Prop:=cY F 1000000∧F.2.2=false∧o.2.1.size≤1000∧0≤o.2.2.2.1∧o.2.2.2.1≤192∧o.2.2.2.2.size≤1000
def B0 (F:fo) (o:Opr) (z:fo×Int):Prop:=∀n,cY F n→cY z.1 (n+300)
def BC (F:fo) (o:Opr) (z:fo×Int):AV:=.s (.int z.2)
def EN (F:fo) (o:Opr) (z:fo×Int):List AV:=fsP z.1
def qt:cn where
 A:=[.b 0,.a [.int,.str,.str,.int,.str]]
 B:=[.a [.xb 1 ab,.xb 2 ag,.xb 3 ag,.int,.xb 4 ae,.int,.xb 5 ae,.bool,.int,.int,.int,.int,.int,.int,.int,.bool],.r ab,.r ag,.r ag,.r ae,.r ae]
 pre:=fun x b=>fsW b∧mH (oC b) (x.2)
 α:=fun _ _=>fo×Int
 φ:=fun x b z=>B0 (oC b) (x.2) z
 r:=fun x b z=>BC (oC b) (x.2) z
 o:=fun x b z=>EN (oC b) (x.2) z
 nf:=2
 mv:=true
theorem IC:Has Tryz.prog 121 qt:=by
 refine Has.ofZ zT zF zF (l:=[(153,eA),(154,dD),(160,yR),(161,JW),(149,fh)]) ⟨lX,jS,W0,adR,nU,aa⟩ Tryz.func121 ?_
 rintro⟨_,⟨(o1:Int),(o2:ByteArray),(o3:ByteArray),(o4:Int),(o5:ByteArray)⟩⟩ ⟨⟨(Fm1:Nat),(Fm2:Nat),(Fm3:Nat),(aM:Int),(Fm4:Nat),(aW:Int),(Fm5:Nat),(aV:Bool),(aU:Int),(aS:Int),(aR:Int),(aQ:Int),(aP:Int),(aO:Int),(aN:Int),(aX:Bool)⟩,(aE:List ByteArray),(aF:List Int),(aG:List Int),(aH:List Pt),(aI:List Pt)⟩ ⟨⟨(jx:Fm1=List.length aE),(jv:Fm2=List.length aF),(ju:Fm3=List.length aG),(jt:Fm4=List.length aH),(js:Fm5=List.length aI)⟩,(hp:mH ((aE,aF,aG,aM,aH,aW,aI,aV),(aU,aS,aR,aQ,aP,aO,aN),aX) (o1,o2,o3,o4,o5))⟩
 subst jx jv ju jt js
 show vc _ _ _ _ (entry [.s (.bp 0 0),.a [.int o1,.str o2,.str o3,.int o4,.str o5]] [.a [.xs 1 1 0 aE.length,.xs 2 1 0 aF.length,.xs 3 1 0 aG.length,.int aM,.xs 4 5 0 aH.length,.int aW,.xs 5 5 0 aI.length,.q aV,.int aU,.int aS,.int aR,.int aQ,.int aP,.int aO,.int aN,.q aX],.rs ab aE,.rs ag aF,.rs ag aG,.rs ae aH,.rs ae aI]) _
 let g':=((aE,aF,aG,aM,aH,aW,aI,aV),(aU,aS,aR,aQ,aP,aO,aN),aX)
 obtain⟨hF,hfu,hps,ha0,ha1,htx⟩:=hp
 have hF:cY g' 1000000:=hF
 have dE:ay.rd g'.1:=hF.wg.wf.rd
 have cG:bf.ok g'.2.1:=hF.ok
 have hp6:o2.size≤1000000:=ZB0 hps (by decide)
 have h0:decide (bB g' o2<0)=false→0≤bB g' o2:=fun h=>ZG8.1 (aA h)
 have xz:bB g' o2≤15:=(zd _ _).2
 have ES:decide ((a6 g' (bB g' o2)).1≠1)=false→(a6 g' (bB g' o2)).1=1:=fun h=>ZE9.1 (aA h)
 have uu:decide (bB g' o2<0)=false→decide ((a6 g' (bB g' o2)).1≠1)=false→cy (a6 g' (bB g' o2))=true:=fun h h2=>(hF.file hfu (h0 h) xz (ES h2)).2
 have hw:=fun h h2 (h3:o4+o5.size≤192)=>hF.iS (text:=o5) hfu (h0 h) xz (ES h2) ha0 h3
 have hc:=fun h h2=>hF.c13 hfu (h0 h) xz (ES h2) ha0 ha1
 have ahP:decide (o4+(o5.size:Int)>192)=false→o4+(o5.size:Int)≤192:=fun h=>ZG8.1 (aA h)
 refine⟨⟨⟨tv3,⟨?_,?_,?_,?_,?_⟩,?_,?_,?_⟩,fun x1 w2=>?_⟩,fun x3 w4=>⟨fun w5=>?_,fun w6=>⟨⟨⟨tv3,⟨?_,?_,?_,?_,?_⟩,?_,?_⟩,fun x7 w8=>?_⟩,fun x9 dx=>⟨fun kx=>?_,fun dI=>⟨⟨?_,?_⟩,fun iS=>?_,fun gN=>⟨fun qG=>⟨Sq0,Sq31,rfl,Sq0,Sq32,rfl,Sq32,Sq33,rfl,Sq33,Sq34,rfl,[.s 34,.b 0],Sq35,rfl,[.s 6,.b 1006],Sq36,rfl,Sq3,Sq37,rfl,[.s 37,.b 1003],Sq38,rfl,Sq3,Sq39,rfl,[.s 39,.b 1003],Sq40,rfl,[.s 35,.s 36,.s 38,.s 40,.b 1,.b 2,.b 3,.b 4,.b 5,.b 1000420001,.b 1000420000],[.s 41,.b 1,.b 2,.b 3,.b 4,.b 5,.b 1000420000,.b 1000420001],rfl,⟨⟨tv9,tv11,tv3⟩,⟨?_,?_,?_,?_,?_⟩,?_,?_,?_,?_⟩,?_,fun x16 xd=>⟨Sq41,Sq30,rfl,Sq30,Sq42,rfl,Sq30,Sq43,rfl,Sq30,Sq44,rfl,Sq31,Sq45,rfl,Sq45,Sq46,rfl,[.s 46,.s 42,.b 0],[.b 0],rfl,[.s 6,.s 43,.b 1006],[.b 1006],rfl,Sq44,Sq7,rfl,⟨⟨aa,aa,tv11,aa⟩,⟨?_,?_,?_,?_,?_⟩,?_,?_,?_,?_⟩,fun qD oH=>?_⟩⟩,fun uE=>⟨Sq0,Sq48,rfl,Sq0,Sq49,rfl,Sq49,Sq50,rfl,Sq50,Sq51,rfl,[.s 51,.b 0],Sq52,rfl,[.s 6,.b 1006],Sq53,rfl,Sq3,Sq54,rfl,[.s 54,.b 1003],Sq55,rfl,[.s 52,.s 53,.s 55,.b 1,.b 2,.b 3,.b 4,.b 5,.b 1000570001,.b 1000570000],[.s 56,.b 1,.b 2,.b 3,.b 4,.b 5,.b 1000570000,.b 1000570001],rfl,⟨⟨tv9,tv11,tv2⟩,⟨?_,?_,?_,?_,?_⟩,?_,?_,?_,?_,?_⟩,?_,fun x21 AX=>⟨Sq56,Sq47,rfl,Sq47,Sq57,rfl,Sq47,Sq58,rfl,Sq47,Sq59,rfl,Sq48,Sq60,rfl,Sq60,Sq61,rfl,[.s 61,.s 57,.b 0],[.b 0],rfl,[.s 6,.s 58,.b 1006],[.b 1006],rfl,Sq59,Sq7,rfl,⟨⟨aa,aa,tv11,aa⟩,⟨?_,?_,?_,?_,?_⟩,?_,?_,?_,?_⟩,fun x23 rN=>?_⟩⟩⟩⟩⟩⟩⟩⟩
 all_goals first|refine aw ?_|refine ax ?_|exact a8|(dsimp only [eA,fV,dD,fe,yR,tb,JW,ye,fh,gG,gO,oC];omega)|exact a7|exact dE|exact cG|exact hp6|exact⟨dE,cG⟩|exact⟨dE,cG,hp6⟩|exact fun _ _=>rfl|exact hF.wg.mono (by decide)|exact h0 w6|exact xz|exact ahP gN|exact HM (uu w6 dI)|exact uu w6 dI|exact ES dI|exact (hw w6 dI (ahP gN)).1.mono (by decide)|exact (hc w6 dI).1.mono (by decide)|skip
 ·refine⟨[4,5],[],_,_,_,rfl,cf,(g',2),0,fun n h=>h.mono (by omega),rfl,rfl,rfl⟩
 ·refine⟨[4,5],[],_,_,_,rfl,cf,(g',4),0,fun n h=>h.mono (by omega),rfl,rfl,rfl⟩
 ·refine⟨[4,5],[],_,_,_,rfl,cf,(g',6),0,fun n h=>h.mono (by omega),rfl,rfl,rfl⟩
 ·refine⟨[1000710000,1000710001],[],_,_,_,rfl,cf,(mU ((nw g'.1 (a6 g' (bB g' o2)) o4 o5).1,g'.2.1,!(nw g'.1 (a6 g' (bB g' o2)) o4 o5).2.2) (bB g' o2) (nw g'.1 (a6 g' (bB g' o2)) o4 o5).2.1,0),0,fun n h=>(h.iS (text:=o5) hfu (h0 w6) xz (ES dI) ha0 (ahP gN)).2.mono (by omega),rfl,rfl,rfl⟩
 ·refine⟨[1000710000,1000710001],[],_,_,_,rfl,cf,(mU ((iZ g'.1 (a6 g' (bB g' o2)) o4).1,g'.2.1,!(iZ g'.1 (a6 g' (bB g' o2)) o4).2.2) (bB g' o2) (iZ g'.1 (a6 g' (bB g' o2)) o4).2.1,0),0,fun n h=>(h.c13 hfu (h0 w6) xz (ES dI) ha0 ha1).2.mono (by omega),rfl,rfl,rfl⟩
end GL
end Go.Proofs.YtclcgjhhehbdeaaGreatDoor
