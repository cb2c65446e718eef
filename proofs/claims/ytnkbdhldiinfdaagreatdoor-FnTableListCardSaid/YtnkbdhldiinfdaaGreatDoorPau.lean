/- Part 21 of the proof of a drawn law. -/
import Derived.Test.YtnkbdhldiinfdaaGreatDoorPat
set_option maxHeartbeats 20000000
set_option maxRecDepth 100000
set_option linter.all false
namespace Go.Proofs.YtnkbdhldiinfdaaGreatDoor
namespace GL
def fsA (b0 b1 b2 b3 b4:Nat) (F:fp):List SV:=[.xs b0 1 0 F.1.rows.length,.xs b1 1 0 F.1.refs.length,.xs b2 1 0 F.1.last.length,.int F.1.cg,.xs b3 5 0 F.1.gone.length,.int F.1.bZ,.xs b4 5 0 F.1.dead.length,.q F.1.same,.int F.2.1.1,.int F.2.1.2.1,.int F.2.1.2.2.1,.int F.2.1.2.2.2.1,.int F.2.1.2.2.2.2.1,.int F.2.1.2.2.2.2.2.1,.int F.2.1.2.2.2.2.2.2,.q F.2.2]
def fsO (F:fp):List AV:=[.a (fsA 1 2 3 4 5 F),.rs ab F.1.rows,.rs ag F.1.refs,.rs ag F.1.last,.rs ae F.1.gone,.rs ae F.1.dead]
def fsP (F:fp):List AV:=[.a (fsA 1 2 3 6 7 F),.rs ab F.1.rows,.rs ag F.1.refs,.rs ag F.1.last,.zz,.zz,.rs ae F.1.gone,.rs ae F.1.dead]
def ff (F:fp) (id:Int):Prop:=F.1.rd∧F.2.1.ok
def pG (F:fp) (id:Int):AV:=.o (ndA (cK F.1 F.2.1 id).1)
def rH (F:fp) (id:Int):List AV:=fsO F
def dE:cn where
 A:=[.b 0,.s .int]
 B:=[.a [.xb 1 ab,.xb 2 ag,.xb 3 ag,.int,.xb 4 ae,.int,.xb 5 ae,.bool,.int,.int,.int,.int,.int,.int,.int,.bool],.r ab,.r ag,.r ag,.r ae,.r ae]
 pre:=λx b=>fsW b∧ff (oG b) (x.2)
 r:=λx b _=>pG (oG b) (x.2)
 o:=λx b _=>rH (oG b) (x.2)
 ro:=true
theorem jV:Has Tryz.prog 179 dE:=by
 refine Has.fm zT zF zF (l:=[(51,jE)]) ⟨vy,aa⟩ Tryz.func179 ?_
 rintro⟨_,(id:Int)⟩ ⟨⟨(Fm1:Nat),(Fm2:Nat),(Fm3:Nat),(aM:Int),(Fm4:Nat),(aW:Int),(Fm5:Nat),(aV:Bool),(aU:Int),(aS:Int),(aR:Int),(aQ:Int),(aP:Int),(aO:Int),(aN:Int),(aX:Bool)⟩,(aE:List ByteArray),(aF:List Int),(aG:List Int),(aH:List Pt),(aI:List Pt)⟩ ⟨⟨(jz:Fm1=List.length aE),(jy:Fm2=List.length aF),(jx:Fm3=List.length aG),(jv:Fm4=List.length aH),(ju:Fm5=List.length aI)⟩,(hp:ff ((aE,aF,aG,aM,aH,aW,aI,aV),(aU,aS,aR,aQ,aP,aO,aN),aX) id)⟩
 subst jz jy jx jv ju
 show vc _ _ _ _ (entry [.s (.bp 0 0),.int id] [.a [.xs 1 1 0 aE.length,.xs 2 1 0 aF.length,.xs 3 1 0 aG.length,.int aM,.xs 4 5 0 aH.length,.int aW,.xs 5 5 0 aI.length,.q aV,.int aU,.int aS,.int aR,.int aQ,.int aP,.int aO,.int aN,.q aX],.rs ab aE,.rs ag aF,.rs ag aG,.rs ae aH,.rs ae aI]) _
 let g':=((aE,aF,aG,aM,aH,aW,aI,aV),(aU,aS,aR,aQ,aP,aO,aN),aX)
 obtain⟨dF,cG⟩:=hp
 refine⟨Sq0,Sq8,ζ,Sq8,Sq9,ζ,Sq9,Sq10,ζ,[.s 10,.b 0],Sq11,ζ,Sq0,Sq12,ζ,Sq12,Sq13,ζ,Sq13,Sq14,ζ,[.s 14,.b 0],Sq15,ζ,Sq1,Sq16,ζ,[.s 11,.s 15,.s 16,.b 1,.b 2,.b 3,.b 4,.b 5],Sq17,ζ,⟨⟨⟨⟨?_,?_⟩,⟨?_,?_⟩,⟨?_,?_⟩,aa,⟨?_,?_⟩,aa,⟨?_,?_⟩,tv2⟩,tv8,tv2⟩,?_,?_⟩,?_,λx1 w2=>⟨Sq17,Sq7,ζ,Sq7,Sq18,ζ,Sq7,Sq19,ζ,[.b 1005],[.s 5,.b 1005],ζ,[.s 5,.s 18,.b 1005],[.b 1005],ζ,Sq19,Sq6,ζ,?_⟩⟩
 all_goals first|refine aw ?_|refine ax ?_|exact a8|(dsimp only [jE,kJ];omega)|exact a7|exact dF|exact cG|skip
 refine⟨[],[],_,_,_,ζ,az,(),aa,?_,?_,ζ⟩
 ·(show _=pG g' id);unfold pG;first|rfl
 ·(show _=rH g' id);unfold rH;first|rfl
def fl (F:fp) (id:Int):Prop:=F.1.rd∧F.2.1.ok
def lE (F:fp) (id:Int):AV:=.s (.vw aK (bJ F.1 (a6 F id)).1)
def mQ (F:fp) (id:Int):List AV:=fsO F
def dT:cn where
 A:=[.b 0,.s .int]
 B:=[.a [.xb 1 ab,.xb 2 ag,.xb 3 ag,.int,.xb 4 ae,.int,.xb 5 ae,.bool,.int,.int,.int,.int,.int,.int,.int,.bool],.r ab,.r ag,.r ag,.r ae,.r ae]
 pre:=λx b=>fsW b∧fl (oG b) (x.2)
 r:=λx b _=>lE (oG b) (x.2)
 o:=λx b _=>mQ (oG b) (x.2)
 ro:=true
theorem kE:Has Tryz.prog 173 dT:=by
 refine Has.fm zT zF zF (l:=[(179,dE),(204,iE)]) ⟨jV,tH,aa⟩ Tryz.func173 ?_
 rintro⟨_,(id:Int)⟩ ⟨⟨(Fm1:Nat),(Fm2:Nat),(Fm3:Nat),(aM:Int),(Fm4:Nat),(aW:Int),(Fm5:Nat),(aV:Bool),(aU:Int),(aS:Int),(aR:Int),(aQ:Int),(aP:Int),(aO:Int),(aN:Int),(aX:Bool)⟩,(aE:List ByteArray),(aF:List Int),(aG:List Int),(aH:List Pt),(aI:List Pt)⟩ ⟨⟨(jz:Fm1=List.length aE),(jy:Fm2=List.length aF),(jx:Fm3=List.length aG),(jv:Fm4=List.length aH),(ju:Fm5=List.length aI)⟩,(hp:fl ((aE,aF,aG,aM,aH,aW,aI,aV),(aU,aS,aR,aQ,aP,aO,aN),aX) id)⟩
 subst jz jy jx jv ju
 show vc _ _ _ _ (entry [.s (.bp 0 0),.int id] [.a [.xs 1 1 0 aE.length,.xs 2 1 0 aF.length,.xs 3 1 0 aG.length,.int aM,.xs 4 5 0 aH.length,.int aW,.xs 5 5 0 aI.length,.q aV,.int aU,.int aS,.int aR,.int aQ,.int aP,.int aO,.int aN,.q aX],.rs ab aE,.rs ag aF,.rs ag aG,.rs ae aH,.rs ae aI]) _
 let g':=((aE,aF,aG,aM,aH,aW,aI,aV),(aU,aS,aR,aQ,aP,aO,aN),aX)
 obtain⟨dF,cG⟩:=hp
 refine⟨Sq0,Sq8,ζ,Sq8,Sq9,ζ,Sq9,Sq10,ζ,[.s 10,.b 0],Sq11,ζ,Sq0,Sq12,ζ,Sq1,Sq13,ζ,[.s 12,.s 13,.b 0,.b 1,.b 2,.b 3,.b 4,.b 5],Sq14,ζ,⟨⟨tv3,⟨?_,?_,?_,?_,?_⟩,?_,?_⟩,λx1 w2=>?_⟩,?_,λx3 w4=>⟨[.s 11,.s 14,.b 1,.b 2,.b 3,.b 4,.b 5],Sq15,ζ,⟨⟨⟨⟨?_,?_⟩,⟨?_,?_⟩,⟨?_,?_⟩,aa,⟨?_,?_⟩,aa,⟨?_,?_⟩,tv2⟩,tv11,aa⟩,?_⟩,?_,λx5 w6=>⟨Sq15,Sq7,ζ,Sq7,Sq16,ζ,Sq7,Sq17,ζ,Sq16,Sq5,ζ,Sq17,Sq6,ζ,?_⟩⟩⟩
 all_goals first|refine aw ?_|refine ax ?_|exact a8|(dsimp only [dE,ff,iE,jl,oG];omega)|exact a7|exact dF|exact cG|exact⟨dF,cG⟩|exact λ_ _=>rfl|skip
 refine⟨[],[],_,_,_,ζ,az,(),aa,?_,?_,ζ⟩
 ·(show _=lE g' id);unfold lE;first|rfl
 ·(show _=mQ g' id);unfold mQ;first|rfl
def gH (F:fp) (id:Int) (n:fu):Prop:=F.1.wg 1046000∧F.2.1.ok∧0≤id∧id≤15
def kh (F:fp) (id:Int) (n:fu):AV:=.t []
def lU (F:fp) (id:Int) (n:fu):List AV:=fsP (mY F id n)
def fj:cn where
 A:=[.b 0,.s .int,.a [.int,.int,.int,.int,.int,.int,.int,.int,.int,.int]]
 B:=[.a [.xb 1 ab,.xb 2 ag,.xb 3 ag,.int,.xb 4 ae,.int,.xb 5 ae,.bool,.int,.int,.int,.int,.int,.int,.int,.bool],.r ab,.r ag,.r ag,.r ae,.r ae]
 pre:=λx b=>fsW b∧gH (oG b) (x.2.1) (x.2.2)
 r:=λx b _=>kh (oG b) (x.2.1) (x.2.2)
 o:=λx b _=>lU (oG b) (x.2.1) (x.2.2)
 nf:=2
 mv:=true
theorem nY:Has Tryz.prog 174 fj:=by
 refine Has.ofZ zT zF zF (l:=[(77,vT)]) ⟨TB,aa⟩ Tryz.func174 ?_
 rintro⟨_,(id:Int),⟨(n1:Int),(n2:Int),(n3:Int),(n4:Int),(n5:Int),(n6:Int),(n7:Int),(n8:Int),(n9:Int),(cw:Int)⟩⟩ ⟨⟨(Fm1:Nat),(Fm2:Nat),(Fm3:Nat),(aM:Int),(Fm4:Nat),(aW:Int),(Fm5:Nat),(aV:Bool),(aU:Int),(aS:Int),(aR:Int),(aQ:Int),(aP:Int),(aO:Int),(aN:Int),(aX:Bool)⟩,(aE:List ByteArray),(aF:List Int),(aG:List Int),(aH:List Pt),(aI:List Pt)⟩ ⟨⟨(jz:Fm1=List.length aE),(jy:Fm2=List.length aF),(jx:Fm3=List.length aG),(jv:Fm4=List.length aH),(ju:Fm5=List.length aI)⟩,(hp:gH ((aE,aF,aG,aM,aH,aW,aI,aV),(aU,aS,aR,aQ,aP,aO,aN),aX) id (n1,n2,n3,n4,n5,n6,n7,n8,n9,cw))⟩
 subst jz jy jx jv ju
 show vc _ _ _ _ (entry [.s (.bp 0 0),.int id,.a [.int n1,.int n2,.int n3,.int n4,.int n5,.int n6,.int n7,.int n8,.int n9,.int cw]] [.a [.xs 1 1 0 aE.length,.xs 2 1 0 aF.length,.xs 3 1 0 aG.length,.int aM,.xs 4 5 0 aH.length,.int aW,.xs 5 5 0 aI.length,.q aV,.int aU,.int aS,.int aR,.int aQ,.int aP,.int aO,.int aN,.q aX],.rs ab aE,.rs ag aF,.rs ag aG,.rs ae aH,.rs ae aI]) _
 let g':=((aE,aF,aG,aM,aH,aW,aI,aV),(aU,aS,aR,aQ,aP,aO,aN),aX)
 let A':=(n1,n2,n3,n4,n5,n6,n7,n8,n9,cw)
 obtain⟨ll,cG,hi0,mo⟩:=hp
 refine⟨λw1=>?_,λw2=>⟨Sq0,Sq14,ζ,Sq14,Sq15,ζ,Sq15,Sq16,ζ,[.s 16,.b 0],Sq17,ζ,Sq0,Sq18,ζ,Sq18,Sq19,ζ,Sq19,Sq20,ζ,[.s 20,.b 0],Sq21,ζ,Sq1,Sq22,ζ,[.s 5,.b 1005],Sq23,ζ,[.s 17,.s 21,.s 22,.s 23,.b 1,.b 2,.b 3,.b 4,.b 5,.b 1000250001,.b 1000250000],[.s 24,.b 1,.b 2,.b 3,.b 4,.b 5,.b 1000250000,.b 1000250001],ζ,⟨⟨tv9,tv8,aa,tv11,aa⟩,⟨?_,?_,?_,?_,?_⟩,?_,?_,?_,?_⟩,?_,λx3 w4=>⟨Sq24,Sq13,ζ,Sq13,Sq25,ζ,Sq13,Sq26,ζ,Sq13,Sq27,ζ,[.b 1006],[.s 6,.b 1006],ζ,[.b 1007],[.s 7,.b 1007],ζ,[.s 6,.s 25,.b 1006],[.b 1006],ζ,[.s 7,.s 26,.b 1007],[.b 1007],ζ,Sq27,Sq8,ζ,?_⟩⟩⟩
 all_goals first|refine aw ?_|refine ax ?_|exact a8|(dsimp only [vT,tj,gP];omega)|exact a7|exact ll|exact cG|skip
 ·refine⟨[4,5],[],_,_,_,ζ,az,(),0,aa,?_,?_,ζ⟩
  ·(show _=kh g' id A');unfold kh;first|(rw [PS (F:=g') w1];rfl)|rfl
  ·(show _=lU g' id A');unfold lU;first|(rw [PS (F:=g') w1];rfl)|rfl
 ·refine⟨[1000250000,1000250001],[],_,_,_,ζ,az,(),0,aa,?_,?_,ζ⟩
  ·(show _=kh g' id A');unfold kh;first|(rw [PR (F:=g') w2];rfl)|rfl
  ·(show _=lU g' id A');unfold lU;first|(rw [PR (F:=g') w2];rfl)|rfl
def iM (F:fp) (path:ByteArray):Prop:=F.1.rd∧F.2.1.ok∧path.size≤1000000
def dS (F:fp) (path:ByteArray):AV:=.t [.s (.int (dR F path).1),.s (.int (dR F path).2)]
def et (F:fp) (path:ByteArray):List AV:=fsO F
def gL:cn where
 A:=[.b 0,.s .str]
 B:=[.a [.xb 1 ab,.xb 2 ag,.xb 3 ag,.int,.xb 4 ae,.int,.xb 5 ae,.bool,.int,.int,.int,.int,.int,.int,.int,.bool],.r ab,.r ag,.r ag,.r ae,.r ae]
 pre:=λx b=>fsW b∧iM (oG b) (x.2)
 r:=λx b _=>dS (oG b) (x.2)
 o:=λx b _=>et (oG b) (x.2)
 ro:=true
theorem rJ:Has Tryz.prog 180 gL:=by
 refine Has.fm zT zF zF (l:=[(187,eQ),(207,sH),(179,dE)]) ⟨mV,MA,jV,aa⟩ Tryz.func180 ?_
 rintro⟨_,(path:ByteArray)⟩ ⟨⟨(Fm1:Nat),(Fm2:Nat),(Fm3:Nat),(aM:Int),(Fm4:Nat),(aW:Int),(Fm5:Nat),(aV:Bool),(aU:Int),(aS:Int),(aR:Int),(aQ:Int),(aP:Int),(aO:Int),(aN:Int),(aX:Bool)⟩,(aE:List ByteArray),(aF:List Int),(aG:List Int),(aH:List Pt),(aI:List Pt)⟩ ⟨⟨(jz:Fm1=List.length aE),(jy:Fm2=List.length aF),(jx:Fm3=List.length aG),(jv:Fm4=List.length aH),(ju:Fm5=List.length aI)⟩,(hp:iM ((aE,aF,aG,aM,aH,aW,aI,aV),(aU,aS,aR,aQ,aP,aO,aN),aX) path)⟩
 subst jz jy jx jv ju
 show vc _ _ _ _ (entry [.s (.bp 0 0),.str path] [.a [.xs 1 1 0 aE.length,.xs 2 1 0 aF.length,.xs 3 1 0 aG.length,.int aM,.xs 4 5 0 aH.length,.int aW,.xs 5 5 0 aI.length,.q aV,.int aU,.int aS,.int aR,.int aQ,.int aP,.int aO,.int aN,.q aX],.rs ab aE,.rs ag aF,.rs ag aG,.rs ae aH,.rs ae aI]) _
 let g':=((aE,aF,aG,aM,aH,aW,aI,aV),(aU,aS,aR,aQ,aP,aO,aN),aX)
 obtain⟨dF,cG,hps⟩:=hp
 have hnl:=ql (s:=path)
 have hln:(nZ path).length≤1000000:=by rw [ZB9];omega
 refine⟨⟨tv2,?_⟩,λx1 w2=>⟨λw3=>?_,λw4=>⟨Sq0,Sq13,ζ,Sq13,Sq14,ζ,Sq14,Sq15,ζ,[.s 15,.b 0],Sq16,ζ,Sq0,Sq17,ζ,Sq17,Sq18,ζ,Sq18,Sq19,ζ,[.s 19,.b 0],Sq20,ζ,Sq6,Sq21,ζ,Sq6,Sq22,ζ,Sq22,Sq23,ζ,Sq23,Sq24,ζ,⟨?_,?_⟩,[.s 21,.s 24],Sq25,ζ,⟨?_,?_,?_⟩,[.s 16,.s 20,.s 25,.b 1,.b 2,.b 3,.b 4,.b 5],Sq26,ζ,⟨⟨⟨⟨?_,?_⟩,⟨?_,?_⟩,⟨?_,?_⟩,aa,⟨?_,?_⟩,aa,⟨?_,?_⟩,tv2⟩,tv8,tv2⟩,?_,?_,?_⟩,?_,λx5 w6=>⟨Sq26,Sq7,ζ,λw7=>?_,λw8=>⟨⟨⟨tv3,⟨?_,?_,?_,?_,?_⟩,?_,?_⟩,λx9 dy=>?_⟩,λkz dJ=>⟨λiU=>?_,λgO=>?_⟩⟩⟩⟩⟩⟩
 all_goals first|refine aw ?_|refine ax ?_|exact a8|(dsimp only [eQ,fB,sH,qX,dE,ff,oG];omega)|exact a7|exact dF|exact cG|exact⟨dF,cG⟩|exact λ_ _=>rfl|skip
 ·have e:dR g' path=(0,3):=by unfold dR;rw [w3];rfl
  refine⟨[],[],_,_,_,ζ,az,(),aa,?_,?_,ζ⟩
  ·(show _=dS g' path);unfold dS;first|(rw [e];rfl)|rfl
  ·(show _=et g' path);unfold et;first|(rw [e];rfl)|rfl
 ·exact hln
 ·have e:dR g' path=(0,2):=by unfold dR plE;rw [w4,show decide (uM g'.1 g'.2.1 (nZ path)<0)=true from w7];rfl
  refine⟨[],[],_,_,_,ζ,az,(),aa,?_,?_,ζ⟩
  ·(show _=dS g' path);unfold dS;first|(rw [e];rfl)|rfl
  ·(show _=et g' path);unfold et;first|(rw [e];rfl)|rfl
 ·have e:dR g' path=(0,4):=by unfold dR plE;rw [w4,show decide (uM g'.1 g'.2.1 (nZ path)<0)=false from w8,show decide ((a6 g' (uM g'.1 g'.2.1 (nZ path))).1≠2)=true from iU];rfl
  refine⟨[],[],_,_,_,ζ,az,(),aa,?_,?_,ζ⟩
  ·(show _=dS g' path);unfold dS;first|(rw [e];rfl)|rfl
  ·(show _=et g' path);unfold et;first|(rw [e];rfl)|rfl
 ·have e:dR g' path=(uM g'.1 g'.2.1 (nZ path),0):=by unfold dR plE;rw [w4,show decide (uM g'.1 g'.2.1 (nZ path)<0)=false from w8,show decide ((a6 g' (uM g'.1 g'.2.1 (nZ path))).1≠2)=false from gO];rfl
  refine⟨[],[],_,_,_,ζ,az,(),aa,?_,?_,ζ⟩
  ·(show _=dS g' path);unfold dS;first|(rw [e];rfl)|rfl
  ·(show _=et g' path);unfold et;first|(rw [e];rfl)|rfl
def fW (F:fp) (path:ByteArray):Prop:=F.1.rd∧F.2.1.ok∧path.size≤1000000
def pH (F:fp) (path:ByteArray):AV:=.s (.int (bB F path))
def rI (F:fp) (path:ByteArray):List AV:=fsO F
def eB:cn where
 A:=[.b 0,.s .str]
 B:=[.a [.xb 1 ab,.xb 2 ag,.xb 3 ag,.int,.xb 4 ae,.int,.xb 5 ae,.bool,.int,.int,.int,.int,.int,.int,.int,.bool],.r ab,.r ag,.r ag,.r ae,.r ae]
 pre:=λx b=>fsW b∧fW (oG b) (x.2)
 r:=λx b _=>pH (oG b) (x.2)
 o:=λx b _=>rI (oG b) (x.2)
 ro:=true
theorem l4:Has Tryz.prog 178 eB:=by
 refine Has.fm zT zF zF (l:=[(187,eQ),(207,sH)]) ⟨mV,MA,aa⟩ Tryz.func178 ?_
 rintro⟨_,(path:ByteArray)⟩ ⟨⟨(Fm1:Nat),(Fm2:Nat),(Fm3:Nat),(aM:Int),(Fm4:Nat),(aW:Int),(Fm5:Nat),(aV:Bool),(aU:Int),(aS:Int),(aR:Int),(aQ:Int),(aP:Int),(aO:Int),(aN:Int),(aX:Bool)⟩,(aE:List ByteArray),(aF:List Int),(aG:List Int),(aH:List Pt),(aI:List Pt)⟩ ⟨⟨(jz:Fm1=List.length aE),(jy:Fm2=List.length aF),(jx:Fm3=List.length aG),(jv:Fm4=List.length aH),(ju:Fm5=List.length aI)⟩,(hp:fW ((aE,aF,aG,aM,aH,aW,aI,aV),(aU,aS,aR,aQ,aP,aO,aN),aX) path)⟩
 subst jz jy jx jv ju
 show vc _ _ _ _ (entry [.s (.bp 0 0),.str path] [.a [.xs 1 1 0 aE.length,.xs 2 1 0 aF.length,.xs 3 1 0 aG.length,.int aM,.xs 4 5 0 aH.length,.int aW,.xs 5 5 0 aI.length,.q aV,.int aU,.int aS,.int aR,.int aQ,.int aP,.int aO,.int aN,.q aX],.rs ab aE,.rs ag aF,.rs ag aG,.rs ae aH,.rs ae aI]) _
 let g':=((aE,aF,aG,aM,aH,aW,aI,aV),(aU,aS,aR,aQ,aP,aO,aN),aX)
 obtain⟨dF,cG,hps⟩:=hp
 have hnl:=ql (s:=path)
 refine⟨Sq0,Sq5,ζ,Sq5,Sq6,ζ,Sq6,Sq7,ζ,[.s 7,.b 0],Sq8,ζ,Sq0,Sq9,ζ,Sq9,Sq10,ζ,Sq10,Sq11,ζ,[.s 11,.b 0],Sq12,ζ,Sq1,Sq13,ζ,Sq13,Sq14,ζ,⟨tv2,?_⟩,?_,λx1 w2=>⟨[.s 8,.s 12,.s 14,.b 1,.b 2,.b 3,.b 4,.b 5],Sq15,ζ,⟨⟨⟨⟨?_,?_⟩,⟨?_,?_⟩,⟨?_,?_⟩,aa,⟨?_,?_⟩,aa,⟨?_,?_⟩,tv2⟩,tv8,tv2⟩,?_,?_,?_⟩,?_,λx3 w4=>⟨Sq15,Sq4,ζ,?_⟩⟩⟩
 all_goals first|refine aw ?_|refine ax ?_|exact a8|(dsimp only [eQ,fB,sH,qX];omega)|exact a7|exact dF|exact cG|exact ZB0 hnl hps|skip
 refine⟨[],[],_,_,_,ζ,az,(),aa,?_,?_,ζ⟩
 ·(show _=pH g' path);unfold pH;first|rfl
 ·(show _=rI g' path);unfold rI;first|rfl
def kB (F:fp) (path:ByteArray):Prop:=F.1.rd∧F.2.1.ok∧path.size≤1000000
def ft (F:fp) (path:ByteArray):AV:=.t [.s (.int (dw F path).1),.s (.int (dw F path).2)]
def fX (F:fp) (path:ByteArray):List AV:=fsO F
def kq:cn where
 A:=[.b 0,.s .str]
 B:=[.a [.xb 1 ab,.xb 2 ag,.xb 3 ag,.int,.xb 4 ae,.int,.xb 5 ae,.bool,.int,.int,.int,.int,.int,.int,.int,.bool],.r ab,.r ag,.r ag,.r ae,.r ae]
 pre:=λx b=>fsW b∧kB (oG b) (x.2)
 r:=λx b _=>ft (oG b) (x.2)
 o:=λx b _=>fX (oG b) (x.2)
 ro:=true
theorem xA:Has Tryz.prog 172 kq:=by
 refine Has.fm zT zF zF (l:=[(180,gL),(178,eB)]) ⟨rJ,l4,aa⟩ Tryz.func172 ?_
 rintro⟨_,(path:ByteArray)⟩ ⟨⟨(Fm1:Nat),(Fm2:Nat),(Fm3:Nat),(aM:Int),(Fm4:Nat),(aW:Int),(Fm5:Nat),(aV:Bool),(aU:Int),(aS:Int),(aR:Int),(aQ:Int),(aP:Int),(aO:Int),(aN:Int),(aX:Bool)⟩,(aE:List ByteArray),(aF:List Int),(aG:List Int),(aH:List Pt),(aI:List Pt)⟩ ⟨⟨(jz:Fm1=List.length aE),(jy:Fm2=List.length aF),(jx:Fm3=List.length aG),(jv:Fm4=List.length aH),(ju:Fm5=List.length aI)⟩,(hp:kB ((aE,aF,aG,aM,aH,aW,aI,aV),(aU,aS,aR,aQ,aP,aO,aN),aX) path)⟩
 subst jz jy jx jv ju
 show vc _ _ _ _ (entry [.s (.bp 0 0),.str path] [.a [.xs 1 1 0 aE.length,.xs 2 1 0 aF.length,.xs 3 1 0 aG.length,.int aM,.xs 4 5 0 aH.length,.int aW,.xs 5 5 0 aI.length,.q aV,.int aU,.int aS,.int aR,.int aQ,.int aP,.int aO,.int aN,.q aX],.rs ab aE,.rs ag aF,.rs ag aG,.rs ae aH,.rs ae aI]) _
 let g':=((aE,aF,aG,aM,aH,aW,aI,aV),(aU,aS,aR,aQ,aP,aO,aN),aX)
 obtain⟨dF,cG,hps⟩:=hp
 refine⟨⟨⟨tv3,⟨?_,?_,?_,?_,?_⟩,?_,?_,?_⟩,λx1 w2=>?_⟩,λx3 w4=>⟨λw5=>?_,λw6=>⟨⟨⟨tv3,⟨?_,?_,?_,?_,?_⟩,?_,?_,?_⟩,λx7 w8=>?_⟩,λx9 dy=>⟨λkA=>?_,λdJ=>?_⟩⟩⟩⟩
 all_goals first|refine aw ?_|refine ax ?_|exact a8|(dsimp only [gL,iM,eB,fW,oG];omega)|exact a7|exact dF|exact cG|exact⟨dF,cG,hps⟩|exact λ_ _=>rfl|skip
 ·have e:dw g' path=(0,(dR g' path).2):=by unfold dw;rw [show decide ((dR g' path).2>0)=true from w5];rfl
  refine⟨[],[],_,_,_,ζ,az,(),aa,?_,?_,ζ⟩
  ·(show _=ft g' path);unfold ft;first|(rw [e];rfl)|rfl
  ·(show _=fX g' path);unfold fX;first|(rw [e];rfl)|rfl
 ·have e:dw g' path=(0,3):=by unfold dw;rw [show decide ((dR g' path).2>0)=false from w6,show decide (bB g' path≥0)=true from kA];rfl
  refine⟨[],[],_,_,_,ζ,az,(),aa,?_,?_,ζ⟩
  ·(show _=ft g' path);unfold ft;first|(rw [e];rfl)|rfl
  ·(show _=fX g' path);unfold fX;first|(rw [e];rfl)|rfl
 ·have e:dw g' path=((dR g' path).1,0):=by unfold dw;rw [show decide ((dR g' path).2>0)=false from w6,show decide (bB g' path≥0)=false from dJ];rfl
  refine⟨[],[],_,_,_,ζ,az,(),aa,?_,?_,ζ⟩
  ·(show _=ft g' path);unfold ft;first|(rw [e];rfl)|rfl
  ·(show _=fX g' path);unfold fX;first|(rw [e];rfl)|rfl
end GL
namespace GL
attribute [local irreducible] dG cK eh mY aY aC
def gm (F:fp) (id:Int) (l:List eU):Prop:=F.1.wg 1040000∧F.2.1.ok∧(0≤id∧id≤15)∧KN l
def iK (F:fp) (id:Int) (l:List eU):AV:=.t []
def jr (F:fp) (id:Int) (l:List eU):List AV:=fsP (ch F id l)
def eZ:cn where
 A:=[.b 0,.s .int,.s (.vz aK)]
 B:=[.a [.xb 1 ab,.xb 2 ag,.xb 3 ag,.int,.xb 4 ae,.int,.xb 5 ae,.bool,.int,.int,.int,.int,.int,.int,.int,.bool],.r ab,.r ag,.r ag,.r ae,.r ae]
 pre:=λx b=>fsW b∧gm (oG b) (x.2.1) (x.2.2)
 r:=λx b _=>iK (oG b) (x.2.1) (x.2.2)
 o:=λx b _=>jr (oG b) (x.2.1) (x.2.2)
 nf:=2
 mv:=true
theorem nv:Has Tryz.prog 175 eZ:=by
 refine Has.ofZ zT zF zF (l:=[(179,dE),(205,qz),(206,PV),(174,fj)]) ⟨jV,IJ,afW,nY,aa⟩ Tryz.func175 ?_
 rintro⟨_,(id:Int),(l:List eU)⟩ ⟨⟨(Fm1:Nat),(Fm2:Nat),(Fm3:Nat),(aM:Int),(Fm4:Nat),(aW:Int),(Fm5:Nat),(aV:Bool),(aU:Int),(aS:Int),(aR:Int),(aQ:Int),(aP:Int),(aO:Int),(aN:Int),(aX:Bool)⟩,(aE:List ByteArray),(aF:List Int),(aG:List Int),(aH:List Pt),(aI:List Pt)⟩ ⟨⟨(jz:Fm1=List.length aE),(jy:Fm2=List.length aF),(jx:Fm3=List.length aG),(jv:Fm4=List.length aH),(ju:Fm5=List.length aI)⟩,(hp:gm ((aE,aF,aG,aM,aH,aW,aI,aV),(aU,aS,aR,aQ,aP,aO,aN),aX) id l)⟩
 subst jz jy jx jv ju
 show vc _ _ _ _ (entry [.s (.bp 0 0),.int id,.s (.vz aK l)] [.a [.xs 1 1 0 aE.length,.xs 2 1 0 aF.length,.xs 3 1 0 aG.length,.int aM,.xs 4 5 0 aH.length,.int aW,.xs 5 5 0 aI.length,.q aV,.int aU,.int aS,.int aR,.int aQ,.int aP,.int aO,.int aN,.q aX],.rs ab aE,.rs ag aF,.rs ag aG,.rs ae aH,.rs ae aI]) _
 let g':=((aE,aF,aG,aM,aH,aW,aI,aV),(aU,aS,aR,aQ,aP,aO,aN),aX)
 obtain⟨ll,cG,⟨hi0,mo⟩,hl⟩:=hp
 have hl:KN l:=hl
 have ll:ay.wg g'.1 1040000:=ll
 have cG:bf.ok g'.2.1:=cG
 have hbo:=UJ (text:=eh l) ll (pe g'.1 g'.2.1 id)
 refine⟨λw1=>?_,λw2=>⟨⟨⟨tv3,⟨?_,?_,?_,?_,?_⟩,?_,?_⟩,λx3 w4=>?_⟩,λx5 w6=>⟨⟨tv2,?_⟩,λx7 w8=>⟨Sq0,Sq21,ζ,Sq21,Sq22,ζ,Sq22,Sq23,ζ,[.s 23,.b 0],Sq24,ζ,Sq6,Sq25,ζ,[.s 25,.b 1006],Sq26,ζ,Sq7,Sq27,ζ,[.s 24,.s 26,.s 27,.b 1,.b 2,.b 3,.b 4,.b 5,.b 1000290001,.b 1000290000],[.s 28,.b 1,.b 2,.b 3,.b 4,.b 5,.b 1000290000,.b 1000290001],ζ,⟨⟨tv9,tv8,tv2⟩,⟨?_,?_,?_,?_,?_⟩,?_,?_,?_⟩,?_,λx9 dy=>⟨Sq28,Sq20,ζ,Sq20,Sq29,ζ,Sq20,Sq30,ζ,Sq20,Sq31,ζ,[.b 1008],[.s 8,.b 1008],ζ,[.b 1009],[.s 9,.b 1009],ζ,[.s 8,.s 29,.b 1008],[.b 1008],ζ,[.s 9,.s 30,.b 1009],[.b 1009],ζ,Sq31,Sq10,ζ,⟨⟨aa,aa,tv11,aa⟩,⟨?_,?_,?_,?_,?_⟩,?_,?_,?_,?_⟩,λkz dJ=>?_⟩⟩⟩⟩⟩
 all_goals first|refine aw ?_|refine ax ?_|exact a8|(dsimp only [dE,ff,qz,p9,PV,B1,fj,gH,gP,oG];omega)|exact a7|exact ll.wf.rd|exact cG|exact⟨ll.wf.rd,cG⟩|exact λ_ _=>rfl|exact hl.p|exact pe _ _ _|exact hl.size|skip
 ·refine⟨[4,5],[],_,_,_,ζ,az,(),0,aa,?_,?_,ζ⟩
  ·(show _=iK g' id l);unfold iK;first|(rw [JJ (F:=g') w1];rfl)|rfl
  ·(show _=jr g' id l);unfold jr;first|(rw [JJ (F:=g') w1];rfl)|rfl
 ·exact ll.mono (by decide)
 ·exact hbo.1.mono (by decide)
 ·refine⟨[1000500000,1000500001],[],_,_,_,ζ,az,(),0,aa,?_,?_,ζ⟩
  ·(show _=iK g' id l);unfold iK;first|(exact Eq.trans rfl (congrArg fsP (JI (F:=g') (id:=id) (l:=l) w2).symm))|rfl
  ·(show _=jr g' id l);unfold jr;first|(exact Eq.trans rfl (congrArg fsP (JI (F:=g') (id:=id) (l:=l) w2).symm))|rfl
end GL
namespace GL
attribute [local irreducible] dG cK bJ mY aY aC ch dw dR bB uM xo qR bC
def pZ (F:fp) (path:ByteArray) (kind:Int):Prop:=cY F 1000000∧F.2.2=false∧path.size≤1000
def HB (F:fp) (path:ByteArray) (kind:Int) (z:fp×Int):Prop:=∀n,cY F n→cY z.1 (n+300)
def GR (F:fp) (path:ByteArray) (kind:Int) (z:fp×Int):AV:=.s (.int z.2)
def KS (F:fp) (path:ByteArray) (kind:Int) (z:fp×Int):List AV:=fsP z.1
def ub:cn where
 A:=[.b 0,.s .str,.s .int]
 B:=[.a [.xb 1 ab,.xb 2 ag,.xb 3 ag,.int,.xb 4 ae,.int,.xb 5 ae,.bool,.int,.int,.int,.int,.int,.int,.int,.bool],.r ab,.r ag,.r ag,.r ae,.r ae]
 pre:=λx b=>fsW b∧pZ (oG b) (x.2.1) (x.2.2)
 α:=λ_ _=>fp×Int
 φ:=λx b z=>HB (oG b) (x.2.1) (x.2.2) z
 r:=λx b z=>GR (oG b) (x.2.1) (x.2.2) z
 o:=λx b z=>KS (oG b) (x.2.1) (x.2.2) z
 nf:=2
 mv:=true
theorem PC:Has Tryz.prog 133 ub:=by
 refine Has.ofZ zT zF zF (l:=[(172,kq),(48,DC),(173,dT),(174,fj),(177,j6),(176,qA),(175,eZ)]) ⟨xA,abJ,kE,nY,wS,IK,nv,aa⟩ Tryz.func133 ?_
 rintro⟨_,(path:ByteArray),(kind:Int)⟩ ⟨⟨(Fm1:Nat),(Fm2:Nat),(Fm3:Nat),(aM:Int),(Fm4:Nat),(aW:Int),(Fm5:Nat),(aV:Bool),(aU:Int),(aS:Int),(aR:Int),(aQ:Int),(aP:Int),(aO:Int),(aN:Int),(aX:Bool)⟩,(aE:List ByteArray),(aF:List Int),(aG:List Int),(aH:List Pt),(aI:List Pt)⟩ ⟨⟨(jz:Fm1=List.length aE),(jy:Fm2=List.length aF),(jx:Fm3=List.length aG),(jv:Fm4=List.length aH),(ju:Fm5=List.length aI)⟩,(hp:pZ ((aE,aF,aG,aM,aH,aW,aI,aV),(aU,aS,aR,aQ,aP,aO,aN),aX) path kind)⟩
 subst jz jy jx jv ju
 show vc _ _ _ _ (entry [.s (.bp 0 0),.str path,.int kind] [.a [.xs 1 1 0 aE.length,.xs 2 1 0 aF.length,.xs 3 1 0 aG.length,.int aM,.xs 4 5 0 aH.length,.int aW,.xs 5 5 0 aI.length,.q aV,.int aU,.int aS,.int aR,.int aQ,.int aP,.int aO,.int aN,.q aX],.rs ab aE,.rs ag aF,.rs ag aG,.rs ae aH,.rs ae aI]) _
 let g':=((aE,aF,aG,aM,aH,aW,aI,aV),(aU,aS,aR,aQ,aP,aO,aN),aX)
 obtain⟨hF,hfu,hps⟩:=hp
 have hF:cY g' 1000000:=hF
 have dF:ay.rd g'.1:=hF.wg.wf.rd
 have cG:bf.ok g'.2.1:=hF.ok
 have hp6:path.size≤1000000:=ZB0 hps (by decide)
 have h0:decide (xo g'.1 g'.2.1<0)=false→0≤xo g'.1 g'.2.1:=λh=>ZH1.1 (aA h)
 have xE:decide (xo g'.1 g'.2.1<0)=false→xo g'.1 g'.2.1≤15:=λh=>hF.free hfu (h0 h)
 have ke:decide ((dw g' path).2>0)=false→1≤(bC path).length∧0≤(dw g' path).1∧(dw g' path).1≤15:=MS
 have hen:∀nd,(bJ g'.1 nd).1.length≤1000:=λnd=>ZB0 (qv _ nd).len (by decide)
 have hmk:decide (xo g'.1 g'.2.1<0)=false→cY (mY g' (xo g'.1 g'.2.1) (kind,1,0,ny)) 1000006:=λh=>hF.make hfu (h0 h)
 have hew:decide ((dw g' path).2>0)=false→decide (xo g'.1 g'.2.1<0)=false→KN (qR (bJ g'.1 (a6 g' (dw g' path).1)).1 (dK path,xo g'.1 g'.2.1)):=λh h2=>(qv _ _).add (ZB0 (KD (ke h).1) hps) ⟨h0 h2,ZE0 (xE h2) (by decide)⟩
 refine⟨⟨⟨tv3,⟨?_,?_,?_,?_,?_⟩,?_,?_,?_⟩,λx1 w2=>?_⟩,λx3 w4=>⟨λw5=>?_,λw6=>⟨Sq0,Sq20,ζ,Sq20,Sq21,ζ,Sq21,Sq22,ζ,[.s 22,.b 0],Sq23,ζ,Sq0,Sq24,ζ,Sq24,Sq25,ζ,Sq25,Sq26,ζ,[.s 26,.b 0],Sq27,ζ,[.s 23,.s 27,.b 1,.b 2,.b 3,.b 4,.b 5],Sq28,ζ,⟨⟨⟨⟨?_,?_⟩,⟨?_,?_⟩,⟨?_,?_⟩,aa,⟨?_,?_⟩,aa,⟨?_,?_⟩,tv2⟩,tv8,aa⟩,?_,?_⟩,?_,λx7 w8=>⟨Sq28,Sq9,ζ,⟨⟨tv3,⟨?_,?_,?_,?_,?_⟩,?_,?_⟩,λx9 dy=>?_⟩,λkz dJ=>⟨aa,λiU=>?_,λgO=>⟨λqK=>?_,λkg=>⟨⟨⟨aa,aa,tv11,aa⟩,⟨?_,?_,?_,?_,?_⟩,?_,?_,?_,?_⟩,λx17 rS=>⟨⟨tv2,?_,?_⟩,λx19 uI=>⟨⟨⟨aa,tv3,aa⟩,?_⟩,λx21 A3=>⟨⟨⟨aa,aa,⟨?_,?_⟩,aa⟩,⟨?_,?_,?_,?_,?_⟩,?_,?_,⟨?_,?_⟩,?_⟩,λx23 rR=>?_⟩⟩⟩⟩⟩⟩⟩⟩⟩⟩
 all_goals first|refine aw ?_|refine ax ?_|exact a8|(dsimp only [kq,kB,DC,ve,dT,fl,fj,gH,j6,k8,qA,qa,eZ,gm,oG];omega)|exact a7|exact dF|exact cG|exact hp6|exact⟨dF,cG⟩|exact⟨dF,cG,hp6⟩|exact λ_ _=>rfl|exact hF.wg.mono (by decide)|exact h0 gO|exact xE gO|exact (ke w6).1|exact (ke w6).2.1|exact (ke w6).2.2|exact hen _|exact (hmk gO).wg.mono (by decide)|exact (hmk gO).ok|exact hew w6 gO|skip
 ·refine⟨[4,5],[],_,_,_,ζ,cf,(g',(dw g' path).2),0,λn h=>h.mono (by omega),ζ,ζ,ζ⟩
 ·refine⟨[4,5],[],_,_,_,ζ,cf,(g',6),0,λn h=>h.mono (by omega),ζ,ζ,ζ⟩
 ·refine⟨[4,5],[],_,_,_,ζ,cf,(g',6),0,λn h=>h.mono (by omega),ζ,ζ,ζ⟩
 ·refine⟨[1000530000,1000530001],[],_,_,_,ζ,cf,(ch (mY g' (xo g'.1 g'.2.1) (kind,1,0,ny)) (dw g' path).1 (qR (bJ g'.1 (a6 g' (dw g' path).1)).1 (dK path,xo g'.1 g'.2.1)),0),0,λn h=>((h.make (kind:=kind) hfu (h0 gO)).sU (ke w6).2.1 (ke w6).2.2).1.mono (by omega),ζ,ζ,ζ⟩
end GL
namespace GL
attribute [local irreducible] dG cK bJ mY aY aC ch dw dR bB uM xo qR bC nB jb cq ew lu
def mL (F:fp) (o:Opr):Prop:=cY F 1000000∧F.2.2=false∧o.2.1.size≤1000∧0≤o.2.2.2.1∧o.2.2.2.1≤192∧o.2.2.2.2.size≤1000
def B5 (F:fp) (o:Opr) (z:fp×Int):Prop:=∀n,cY F n→cY z.1 (n+300)
def BH (F:fp) (o:Opr) (z:fp×Int):AV:=.s (.int z.2)
def ES (F:fp) (o:Opr) (z:fp×Int):List AV:=fsP z.1
def qy:cn where
 A:=[.b 0,.a [.int,.str,.str,.int,.str]]
 B:=[.a [.xb 1 ab,.xb 2 ag,.xb 3 ag,.int,.xb 4 ae,.int,.xb 5 ae,.bool,.int,.int,.int,.int,.int,.int,.int,.bool],.r ab,.r ag,.r ag,.r ae,.r ae]
 pre:=λx b=>fsW b∧mL (oG b) (x.2)
 α:=λ_ _=>fp×Int
 φ:=λx b z=>B5 (oG b) (x.2) z
 r:=λx b z=>BH (oG b) (x.2) z
 o:=λx b z=>ES (oG b) (x.2) z
 nf:=2
 mv:=true
theorem II:Has Tryz.prog 137 qy:=by
 refine Has.ofZ zT zF zF (l:=[(178,eB),(179,dE),(185,yW),(186,J2),(174,fj)]) ⟨l4,jV,W6,adZ,nY,aa⟩ Tryz.func137 ?_
 rintro⟨_,⟨(o1:Int),(o2:ByteArray),(o3:ByteArray),(o4:Int),(o5:ByteArray)⟩⟩ ⟨⟨(Fm1:Nat),(Fm2:Nat),(Fm3:Nat),(aM:Int),(Fm4:Nat),(aW:Int),(Fm5:Nat),(aV:Bool),(aU:Int),(aS:Int),(aR:Int),(aQ:Int),(aP:Int),(aO:Int),(aN:Int),(aX:Bool)⟩,(aE:List ByteArray),(aF:List Int),(aG:List Int),(aH:List Pt),(aI:List Pt)⟩ ⟨⟨(jz:Fm1=List.length aE),(jy:Fm2=List.length aF),(jx:Fm3=List.length aG),(jv:Fm4=List.length aH),(ju:Fm5=List.length aI)⟩,(hp:mL ((aE,aF,aG,aM,aH,aW,aI,aV),(aU,aS,aR,aQ,aP,aO,aN),aX) (o1,o2,o3,o4,o5))⟩
 subst jz jy jx jv ju
 show vc _ _ _ _ (entry [.s (.bp 0 0),.a [.int o1,.str o2,.str o3,.int o4,.str o5]] [.a [.xs 1 1 0 aE.length,.xs 2 1 0 aF.length,.xs 3 1 0 aG.length,.int aM,.xs 4 5 0 aH.length,.int aW,.xs 5 5 0 aI.length,.q aV,.int aU,.int aS,.int aR,.int aQ,.int aP,.int aO,.int aN,.q aX],.rs ab aE,.rs ag aF,.rs ag aG,.rs ae aH,.rs ae aI]) _
 let g':=((aE,aF,aG,aM,aH,aW,aI,aV),(aU,aS,aR,aQ,aP,aO,aN),aX)
 obtain⟨hF,hfu,hps,ha0,ha1,htx⟩:=hp
 have hF:cY g' 1000000:=hF
 have dF:ay.rd g'.1:=hF.wg.wf.rd
 have cG:bf.ok g'.2.1:=hF.ok
 have hp6:o2.size≤1000000:=ZB0 hps (by decide)
 have h0:decide (bB g' o2<0)=false→0≤bB g' o2:=λh=>ZH1.1 (aA h)
 have xE:bB g' o2≤15:=(zi _ _).2
 have EX:decide ((a6 g' (bB g' o2)).1≠1)=false→(a6 g' (bB g' o2)).1=1:=λh=>ZE9.1 (aA h)
 have uy:decide (bB g' o2<0)=false→decide ((a6 g' (bB g' o2)).1≠1)=false→cy (a6 g' (bB g' o2))=true:=λh h2=>(hF.file hfu (h0 h) xE (EX h2)).2
 have hw:=λh h2 (h3:o4+o5.size≤192)=>hF.iU (text:=o5) hfu (h0 h) xE (EX h2) ha0 h3
 have hc:=λh h2=>hF.c13 hfu (h0 h) xE (EX h2) ha0 ha1
 have ahY:decide (o4+(o5.size:Int)>192)=false→o4+(o5.size:Int)≤192:=λh=>ZH1.1 (aA h)
 refine⟨⟨⟨tv3,⟨?_,?_,?_,?_,?_⟩,?_,?_,?_⟩,λx1 w2=>?_⟩,λx3 w4=>⟨λw5=>?_,λw6=>⟨⟨⟨tv3,⟨?_,?_,?_,?_,?_⟩,?_,?_⟩,λx7 w8=>?_⟩,λx9 dy=>⟨λkA=>?_,λdJ=>⟨⟨?_,?_⟩,λiU=>?_,λgO=>⟨λqK=>⟨Sq0,Sq31,ζ,Sq0,Sq32,ζ,Sq32,Sq33,ζ,Sq33,Sq34,ζ,[.s 34,.b 0],Sq35,ζ,[.s 6,.b 1006],Sq36,ζ,Sq3,Sq37,ζ,[.s 37,.b 1003],Sq38,ζ,Sq3,Sq39,ζ,[.s 39,.b 1003],Sq40,ζ,[.s 35,.s 36,.s 38,.s 40,.b 1,.b 2,.b 3,.b 4,.b 5,.b 1000420001,.b 1000420000],[.s 41,.b 1,.b 2,.b 3,.b 4,.b 5,.b 1000420000,.b 1000420001],ζ,⟨⟨tv9,tv11,tv3⟩,⟨?_,?_,?_,?_,?_⟩,?_,?_,?_,?_⟩,?_,λx16 xh=>⟨Sq41,Sq30,ζ,Sq30,Sq42,ζ,Sq30,Sq43,ζ,Sq30,Sq44,ζ,Sq31,Sq45,ζ,Sq45,Sq46,ζ,[.s 46,.s 42,.b 0],[.b 0],ζ,[.s 6,.s 43,.b 1006],[.b 1006],ζ,Sq44,Sq7,ζ,⟨⟨aa,aa,tv11,aa⟩,⟨?_,?_,?_,?_,?_⟩,?_,?_,?_,?_⟩,λqH oL=>?_⟩⟩,λuI=>⟨Sq0,Sq48,ζ,Sq0,Sq49,ζ,Sq49,Sq50,ζ,Sq50,Sq51,ζ,[.s 51,.b 0],Sq52,ζ,[.s 6,.b 1006],Sq53,ζ,Sq3,Sq54,ζ,[.s 54,.b 1003],Sq55,ζ,[.s 52,.s 53,.s 55,.b 1,.b 2,.b 3,.b 4,.b 5,.b 1000570001,.b 1000570000],[.s 56,.b 1,.b 2,.b 3,.b 4,.b 5,.b 1000570000,.b 1000570001],ζ,⟨⟨tv9,tv11,tv2⟩,⟨?_,?_,?_,?_,?_⟩,?_,?_,?_,?_,?_⟩,?_,λx21 A3=>⟨Sq56,Sq47,ζ,Sq47,Sq57,ζ,Sq47,Sq58,ζ,Sq47,Sq59,ζ,Sq48,Sq60,ζ,Sq60,Sq61,ζ,[.s 61,.s 57,.b 0],[.b 0],ζ,[.s 6,.s 58,.b 1006],[.b 1006],ζ,Sq59,Sq7,ζ,⟨⟨aa,aa,tv11,aa⟩,⟨?_,?_,?_,?_,?_⟩,?_,?_,?_,?_⟩,λx23 rR=>?_⟩⟩⟩⟩⟩⟩⟩⟩
 all_goals first|refine aw ?_|refine ax ?_|exact a8|(dsimp only [eB,fW,dE,ff,yW,th,J2,yj,fj,gH,gP,oG];omega)|exact a7|exact dF|exact cG|exact hp6|exact⟨dF,cG⟩|exact⟨dF,cG,hp6⟩|exact λ_ _=>rfl|exact hF.wg.mono (by decide)|exact h0 w6|exact xE|exact ahY gO|exact HS (uy w6 dJ)|exact uy w6 dJ|exact EX dJ|exact (hw w6 dJ (ahY gO)).1.mono (by decide)|exact (hc w6 dJ).1.mono (by decide)|skip
 ·refine⟨[4,5],[],_,_,_,ζ,cf,(g',2),0,λn h=>h.mono (by omega),ζ,ζ,ζ⟩
 ·refine⟨[4,5],[],_,_,_,ζ,cf,(g',4),0,λn h=>h.mono (by omega),ζ,ζ,ζ⟩
 ·refine⟨[4,5],[],_,_,_,ζ,cf,(g',6),0,λn h=>h.mono (by omega),ζ,ζ,ζ⟩
 ·refine⟨[1000710000,1000710001],[],_,_,_,ζ,cf,(mY ((nB g'.1 (a6 g' (bB g' o2)) o4 o5).1,g'.2.1,!(nB g'.1 (a6 g' (bB g' o2)) o4 o5).2.2) (bB g' o2) (nB g'.1 (a6 g' (bB g' o2)) o4 o5).2.1,0),0,λn h=>(h.iU (text:=o5) hfu (h0 w6) xE (EX dJ) ha0 (ahY gO)).2.mono (by omega),ζ,ζ,ζ⟩
 ·refine⟨[1000710000,1000710001],[],_,_,_,ζ,cf,(mY ((jb g'.1 (a6 g' (bB g' o2)) o4).1,g'.2.1,!(jb g'.1 (a6 g' (bB g' o2)) o4).2.2) (bB g' o2) (jb g'.1 (a6 g' (bB g' o2)) o4).2.1,0),0,λn h=>(h.c13 hfu (h0 w6) xE (EX dJ) ha0 ha1).2.mono (by omega),ζ,ζ,ζ⟩
end GL
namespace GL
attribute [local irreducible] dG cK bJ mY aY aC ch dw dR bB uM xo qR bC nB jb cq ew lu
def p8 (F:fp) (path:ByteArray):Prop:=cY F 1000000∧F.2.2=false∧path.size≤1000
def HD (F:fp) (path:ByteArray) (z:fp×Int):Prop:=∀n,cY F n→cY z.1 (n+300)
def GU (F:fp) (path:ByteArray) (z:fp×Int):AV:=.s (.int z.2)
def KU (F:fp) (path:ByteArray) (z:fp×Int):List AV:=fsP z.1
def ud:cn where
 A:=[.b 0,.s .str]
 B:=[.a [.xb 1 ab,.xb 2 ag,.xb 3 ag,.int,.xb 4 ae,.int,.xb 5 ae,.bool,.int,.int,.int,.int,.int,.int,.int,.bool],.r ab,.r ag,.r ag,.r ae,.r ae]
 pre:=λx b=>fsW b∧p8 (oG b) (x.2)
 α:=λ_ _=>fp×Int
 φ:=λx b z=>HD (oG b) (x.2) z
 r:=λx b z=>GU (oG b) (x.2) z
 o:=λx b z=>KU (oG b) (x.2) z
 nf:=2
 mv:=true
theorem PE:Has Tryz.prog 134 ud:=by
 refine Has.ofZ zT zF zF (l:=[(178,eB),(179,dE),(180,gL),(173,dT),(177,j6),(182,oZ),(181,sK),(175,eZ),(174,fj),(183,DD)]) ⟨l4,jV,rJ,kE,wS,FG,MD,nv,nY,abK,aa⟩ Tryz.func134 ?_
 rintro⟨_,(path:ByteArray)⟩ ⟨⟨(Fm1:Nat),(Fm2:Nat),(Fm3:Nat),(aM:Int),(Fm4:Nat),(aW:Int),(Fm5:Nat),(aV:Bool),(aU:Int),(aS:Int),(aR:Int),(aQ:Int),(aP:Int),(aO:Int),(aN:Int),(aX:Bool)⟩,(aE:List ByteArray),(aF:List Int),(aG:List Int),(aH:List Pt),(aI:List Pt)⟩ ⟨⟨(jz:Fm1=List.length aE),(jy:Fm2=List.length aF),(jx:Fm3=List.length aG),(jv:Fm4=List.length aH),(ju:Fm5=List.length aI)⟩,(hp:p8 ((aE,aF,aG,aM,aH,aW,aI,aV),(aU,aS,aR,aQ,aP,aO,aN),aX) path)⟩
 subst jz jy jx jv ju
 show vc _ _ _ _ (entry [.s (.bp 0 0),.str path] [.a [.xs 1 1 0 aE.length,.xs 2 1 0 aF.length,.xs 3 1 0 aG.length,.int aM,.xs 4 5 0 aH.length,.int aW,.xs 5 5 0 aI.length,.q aV,.int aU,.int aS,.int aR,.int aQ,.int aP,.int aO,.int aN,.q aX],.rs ab aE,.rs ag aF,.rs ag aG,.rs ae aH,.rs ae aI]) _
 let g':=((aE,aF,aG,aM,aH,aW,aI,aV),(aU,aS,aR,aQ,aP,aO,aN),aX)
 obtain⟨hF,hfu,hps⟩:=hp
 have hF:cY g' 1000000:=hF
 have dF:ay.rd g'.1:=hF.wg.wf.rd
 have cG:bf.ok g'.2.1:=hF.ok
 have hp6:path.size≤1000000:=ZB0 hps (by decide)
 have h0:decide (bB g' path<0)=false→decide (bB g' path=0)=false→0<bB g' path:=λh h2=>by have:=aA h;have:=aA h2;omega
 have xE:bB g' path≤15:=(zi _ _).2
 have rT:=λ(h:0<bB g' path)=>OE (pD h).1
 have hpb:0<bB g' path→0≤(dR g' path).1∧(dR g' path).1≤15:=λh=>by rw [(rT h).2.1];exact⟨(rT h).2.2.1,(rT h).2.2.2.1⟩
 have hen:∀nd,(bJ g'.1 nd).1.length≤1000:=λnd=>ZB0 (qv _ nd).len (by decide)
 have xD:=λ(h:0<bB g' path)=>(pD h).2.1
 have hal:=λ(h:0<bB g' path)=>(y8 (xD h)).1
 have hwr:=λn (hF:cY g' n) (h:0<bB g' path)=>hF.sU (l:=ew (bJ g'.1 (a6 g' (dR g' path).1)).1 (lu (bJ g'.1 (a6 g' (dR g' path).1)).1 (dK path)).toNat) (hpb h).1 (hpb h).2
 have hlk:=λ(h:0<bB g' path)=>hF.adF hfu (Int.le_of_lt h) xE
 have hnA:0<bB g' path→decide ((a6 g' (bB g' path)).2.2.1>0)=false→bB g' path≠(dR g' path).1:=λh h2=>aao h λ_=>aA h2
 have hnB:0<bB g' path→decide ((a6 g' (bB g' path)).1=2)=false→bB g' path≠(dR g' path).1:=λh h2=>aao h λe=>absurd e (aA h2)
 have hls:=λn (hF:cY g' n) h=>λ(fA:bB g' path≠(dR g' path).1)=>(hwr n hF h).1.adE (l:=(a6 g' (bB g' path)).2.1-1) (nd:=a6 g' (bB g' path)) h xE λhz=>hF.aaC hfu (hpb h).1 (hpb h).2 (Int.le_of_lt h) xE fA hz
 have hdr:=λn (hF:cY g' n) h=>(hwr n hF h).1.ajJ h xE
 refine⟨⟨⟨tv3,⟨?_,?_,?_,?_,?_⟩,?_,?_,?_⟩,λx1 w2=>?_⟩,λx3 w4=>⟨λw5=>?_,λw6=>⟨⟨⟨tv3,⟨?_,?_,?_,?_,?_⟩,?_,?_⟩,λx7 w8=>?_⟩,λx9 dy=>⟨aa,λkA=>?_,λdJ=>⟨aa,λiU=>⟨λgO=>?_,λqK=>⟨⟨⟨tv3,⟨?_,?_,?_,?_,?_⟩,?_,?_,?_⟩,λx16 xh=>?_⟩,λqH oL=>⟨⟨⟨tv3,⟨?_,?_,?_,?_,?_⟩,?_,?_⟩,λx20 A4=>?_⟩,λx22 xK=>⟨⟨tv2,?_,?_⟩,λx24 w25=>⟨⟨tv3,?_⟩,λx26 w27=>⟨⟨tv3,?_,?_,?_⟩,λx28 w29=>⟨⟨⟨aa,aa,⟨?_,?_⟩,aa⟩,⟨?_,?_,?_,?_,?_⟩,?_,?_,⟨?_,?_⟩,?_⟩,λx30 w31=>⟨⟨?_,?_⟩,λw32=>⟨⟨⟨aa,aa,tv11,aa⟩,⟨?_,?_,?_,?_,?_⟩,?_,?_,?_,?_⟩,λx33 w34=>?_⟩,λw35=>⟨λw36=>⟨Sq0,Sq68,ζ,Sq68,Sq69,ζ,Sq69,Sq70,ζ,[.s 70,.b 0],Sq71,ζ,Sq0,Sq72,ζ,Sq72,Sq73,ζ,Sq73,Sq74,ζ,[.s 74,.b 0],Sq75,ζ,Sq5,Sq76,ζ,[.s 71,.s 75,.s 76,.b 1,.b 2,.b 3,.b 1000510000,.b 1000510001,.b 1000780001,.b 1000780000],[.s 77,.b 1,.b 2,.b 3,.b 1000510000,.b 1000510001,.b 1000780000,.b 1000780001],ζ,⟨⟨tv9,tv8,tv2⟩,⟨?_,?_,?_,?_,?_⟩,?_,?_,?_,?_,?_⟩,?_,λx37 w38=>⟨Sq77,Sq67,ζ,Sq67,Sq78,ζ,Sq67,Sq79,ζ,Sq67,Sq80,ζ,[.b 1010],[.s 10,.b 1010],ζ,[.b 1011],[.s 11,.b 1011],ζ,[.s 10,.s 78,.b 1010],[.b 1010],ζ,[.s 11,.s 79,.b 1011],[.b 1011],ζ,Sq80,Sq12,ζ,?_⟩⟩,λw39=>?_⟩⟩⟩⟩⟩⟩⟩⟩⟩,λw40=>⟨⟨⟨tv3,⟨?_,?_,?_,?_,?_⟩,?_,?_,?_⟩,λx41 w42=>?_⟩,λx43 w44=>⟨⟨⟨tv3,⟨?_,?_,?_,?_,?_⟩,?_,?_⟩,λx45 w46=>?_⟩,λx47 w48=>⟨⟨tv2,?_,?_⟩,λx49 w50=>⟨⟨tv3,?_⟩,λx51 w52=>⟨⟨tv3,?_,?_,?_⟩,λx53 w54=>⟨⟨⟨aa,aa,⟨?_,?_⟩,aa⟩,⟨?_,?_,?_,?_,?_⟩,?_,?_,⟨?_,?_⟩,?_⟩,λx55 w56=>⟨⟨?_,?_⟩,λw57=>⟨⟨⟨aa,aa,tv11,aa⟩,⟨?_,?_,?_,?_,?_⟩,?_,?_,?_,?_⟩,λx58 w59=>?_⟩,λw60=>⟨λw61=>⟨Sq0,Sq68,ζ,Sq68,Sq69,ζ,Sq69,Sq70,ζ,[.s 70,.b 0],Sq71,ζ,Sq0,Sq72,ζ,Sq72,Sq73,ζ,Sq73,Sq74,ζ,[.s 74,.b 0],Sq75,ζ,Sq5,Sq76,ζ,[.s 71,.s 75,.s 76,.b 1,.b 2,.b 3,.b 1000510000,.b 1000510001,.b 1000780001,.b 1000780000],[.s 77,.b 1,.b 2,.b 3,.b 1000510000,.b 1000510001,.b 1000780000,.b 1000780001],ζ,⟨⟨tv9,tv8,tv2⟩,⟨?_,?_,?_,?_,?_⟩,?_,?_,?_,?_,?_⟩,?_,λx62 w63=>⟨Sq77,Sq67,ζ,Sq67,Sq78,ζ,Sq67,Sq79,ζ,Sq67,Sq80,ζ,[.b 1010],[.s 10,.b 1010],ζ,[.b 1011],[.s 11,.b 1011],ζ,[.s 10,.s 78,.b 1010],[.b 1010],ζ,[.s 11,.s 79,.b 1011],[.b 1011],ζ,Sq80,Sq12,ζ,?_⟩⟩,λw64=>?_⟩⟩⟩⟩⟩⟩⟩⟩⟩⟩⟩⟩⟩
 all_goals first|refine aw ?_|refine ax ?_|exact a8|(dsimp only [eB,fW,dE,ff,gL,iM,dT,fl,j6,k8,oZ,o9,sK,q6,eZ,gm,fj,gH,DD,vf,gP,oG];omega)|exact a7|exact dF|exact cG|exact hp6|exact⟨dF,cG⟩|exact⟨dF,cG,hp6⟩|exact λ_ _=>rfl|exact hF.wg.mono (by decide)|exact xE|exact (rT (h0 w6 dJ)).1|exact hen _|exact ZB0 (hen _) (by decide)|exact xD (h0 w6 dJ)|exact hal (h0 w6 dJ)|exact (hpb (h0 w6 dJ)).1|exact (hpb (h0 w6 dJ)).2|exact ((qv _ _).less _).w|exact (hwr _ hF (h0 w6 dJ)).1.wg.mono (by decide)|exact (hwr _ hF (h0 w6 dJ)).1.ok|exact Int.le_of_lt (h0 w6 dJ)|(have:=(hlk (h0 w6 dJ)).1;show gK≤(a6 g' (bB g' path)).2.1-1;unfold gK;omega)|(have:=(hlk (h0 w6 dJ)).2;show (a6 g' (bB g' path)).2.1-1≤imax;unfold imax;omega)|exact (hdr _ hF (h0 w6 dJ) (xm w36)).1|exact (hdr _ hF (h0 w6 dJ) (xm w61)).1|skip
 ·refine⟨[4,5],[],_,_,_,ζ,cf,(g',2),0,λn h=>h.mono (by omega),ζ,ζ,ζ⟩
 ·refine⟨[4,5],[],_,_,_,ζ,cf,(g',5),0,λn h=>h.mono (by omega),ζ,ζ,ζ⟩
 ·refine⟨[4,5],[],_,_,_,ζ,cf,(g',5),0,λn h=>h.mono (by omega),ζ,ζ,ζ⟩
 ·refine⟨[1000620000,1000620001],[],_,_,_,ζ,cf,(mY (ch g' (dR g' path).1 (ew (bJ g'.1 (a6 g' (dR g' path).1)).1 (lu (bJ g'.1 (a6 g' (dR g' path).1)).1 (dK path)).toNat)) (bB g' path) ((a6 g' (bB g' path)).1,(a6 g' (bB g' path)).2.1-1,(a6 g' (bB g' path)).2.2),0),0,λn h=>(hls _ h (h0 w6 dJ) (hnA (h0 w6 dJ) qK)).mono (by omega),ζ,ζ,ζ⟩
 ·refine⟨[1000780000,1000780001],[],_,_,_,ζ,cf,(((cq (ch g' (dR g' path).1 (ew (bJ g'.1 (a6 g' (dR g' path).1)).1 (lu (bJ g'.1 (a6 g' (dR g' path).1)).1 (dK path)).toNat)).1 (ch g' (dR g' path).1 (ew (bJ g'.1 (a6 g' (dR g' path).1)).1 (lu (bJ g'.1 (a6 g' (dR g' path).1)).1 (dK path)).toNat)).2.1 (bB g' path)).1,(cq (ch g' (dR g' path).1 (ew (bJ g'.1 (a6 g' (dR g' path).1)).1 (lu (bJ g'.1 (a6 g' (dR g' path).1)).1 (dK path)).toNat)).1 (ch g' (dR g' path).1 (ew (bJ g'.1 (a6 g' (dR g' path).1)).1 (lu (bJ g'.1 (a6 g' (dR g' path).1)).1 (dK path)).toNat)).2.1 (bB g' path)).2.1,!(cq (ch g' (dR g' path).1 (ew (bJ g'.1 (a6 g' (dR g' path).1)).1 (lu (bJ g'.1 (a6 g' (dR g' path).1)).1 (dK path)).toNat)).1 (ch g' (dR g' path).1 (ew (bJ g'.1 (a6 g' (dR g' path).1)).1 (lu (bJ g'.1 (a6 g' (dR g' path).1)).1 (dK path)).toNat)).2.1 (bB g' path)).2.2),0),0,λn h=>(hdr _ h (h0 w6 dJ) (xm w36)).2.mono (by omega),ζ,ζ,ζ⟩
 ·refine⟨[1000510000,1000510001],[],_,_,_,ζ,cf,((ch g' (dR g' path).1 (ew (bJ g'.1 (a6 g' (dR g' path).1)).1 (lu (bJ g'.1 (a6 g' (dR g' path).1)).1 (dK path)).toNat)),0),0,λn h=>(hwr _ h (h0 w6 dJ)).1.mono (by omega),ζ,ζ,ζ⟩
 ·refine⟨[1000620000,1000620001],[],_,_,_,ζ,cf,(mY (ch g' (dR g' path).1 (ew (bJ g'.1 (a6 g' (dR g' path).1)).1 (lu (bJ g'.1 (a6 g' (dR g' path).1)).1 (dK path)).toNat)) (bB g' path) ((a6 g' (bB g' path)).1,(a6 g' (bB g' path)).2.1-1,(a6 g' (bB g' path)).2.2),0),0,λn h=>(hls _ h (h0 w6 dJ) (hnB (h0 w6 dJ) w40)).mono (by omega),ζ,ζ,ζ⟩
 ·refine⟨[1000780000,1000780001],[],_,_,_,ζ,cf,(((cq (ch g' (dR g' path).1 (ew (bJ g'.1 (a6 g' (dR g' path).1)).1 (lu (bJ g'.1 (a6 g' (dR g' path).1)).1 (dK path)).toNat)).1 (ch g' (dR g' path).1 (ew (bJ g'.1 (a6 g' (dR g' path).1)).1 (lu (bJ g'.1 (a6 g' (dR g' path).1)).1 (dK path)).toNat)).2.1 (bB g' path)).1,(cq (ch g' (dR g' path).1 (ew (bJ g'.1 (a6 g' (dR g' path).1)).1 (lu (bJ g'.1 (a6 g' (dR g' path).1)).1 (dK path)).toNat)).1 (ch g' (dR g' path).1 (ew (bJ g'.1 (a6 g' (dR g' path).1)).1 (lu (bJ g'.1 (a6 g' (dR g' path).1)).1 (dK path)).toNat)).2.1 (bB g' path)).2.1,!(cq (ch g' (dR g' path).1 (ew (bJ g'.1 (a6 g' (dR g' path).1)).1 (lu (bJ g'.1 (a6 g' (dR g' path).1)).1 (dK path)).toNat)).1 (ch g' (dR g' path).1 (ew (bJ g'.1 (a6 g' (dR g' path).1)).1 (lu (bJ g'.1 (a6 g' (dR g' path).1)).1 (dK path)).toNat)).2.1 (bB g' path)).2.2),0),0,λn h=>(hdr _ h (h0 w6 dJ) (xm w61)).2.mono (by omega),ζ,ζ,ζ⟩
 ·refine⟨[1000510000,1000510001],[],_,_,_,ζ,cf,((ch g' (dR g' path).1 (ew (bJ g'.1 (a6 g' (dR g' path).1)).1 (lu (bJ g'.1 (a6 g' (dR g' path).1)).1 (dK path)).toNat)),0),0,λn h=>(hwr _ h (h0 w6 dJ)).1.mono (by omega),ζ,ζ,ζ⟩
