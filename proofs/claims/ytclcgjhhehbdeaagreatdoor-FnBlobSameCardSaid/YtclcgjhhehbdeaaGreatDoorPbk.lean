/- A drawn law returns true for every code (its row lists package variables, tied by the card): part 37. -/
import Derived.Test.YtclcgjhhehbdeaaGreatDoorPbj
set_option maxHeartbeats 20000000
set_option maxRecDepth 100000
set_option linter.all false
namespace Go.Proofs.YtclcgjhhehbdeaaGreatDoor
namespace GL
attribute [local irreducible] dF cK bJ mU aY aC ch dv dQ bB uI xk qN bC nw iZ cq eu ll
def pW (F:fo) (path:ByteArray):Prop:=cY F 1000000∧F.2.2=false∧path.size≤1000
def G8 (F:fo) (path:ByteArray) (z:fo×Int):Prop:=∀n,cY F n→cY z.1 (n+300)
def GO (F:fo) (path:ByteArray) (z:fo×Int):AV:=.s (.int z.2)
def KO (F:fo) (path:ByteArray) (z:fo×Int):List AV:=fsP z.1
def tZ:cn where
 A:=[.b 0,.s .str]
 B:=[.a [.xb 1 ab,.xb 2 ag,.xb 3 ag,.int,.xb 4 ae,.int,.xb 5 ae,.bool,.int,.int,.int,.int,.int,.int,.int,.bool],.r ab,.r ag,.r ag,.r ae,.r ae]
 pre:=fun x b=>fsW b∧pW (oC b) (x.2)
 α:=fun _ _=>fo×Int
 φ:=fun x b z=>G8 (oC b) (x.2) z
 r:=fun x b z=>GO (oC b) (x.2) z
 o:=fun x b z=>KO (oC b) (x.2) z
 nf:=2
 mv:=true
theorem O8:Has Tryz.prog 118 tZ:=by
 refine Has.ofZ zT zF zF (l:=[(153,eA),(154,dD),(155,gK),(148,dS),(152,j3),(157,oV),(156,sG),(150,eY),(149,fh),(158,C9)]) ⟨lX,jS,rF,kB,wO,FB,L7,nr,nU,abD,aa⟩ Tryz.func118 ?_
 rintro⟨_,(path:ByteArray)⟩ ⟨⟨(Fm1:Nat),(Fm2:Nat),(Fm3:Nat),(aM:Int),(Fm4:Nat),(aW:Int),(Fm5:Nat),(aV:Bool),(aU:Int),(aS:Int),(aR:Int),(aQ:Int),(aP:Int),(aO:Int),(aN:Int),(aX:Bool)⟩,(aE:List ByteArray),(aF:List Int),(aG:List Int),(aH:List Pt),(aI:List Pt)⟩ ⟨⟨(jx:Fm1=List.length aE),(jv:Fm2=List.length aF),(ju:Fm3=List.length aG),(jt:Fm4=List.length aH),(js:Fm5=List.length aI)⟩,(hp:pW ((aE,aF,aG,aM,aH,aW,aI,aV),(aU,aS,aR,aQ,aP,aO,aN),aX) path)⟩
 subst jx jv ju jt js
 show vc _ _ _ _ (entry [.s (.bp 0 0),.str path] [.a [.xs 1 1 0 aE.length,.xs 2 1 0 aF.length,.xs 3 1 0 aG.length,.int aM,.xs 4 5 0 aH.length,.int aW,.xs 5 5 0 aI.length,.q aV,.int aU,.int aS,.int aR,.int aQ,.int aP,.int aO,.int aN,.q aX],.rs ab aE,.rs ag aF,.rs ag aG,.rs ae aH,.rs ae aI]) _
 let g':=((aE,aF,aG,aM,aH,aW,aI,aV),(aU,aS,aR,aQ,aP,aO,aN),aX)
 obtain⟨hF,hfu,hps⟩:=hp
 have hF:cY g' 1000000:=hF
 have dE:ay.rd g'.1:=hF.wg.wf.rd
 have cG:bf.ok g'.2.1:=hF.ok
 have hp6:path.size≤1000000:=ZB0 hps (by decide)
 have h0:decide (bB g' path<0)=false→decide (bB g' path=0)=false→0<bB g' path:=fun h h2=>by have:=aA h;have:=aA h2;omega
 have xz:bB g' path≤15:=(zd _ _).2
 have rP:=fun (h:0<bB g' path)=>N8 (py h).1
 have hpb:0<bB g' path→0≤(dQ g' path).1∧(dQ g' path).1≤15:=fun h=>by rw [(rP h).2.1];exact⟨(rP h).2.2.1,(rP h).2.2.2.1⟩
 have hen:∀nd,(bJ g'.1 nd).1.length≤1000:=fun nd=>ZB0 (qp _ nd).len (by decide)
 have xy:=fun (h:0<bB g' path)=>(py h).2.1
 have hal:=fun (h:0<bB g' path)=>(yY (xy h)).1
 have hwr:=fun n (hF:cY g' n) (h:0<bB g' path)=>hF.sQ (l:=eu (bJ g'.1 (a6 g' (dQ g' path).1)).1 (ll (bJ g'.1 (a6 g' (dQ g' path).1)).1 (dJ path)).toNat) (hpb h).1 (hpb h).2
 have hlk:=fun (h:0<bB g' path)=>hF.adx hfu (Int.le_of_lt h) xz
 have hnA:0<bB g' path→decide ((a6 g' (bB g' path)).2.2.1>0)=false→bB g' path≠(dQ g' path).1:=fun h h2=>aah h fun _=>aA h2
 have hnB:0<bB g' path→decide ((a6 g' (bB g' path)).1=2)=false→bB g' path≠(dQ g' path).1:=fun h h2=>aah h fun e=>absurd e (aA h2)
 have hls:=fun n (hF:cY g' n) h=>fun (fy:bB g' path≠(dQ g' path).1)=>(hwr n hF h).1.adw (l:=(a6 g' (bB g' path)).2.1-1) (nd:=a6 g' (bB g' path)) h xz fun hz=>hF.aav hfu (hpb h).1 (hpb h).2 (Int.le_of_lt h) xz fy hz
 have hdr:=fun n (hF:cY g' n) h=>(hwr n hF h).1.ajB h xz
 refine⟨⟨⟨tv3,⟨?_,?_,?_,?_,?_⟩,?_,?_,?_⟩,fun x1 w2=>?_⟩,fun x3 w4=>⟨fun w5=>?_,fun w6=>⟨⟨⟨tv3,⟨?_,?_,?_,?_,?_⟩,?_,?_⟩,fun x7 w8=>?_⟩,fun x9 dx=>⟨aa,fun kx=>?_,fun dI=>⟨aa,fun iS=>⟨fun gN=>?_,fun qG=>⟨⟨⟨tv3,⟨?_,?_,?_,?_,?_⟩,?_,?_,?_⟩,fun x16 xd=>?_⟩,fun qD oH=>⟨⟨⟨tv3,⟨?_,?_,?_,?_,?_⟩,?_,?_⟩,fun x20 AY=>?_⟩,fun x22 xF=>⟨⟨tv2,?_,?_⟩,fun x24 w25=>⟨⟨tv3,?_⟩,fun x26 w27=>⟨⟨tv3,?_,?_,?_⟩,fun x28 w29=>⟨⟨⟨aa,aa,⟨?_,?_⟩,aa⟩,⟨?_,?_,?_,?_,?_⟩,?_,?_,⟨?_,?_⟩,?_⟩,fun x30 w31=>⟨⟨?_,?_⟩,fun w32=>⟨⟨⟨aa,aa,tv11,aa⟩,⟨?_,?_,?_,?_,?_⟩,?_,?_,?_,?_⟩,fun x33 w34=>?_⟩,fun w35=>⟨fun w36=>⟨Sq0,Sq68,rfl,Sq68,Sq69,rfl,Sq69,Sq70,rfl,[.s 70,.b 0],Sq71,rfl,Sq0,Sq72,rfl,Sq72,Sq73,rfl,Sq73,Sq74,rfl,[.s 74,.b 0],Sq75,rfl,Sq5,Sq76,rfl,[.s 71,.s 75,.s 76,.b 1,.b 2,.b 3,.b 1000510000,.b 1000510001,.b 1000780001,.b 1000780000],[.s 77,.b 1,.b 2,.b 3,.b 1000510000,.b 1000510001,.b 1000780000,.b 1000780001],rfl,⟨⟨tv9,tv8,tv2⟩,⟨?_,?_,?_,?_,?_⟩,?_,?_,?_,?_,?_⟩,?_,fun x37 w38=>⟨Sq77,Sq67,rfl,Sq67,Sq78,rfl,Sq67,Sq79,rfl,Sq67,Sq80,rfl,[.b 1010],[.s 10,.b 1010],rfl,[.b 1011],[.s 11,.b 1011],rfl,[.s 10,.s 78,.b 1010],[.b 1010],rfl,[.s 11,.s 79,.b 1011],[.b 1011],rfl,Sq80,Sq12,rfl,?_⟩⟩,fun w39=>?_⟩⟩⟩⟩⟩⟩⟩⟩⟩,fun w40=>⟨⟨⟨tv3,⟨?_,?_,?_,?_,?_⟩,?_,?_,?_⟩,fun x41 w42=>?_⟩,fun x43 w44=>⟨⟨⟨tv3,⟨?_,?_,?_,?_,?_⟩,?_,?_⟩,fun x45 w46=>?_⟩,fun x47 w48=>⟨⟨tv2,?_,?_⟩,fun x49 w50=>⟨⟨tv3,?_⟩,fun x51 w52=>⟨⟨tv3,?_,?_,?_⟩,fun x53 w54=>⟨⟨⟨aa,aa,⟨?_,?_⟩,aa⟩,⟨?_,?_,?_,?_,?_⟩,?_,?_,⟨?_,?_⟩,?_⟩,fun x55 w56=>⟨⟨?_,?_⟩,fun w57=>⟨⟨⟨aa,aa,tv11,aa⟩,⟨?_,?_,?_,?_,?_⟩,?_,?_,?_,?_⟩,fun x58 w59=>?_⟩,fun w60=>⟨fun w61=>⟨Sq0,Sq68,rfl,Sq68,Sq69,rfl,Sq69,Sq70,rfl,[.s 70,.b 0],Sq71,rfl,Sq0,Sq72,rfl,Sq72,Sq73,rfl,Sq73,Sq74,rfl,[.s 74,.b 0],Sq75,rfl,Sq5,Sq76,rfl,[.s 71,.s 75,.s 76,.b 1,.b 2,.b 3,.b 1000510000,.b 1000510001,.b 1000780001,.b 1000780000],[.s 77,.b 1,.b 2,.b 3,.b 1000510000,.b 1000510001,.b 1000780000,.b 1000780001],rfl,⟨⟨tv9,tv8,tv2⟩,⟨?_,?_,?_,?_,?_⟩,?_,?_,?_,?_,?_⟩,?_,fun x62 w63=>⟨Sq77,Sq67,rfl,Sq67,Sq78,rfl,Sq67,Sq79,rfl,Sq67,Sq80,rfl,[.b 1010],[.s 10,.b 1010],rfl,[.b 1011],[.s 11,.b 1011],rfl,[.s 10,.s 78,.b 1010],[.b 1010],rfl,[.s 11,.s 79,.b 1011],[.b 1011],rfl,Sq80,Sq12,rfl,?_⟩⟩,fun w64=>?_⟩⟩⟩⟩⟩⟩⟩⟩⟩⟩⟩⟩⟩
 all_goals first|refine aw ?_|refine ax ?_|exact a8|(dsimp only [eA,fV,dD,fe,gK,iK,dS,fk,j3,kZ,oV,o0,sG,qW,eY,gl,fh,gG,C9,va,gO,oC];omega)|exact a7|exact dE|exact cG|exact hp6|exact⟨dE,cG⟩|exact⟨dE,cG,hp6⟩|exact fun _ _=>rfl|exact hF.wg.mono (by decide)|exact xz|exact (rP (h0 w6 dI)).1|exact hen _|exact ZB0 (hen _) (by decide)|exact xy (h0 w6 dI)|exact hal (h0 w6 dI)|exact (hpb (h0 w6 dI)).1|exact (hpb (h0 w6 dI)).2|exact ((qp _ _).less _).w|exact (hwr _ hF (h0 w6 dI)).1.wg.mono (by decide)|exact (hwr _ hF (h0 w6 dI)).1.ok|exact Int.le_of_lt (h0 w6 dI)|(have:=(hlk (h0 w6 dI)).1;show gJ≤(a6 g' (bB g' path)).2.1-1;unfold gJ;omega)|(have:=(hlk (h0 w6 dI)).2;show (a6 g' (bB g' path)).2.1-1≤imax;unfold imax;omega)|exact (hdr _ hF (h0 w6 dI) (xi w36)).1|exact (hdr _ hF (h0 w6 dI) (xi w61)).1|skip
 ·refine⟨[4,5],[],_,_,_,rfl,cf,(g',2),0,fun n h=>h.mono (by omega),rfl,rfl,rfl⟩
 ·refine⟨[4,5],[],_,_,_,rfl,cf,(g',5),0,fun n h=>h.mono (by omega),rfl,rfl,rfl⟩
 ·refine⟨[4,5],[],_,_,_,rfl,cf,(g',5),0,fun n h=>h.mono (by omega),rfl,rfl,rfl⟩
 ·refine⟨[1000620000,1000620001],[],_,_,_,rfl,cf,(mU (ch g' (dQ g' path).1 (eu (bJ g'.1 (a6 g' (dQ g' path).1)).1 (ll (bJ g'.1 (a6 g' (dQ g' path).1)).1 (dJ path)).toNat)) (bB g' path) ((a6 g' (bB g' path)).1,(a6 g' (bB g' path)).2.1-1,(a6 g' (bB g' path)).2.2),0),0,fun n h=>(hls _ h (h0 w6 dI) (hnA (h0 w6 dI) qG)).mono (by omega),rfl,rfl,rfl⟩
 ·refine⟨[1000780000,1000780001],[],_,_,_,rfl,cf,(((cq (ch g' (dQ g' path).1 (eu (bJ g'.1 (a6 g' (dQ g' path).1)).1 (ll (bJ g'.1 (a6 g' (dQ g' path).1)).1 (dJ path)).toNat)).1 (ch g' (dQ g' path).1 (eu (bJ g'.1 (a6 g' (dQ g' path).1)).1 (ll (bJ g'.1 (a6 g' (dQ g' path).1)).1 (dJ path)).toNat)).2.1 (bB g' path)).1,(cq (ch g' (dQ g' path).1 (eu (bJ g'.1 (a6 g' (dQ g' path).1)).1 (ll (bJ g'.1 (a6 g' (dQ g' path).1)).1 (dJ path)).toNat)).1 (ch g' (dQ g' path).1 (eu (bJ g'.1 (a6 g' (dQ g' path).1)).1 (ll (bJ g'.1 (a6 g' (dQ g' path).1)).1 (dJ path)).toNat)).2.1 (bB g' path)).2.1,!(cq (ch g' (dQ g' path).1 (eu (bJ g'.1 (a6 g' (dQ g' path).1)).1 (ll (bJ g'.1 (a6 g' (dQ g' path).1)).1 (dJ path)).toNat)).1 (ch g' (dQ g' path).1 (eu (bJ g'.1 (a6 g' (dQ g' path).1)).1 (ll (bJ g'.1 (a6 g' (dQ g' path).1)).1 (dJ path)).toNat)).2.1 (bB g' path)).2.2),0),0,fun n h=>(hdr _ h (h0 w6 dI) (xi w36)).2.mono (by omega),rfl,rfl,rfl⟩
 ·refine⟨[1000510000,1000510001],[],_,_,_,rfl,cf,((ch g' (dQ g' path).1 (eu (bJ g'.1 (a6 g' (dQ g' path).1)).1 (ll (bJ g'.1 (a6 g' (dQ g' path).1)).1 (dJ path)).toNat)),0),0,fun n h=>(hwr _ h (h0 w6 dI)).1.mono (by omega),rfl,rfl,rfl⟩
 ·refine⟨[1000620000,1000620001],[],_,_,_,rfl,cf,(mU (ch g' (dQ g' path).1 (eu (bJ g'.1 (a6 g' (dQ g' path).1)).1 (ll (bJ g'.1 (a6 g' (dQ g' path).1)).1 (dJ path)).toNat)) (bB g' path) ((a6 g' (bB g' path)).1,(a6 g' (bB g' path)).2.1-1,(a6 g' (bB g' path)).2.2),0),0,fun n h=>(hls _ h (h0 w6 dI) (hnB (h0 w6 dI) w40)).mono (by omega),rfl,rfl,rfl⟩
 ·refine⟨[1000780000,1000780001],[],_,_,_,rfl,cf,(((cq (ch g' (dQ g' path).1 (eu (bJ g'.1 (a6 g' (dQ g' path).1)).1 (ll (bJ g'.1 (a6 g' (dQ g' path).1)).1 (dJ path)).toNat)).1 (ch g' (dQ g' path).1 (eu (bJ g'.1 (a6 g' (dQ g' path).1)).1 (ll (bJ g'.1 (a6 g' (dQ g' path).1)).1 (dJ path)).toNat)).2.1 (bB g' path)).1,(cq (ch g' (dQ g' path).1 (eu (bJ g'.1 (a6 g' (dQ g' path).1)).1 (ll (bJ g'.1 (a6 g' (dQ g' path).1)).1 (dJ path)).toNat)).1 (ch g' (dQ g' path).1 (eu (bJ g'.1 (a6 g' (dQ g' path).1)).1 (ll (bJ g'.1 (a6 g' (dQ g' path).1)).1 (dJ path)).toNat)).2.1 (bB g' path)).2.1,!(cq (ch g' (dQ g' path).1 (eu (bJ g'.1 (a6 g' (dQ g' path).1)).1 (ll (bJ g'.1 (a6 g' (dQ g' path).1)).1 (dJ path)).toNat)).1 (ch g' (dQ g' path).1 (eu (bJ g'.1 (a6 g' (dQ g' path).1)).1 (ll (bJ g'.1 (a6 g' (dQ g' path).1)).1 (dJ path)).toNat)).2.1 (bB g' path)).2.2),0),0,fun n h=>(hdr _ h (h0 w6 dI) (xi w61)).2.mono (by omega),rfl,rfl,rfl⟩
 ·refine⟨[1000510000,1000510001],[],_,_,_,rfl,cf,((ch g' (dQ g' path).1 (eu (bJ g'.1 (a6 g' (dQ g' path).1)).1 (ll (bJ g'.1 (a6 g' (dQ g' path).1)).1 (dJ path)).toNat)),0),0,fun n h=>(hwr _ h (h0 w6 dI)).1.mono (by omega),rfl,rfl,rfl⟩
end GL
namespace GL
attribute [local irreducible] dF cK bJ mU aY aC ch dv dQ bB uI xk qN bC eu ll po
def pV (F:fo) (path:ByteArray) (qI:ByteArray):Prop:=cY F 1000000∧F.2.2=false∧path.size≤1000∧qI.size≤1000
def G7 (F:fo) (path:ByteArray) (qI:ByteArray) (z:fo×Int):Prop:=∀n,cY F n→cY z.1 (n+300)
def GN (F:fo) (path:ByteArray) (qI:ByteArray) (z:fo×Int):AV:=.s (.int z.2)
def KN (F:fo) (path:ByteArray) (qI:ByteArray) (z:fo×Int):List AV:=fsP z.1
def tY:cn where
 A:=[.b 0,.s .str,.s .str]
 B:=[.a [.xb 1 ab,.xb 2 ag,.xb 3 ag,.int,.xb 4 ae,.int,.xb 5 ae,.bool,.int,.int,.int,.int,.int,.int,.int,.bool],.r ab,.r ag,.r ag,.r ae,.r ae]
 pre:=fun x b=>fsW b∧pV (oC b) (x.2.1) (x.2.2)
 α:=fun _ _=>fo×Int
 φ:=fun x b z=>G7 (oC b) (x.2.1) (x.2.2) z
 r:=fun x b z=>GN (oC b) (x.2.1) (x.2.2) z
 o:=fun x b z=>KN (oC b) (x.2.1) (x.2.2) z
 nf:=2
 mv:=true
theorem O7:Has Tryz.prog 119 tY:=by
 refine Has.ofZ zT zF zF (l:=[(153,eA),(154,dD),(146,km),(148,dS),(149,fh),(152,j3),(151,qv),(150,eY)]) ⟨lX,jS,xw,kB,nU,wO,IE,nr,aa⟩ Tryz.func119 ?_
 rintro⟨_,(path:ByteArray),(qI:ByteArray)⟩ ⟨⟨(Fm1:Nat),(Fm2:Nat),(Fm3:Nat),(aM:Int),(Fm4:Nat),(aW:Int),(Fm5:Nat),(aV:Bool),(aU:Int),(aS:Int),(aR:Int),(aQ:Int),(aP:Int),(aO:Int),(aN:Int),(aX:Bool)⟩,(aE:List ByteArray),(aF:List Int),(aG:List Int),(aH:List Pt),(aI:List Pt)⟩ ⟨⟨(jx:Fm1=List.length aE),(jv:Fm2=List.length aF),(ju:Fm3=List.length aG),(jt:Fm4=List.length aH),(js:Fm5=List.length aI)⟩,(hp:pV ((aE,aF,aG,aM,aH,aW,aI,aV),(aU,aS,aR,aQ,aP,aO,aN),aX) path qI)⟩
 subst jx jv ju jt js
 show vc _ _ _ _ (entry [.s (.bp 0 0),.str path,.str qI] [.a [.xs 1 1 0 aE.length,.xs 2 1 0 aF.length,.xs 3 1 0 aG.length,.int aM,.xs 4 5 0 aH.length,.int aW,.xs 5 5 0 aI.length,.q aV,.int aU,.int aS,.int aR,.int aQ,.int aP,.int aO,.int aN,.q aX],.rs ab aE,.rs ag aF,.rs ag aG,.rs ae aH,.rs ae aI]) _
 let g':=((aE,aF,aG,aM,aH,aW,aI,aV),(aU,aS,aR,aQ,aP,aO,aN),aX)
 obtain⟨hF,hfu,hps,hpt⟩:=hp
 have hF:cY g' 1000000:=hF
 have dE:ay.rd g'.1:=hF.wg.wf.rd
 have cG:bf.ok g'.2.1:=hF.ok
 have hp6:path.size≤1000000:=ZB0 hps (by decide)
 have ht6:qI.size≤1000000:=ZB0 hpt (by decide)
 have h0:decide (bB g' path<0)=false→0≤bB g' path:=fun h=>ZG8.1 (aA h)
 have xz:bB g' path≤15:=(zd _ _).2
 have ES:decide ((a6 g' (bB g' path)).1≠1)=false→(a6 g' (bB g' path)).1=1:=fun h=>ZE9.1 (aA h)
 have hen:∀nd,(bJ g'.1 nd).1.length≤1000:=fun nd=>ZB0 (qp _ nd).len (by decide)
 have hlk:=fun h=>hF.adx hfu (h0 h) xz
 have hls:=fun n (hF:cY g' n) h h2=>hF.adw (l:=(a6 g' (bB g' path)).2.1+1) (nd:=a6 g' (bB g' path)) (hF.file hfu (h0 h) xz (ES h2)).1 xz fun _=>rfl
 have ka:decide ((dv g' qI).2>0)=false→1≤(bC qI).length∧0≤(dv g' qI).1∧(dv g' qI).1≤15:=MM
 have hew:decide ((dv g' qI).2>0)=false→decide (bB g' path<0)=false→KH (qN (bJ g'.1 (a6 g' (dv g' qI).1)).1 (dJ qI,bB g' path)):=fun h h2=>(qp _ _).add (ZB0 (J7 (ka h).1) hpt) ⟨h0 h2,ZE0 xz (by decide)⟩
 refine⟨⟨⟨tv3,⟨?_,?_,?_,?_,?_⟩,?_,?_,?_⟩,fun x1 w2=>?_⟩,fun x3 w4=>⟨fun w5=>?_,fun w6=>⟨⟨⟨tv3,⟨?_,?_,?_,?_,?_⟩,?_,?_⟩,fun x7 w8=>?_⟩,fun x9 dx=>⟨fun kx=>?_,fun dI=>⟨⟨⟨tv3,⟨?_,?_,?_,?_,?_⟩,?_,?_,?_⟩,fun rS gN=>?_⟩,fun kt kc=>⟨fun xd=>?_,fun rO=>⟨⟨⟨tv3,⟨?_,?_,?_,?_,?_⟩,?_,?_⟩,fun x19 uE=>?_⟩,fun x21 AX=>⟨aa,fun xF=>?_,fun rN=>⟨fun w25=>?_,fun w26=>⟨⟨?_,?_⟩,⟨⟨aa,aa,tv11,aa⟩,⟨?_,?_,?_,?_,?_⟩,?_,?_,?_,?_⟩,fun x27 w28=>⟨⟨tv2,?_,?_⟩,fun x29 w30=>⟨⟨⟨aa,tv3,aa⟩,?_⟩,fun x31 w32=>⟨⟨⟨aa,aa,⟨?_,?_⟩,aa⟩,⟨?_,?_,?_,?_,?_⟩,?_,?_,⟨?_,?_⟩,?_⟩,fun x33 w34=>?_⟩⟩⟩⟩⟩⟩⟩⟩⟩⟩⟩⟩⟩
 all_goals first|refine aw ?_|refine ax ?_|exact a8|(dsimp only [eA,fV,dD,fe,km,ky,dS,fk,fh,gG,j3,kZ,qv,pY,eY,gl,oC];omega)|exact a7|exact dE|exact cG|exact hp6|exact ht6|exact⟨dE,cG⟩|exact⟨dE,cG,hp6⟩|exact⟨dE,cG,ht6⟩|exact fun _ _=>rfl|exact hF.wg.mono (by decide)|exact h0 w6|exact xz|exact hen _|(have:=(hlk w6).1;show gJ≤(a6 g' (bB g' path)).2.1+1;unfold gJ;omega)|(have:=(hlk w6).2;show (a6 g' (bB g' path)).2.1+1≤imax;unfold imax;omega)|exact (hls _ hF w6 dI).wg.mono (by decide)|exact (hls _ hF w6 dI).ok|exact (ka rO).1|exact (ka rO).2.1|exact (ka rO).2.2|exact hew rO w6|skip
 ·refine⟨[4,5],[],_,_,_,rfl,cf,(g',2),0,fun n h=>h.mono (by omega),rfl,rfl,rfl⟩
 ·refine⟨[4,5],[],_,_,_,rfl,cf,(g',4),0,fun n h=>h.mono (by omega),rfl,rfl,rfl⟩
 ·refine⟨[4,5],[],_,_,_,rfl,cf,(g',(dv g' qI).2),0,fun n h=>h.mono (by omega),rfl,rfl,rfl⟩
 ·refine⟨[4,5],[],_,_,_,rfl,cf,(g',6),0,fun n h=>h.mono (by omega),rfl,rfl,rfl⟩
 ·refine⟨[4,5],[],_,_,_,rfl,cf,(g',6),0,fun n h=>h.mono (by omega),rfl,rfl,rfl⟩
 ·refine⟨[1000600000,1000600001],[],_,_,_,rfl,cf,(ch (mU g' (bB g' path) ((a6 g' (bB g' path)).1,(a6 g' (bB g' path)).2.1+1,(a6 g' (bB g' path)).2.2)) (dv g' qI).1 (qN (bJ g'.1 (a6 g' (dv g' qI).1)).1 (dJ qI,bB g' path)),0),0,fun n h=>((hls _ h w6 dI).sQ (ka rO).2.1 (ka rO).2.2).1.mono (by omega),rfl,rfl,rfl⟩
end GL
end Go.Proofs.YtclcgjhhehbdeaaGreatDoor
