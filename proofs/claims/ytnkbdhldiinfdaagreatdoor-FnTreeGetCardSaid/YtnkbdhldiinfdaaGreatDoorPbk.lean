/- A drawn law returns true for every code (its row lists package variables, tied by the card): part 37. -/
import Derived.Test.YtnkbdhldiinfdaaGreatDoorPbj
set_option maxHeartbeats 20000000
set_option maxRecDepth 100000
set_option linter.all false
namespace Go.Proofs.YtnkbdhldiinfdaaGreatDoor
namespace GL
attribute [local irreducible] dG cK bJ mY aY aC ch dw dR bB uM xo qR bC nB jb cq ew lu
def p8 (F:fp) (path:ByteArray):Prop:=cY F 1000000∧F.2.2=false∧path.size≤1000
def HD (F:fp) (path:ByteArray) (z:fp×Int):Prop:=∀n,cY F n→cY z.1 (n+300)
def GU (F:fp) (path:ByteArray) (z:fp×Int):AV:=.s (.int z.2)
def KU (F:fp) (path:ByteArray) (z:fp×Int):List AV:=fsP z.1
def ud:cn where
 A:=[.b 0,.s .str]
 B:=[.a [.xb 1 ab,.xb 2 ag,.xb 3 ag,.int,.xb 4 ae,.int,.xb 5 ae,.bool,.int,.int,.int,.int,.int,.int,.int,.bool],.r ab,.r ag,.r ag,.r ae,.r ae]
 pre:=fun x b=>fsW b∧p8 (oG b) (x.2)
 α:=fun _ _=>fp×Int
 φ:=fun x b z=>HD (oG b) (x.2) z
 r:=fun x b z=>GU (oG b) (x.2) z
 o:=fun x b z=>KU (oG b) (x.2) z
 nf:=2
 mv:=true
theorem PE:Has Tryz.prog 134 ud:=by
 refine Has.ofZ zT zF zF (l:=[(178,eB),(179,dE),(180,gL),(173,dT),(177,j6),(182,oZ),(181,sK),(175,eZ),(174,fj),(183,DD)]) ⟨l4,jV,rJ,kE,wS,FG,MD,nv,nY,abK,aa⟩ Tryz.func134 ?_
 rintro⟨_,(path:ByteArray)⟩ ⟨⟨(Fm1:Nat),(Fm2:Nat),(Fm3:Nat),(aM:Int),(Fm4:Nat),(aW:Int),(Fm5:Nat),(aV:Bool),(aU:Int),(aS:Int),(aR:Int),(aQ:Int),(aP:Int),(aO:Int),(aN:Int),(aX:Bool)⟩,(aE:List ByteArray),(aF:List Int),(aG:List Int),(aH:List Pt),(aI:List Pt)⟩ ⟨⟨(jz:Fm1=List.length aE),(jy:Fm2=List.length aF),(jx:Fm3=List.length aG),(jv:Fm4=List.length aH),(ju:Fm5=List.length aI)⟩,(hp:p8 ((aE,aF,aG,aM,aH,aW,aI,aV),(aU,aS,aR,aQ,aP,aO,aN),aX) path)⟩
 subst jz jy jx jv ju
 show vc _ _ _ _ (entry [.s (.bp 0 0),.str path] [.a [.xs 1 1 0 aE.length,.xs 2 1 0 aF.length,.xs 3 1 0 aG.length,.int aM,.xs 4 5 0 aH.length,.int aW,.xs 5 5 0 aI.length,.q aV,.int aU,.int aS,.int aR,.int aQ,.int aP,.int aO,.int aN,.q aX],.rs ab aE,.rs ag aF,.rs ag aG,.rs ae aH,.rs ae aI]) _
 let g':=((aE,aF,aG,aM,aH,aW,aI,aV),(aU,aS,aR,aQ,aP,aO,aN),aX)
 obtain⟨hF,hfu,hps⟩:=hp
 have hF:cY g' 1000000:=hF
 have dF:ay.rd g'.1:=hF.wg.wf.rd
 have cG:bf.ok g'.2.1:=hF.ok
 have hp6:path.size≤1000000:=ZB0 hps (by decide)
 have h0:decide (bB g' path<0)=false→decide (bB g' path=0)=false→0<bB g' path:=fun h h2=>by have:=aA h;have:=aA h2;omega
 have xE:bB g' path≤15:=(zi _ _).2
 have rT:=fun (h:0<bB g' path)=>OE (pD h).1
 have hpb:0<bB g' path→0≤(dR g' path).1∧(dR g' path).1≤15:=fun h=>by rw [(rT h).2.1];exact⟨(rT h).2.2.1,(rT h).2.2.2.1⟩
 have hen:∀nd,(bJ g'.1 nd).1.length≤1000:=fun nd=>ZB0 (qv _ nd).len (by decide)
 have xD:=fun (h:0<bB g' path)=>(pD h).2.1
 have hal:=fun (h:0<bB g' path)=>(y8 (xD h)).1
 have hwr:=fun n (hF:cY g' n) (h:0<bB g' path)=>hF.sU (l:=ew (bJ g'.1 (a6 g' (dR g' path).1)).1 (lu (bJ g'.1 (a6 g' (dR g' path).1)).1 (dK path)).toNat) (hpb h).1 (hpb h).2
 have hlk:=fun (h:0<bB g' path)=>hF.adF hfu (Int.le_of_lt h) xE
 have hnA:0<bB g' path→decide ((a6 g' (bB g' path)).2.2.1>0)=false→bB g' path≠(dR g' path).1:=fun h h2=>aao h fun _=>aA h2
 have hnB:0<bB g' path→decide ((a6 g' (bB g' path)).1=2)=false→bB g' path≠(dR g' path).1:=fun h h2=>aao h fun e=>absurd e (aA h2)
 have hls:=fun n (hF:cY g' n) h=>fun (fA:bB g' path≠(dR g' path).1)=>(hwr n hF h).1.adE (l:=(a6 g' (bB g' path)).2.1-1) (nd:=a6 g' (bB g' path)) h xE fun hz=>hF.aaC hfu (hpb h).1 (hpb h).2 (Int.le_of_lt h) xE fA hz
 have hdr:=fun n (hF:cY g' n) h=>(hwr n hF h).1.ajJ h xE
 refine⟨⟨⟨tv3,⟨?_,?_,?_,?_,?_⟩,?_,?_,?_⟩,fun x1 w2=>?_⟩,fun x3 w4=>⟨fun w5=>?_,fun w6=>⟨⟨⟨tv3,⟨?_,?_,?_,?_,?_⟩,?_,?_⟩,fun x7 w8=>?_⟩,fun x9 dy=>⟨aa,fun kA=>?_,fun dJ=>⟨aa,fun iU=>⟨fun gO=>?_,fun qK=>⟨⟨⟨tv3,⟨?_,?_,?_,?_,?_⟩,?_,?_,?_⟩,fun x16 xh=>?_⟩,fun qH oL=>⟨⟨⟨tv3,⟨?_,?_,?_,?_,?_⟩,?_,?_⟩,fun x20 A4=>?_⟩,fun x22 xK=>⟨⟨tv2,?_,?_⟩,fun x24 w25=>⟨⟨tv3,?_⟩,fun x26 w27=>⟨⟨tv3,?_,?_,?_⟩,fun x28 w29=>⟨⟨⟨aa,aa,⟨?_,?_⟩,aa⟩,⟨?_,?_,?_,?_,?_⟩,?_,?_,⟨?_,?_⟩,?_⟩,fun x30 w31=>⟨⟨?_,?_⟩,fun w32=>⟨⟨⟨aa,aa,tv11,aa⟩,⟨?_,?_,?_,?_,?_⟩,?_,?_,?_,?_⟩,fun x33 w34=>?_⟩,fun w35=>⟨fun w36=>⟨Sq0,Sq68,rfl,Sq68,Sq69,rfl,Sq69,Sq70,rfl,[.s 70,.b 0],Sq71,rfl,Sq0,Sq72,rfl,Sq72,Sq73,rfl,Sq73,Sq74,rfl,[.s 74,.b 0],Sq75,rfl,Sq5,Sq76,rfl,[.s 71,.s 75,.s 76,.b 1,.b 2,.b 3,.b 1000510000,.b 1000510001,.b 1000780001,.b 1000780000],[.s 77,.b 1,.b 2,.b 3,.b 1000510000,.b 1000510001,.b 1000780000,.b 1000780001],rfl,⟨⟨tv9,tv8,tv2⟩,⟨?_,?_,?_,?_,?_⟩,?_,?_,?_,?_,?_⟩,?_,fun x37 w38=>⟨Sq77,Sq67,rfl,Sq67,Sq78,rfl,Sq67,Sq79,rfl,Sq67,Sq80,rfl,[.b 1010],[.s 10,.b 1010],rfl,[.b 1011],[.s 11,.b 1011],rfl,[.s 10,.s 78,.b 1010],[.b 1010],rfl,[.s 11,.s 79,.b 1011],[.b 1011],rfl,Sq80,Sq12,rfl,?_⟩⟩,fun w39=>?_⟩⟩⟩⟩⟩⟩⟩⟩⟩,fun w40=>⟨⟨⟨tv3,⟨?_,?_,?_,?_,?_⟩,?_,?_,?_⟩,fun x41 w42=>?_⟩,fun x43 w44=>⟨⟨⟨tv3,⟨?_,?_,?_,?_,?_⟩,?_,?_⟩,fun x45 w46=>?_⟩,fun x47 w48=>⟨⟨tv2,?_,?_⟩,fun x49 w50=>⟨⟨tv3,?_⟩,fun x51 w52=>⟨⟨tv3,?_,?_,?_⟩,fun x53 w54=>⟨⟨⟨aa,aa,⟨?_,?_⟩,aa⟩,⟨?_,?_,?_,?_,?_⟩,?_,?_,⟨?_,?_⟩,?_⟩,fun x55 w56=>⟨⟨?_,?_⟩,fun w57=>⟨⟨⟨aa,aa,tv11,aa⟩,⟨?_,?_,?_,?_,?_⟩,?_,?_,?_,?_⟩,fun x58 w59=>?_⟩,fun w60=>⟨fun w61=>⟨Sq0,Sq68,rfl,Sq68,Sq69,rfl,Sq69,Sq70,rfl,[.s 70,.b 0],Sq71,rfl,Sq0,Sq72,rfl,Sq72,Sq73,rfl,Sq73,Sq74,rfl,[.s 74,.b 0],Sq75,rfl,Sq5,Sq76,rfl,[.s 71,.s 75,.s 76,.b 1,.b 2,.b 3,.b 1000510000,.b 1000510001,.b 1000780001,.b 1000780000],[.s 77,.b 1,.b 2,.b 3,.b 1000510000,.b 1000510001,.b 1000780000,.b 1000780001],rfl,⟨⟨tv9,tv8,tv2⟩,⟨?_,?_,?_,?_,?_⟩,?_,?_,?_,?_,?_⟩,?_,fun x62 w63=>⟨Sq77,Sq67,rfl,Sq67,Sq78,rfl,Sq67,Sq79,rfl,Sq67,Sq80,rfl,[.b 1010],[.s 10,.b 1010],rfl,[.b 1011],[.s 11,.b 1011],rfl,[.s 10,.s 78,.b 1010],[.b 1010],rfl,[.s 11,.s 79,.b 1011],[.b 1011],rfl,Sq80,Sq12,rfl,?_⟩⟩,fun w64=>?_⟩⟩⟩⟩⟩⟩⟩⟩⟩⟩⟩⟩⟩
 all_goals first|refine aw ?_|refine ax ?_|exact a8|(dsimp only [eB,fW,dE,ff,gL,iM,dT,fl,j6,k8,oZ,o9,sK,q6,eZ,gm,fj,gH,DD,vf,gP,oG];omega)|exact a7|exact dF|exact cG|exact hp6|exact⟨dF,cG⟩|exact⟨dF,cG,hp6⟩|exact fun _ _=>rfl|exact hF.wg.mono (by decide)|exact xE|exact (rT (h0 w6 dJ)).1|exact hen _|exact ZB0 (hen _) (by decide)|exact xD (h0 w6 dJ)|exact hal (h0 w6 dJ)|exact (hpb (h0 w6 dJ)).1|exact (hpb (h0 w6 dJ)).2|exact ((qv _ _).less _).w|exact (hwr _ hF (h0 w6 dJ)).1.wg.mono (by decide)|exact (hwr _ hF (h0 w6 dJ)).1.ok|exact Int.le_of_lt (h0 w6 dJ)|(have:=(hlk (h0 w6 dJ)).1;show gK≤(a6 g' (bB g' path)).2.1-1;unfold gK;omega)|(have:=(hlk (h0 w6 dJ)).2;show (a6 g' (bB g' path)).2.1-1≤imax;unfold imax;omega)|exact (hdr _ hF (h0 w6 dJ) (xm w36)).1|exact (hdr _ hF (h0 w6 dJ) (xm w61)).1|skip
 ·refine⟨[4,5],[],_,_,_,rfl,cf,(g',2),0,fun n h=>h.mono (by omega),rfl,rfl,rfl⟩
 ·refine⟨[4,5],[],_,_,_,rfl,cf,(g',5),0,fun n h=>h.mono (by omega),rfl,rfl,rfl⟩
 ·refine⟨[4,5],[],_,_,_,rfl,cf,(g',5),0,fun n h=>h.mono (by omega),rfl,rfl,rfl⟩
 ·refine⟨[1000620000,1000620001],[],_,_,_,rfl,cf,(mY (ch g' (dR g' path).1 (ew (bJ g'.1 (a6 g' (dR g' path).1)).1 (lu (bJ g'.1 (a6 g' (dR g' path).1)).1 (dK path)).toNat)) (bB g' path) ((a6 g' (bB g' path)).1,(a6 g' (bB g' path)).2.1-1,(a6 g' (bB g' path)).2.2),0),0,fun n h=>(hls _ h (h0 w6 dJ) (hnA (h0 w6 dJ) qK)).mono (by omega),rfl,rfl,rfl⟩
 ·refine⟨[1000780000,1000780001],[],_,_,_,rfl,cf,(((cq (ch g' (dR g' path).1 (ew (bJ g'.1 (a6 g' (dR g' path).1)).1 (lu (bJ g'.1 (a6 g' (dR g' path).1)).1 (dK path)).toNat)).1 (ch g' (dR g' path).1 (ew (bJ g'.1 (a6 g' (dR g' path).1)).1 (lu (bJ g'.1 (a6 g' (dR g' path).1)).1 (dK path)).toNat)).2.1 (bB g' path)).1,(cq (ch g' (dR g' path).1 (ew (bJ g'.1 (a6 g' (dR g' path).1)).1 (lu (bJ g'.1 (a6 g' (dR g' path).1)).1 (dK path)).toNat)).1 (ch g' (dR g' path).1 (ew (bJ g'.1 (a6 g' (dR g' path).1)).1 (lu (bJ g'.1 (a6 g' (dR g' path).1)).1 (dK path)).toNat)).2.1 (bB g' path)).2.1,!(cq (ch g' (dR g' path).1 (ew (bJ g'.1 (a6 g' (dR g' path).1)).1 (lu (bJ g'.1 (a6 g' (dR g' path).1)).1 (dK path)).toNat)).1 (ch g' (dR g' path).1 (ew (bJ g'.1 (a6 g' (dR g' path).1)).1 (lu (bJ g'.1 (a6 g' (dR g' path).1)).1 (dK path)).toNat)).2.1 (bB g' path)).2.2),0),0,fun n h=>(hdr _ h (h0 w6 dJ) (xm w36)).2.mono (by omega),rfl,rfl,rfl⟩
 ·refine⟨[1000510000,1000510001],[],_,_,_,rfl,cf,((ch g' (dR g' path).1 (ew (bJ g'.1 (a6 g' (dR g' path).1)).1 (lu (bJ g'.1 (a6 g' (dR g' path).1)).1 (dK path)).toNat)),0),0,fun n h=>(hwr _ h (h0 w6 dJ)).1.mono (by omega),rfl,rfl,rfl⟩
 ·refine⟨[1000620000,1000620001],[],_,_,_,rfl,cf,(mY (ch g' (dR g' path).1 (ew (bJ g'.1 (a6 g' (dR g' path).1)).1 (lu (bJ g'.1 (a6 g' (dR g' path).1)).1 (dK path)).toNat)) (bB g' path) ((a6 g' (bB g' path)).1,(a6 g' (bB g' path)).2.1-1,(a6 g' (bB g' path)).2.2),0),0,fun n h=>(hls _ h (h0 w6 dJ) (hnB (h0 w6 dJ) w40)).mono (by omega),rfl,rfl,rfl⟩
 ·refine⟨[1000780000,1000780001],[],_,_,_,rfl,cf,(((cq (ch g' (dR g' path).1 (ew (bJ g'.1 (a6 g' (dR g' path).1)).1 (lu (bJ g'.1 (a6 g' (dR g' path).1)).1 (dK path)).toNat)).1 (ch g' (dR g' path).1 (ew (bJ g'.1 (a6 g' (dR g' path).1)).1 (lu (bJ g'.1 (a6 g' (dR g' path).1)).1 (dK path)).toNat)).2.1 (bB g' path)).1,(cq (ch g' (dR g' path).1 (ew (bJ g'.1 (a6 g' (dR g' path).1)).1 (lu (bJ g'.1 (a6 g' (dR g' path).1)).1 (dK path)).toNat)).1 (ch g' (dR g' path).1 (ew (bJ g'.1 (a6 g' (dR g' path).1)).1 (lu (bJ g'.1 (a6 g' (dR g' path).1)).1 (dK path)).toNat)).2.1 (bB g' path)).2.1,!(cq (ch g' (dR g' path).1 (ew (bJ g'.1 (a6 g' (dR g' path).1)).1 (lu (bJ g'.1 (a6 g' (dR g' path).1)).1 (dK path)).toNat)).1 (ch g' (dR g' path).1 (ew (bJ g'.1 (a6 g' (dR g' path).1)).1 (lu (bJ g'.1 (a6 g' (dR g' path).1)).1 (dK path)).toNat)).2.1 (bB g' path)).2.2),0),0,fun n h=>(hdr _ h (h0 w6 dJ) (xm w61)).2.mono (by omega),rfl,rfl,rfl⟩
 ·refine⟨[1000510000,1000510001],[],_,_,_,rfl,cf,((ch g' (dR g' path).1 (ew (bJ g'.1 (a6 g' (dR g' path).1)).1 (lu (bJ g'.1 (a6 g' (dR g' path).1)).1 (dK path)).toNat)),0),0,fun n h=>(hwr _ h (h0 w6 dJ)).1.mono (by omega),rfl,rfl,rfl⟩
end GL
namespace GL
attribute [local irreducible] dG cK bJ mY aY aC ch dw dR bB uM xo qR bC ew lu px
def p6 (F:fp) (path:ByteArray) (qM:ByteArray):Prop:=cY F 1000000∧F.2.2=false∧path.size≤1000∧qM.size≤1000
def HC (F:fp) (path:ByteArray) (qM:ByteArray) (z:fp×Int):Prop:=∀n,cY F n→cY z.1 (n+300)
def GS (F:fp) (path:ByteArray) (qM:ByteArray) (z:fp×Int):AV:=.s (.int z.2)
def KT (F:fp) (path:ByteArray) (qM:ByteArray) (z:fp×Int):List AV:=fsP z.1
def uc:cn where
 A:=[.b 0,.s .str,.s .str]
 B:=[.a [.xb 1 ab,.xb 2 ag,.xb 3 ag,.int,.xb 4 ae,.int,.xb 5 ae,.bool,.int,.int,.int,.int,.int,.int,.int,.bool],.r ab,.r ag,.r ag,.r ae,.r ae]
 pre:=fun x b=>fsW b∧p6 (oG b) (x.2.1) (x.2.2)
 α:=fun _ _=>fp×Int
 φ:=fun x b z=>HC (oG b) (x.2.1) (x.2.2) z
 r:=fun x b z=>GS (oG b) (x.2.1) (x.2.2) z
 o:=fun x b z=>KT (oG b) (x.2.1) (x.2.2) z
 nf:=2
 mv:=true
theorem PD:Has Tryz.prog 135 uc:=by
 refine Has.ofZ zT zF zF (l:=[(178,eB),(179,dE),(172,kq),(173,dT),(174,fj),(177,j6),(176,qA),(175,eZ)]) ⟨l4,jV,xA,kE,nY,wS,IK,nv,aa⟩ Tryz.func135 ?_
 rintro⟨_,(path:ByteArray),(qM:ByteArray)⟩ ⟨⟨(Fm1:Nat),(Fm2:Nat),(Fm3:Nat),(aM:Int),(Fm4:Nat),(aW:Int),(Fm5:Nat),(aV:Bool),(aU:Int),(aS:Int),(aR:Int),(aQ:Int),(aP:Int),(aO:Int),(aN:Int),(aX:Bool)⟩,(aE:List ByteArray),(aF:List Int),(aG:List Int),(aH:List Pt),(aI:List Pt)⟩ ⟨⟨(jz:Fm1=List.length aE),(jy:Fm2=List.length aF),(jx:Fm3=List.length aG),(jv:Fm4=List.length aH),(ju:Fm5=List.length aI)⟩,(hp:p6 ((aE,aF,aG,aM,aH,aW,aI,aV),(aU,aS,aR,aQ,aP,aO,aN),aX) path qM)⟩
 subst jz jy jx jv ju
 show vc _ _ _ _ (entry [.s (.bp 0 0),.str path,.str qM] [.a [.xs 1 1 0 aE.length,.xs 2 1 0 aF.length,.xs 3 1 0 aG.length,.int aM,.xs 4 5 0 aH.length,.int aW,.xs 5 5 0 aI.length,.q aV,.int aU,.int aS,.int aR,.int aQ,.int aP,.int aO,.int aN,.q aX],.rs ab aE,.rs ag aF,.rs ag aG,.rs ae aH,.rs ae aI]) _
 let g':=((aE,aF,aG,aM,aH,aW,aI,aV),(aU,aS,aR,aQ,aP,aO,aN),aX)
 obtain⟨hF,hfu,hps,hpt⟩:=hp
 have hF:cY g' 1000000:=hF
 have dF:ay.rd g'.1:=hF.wg.wf.rd
 have cG:bf.ok g'.2.1:=hF.ok
 have hp6:path.size≤1000000:=ZB0 hps (by decide)
 have ht6:qM.size≤1000000:=ZB0 hpt (by decide)
 have h0:decide (bB g' path<0)=false→0≤bB g' path:=fun h=>ZH1.1 (aA h)
 have xE:bB g' path≤15:=(zi _ _).2
 have EX:decide ((a6 g' (bB g' path)).1≠1)=false→(a6 g' (bB g' path)).1=1:=fun h=>ZE9.1 (aA h)
 have hen:∀nd,(bJ g'.1 nd).1.length≤1000:=fun nd=>ZB0 (qv _ nd).len (by decide)
 have hlk:=fun h=>hF.adF hfu (h0 h) xE
 have hls:=fun n (hF:cY g' n) h h2=>hF.adE (l:=(a6 g' (bB g' path)).2.1+1) (nd:=a6 g' (bB g' path)) (hF.file hfu (h0 h) xE (EX h2)).1 xE fun _=>rfl
 have ke:decide ((dw g' qM).2>0)=false→1≤(bC qM).length∧0≤(dw g' qM).1∧(dw g' qM).1≤15:=MS
 have hew:decide ((dw g' qM).2>0)=false→decide (bB g' path<0)=false→KN (qR (bJ g'.1 (a6 g' (dw g' qM).1)).1 (dK qM,bB g' path)):=fun h h2=>(qv _ _).add (ZB0 (KD (ke h).1) hpt) ⟨h0 h2,ZE0 xE (by decide)⟩
 refine⟨⟨⟨tv3,⟨?_,?_,?_,?_,?_⟩,?_,?_,?_⟩,fun x1 w2=>?_⟩,fun x3 w4=>⟨fun w5=>?_,fun w6=>⟨⟨⟨tv3,⟨?_,?_,?_,?_,?_⟩,?_,?_⟩,fun x7 w8=>?_⟩,fun x9 dy=>⟨fun kA=>?_,fun dJ=>⟨⟨⟨tv3,⟨?_,?_,?_,?_,?_⟩,?_,?_,?_⟩,fun rW gO=>?_⟩,fun ky kg=>⟨fun xh=>?_,fun rS=>⟨⟨⟨tv3,⟨?_,?_,?_,?_,?_⟩,?_,?_⟩,fun x19 uI=>?_⟩,fun x21 A3=>⟨aa,fun xK=>?_,fun rR=>⟨fun w25=>?_,fun w26=>⟨⟨?_,?_⟩,⟨⟨aa,aa,tv11,aa⟩,⟨?_,?_,?_,?_,?_⟩,?_,?_,?_,?_⟩,fun x27 w28=>⟨⟨tv2,?_,?_⟩,fun x29 w30=>⟨⟨⟨aa,tv3,aa⟩,?_⟩,fun x31 w32=>⟨⟨⟨aa,aa,⟨?_,?_⟩,aa⟩,⟨?_,?_,?_,?_,?_⟩,?_,?_,⟨?_,?_⟩,?_⟩,fun x33 w34=>?_⟩⟩⟩⟩⟩⟩⟩⟩⟩⟩⟩⟩⟩
 all_goals first|refine aw ?_|refine ax ?_|exact a8|(dsimp only [eB,fW,dE,ff,kq,kB,dT,fl,fj,gH,j6,k8,qA,qa,eZ,gm,oG];omega)|exact a7|exact dF|exact cG|exact hp6|exact ht6|exact⟨dF,cG⟩|exact⟨dF,cG,hp6⟩|exact⟨dF,cG,ht6⟩|exact fun _ _=>rfl|exact hF.wg.mono (by decide)|exact h0 w6|exact xE|exact hen _|(have:=(hlk w6).1;show gK≤(a6 g' (bB g' path)).2.1+1;unfold gK;omega)|(have:=(hlk w6).2;show (a6 g' (bB g' path)).2.1+1≤imax;unfold imax;omega)|exact (hls _ hF w6 dJ).wg.mono (by decide)|exact (hls _ hF w6 dJ).ok|exact (ke rS).1|exact (ke rS).2.1|exact (ke rS).2.2|exact hew rS w6|skip
 ·refine⟨[4,5],[],_,_,_,rfl,cf,(g',2),0,fun n h=>h.mono (by omega),rfl,rfl,rfl⟩
 ·refine⟨[4,5],[],_,_,_,rfl,cf,(g',4),0,fun n h=>h.mono (by omega),rfl,rfl,rfl⟩
 ·refine⟨[4,5],[],_,_,_,rfl,cf,(g',(dw g' qM).2),0,fun n h=>h.mono (by omega),rfl,rfl,rfl⟩
 ·refine⟨[4,5],[],_,_,_,rfl,cf,(g',6),0,fun n h=>h.mono (by omega),rfl,rfl,rfl⟩
 ·refine⟨[4,5],[],_,_,_,rfl,cf,(g',6),0,fun n h=>h.mono (by omega),rfl,rfl,rfl⟩
 ·refine⟨[1000600000,1000600001],[],_,_,_,rfl,cf,(ch (mY g' (bB g' path) ((a6 g' (bB g' path)).1,(a6 g' (bB g' path)).2.1+1,(a6 g' (bB g' path)).2.2)) (dw g' qM).1 (qR (bJ g'.1 (a6 g' (dw g' qM).1)).1 (dK qM,bB g' path)),0),0,fun n h=>((hls _ h w6 dJ).sU (ke rS).2.1 (ke rS).2.2).1.mono (by omega),rfl,rfl,rfl⟩
end GL
end Go.Proofs.YtnkbdhldiinfdaaGreatDoor
