/- Part 22 of the proof of a drawn law. -/
import Derived.Test.YtnkbdhldiinfdaaGreatDoorPat
import Derived.Test.YtnkbdhldiinfdaaGreatDoorPau
set_option maxHeartbeats 20000000
set_option maxRecDepth 100000
set_option linter.all false
namespace Go.Proofs.YtnkbdhldiinfdaaGreatDoor
namespace GL
attribute [local irreducible] dG cK bJ mY aY aC ch dw dR bB uM xo qR bC ew lu px
def p6 (F:fp) (path:ByteArray) (qM:ByteArray):Prop:=cY F 1000000∧F.2.2=false∧path.size≤1000∧qM.size≤1000
def HC (F:fp) (path:ByteArray) (qM:ByteArray) (z:fp×Int):Prop:=∀n,cY F n→cY z.1 (n+300)
def GS (F:fp) (path:ByteArray) (qM:ByteArray) (z:fp×Int):AV:=.s (.int z.2)
def KT (F:fp) (path:ByteArray) (qM:ByteArray) (z:fp×Int):List AV:=fsP z.1
def uc:cn where
 A:=[.b 0,.s .str,.s .str]
 B:=[.a [.xb 1 ab,.xb 2 ag,.xb 3 ag,.int,.xb 4 ae,.int,.xb 5 ae,.bool,.int,.int,.int,.int,.int,.int,.int,.bool],.r ab,.r ag,.r ag,.r ae,.r ae]
 pre:=λx b=>fsW b∧p6 (oG b) (x.2.1) (x.2.2)
 α:=λ_ _=>fp×Int
 φ:=λx b z=>HC (oG b) (x.2.1) (x.2.2) z
 r:=λx b z=>GS (oG b) (x.2.1) (x.2.2) z
 o:=λx b z=>KT (oG b) (x.2.1) (x.2.2) z
 nf:=2
 mv:=true
theorem PD:Has Tryz.prog 135 uc:=by
 refine Has.ofZ zT zF zF (l:=[(178,eB),(179,dE),(172,kq),(173,dT),(174,fj),(177,j6),(176,qA),(175,eZ)]) ⟨l4,jV,xA,kE,nY,wS,IK,nv,aa⟩ Tryz.func135 ?_
 rintro⟨_,(path:ByteArray),(qM:ByteArray)⟩ ⟨⟨(Fm1:Nat),(Fm2:Nat),(Fm3:Nat),(aM:Int),(Fm4:Nat),(aW:Int),(Fm5:Nat),(aV:Bool),(aU:Int),(aS:Int),(aR:Int),(aQ:Int),(aP:Int),(aO:Int),(aN:Int),(aX:Bool)⟩,(aE:List ByteArray),(aF:List Int),(aG:List Int),(aH:List Pt),(aI:List Pt)⟩ ⟨⟨(jz:Fm1=List.length aE),(jy:Fm2=List.length aF),(jx:Fm3=List.length aG),(jv:Fm4=List.length aH),(ju:Fm5=List.length aI)⟩,(hp:p6 ((aE,aF,aG,aM,aH,aW,aI,aV),(aU,aS,aR,aQ,aP,aO,aN),aX) path qM)⟩
 subst jz jy jx jv ju
 show vc _ _ _ _ (entry [.s (.bp 0 0),.str path,.str qM] [.a [.xs 1 1 0 aE.length,.xs 2 1 0 aF.length,.xs 3 1 0 aG.length,.int aM,.xs 4 5 0 aH.length,.int aW,.xs 5 5 0 aI.length,.q aV,.int aU,.int aS,.int aR,.int aQ,.int aP,.int aO,.int aN,.q aX],.rs ab aE,.rs ag aF,.rs ag aG,.rs ae aH,.rs ae aI]) _
 let g':=((aE,aF,aG,aM,aH,aW,aI,aV),(aU,aS,aR,aQ,aP,aO,aN),aX)
 obtain⟨hF,hfu,hps,hpt⟩:=hp
 have hF:cY g' 1000000:=hF
 have dF:ay.rd g'.1:=hF.wg.wf.rd
 have cG:bf.ok g'.2.1:=hF.ok
 have hp6:path.size≤1000000:=ZB0 hps (by decide)
 have ht6:qM.size≤1000000:=ZB0 hpt (by decide)
 have h0:decide (bB g' path<0)=false→0≤bB g' path:=λh=>ZH1.1 (aA h)
 have xE:bB g' path≤15:=(zi _ _).2
 have EX:decide ((a6 g' (bB g' path)).1≠1)=false→(a6 g' (bB g' path)).1=1:=λh=>ZE9.1 (aA h)
 have hen:∀nd,(bJ g'.1 nd).1.length≤1000:=λnd=>ZB0 (qv _ nd).len (by decide)
 have hlk:=λh=>hF.adF hfu (h0 h) xE
 have hls:=λn (hF:cY g' n) h h2=>hF.adE (l:=(a6 g' (bB g' path)).2.1+1) (nd:=a6 g' (bB g' path)) (hF.file hfu (h0 h) xE (EX h2)).1 xE λ_=>rfl
 have ke:decide ((dw g' qM).2>0)=false→1≤(bC qM).length∧0≤(dw g' qM).1∧(dw g' qM).1≤15:=MS
 have hew:decide ((dw g' qM).2>0)=false→decide (bB g' path<0)=false→KN (qR (bJ g'.1 (a6 g' (dw g' qM).1)).1 (dK qM,bB g' path)):=λh h2=>(qv _ _).add (ZB0 (KD (ke h).1) hpt) ⟨h0 h2,ZE0 xE (by decide)⟩
 refine⟨⟨⟨tv3,⟨?_,?_,?_,?_,?_⟩,?_,?_,?_⟩,λx1 w2=>?_⟩,λx3 w4=>⟨λw5=>?_,λw6=>⟨⟨⟨tv3,⟨?_,?_,?_,?_,?_⟩,?_,?_⟩,λx7 w8=>?_⟩,λx9 dy=>⟨λkA=>?_,λdJ=>⟨⟨⟨tv3,⟨?_,?_,?_,?_,?_⟩,?_,?_,?_⟩,λrW gO=>?_⟩,λky kg=>⟨λxh=>?_,λrS=>⟨⟨⟨tv3,⟨?_,?_,?_,?_,?_⟩,?_,?_⟩,λx19 uI=>?_⟩,λx21 A3=>⟨aa,λxK=>?_,λrR=>⟨λw25=>?_,λw26=>⟨⟨?_,?_⟩,⟨⟨aa,aa,tv11,aa⟩,⟨?_,?_,?_,?_,?_⟩,?_,?_,?_,?_⟩,λx27 w28=>⟨⟨tv2,?_,?_⟩,λx29 w30=>⟨⟨⟨aa,tv3,aa⟩,?_⟩,λx31 w32=>⟨⟨⟨aa,aa,⟨?_,?_⟩,aa⟩,⟨?_,?_,?_,?_,?_⟩,?_,?_,⟨?_,?_⟩,?_⟩,λx33 w34=>?_⟩⟩⟩⟩⟩⟩⟩⟩⟩⟩⟩⟩⟩
 all_goals first|refine aw ?_|refine ax ?_|exact a8|(dsimp only [eB,fW,dE,ff,kq,kB,dT,fl,fj,gH,j6,k8,qA,qa,eZ,gm,oG];omega)|exact a7|exact dF|exact cG|exact hp6|exact ht6|exact⟨dF,cG⟩|exact⟨dF,cG,hp6⟩|exact⟨dF,cG,ht6⟩|exact λ_ _=>rfl|exact hF.wg.mono (by decide)|exact h0 w6|exact xE|exact hen _|(have:=(hlk w6).1;show gK≤(a6 g' (bB g' path)).2.1+1;unfold gK;omega)|(have:=(hlk w6).2;show (a6 g' (bB g' path)).2.1+1≤imax;unfold imax;omega)|exact (hls _ hF w6 dJ).wg.mono (by decide)|exact (hls _ hF w6 dJ).ok|exact (ke rS).1|exact (ke rS).2.1|exact (ke rS).2.2|exact hew rS w6|skip
 ·refine⟨[4,5],[],_,_,_,ζ,cf,(g',2),0,λn h=>h.mono (by omega),ζ,ζ,ζ⟩
 ·refine⟨[4,5],[],_,_,_,ζ,cf,(g',4),0,λn h=>h.mono (by omega),ζ,ζ,ζ⟩
 ·refine⟨[4,5],[],_,_,_,ζ,cf,(g',(dw g' qM).2),0,λn h=>h.mono (by omega),ζ,ζ,ζ⟩
 ·refine⟨[4,5],[],_,_,_,ζ,cf,(g',6),0,λn h=>h.mono (by omega),ζ,ζ,ζ⟩
 ·refine⟨[4,5],[],_,_,_,ζ,cf,(g',6),0,λn h=>h.mono (by omega),ζ,ζ,ζ⟩
 ·refine⟨[1000600000,1000600001],[],_,_,_,ζ,cf,(ch (mY g' (bB g' path) ((a6 g' (bB g' path)).1,(a6 g' (bB g' path)).2.1+1,(a6 g' (bB g' path)).2.2)) (dw g' qM).1 (qR (bJ g'.1 (a6 g' (dw g' qM).1)).1 (dK qM,bB g' path)),0),0,λn h=>((hls _ h w6 dJ).sU (ke rS).2.1 (ke rS).2.2).1.mono (by omega),ζ,ζ,ζ⟩
end GL
namespace GL
attribute [local irreducible] dG cK bJ mY aY aC ch dw dR bB uM xo qR bC ew lu px
def pY (F:fp) (path:ByteArray) (qM:ByteArray):Prop:=cY F 1000000∧F.2.2=false∧path.size≤1000∧qM.size≤1000
def HA (F:fp) (path:ByteArray) (qM:ByteArray) (z:fp×Int):Prop:=∀n,cY F n→cY z.1 (n+300)
def GQ (F:fp) (path:ByteArray) (qM:ByteArray) (z:fp×Int):AV:=.s (.int z.2)
def KR (F:fp) (path:ByteArray) (qM:ByteArray) (z:fp×Int):List AV:=fsP z.1
def ua:cn where
 A:=[.b 0,.s .str,.s .str]
 B:=[.a [.xb 1 ab,.xb 2 ag,.xb 3 ag,.int,.xb 4 ae,.int,.xb 5 ae,.bool,.int,.int,.int,.int,.int,.int,.int,.bool],.r ab,.r ag,.r ag,.r ae,.r ae]
 pre:=λx b=>fsW b∧pY (oG b) (x.2.1) (x.2.2)
 α:=λ_ _=>fp×Int
 φ:=λx b z=>HA (oG b) (x.2.1) (x.2.2) z
 r:=λx b z=>GQ (oG b) (x.2.1) (x.2.2) z
 o:=λx b z=>KR (oG b) (x.2.1) (x.2.2) z
 nf:=2
 mv:=true
theorem PB:Has Tryz.prog 136 ua:=by
 refine Has.ofZ zT zF zF (l:=[(178,eB),(184,vV),(180,gL),(173,dT),(177,j6),(182,oZ),(181,sK),(176,qA),(175,eZ)]) ⟨l4,TE,rJ,kE,wS,FG,MD,IK,nv,aa⟩ Tryz.func136 ?_
 rintro⟨_,(path:ByteArray),(qM:ByteArray)⟩ ⟨⟨(Fm1:Nat),(Fm2:Nat),(Fm3:Nat),(aM:Int),(Fm4:Nat),(aW:Int),(Fm5:Nat),(aV:Bool),(aU:Int),(aS:Int),(aR:Int),(aQ:Int),(aP:Int),(aO:Int),(aN:Int),(aX:Bool)⟩,(aE:List ByteArray),(aF:List Int),(aG:List Int),(aH:List Pt),(aI:List Pt)⟩ ⟨⟨(jz:Fm1=List.length aE),(jy:Fm2=List.length aF),(jx:Fm3=List.length aG),(jv:Fm4=List.length aH),(ju:Fm5=List.length aI)⟩,(hp:pY ((aE,aF,aG,aM,aH,aW,aI,aV),(aU,aS,aR,aQ,aP,aO,aN),aX) path qM)⟩
 subst jz jy jx jv ju
 show vc _ _ _ _ (entry [.s (.bp 0 0),.str path,.str qM] [.a [.xs 1 1 0 aE.length,.xs 2 1 0 aF.length,.xs 3 1 0 aG.length,.int aM,.xs 4 5 0 aH.length,.int aW,.xs 5 5 0 aI.length,.q aV,.int aU,.int aS,.int aR,.int aQ,.int aP,.int aO,.int aN,.q aX],.rs ab aE,.rs ag aF,.rs ag aG,.rs ae aH,.rs ae aI]) _
 let g':=((aE,aF,aG,aM,aH,aW,aI,aV),(aU,aS,aR,aQ,aP,aO,aN),aX)
 obtain⟨hF,hfu,hps,hpt⟩:=hp
 have hF:cY g' 1000000:=hF
 have dF:ay.rd g'.1:=hF.wg.wf.rd
 have cG:bf.ok g'.2.1:=hF.ok
 have hp6:path.size≤1000000:=ZB0 hps (by decide)
 have ht6:qM.size≤1000000:=ZB0 hpt (by decide)
 have h0:decide (bB g' path<0)=false→decide (bB g' path=0)=false→0<bB g' path:=λh h2=>by have:=aA h;have:=aA h2;omega
 have xE:bB g' path≤15:=(zi _ _).2
 have rT:=λ(h:0<bB g' path)=>OE (pD h).1
 have hpb:0<bB g' path→0≤(dR g' path).1∧(dR g' path).1≤15:=λh=>by rw [(rT h).2.1];exact⟨(rT h).2.2.1,(rT h).2.2.2.1⟩
 have hto:decide ((dR g' qM).2>0)=false→1≤(bC qM).length∧0≤(dR g' qM).1∧(dR g' qM).1≤15:=λh=>by
  have h1:=OE h
  rw [h1.2.1];exact⟨h1.1,h1.2.2.1,h1.2.2.2.1⟩
 have hen:∀s nd,(bJ s nd).1.length≤1000:=λs nd=>ZB0 (qv s nd).len (by decide)
 have hln:∀s nd i,(ew (bJ s nd).1 i).length≤1000:=λs nd i=>ZB0 ((qv s nd).less i).len (by decide)
 have xD:=λ(h:0<bB g' path)=>(pD h).2.1
 have hal:=λ(h:0<bB g' path)=>(y8 (xD h)).1
 have hwr:=λn (hF:cY g' n) (h:0<bB g' path)=>(hF.sU (l:=(ew (bJ g'.1 (a6 g' (dR g' path).1)).1 (lu (bJ g'.1 (a6 g' (dR g' path).1)).1 (dK path)).toNat)) (hpb h).1 (hpb h).2).1
 have hea:decide ((dR g' qM).2>0)=false→0<bB g' path→∀l,P6 l→KN (qR l (dK qM,bB g' path)):=λh h2 l hv=>hv.add (ZB0 (KD (hto h).1) hpt) ⟨Int.le_of_lt h2,ZE0 xE (by decide)⟩
 refine⟨⟨⟨tv3,⟨?_,?_,?_,?_,?_⟩,?_,?_,?_⟩,λx1 w2=>?_⟩,λx3 w4=>⟨λw5=>?_,λw6=>⟨λw7=>?_,λw8=>⟨⟨⟨tv3,⟨?_,?_,?_,?_,?_⟩,?_,?_,?_⟩,λx9 dy=>?_⟩,λkz dJ=>⟨λiU=>?_,λgO=>⟨⟨tv3,?_,?_⟩,λky kg=>⟨λxh=>?_,λrS=>⟨⟨⟨tv3,⟨?_,?_,?_,?_,?_⟩,?_,?_,?_⟩,λx19 uI=>?_⟩,λx21 A3=>⟨λxK=>?_,λrR=>⟨⟨⟨tv3,⟨?_,?_,?_,?_,?_⟩,?_,?_,?_⟩,λx25 w26=>?_⟩,λx27 w28=>⟨aa,λw29=>⟨⟨⟨tv3,⟨?_,?_,?_,?_,?_⟩,?_,?_⟩,λx30 w31=>?_⟩,λx32 w33=>⟨λw34=>?_,λw35=>⟨⟨⟨tv3,⟨?_,?_,?_,?_,?_⟩,?_,?_⟩,λx36 w37=>?_⟩,λx38 w39=>⟨⟨tv2,?_,?_⟩,λx40 w41=>⟨⟨tv3,?_⟩,λx42 w43=>⟨⟨tv3,?_,?_,?_⟩,λx44 w45=>⟨⟨tv2,?_,?_⟩,λx46 w47=>⟨λw48=>⟨⟨⟨⟨?_,?_⟩,tv3,aa⟩,?_⟩,λx49 w50=>⟨⟨⟨aa,aa,⟨?_,?_⟩,aa⟩,⟨?_,?_,?_,?_,?_⟩,?_,?_,⟨?_,?_⟩,?_⟩,λx51 w52=>?_⟩⟩,λw53=>⟨⟨⟨aa,aa,⟨?_,?_⟩,aa⟩,⟨?_,?_,?_,?_,?_⟩,?_,?_,⟨?_,?_⟩,?_⟩,λx54 w55=>⟨Sq0,Sq83,ζ,Sq8,Sq84,ζ,Sq0,Sq85,ζ,Sq8,Sq86,ζ,[.s 85,.s 86,.b 0,.b 1,.b 2,.b 3,.b 1000830000,.b 1000830001],Sq87,ζ,⟨⟨tv3,⟨?_,?_,?_,?_,?_⟩,?_,?_⟩,λx56 w57=>?_⟩,?_,λx58 w59=>⟨[.s 13,.b 1013],Sq88,ζ,[.s 87,.s 88,.b 900000],[.s 89,.b 900000],ζ,⟨⟨aa,tv3,aa⟩,?_⟩,?_,λx60 w61=>⟨[.s 83,.s 84,.s 89,.b 0,.b 1,.b 2,.b 3,.b 1000830000,.b 1000830001,.b 900000,.b 1000910001,.b 1000910000],[.s 90,.b 0,.b 1,.b 2,.b 3,.b 1000830000,.b 1000830001,.b 1000910000,.b 1000910001],ζ,⟨⟨aa,aa,⟨?_,?_⟩,aa⟩,⟨?_,?_,?_,?_,?_⟩,?_,?_,⟨?_,?_⟩,?_⟩,?_,λx62 w63=>?_⟩⟩⟩⟩⟩⟩⟩⟩⟩⟩⟩⟩,λw64=>⟨⟨⟨tv3,⟨?_,?_,?_,?_,?_⟩,?_,?_⟩,λx65 w66=>?_⟩,λx67 w68=>⟨⟨tv2,?_,?_⟩,λx69 w70=>⟨⟨tv3,?_⟩,λx71 w72=>⟨⟨tv3,?_,?_,?_⟩,λx73 w74=>⟨⟨tv2,?_,?_⟩,λx75 w76=>⟨λw77=>⟨⟨⟨⟨?_,?_⟩,tv3,aa⟩,?_⟩,λx78 w79=>⟨⟨⟨aa,aa,⟨?_,?_⟩,aa⟩,⟨?_,?_,?_,?_,?_⟩,?_,?_,⟨?_,?_⟩,?_⟩,λx80 w81=>?_⟩⟩,λw82=>⟨⟨⟨aa,aa,⟨?_,?_⟩,aa⟩,⟨?_,?_,?_,?_,?_⟩,?_,?_,⟨?_,?_⟩,?_⟩,λx83 w84=>⟨Sq0,Sq83,ζ,Sq8,Sq84,ζ,Sq0,Sq85,ζ,Sq8,Sq86,ζ,[.s 85,.s 86,.b 0,.b 1,.b 2,.b 3,.b 1000830000,.b 1000830001],Sq87,ζ,⟨⟨tv3,⟨?_,?_,?_,?_,?_⟩,?_,?_⟩,λx85 w86=>?_⟩,?_,λx87 w88=>⟨[.s 13,.b 1013],Sq88,ζ,[.s 87,.s 88,.b 900000],[.s 89,.b 900000],ζ,⟨⟨aa,tv3,aa⟩,?_⟩,?_,λx89 w90=>⟨[.s 83,.s 84,.s 89,.b 0,.b 1,.b 2,.b 3,.b 1000830000,.b 1000830001,.b 900000,.b 1000910001,.b 1000910000],[.s 90,.b 0,.b 1,.b 2,.b 3,.b 1000830000,.b 1000830001,.b 1000910000,.b 1000910001],ζ,⟨⟨aa,aa,⟨?_,?_⟩,aa⟩,⟨?_,?_,?_,?_,?_⟩,?_,?_,⟨?_,?_⟩,?_⟩,?_,λx91 w92=>?_⟩⟩⟩⟩⟩⟩⟩⟩⟩⟩⟩⟩⟩⟩⟩⟩⟩⟩⟩⟩⟩
 all_goals first|refine aw ?_|refine ax ?_|exact a8|(dsimp only [eB,fW,vV,rG,gL,iM,dT,fl,j6,k8,oZ,o9,sK,q6,qA,qa,eZ,gm,oG];omega)|exact a7|exact dF|exact cG|exact hp6|exact ht6|exact⟨dF,cG⟩|exact⟨dF,cG,hp6⟩|exact⟨dF,cG,ht6⟩|exact λ_ _=>rfl|exact hF.wg.mono (by decide)|exact xE|exact hen _ _|exact ZB0 (hen _ _) (by decide)|exact (rT (h0 w6 w8)).1|exact xD (h0 w6 w8)|exact hal (h0 w6 w8)|exact (hto rR).1|exact hln _ _ _|exact (hto rR).2.1|exact (hto rR).2.2|exact (hpb (h0 w6 w8)).1|exact (hpb (h0 w6 w8)).2|exact ((qv _ _).less _).w|exact hea rR (h0 w6 w8) _ ((qv _ _).less _)|exact hea rR (h0 w6 w8) _ (qv _ _)|exact (hwr _ hF (h0 w6 w8)).wg.mono (by decide)|exact (hwr _ hF (h0 w6 w8)).ok|exact (hwr _ hF (h0 w6 w8)).wg.wf.rd|skip
 ·refine⟨[4,5],[],_,_,_,ζ,cf,(g',2),0,λn h=>h.mono (by omega),ζ,ζ,ζ⟩
 ·refine⟨[4,5],[],_,_,_,ζ,cf,(g',5),0,λn h=>h.mono (by omega),ζ,ζ,ζ⟩
 ·refine⟨[4,5],[],_,_,_,ζ,cf,(g',3),0,λn h=>h.mono (by omega),ζ,ζ,ζ⟩
 ·refine⟨[4,5],[],_,_,_,ζ,cf,(g',5),0,λn h=>h.mono (by omega),ζ,ζ,ζ⟩
 ·refine⟨[4,5],[],_,_,_,ζ,cf,(g',(dR g' qM).2),0,λn h=>h.mono (by omega),ζ,ζ,ζ⟩
 ·refine⟨[4,5],[],_,_,_,ζ,cf,(g',6),0,λn h=>h.mono (by omega),ζ,ζ,ζ⟩
 ·refine⟨[1000790000,1000790001],[],_,_,_,ζ,cf,(ch g' (dR g' qM).1 (qR (ew (bJ g'.1 (a6 g' (dR g' path).1)).1 (lu (bJ g'.1 (a6 g' (dR g' path).1)).1 (dK path)).toNat) (dK qM,bB g' path)),0),0,λn h=>(h.sU (hto rR).2.1 (hto rR).2.2).1.mono (by omega),ζ,ζ,ζ⟩
 ·refine⟨[1000910000,1000910001],[],_,_,_,ζ,cf,(ch (ch g' (dR g' path).1 (ew (bJ g'.1 (a6 g' (dR g' path).1)).1 (lu (bJ g'.1 (a6 g' (dR g' path).1)).1 (dK path)).toNat)) (dR g' qM).1 (qR (bJ (ch g' (dR g' path).1 (ew (bJ g'.1 (a6 g' (dR g' path).1)).1 (lu (bJ g'.1 (a6 g' (dR g' path).1)).1 (dK path)).toNat)).1 (a6 (ch g' (dR g' path).1 (ew (bJ g'.1 (a6 g' (dR g' path).1)).1 (lu (bJ g'.1 (a6 g' (dR g' path).1)).1 (dK path)).toNat)) (dR g' qM).1)).1 (dK qM,bB g' path)),0),0,λn h=>((hwr _ h (h0 w6 w8)).sU (hto rR).2.1 (hto rR).2.2).1.mono (by omega),ζ,ζ,ζ⟩
 ·refine⟨[1000790000,1000790001],[],_,_,_,ζ,cf,(ch g' (dR g' qM).1 (qR (ew (bJ g'.1 (a6 g' (dR g' path).1)).1 (lu (bJ g'.1 (a6 g' (dR g' path).1)).1 (dK path)).toNat) (dK qM,bB g' path)),0),0,λn h=>(h.sU (hto rR).2.1 (hto rR).2.2).1.mono (by omega),ζ,ζ,ζ⟩
 ·refine⟨[1000910000,1000910001],[],_,_,_,ζ,cf,(ch (ch g' (dR g' path).1 (ew (bJ g'.1 (a6 g' (dR g' path).1)).1 (lu (bJ g'.1 (a6 g' (dR g' path).1)).1 (dK path)).toNat)) (dR g' qM).1 (qR (bJ (ch g' (dR g' path).1 (ew (bJ g'.1 (a6 g' (dR g' path).1)).1 (lu (bJ g'.1 (a6 g' (dR g' path).1)).1 (dK path)).toNat)).1 (a6 (ch g' (dR g' path).1 (ew (bJ g'.1 (a6 g' (dR g' path).1)).1 (lu (bJ g'.1 (a6 g' (dR g' path).1)).1 (dK path)).toNat)) (dR g' qM).1)).1 (dK qM,bB g' path)),0),0,λn h=>((hwr _ h (h0 w6 w8)).sU (hto rR).2.1 (hto rR).2.2).1.mono (by omega),ζ,ζ,ζ⟩
end GL
namespace GL
def se (S:ay) (t:bf) (o:Opr):Prop:=FS S t∧S.wg 1000000∧o.2.1.size≤1000∧o.2.2.1.size≤1000∧0≤o.2.2.2.1∧o.2.2.2.1≤192∧o.2.2.2.2.size≤1000
def aaY (S:ay) (t:bf) (o:Opr) (z:ay×bf×Int):Prop:=FS z.1 z.2.1∧∀n,S.wg n→z.1.wg (n+300)
def aaO (S:ay) (t:bf) (o:Opr) (z:ay×bf×Int):AV:=.t [.a (kW 5 6 7 8 9 z.1),trA z.2.1,.s (.int z.2.2)]
def ac7 (S:ay) (t:bf) (o:Opr) (z:ay×bf×Int):List AV:=[.zz,.zz,.zz,.zz,.zz,.rs ab z.1.rows,.rs ag z.1.refs,.rs ag z.1.last,.rs ae z.1.gone,.rs ae z.1.dead]
def ue:cn where
 A:=[.a (stB 0 1 2 3 4),.a [.int,.int,.int,.int,.int,.int,.int],.a [.int,.str,.str,.int,.str]]
 B:=[.r ab,.r ag,.r ag,.r ae,.r ae]
 pre:=λx b=>stW x.1 b∧se (gP x.1 b) (x.2.1) (x.2.2)
 α:=λ_ _=>ay×bf×Int
 φ:=λx b z=>aaY (gP x.1 b) (x.2.1) (x.2.2) z
 r:=λx b z=>aaO (gP x.1 b) (x.2.1) (x.2.2) z
 o:=λx b z=>ac7 (gP x.1 b) (x.2.1) (x.2.2) z
 nf:=5
 mv:=true
theorem PF:Has Tryz.prog 90 ue:=by
 refine Has.ofZ zT zF zF (l:=[(99,jD),(133,ub),(137,qy),(134,ud),(135,uc),(136,ua)]) ⟨IH,PC,II,PE,PD,PB,aa⟩ Tryz.func90 ?_
 rintro⟨⟨(AU:Nat),(AT:Nat),(AS:Nat),(ao:Int),(AR:Nat),(aq:Int),(AQ:Nat),(ar:Bool)⟩,⟨(t1:Int),(t2:Int),(t3:Int),(t4:Int),(t5:Int),(t6:Int),(t7:Int)⟩,⟨(o1:Int),(o2:ByteArray),(o3:ByteArray),(o4:Int),(o5:ByteArray)⟩⟩ ⟨(aj:List ByteArray),(ak:List Int),(an:List Int),(ah:List Pt),(ai:List Pt)⟩ ⟨⟨(gC:AU=List.length aj),(gB:AT=List.length ak),(gA:AS=List.length an),(gz:AR=List.length ah),(gy:AQ=List.length ai)⟩,(hp:se (aj,ak,an,ao,ah,aq,ai,ar) (t1,t2,t3,t4,t5,t6,t7) (o1,o2,o3,o4,o5))⟩
 subst gC gB gA gz gy
 show vc _ _ _ _ (entry [.a [.xs 0 1 0 aj.length,.xs 1 1 0 ak.length,.xs 2 1 0 an.length,.int ao,.xs 3 5 0 ah.length,.int aq,.xs 4 5 0 ai.length,.q ar],.a [.int t1,.int t2,.int t3,.int t4,.int t5,.int t6,.int t7],.a [.int o1,.str o2,.str o3,.int o4,.str o5]] [.rs ab aj,.rs ag ak,.rs ag an,.rs ae ah,.rs ae ai]) _
 obtain⟨uL,ll,hs1,hs2,ha0,ha1,htx⟩:=hp
 have uL:FS (aj,ak,an,ao,ah,aq,ai,ar) (t1,t2,t3,t4,t5,t6,t7):=uL
 have ll:ay.wg (aj,ak,an,ao,ah,aq,ai,ar) 1000000:=ll
 have hsm:ay.small (aj,ak,an,ao,ah,aq,ai,ar):=⟨by have:=ll.wf.n.1;omega,by have:=ll.wf.n.2.1;omega,by have:=ll.wf.n.2.2;omega,ll.g,ll.d⟩
 have hF:cY ((aj,ak,an,ao,ah,aq,ai,ar),(t1,t2,t3,t4,t5,t6,t7),false) 1000000:=⟨ll,uL.fi.tree.ok,λ_=>uL⟩
 have vD:∀x:fp×Int,(∀n,cY ((aj,ak,an,ao,ah,aq,ai,ar),(t1,t2,t3,t4,t5,t6,t7),false) n→cY x.1 (n+300))→(x.1.2.2=false→FS x.1.1 x.1.2.1)∧∀n,ay.wg (aj,ak,an,ao,ah,aq,ai,ar) n→x.1.1.wg (n+300):=λx h=>⟨(h _ hF).fs,λn hn=>(h n ⟨hn,hF.ok,λ_=>uL⟩).wg⟩
 refine⟨[.s 3,.b 1003],Sq11,ζ,[.s 11,.b 0,.b 1,.b 2,.b 3,.b 4,.b 130004,.b 130003,.b 130002,.b 130001,.b 130000],[.s 12,.b 130000,.b 130001,.b 130002,.b 130003,.b 130004],ζ,⟨⟨⟨⟨?_,?_⟩,⟨?_,?_⟩,⟨?_,?_⟩,aa,⟨?_,?_⟩,aa,⟨?_,?_⟩,tv2⟩,aa⟩,?_,?_,?_,?_,?_⟩,?_,λx1 w2=>⟨[.s 4,.b 1004],Sq13,ζ,[.s 12,.s 13],Sq14,ζ,[.s 14,.b 1015],[.s 15,.b 1015],ζ,Sq15,Sq9,ζ,λw3=>⟨⟨tv4,⟨?_,?_,?_,?_,?_⟩,?_,?_,?_⟩,λx4 w5=>⟨aa,λw6=>⟨λw7=>⟨λw8=>⟨[.s 3,.b 1003],Sq65,ζ,[.s 4,.b 1004],Sq66,ζ,Sq10,Sq67,ζ,[.s 6,.s 65,.b 1006],[.b 1006],ζ,[.s 7,.s 66,.b 1007],[.b 1007],ζ,Sq67,Sq8,ζ,?_⟩,λw9=>⟨Sq9,Sq68,ζ,Sq68,Sq69,ζ,Sq69,Sq70,ζ,[.s 70,.b 1015],Sq71,ζ,Sq9,Sq72,ζ,Sq72,Sq73,ζ,Sq73,Sq74,ζ,[.s 74,.b 1015],Sq75,ζ,Sq10,Sq76,ζ,[.s 6,.s 71,.b 1006],[.b 1006],ζ,[.s 7,.s 75,.b 1007],[.b 1007],ζ,Sq76,Sq8,ζ,?_⟩⟩,λdy=>⟨λkA=>⟨[.s 3,.b 1003],Sq65,ζ,[.s 4,.b 1004],Sq66,ζ,Sq10,Sq67,ζ,[.s 6,.s 65,.b 1006],[.b 1006],ζ,[.s 7,.s 66,.b 1007],[.b 1007],ζ,Sq67,Sq8,ζ,?_⟩,λdJ=>⟨Sq9,Sq68,ζ,Sq68,Sq69,ζ,Sq69,Sq70,ζ,[.s 70,.b 1015],Sq71,ζ,Sq9,Sq72,ζ,Sq72,Sq73,ζ,Sq73,Sq74,ζ,[.s 74,.b 1015],Sq75,ζ,Sq10,Sq76,ζ,[.s 6,.s 71,.b 1006],[.b 1006],ζ,[.s 7,.s 75,.b 1007],[.b 1007],ζ,Sq76,Sq8,ζ,?_⟩⟩⟩,λiU=>⟨λgO=>⟨[.s 3,.b 1003],Sq65,ζ,[.s 4,.b 1004],Sq66,ζ,Sq10,Sq67,ζ,[.s 6,.s 65,.b 1006],[.b 1006],ζ,[.s 7,.s 66,.b 1007],[.b 1007],ζ,Sq67,Sq8,ζ,?_⟩,λqK=>⟨Sq9,Sq68,ζ,Sq68,Sq69,ζ,Sq69,Sq70,ζ,[.s 70,.b 1015],Sq71,ζ,Sq9,Sq72,ζ,Sq72,Sq73,ζ,Sq73,Sq74,ζ,[.s 74,.b 1015],Sq75,ζ,Sq10,Sq76,ζ,[.s 6,.s 71,.b 1006],[.b 1006],ζ,[.s 7,.s 75,.b 1007],[.b 1007],ζ,Sq76,Sq8,ζ,?_⟩⟩⟩⟩,λkg=>⟨λxh=>⟨⟨tv4,⟨?_,?_,?_,?_,?_⟩,?_,?_,?_⟩,λqH oL=>⟨aa,λuI=>⟨λA4=>⟨λA3=>⟨[.s 3,.b 1003],Sq65,ζ,[.s 4,.b 1004],Sq66,ζ,Sq10,Sq67,ζ,[.s 6,.s 65,.b 1006],[.b 1006],ζ,[.s 7,.s 66,.b 1007],[.b 1007],ζ,Sq67,Sq8,ζ,?_⟩,λxK=>⟨Sq9,Sq68,ζ,Sq68,Sq69,ζ,Sq69,Sq70,ζ,[.s 70,.b 1015],Sq71,ζ,Sq9,Sq72,ζ,Sq72,Sq73,ζ,Sq73,Sq74,ζ,[.s 74,.b 1015],Sq75,ζ,Sq10,Sq76,ζ,[.s 6,.s 71,.b 1006],[.b 1006],ζ,[.s 7,.s 75,.b 1007],[.b 1007],ζ,Sq76,Sq8,ζ,?_⟩⟩,λrR=>⟨λw25=>⟨[.s 3,.b 1003],Sq65,ζ,[.s 4,.b 1004],Sq66,ζ,Sq10,Sq67,ζ,[.s 6,.s 65,.b 1006],[.b 1006],ζ,[.s 7,.s 66,.b 1007],[.b 1007],ζ,Sq67,Sq8,ζ,?_⟩,λw26=>⟨Sq9,Sq68,ζ,Sq68,Sq69,ζ,Sq69,Sq70,ζ,[.s 70,.b 1015],Sq71,ζ,Sq9,Sq72,ζ,Sq72,Sq73,ζ,Sq73,Sq74,ζ,[.s 74,.b 1015],Sq75,ζ,Sq10,Sq76,ζ,[.s 6,.s 71,.b 1006],[.b 1006],ζ,[.s 7,.s 75,.b 1007],[.b 1007],ζ,Sq76,Sq8,ζ,?_⟩⟩⟩,λw27=>⟨λw28=>⟨[.s 3,.b 1003],Sq65,ζ,[.s 4,.b 1004],Sq66,ζ,Sq10,Sq67,ζ,[.s 6,.s 65,.b 1006],[.b 1006],ζ,[.s 7,.s 66,.b 1007],[.b 1007],ζ,Sq67,Sq8,ζ,?_⟩,λw29=>⟨Sq9,Sq68,ζ,Sq68,Sq69,ζ,Sq69,Sq70,ζ,[.s 70,.b 1015],Sq71,ζ,Sq9,Sq72,ζ,Sq72,Sq73,ζ,Sq73,Sq74,ζ,[.s 74,.b 1015],Sq75,ζ,Sq10,Sq76,ζ,[.s 6,.s 71,.b 1006],[.b 1006],ζ,[.s 7,.s 75,.b 1007],[.b 1007],ζ,Sq76,Sq8,ζ,?_⟩⟩⟩⟩,λw30=>⟨λw31=>⟨⟨tv3,⟨?_,?_,?_,?_,?_⟩,?_,?_,?_⟩,λx32 w33=>⟨aa,λw34=>⟨λw35=>⟨λw36=>⟨[.s 3,.b 1003],Sq65,ζ,[.s 4,.b 1004],Sq66,ζ,Sq10,Sq67,ζ,[.s 6,.s 65,.b 1006],[.b 1006],ζ,[.s 7,.s 66,.b 1007],[.b 1007],ζ,Sq67,Sq8,ζ,?_⟩,λw37=>⟨Sq9,Sq68,ζ,Sq68,Sq69,ζ,Sq69,Sq70,ζ,[.s 70,.b 1015],Sq71,ζ,Sq9,Sq72,ζ,Sq72,Sq73,ζ,Sq73,Sq74,ζ,[.s 74,.b 1015],Sq75,ζ,Sq10,Sq76,ζ,[.s 6,.s 71,.b 1006],[.b 1006],ζ,[.s 7,.s 75,.b 1007],[.b 1007],ζ,Sq76,Sq8,ζ,?_⟩⟩,λw38=>⟨λw39=>⟨[.s 3,.b 1003],Sq65,ζ,[.s 4,.b 1004],Sq66,ζ,Sq10,Sq67,ζ,[.s 6,.s 65,.b 1006],[.b 1006],ζ,[.s 7,.s 66,.b 1007],[.b 1007],ζ,Sq67,Sq8,ζ,?_⟩,λw40=>⟨Sq9,Sq68,ζ,Sq68,Sq69,ζ,Sq69,Sq70,ζ,[.s 70,.b 1015],Sq71,ζ,Sq9,Sq72,ζ,Sq72,Sq73,ζ,Sq73,Sq74,ζ,[.s 74,.b 1015],Sq75,ζ,Sq10,Sq76,ζ,[.s 6,.s 71,.b 1006],[.b 1006],ζ,[.s 7,.s 75,.b 1007],[.b 1007],ζ,Sq76,Sq8,ζ,?_⟩⟩⟩,λw41=>⟨λw42=>⟨[.s 3,.b 1003],Sq65,ζ,[.s 4,.b 1004],Sq66,ζ,Sq10,Sq67,ζ,[.s 6,.s 65,.b 1006],[.b 1006],ζ,[.s 7,.s 66,.b 1007],[.b 1007],ζ,Sq67,Sq8,ζ,?_⟩,λw43=>⟨Sq9,Sq68,ζ,Sq68,Sq69,ζ,Sq69,Sq70,ζ,[.s 70,.b 1015],Sq71,ζ,Sq9,Sq72,ζ,Sq72,Sq73,ζ,Sq73,Sq74,ζ,[.s 74,.b 1015],Sq75,ζ,Sq10,Sq76,ζ,[.s 6,.s 71,.b 1006],[.b 1006],ζ,[.s 7,.s 75,.b 1007],[.b 1007],ζ,Sq76,Sq8,ζ,?_⟩⟩⟩⟩,λw44=>⟨λw45=>⟨⟨tv4,⟨?_,?_,?_,?_,?_⟩,?_,?_,?_,?_⟩,λx46 w47=>⟨aa,λw48=>⟨λw49=>⟨λw50=>⟨[.s 3,.b 1003],Sq65,ζ,[.s 4,.b 1004],Sq66,ζ,Sq10,Sq67,ζ,[.s 6,.s 65,.b 1006],[.b 1006],ζ,[.s 7,.s 66,.b 1007],[.b 1007],ζ,Sq67,Sq8,ζ,?_⟩,λw51=>⟨Sq9,Sq68,ζ,Sq68,Sq69,ζ,Sq69,Sq70,ζ,[.s 70,.b 1015],Sq71,ζ,Sq9,Sq72,ζ,Sq72,Sq73,ζ,Sq73,Sq74,ζ,[.s 74,.b 1015],Sq75,ζ,Sq10,Sq76,ζ,[.s 6,.s 71,.b 1006],[.b 1006],ζ,[.s 7,.s 75,.b 1007],[.b 1007],ζ,Sq76,Sq8,ζ,?_⟩⟩,λw52=>⟨λw53=>⟨[.s 3,.b 1003],Sq65,ζ,[.s 4,.b 1004],Sq66,ζ,Sq10,Sq67,ζ,[.s 6,.s 65,.b 1006],[.b 1006],ζ,[.s 7,.s 66,.b 1007],[.b 1007],ζ,Sq67,Sq8,ζ,?_⟩,λw54=>⟨Sq9,Sq68,ζ,Sq68,Sq69,ζ,Sq69,Sq70,ζ,[.s 70,.b 1015],Sq71,ζ,Sq9,Sq72,ζ,Sq72,Sq73,ζ,Sq73,Sq74,ζ,[.s 74,.b 1015],Sq75,ζ,Sq10,Sq76,ζ,[.s 6,.s 71,.b 1006],[.b 1006],ζ,[.s 7,.s 75,.b 1007],[.b 1007],ζ,Sq76,Sq8,ζ,?_⟩⟩⟩,λw55=>⟨λw56=>⟨[.s 3,.b 1003],Sq65,ζ,[.s 4,.b 1004],Sq66,ζ,Sq10,Sq67,ζ,[.s 6,.s 65,.b 1006],[.b 1006],ζ,[.s 7,.s 66,.b 1007],[.b 1007],ζ,Sq67,Sq8,ζ,?_⟩,λw57=>⟨Sq9,Sq68,ζ,Sq68,Sq69,ζ,Sq69,Sq70,ζ,[.s 70,.b 1015],Sq71,ζ,Sq9,Sq72,ζ,Sq72,Sq73,ζ,Sq73,Sq74,ζ,[.s 74,.b 1015],Sq75,ζ,Sq10,Sq76,ζ,[.s 6,.s 71,.b 1006],[.b 1006],ζ,[.s 7,.s 75,.b 1007],[.b 1007],ζ,Sq76,Sq8,ζ,?_⟩⟩⟩⟩,λw58=>⟨λw59=>⟨⟨tv4,⟨?_,?_,?_,?_,?_⟩,?_,?_,?_,?_⟩,λx60 w61=>⟨aa,λw62=>⟨λw63=>⟨λw64=>⟨[.s 3,.b 1003],Sq65,ζ,[.s 4,.b 1004],Sq66,ζ,Sq10,Sq67,ζ,[.s 6,.s 65,.b 1006],[.b 1006],ζ,[.s 7,.s 66,.b 1007],[.b 1007],ζ,Sq67,Sq8,ζ,?_⟩,λw65=>⟨Sq9,Sq68,ζ,Sq68,Sq69,ζ,Sq69,Sq70,ζ,[.s 70,.b 1015],Sq71,ζ,Sq9,Sq72,ζ,Sq72,Sq73,ζ,Sq73,Sq74,ζ,[.s 74,.b 1015],Sq75,ζ,Sq10,Sq76,ζ,[.s 6,.s 71,.b 1006],[.b 1006],ζ,[.s 7,.s 75,.b 1007],[.b 1007],ζ,Sq76,Sq8,ζ,?_⟩⟩,λw66=>⟨λw67=>⟨[.s 3,.b 1003],Sq65,ζ,[.s 4,.b 1004],Sq66,ζ,Sq10,Sq67,ζ,[.s 6,.s 65,.b 1006],[.b 1006],ζ,[.s 7,.s 66,.b 1007],[.b 1007],ζ,Sq67,Sq8,ζ,?_⟩,λw68=>⟨Sq9,Sq68,ζ,Sq68,Sq69,ζ,Sq69,Sq70,ζ,[.s 70,.b 1015],Sq71,ζ,Sq9,Sq72,ζ,Sq72,Sq73,ζ,Sq73,Sq74,ζ,[.s 74,.b 1015],Sq75,ζ,Sq10,Sq76,ζ,[.s 6,.s 71,.b 1006],[.b 1006],ζ,[.s 7,.s 75,.b 1007],[.b 1007],ζ,Sq76,Sq8,ζ,?_⟩⟩⟩,λw69=>⟨λw70=>⟨[.s 3,.b 1003],Sq65,ζ,[.s 4,.b 1004],Sq66,ζ,Sq10,Sq67,ζ,[.s 6,.s 65,.b 1006],[.b 1006],ζ,[.s 7,.s 66,.b 1007],[.b 1007],ζ,Sq67,Sq8,ζ,?_⟩,λw71=>⟨Sq9,Sq68,ζ,Sq68,Sq69,ζ,Sq69,Sq70,ζ,[.s 70,.b 1015],Sq71,ζ,Sq9,Sq72,ζ,Sq72,Sq73,ζ,Sq73,Sq74,ζ,[.s 74,.b 1015],Sq75,ζ,Sq10,Sq76,ζ,[.s 6,.s 71,.b 1006],[.b 1006],ζ,[.s 7,.s 75,.b 1007],[.b 1007],ζ,Sq76,Sq8,ζ,?_⟩⟩⟩⟩,λw72=>⟨⟨⟨aa,tv6,aa⟩,⟨?_,?_,?_,?_,?_⟩,?_,?_,?_,?_,?_,?_⟩,λx73 w74=>⟨aa,λw75=>⟨λw76=>⟨λw77=>⟨[.s 3,.b 1003],Sq65,ζ,[.s 4,.b 1004],Sq66,ζ,Sq10,Sq67,ζ,[.s 6,.s 65,.b 1006],[.b 1006],ζ,[.s 7,.s 66,.b 1007],[.b 1007],ζ,Sq67,Sq8,ζ,?_⟩,λw78=>⟨Sq9,Sq68,ζ,Sq68,Sq69,ζ,Sq69,Sq70,ζ,[.s 70,.b 1015],Sq71,ζ,Sq9,Sq72,ζ,Sq72,Sq73,ζ,Sq73,Sq74,ζ,[.s 74,.b 1015],Sq75,ζ,Sq10,Sq76,ζ,[.s 6,.s 71,.b 1006],[.b 1006],ζ,[.s 7,.s 75,.b 1007],[.b 1007],ζ,Sq76,Sq8,ζ,?_⟩⟩,λw79=>⟨λw80=>⟨[.s 3,.b 1003],Sq65,ζ,[.s 4,.b 1004],Sq66,ζ,Sq10,Sq67,ζ,[.s 6,.s 65,.b 1006],[.b 1006],ζ,[.s 7,.s 66,.b 1007],[.b 1007],ζ,Sq67,Sq8,ζ,?_⟩,λw81=>⟨Sq9,Sq68,ζ,Sq68,Sq69,ζ,Sq69,Sq70,ζ,[.s 70,.b 1015],Sq71,ζ,Sq9,Sq72,ζ,Sq72,Sq73,ζ,Sq73,Sq74,ζ,[.s 74,.b 1015],Sq75,ζ,Sq10,Sq76,ζ,[.s 6,.s 71,.b 1006],[.b 1006],ζ,[.s 7,.s 75,.b 1007],[.b 1007],ζ,Sq76,Sq8,ζ,?_⟩⟩⟩,λw82=>⟨λw83=>⟨[.s 3,.b 1003],Sq65,ζ,[.s 4,.b 1004],Sq66,ζ,Sq10,Sq67,ζ,[.s 6,.s 65,.b 1006],[.b 1006],ζ,[.s 7,.s 66,.b 1007],[.b 1007],ζ,Sq67,Sq8,ζ,?_⟩,λw84=>⟨Sq9,Sq68,ζ,Sq68,Sq69,ζ,Sq69,Sq70,ζ,[.s 70,.b 1015],Sq71,ζ,Sq9,Sq72,ζ,Sq72,Sq73,ζ,Sq73,Sq74,ζ,[.s 74,.b 1015],Sq75,ζ,Sq10,Sq76,ζ,[.s 6,.s 71,.b 1006],[.b 1006],ζ,[.s 7,.s 75,.b 1007],[.b 1007],ζ,Sq76,Sq8,ζ,?_⟩⟩⟩⟩⟩⟩⟩⟩⟩⟩
 all_goals first|refine aw ?_|refine ax ?_|exact a8|(dsimp only [jD,pX,ub,pZ,qy,mL,ud,p8,uc,p6,ua,pY,oG];omega)|exact a7|exact hsm|exact hF|exact⟨hF,rfl,hs1⟩|exact⟨hF,rfl,hs1,hs2⟩|exact hs1|exact hs2|exact hsm.1|exact hsm.2.1|exact hsm.2.2.1|exact hsm.2.2.2.1|exact hsm.2.2.2.2|exact ha0|exact ha1|exact htx|skip
 ·refine⟨[0,1,2,3,4],[],_,_,_,ζ,cf,((aj,ak,an,ao,ah,aq,ai,ar),(t1,t2,t3,t4,t5,t6,t7),7),0,⟨uL,λn h=>h.mono (by omega)⟩,ζ,ζ,ζ⟩
 ·exact absurd (show true=false from w9) Bool.noConfusion
 ·refine⟨[0,1,2,3,4],[],_,_,_,ζ,cf,((aj,ak,an,ao,ah,aq,ai,ar),(t1,t2,t3,t4,t5,t6,t7),x4.2),0,⟨uL,λn h=>h.mono (by omega)⟩,ζ,ζ,ζ⟩
 ·refine⟨[130000,130001,130002,1000270000,1000270001],[0,1,2,3,4],_,_,_,ζ,cf,(x4.1.1,x4.1.2.1,x4.2),0,⟨(vD x4 w5).1 dy,(vD x4 w5).2⟩,ζ,ζ,ζ⟩
 ·refine⟨[0,1,2,3,4],[],_,_,_,ζ,cf,((aj,ak,an,ao,ah,aq,ai,ar),(t1,t2,t3,t4,t5,t6,t7),x4.2),0,⟨uL,λn h=>h.mono (by omega)⟩,ζ,ζ,ζ⟩
 ·exact absurd (aA iU) (aA qK)
 ·refine⟨[0,1,2,3,4],[],_,_,_,ζ,cf,((aj,ak,an,ao,ah,aq,ai,ar),(t1,t2,t3,t4,t5,t6,t7),7),0,⟨uL,λn h=>h.mono (by omega)⟩,ζ,ζ,ζ⟩
 ·exact absurd (show true=false from xK) Bool.noConfusion
 ·refine⟨[0,1,2,3,4],[],_,_,_,ζ,cf,((aj,ak,an,ao,ah,aq,ai,ar),(t1,t2,t3,t4,t5,t6,t7),qH.2),0,⟨uL,λn h=>h.mono (by omega)⟩,ζ,ζ,ζ⟩
 ·refine⟨[130000,130001,130002,1000330000,1000330001],[0,1,2,3,4],_,_,_,ζ,cf,(qH.1.1,qH.1.2.1,qH.2),0,⟨(vD qH oL).1 rR,(vD qH oL).2⟩,ζ,ζ,ζ⟩
 ·refine⟨[0,1,2,3,4],[],_,_,_,ζ,cf,((aj,ak,an,ao,ah,aq,ai,ar),(t1,t2,t3,t4,t5,t6,t7),qH.2),0,⟨uL,λn h=>h.mono (by omega)⟩,ζ,ζ,ζ⟩
 ·exact absurd (aA w27) (aA w29)
 ·refine⟨[0,1,2,3,4],[],_,_,_,ζ,cf,((aj,ak,an,ao,ah,aq,ai,ar),(t1,t2,t3,t4,t5,t6,t7),7),0,⟨uL,λn h=>h.mono (by omega)⟩,ζ,ζ,ζ⟩
 ·exact absurd (show true=false from w37) Bool.noConfusion
 ·refine⟨[0,1,2,3,4],[],_,_,_,ζ,cf,((aj,ak,an,ao,ah,aq,ai,ar),(t1,t2,t3,t4,t5,t6,t7),x32.2),0,⟨uL,λn h=>h.mono (by omega)⟩,ζ,ζ,ζ⟩
 ·refine⟨[130000,130001,130002,1000390000,1000390001],[0,1,2,3,4],_,_,_,ζ,cf,(x32.1.1,x32.1.2.1,x32.2),0,⟨(vD x32 w33).1 w38,(vD x32 w33).2⟩,ζ,ζ,ζ⟩
 ·refine⟨[0,1,2,3,4],[],_,_,_,ζ,cf,((aj,ak,an,ao,ah,aq,ai,ar),(t1,t2,t3,t4,t5,t6,t7),x32.2),0,⟨uL,λn h=>h.mono (by omega)⟩,ζ,ζ,ζ⟩
 ·exact absurd (aA w41) (aA w43)
 ·refine⟨[0,1,2,3,4],[],_,_,_,ζ,cf,((aj,ak,an,ao,ah,aq,ai,ar),(t1,t2,t3,t4,t5,t6,t7),7),0,⟨uL,λn h=>h.mono (by omega)⟩,ζ,ζ,ζ⟩
 ·exact absurd (show true=false from w51) Bool.noConfusion
 ·refine⟨[0,1,2,3,4],[],_,_,_,ζ,cf,((aj,ak,an,ao,ah,aq,ai,ar),(t1,t2,t3,t4,t5,t6,t7),x46.2),0,⟨uL,λn h=>h.mono (by omega)⟩,ζ,ζ,ζ⟩
 ·refine⟨[130000,130001,130002,1000470000,1000470001],[0,1,2,3,4],_,_,_,ζ,cf,(x46.1.1,x46.1.2.1,x46.2),0,⟨(vD x46 w47).1 w52,(vD x46 w47).2⟩,ζ,ζ,ζ⟩
 ·refine⟨[0,1,2,3,4],[],_,_,_,ζ,cf,((aj,ak,an,ao,ah,aq,ai,ar),(t1,t2,t3,t4,t5,t6,t7),x46.2),0,⟨uL,λn h=>h.mono (by omega)⟩,ζ,ζ,ζ⟩
 ·exact absurd (aA w55) (aA w57)
 ·refine⟨[0,1,2,3,4],[],_,_,_,ζ,cf,((aj,ak,an,ao,ah,aq,ai,ar),(t1,t2,t3,t4,t5,t6,t7),7),0,⟨uL,λn h=>h.mono (by omega)⟩,ζ,ζ,ζ⟩
 ·exact absurd (show true=false from w65) Bool.noConfusion
 ·refine⟨[0,1,2,3,4],[],_,_,_,ζ,cf,((aj,ak,an,ao,ah,aq,ai,ar),(t1,t2,t3,t4,t5,t6,t7),x60.2),0,⟨uL,λn h=>h.mono (by omega)⟩,ζ,ζ,ζ⟩
 ·refine⟨[130000,130001,130002,1000550000,1000550001],[0,1,2,3,4],_,_,_,ζ,cf,(x60.1.1,x60.1.2.1,x60.2),0,⟨(vD x60 w61).1 w66,(vD x60 w61).2⟩,ζ,ζ,ζ⟩
 ·refine⟨[0,1,2,3,4],[],_,_,_,ζ,cf,((aj,ak,an,ao,ah,aq,ai,ar),(t1,t2,t3,t4,t5,t6,t7),x60.2),0,⟨uL,λn h=>h.mono (by omega)⟩,ζ,ζ,ζ⟩
 ·exact absurd (aA w69) (aA w71)
 ·refine⟨[0,1,2,3,4],[],_,_,_,ζ,cf,((aj,ak,an,ao,ah,aq,ai,ar),(t1,t2,t3,t4,t5,t6,t7),7),0,⟨uL,λn h=>h.mono (by omega)⟩,ζ,ζ,ζ⟩
 ·exact absurd (show true=false from w78) Bool.noConfusion
 ·refine⟨[0,1,2,3,4],[],_,_,_,ζ,cf,((aj,ak,an,ao,ah,aq,ai,ar),(t1,t2,t3,t4,t5,t6,t7),x73.2),0,⟨uL,λn h=>h.mono (by omega)⟩,ζ,ζ,ζ⟩
 ·refine⟨[130000,130001,130002,1000210000,1000210001],[0,1,2,3,4],_,_,_,ζ,cf,(x73.1.1,x73.1.2.1,x73.2),0,⟨(vD x73 w74).1 w79,(vD x73 w74).2⟩,ζ,ζ,ζ⟩
 ·refine⟨[0,1,2,3,4],[],_,_,_,ζ,cf,((aj,ak,an,ao,ah,aq,ai,ar),(t1,t2,t3,t4,t5,t6,t7),x73.2),0,⟨uL,λn h=>h.mono (by omega)⟩,ζ,ζ,ζ⟩
 ·exact absurd (aA w82) (aA w84)
end GL
namespace GL
def kc (same:Bool):ay:=(List.replicate 64 ⟨#[]⟩,List.replicate 64 0,List.replicate 64 0,1,[],0,[],same)
def tq:Prop:=True
def tf:AV:=.a [.xs 0 1 0 64,.xs 1 1 0 64]
def vn:List AV:=[.rs ag (List.replicate 64 0),.rs ag (List.replicate 64 0)]
def y5:cn where
 A:=[]
 B:=[]
 pre:=λx b=>tq
 r:=λx b _=>tf
 o:=λx b _=>vn
 nf:=2
theorem XB:Has Tryz.prog 132 y5:=by
 refine Has.fm zT zF zF (l:=[]) trivial Tryz.func132 ?_
 rintro _ _ (hp:tq)
 show vc _ _ _ _ (entry [] []) _
 refine⟨[.b 1001],[.s 1,.b 1001],ζ,⟨?_,?_,?_⟩,[.b 1002],[.s 2,.b 1002],ζ,⟨?_,?_,?_⟩,[.s 1,.s 2],Sq3,ζ,[.s 0,.s 3,.b 1000],[.b 1000],ζ,?_⟩
 all_goals first|refine aw ?_|refine ax ?_|exact a8|exact a7|skip
 refine⟨[1001,1002],[],_,_,_,ζ,az,(),aa,?_,?_,ζ⟩
 ·(show _=tf);unfold tf;first|rfl
 ·(show _=vn);unfold vn;first|rfl
def lP (same:Bool):Prop:=True
def tc (same:Bool):AV:=.a (kW 0 1 2 3 4 (kc same))
def vm (same:Bool):List AV:=[.rs ab (kc same).rows,.rs ag (kc same).refs,.rs ag (kc same).last,.rs ae (kc same).gone,.rs ae (kc same).dead]
def kT:cn where
 A:=[.s .bool]
 B:=[]
 pre:=λx b=>lP x
 r:=λx b _=>tc x
 o:=λx b _=>vm x
 nf:=5
theorem yH:Has Tryz.prog 88 kT:=by
 refine Has.fm zT zF zF (l:=[(132,y5)]) ⟨XB,aa⟩ Tryz.func88 ?_
 rintro (same:Bool) _ (hp:lP same)
 show vc _ _ _ _ (entry [.q same] []) _
 refine⟨[.b 1003],[.s 3,.b 1003],ζ,⟨?_,?_,?_⟩,[.b 50001,.b 50000],[.s 4,.b 50000,.b 50001],ζ,tv2,?_,λx1 w2=>⟨[.b 1005],[.s 5,.b 1005],ζ,aa,[.b 1006],[.s 6,.b 1006],ζ,aa,Sq0,Sq7,ζ,[.s 3,.s 4,.s 5,.s 6,.s 7],Sq8,ζ,[.s 2,.s 8,.b 1002],[.b 1002],ζ,?_⟩⟩
 all_goals first|refine aw ?_|refine ax ?_|exact a8|(dsimp only [y5,tq];omega)|exact a7|skip
 refine⟨[1003,50000,50001,1005,1006],[],_,_,_,ζ,az,(),aa,?_,?_,ζ⟩
 ·(show _=tc same);unfold tc;first|rfl
 ·(show _=vm same);unfold vm;first|rfl
end GL
namespace GL
def M8 (n:Nat) (f:Nat→Bool):Bool:=(List.range n).all f
theorem T8 {n i:Nat}{f:Nat→Bool}(hi:i<n) (h:f i=false):M8 n f=false:=by
 unfold M8;rw [Bool.eq_false_iff];intro h2;rw [ZC9.1 h2 i (ZE2.2 hi)] at h;cases h
theorem M7 {n:Nat}{f:Nat→Bool}(h:∀i,i<n→f i=true):M8 n f=true:=ZC9.2 λi hi=>h i (ZE2.1 hi)
theorem aeH {n:Nat}{f:Nat→Bool}(h:M8 n f=true) {i:Nat}(hi:i<n):f i=true:=ZC9.1 h i (ZE2.2 hi)
theorem IW {n a b:Int}:ik n a b=false↔¬(a≤n∧n≤b):=by rw [←cC,Bool.not_eq_true]
def KP (n l:Int) (k:Nat):Bool:=decide ((0≤n∧n≤l∧l≤900)∧(n=0→l=0)∧(0<n→8≤k))
def xw (rf la:List Int) (k:Nat):Bool:=KP (nth ag rf k) (nth ag la k) k
section
variable {n l:Int}{k:Nat}
theorem aiM (h:(!(ik l 0 900))=true):KP n l k=false:=decide_eq_false (by rw [ZF8,IW] at h;omega)
theorem aiL (h:(!(ik n 0 l))=true):KP n l k=false:=decide_eq_false (by rw [ZF8,IW] at h;omega)
theorem agG (h:decide (n=0)=true) (h2:decide (l≠0)=true):KP n l k=false:=decide_eq_false (by have:=aJ h;have:=aJ h2;omega)
theorem agF (hk:k<64) (h:(!(ik (k:Int) 8 63))=true) (h2:decide (n>0)=true):KP n l k=false:=decide_eq_false (by rw [ZF8,IW] at h;have:=aJ h2;omega)
theorem YW (h:(!(ik l 0 900))=false) (h2:(!(ik n 0 l))=false) (h3:decide (n=0)=false∨decide (l≠0)=false) (h4:(!(ik (k:Int) 8 63))=false∨decide (n>0)=false):KP n l k=true:=decide_eq_true (by
 have a1:=cC.1 (cL h);have a2:=cC.1 (cL h2)
 refine⟨by omega,?_,?_⟩
 ·rcases h3 with h3 |h3
  ·have:=aA h3;omega
  ·have:=aA h3;omega
 ·rcases h4 with h4 |h4
  ·have:=cC.1 (cL h4);omega
  ·have:=aA h4;omega)
end
def rC (p:List Int×List Int):Bool:=bif decide ((p.1.length:Int)≠64) then false else bif decide ((p.2.length:Int)≠64) then false else M8 64 (xw p.1 p.2)
theorem N1 {p:List Int×List Int}(h:decide ((p.1.length:Int)≠64)=true):rC p=false:=by unfold rC;rw [h];rfl
theorem N0 {p:List Int×List Int}(h:decide ((p.2.length:Int)≠64)=true):rC p=false:=by unfold rC;rw [h];cases decide ((p.1.length:Int)≠64)<;>rfl
theorem U1 {p:List Int×List Int}(h:decide ((p.1.length:Int)≠64)=false) (h2:decide ((p.2.length:Int)≠64)=false):rC p=M8 64 (xw p.1 p.2):=by unfold rC;rw [h,h2];rfl
def nO (sp:List Int×List Int):Prop:=True
def cV (sp:List Int×List Int):AV:=.s (.q (rC sp))
def WJ (sp:List Int×List Int):List AV:=[]
def nc:cn where
 A:=[.a [.vz ag,.vz ag]]
 B:=[]
 pre:=λx b=>nO x
 r:=λx b _=>cV x
 o:=λx b _=>WJ x
theorem CS:Has Tryz.prog 79 nc:=by
 refine Has.fm zT zF zF (l:=[(35,hZ),(120,oY)]) ⟨iA,zI,aa⟩ Tryz.func79 ?_
 rintro⟨(dA:List Int),(eI:List Int)⟩ _ (hp:nO (dA,eI))
 show vc _ _ _ _ (entry [.a [.vz ag dA,.vz ag eI]] []) _
 refine⟨aa,λw1=>?_,λw2=>⟨λw3=>?_,λw4=>?_⟩⟩
 all_goals first|refine aw ?_|refine ax ?_|exact a8|(dsimp only [oY,sd];omega)|exact a7|skip
 ·refine⟨[],[],_,_,_,ζ,az,(),aa,?_,?_,ζ⟩
  ·(show _=cV (dA,eI));unfold cV;first|(rw [N1 (p:=(dA,eI)) w1];rfl)|rfl
  ·rfl
 ·refine⟨[],[],_,_,_,ζ,az,(),aa,?_,?_,ζ⟩
  ·(show _=cV (dA,eI));unfold cV;first|(rw [N0 (p:=(dA,eI)) w3];rfl)|rfl
  ·rfl
 ·have l1:dA.length=64:=by have:=aA w2;omega
  have l2:eI.length=64:=by have:=aA w4;omega
  have hE:=U1 (p:=(dA,eI)) w2 w4
  refine cN (l:=[(35,hZ),(120,oY)]) (ex:=zT) (wr:=zF) (pt:=zF) ⟨iA,zI,trivial⟩ [.s 1,.b 1001] (λi:Nat=>[(.s 3,.int i)]) (λi=>i≤64∧∀j,j<i→xw dA eI j=true) (λi=>64-i) 0 [] ⟨ZA7 _,λj hj=>absurd hj (by omega)⟩ dM ?_
  rintro i ⟨(hi:i≤64),hj⟩
  have cm:decide ((i:Int)<64)=true→i<64:=λh=>by have:=aJ h;omega
  have bU:∀l:List Int,l.length=64→decide ((i:Int)<64)=true→(i:Int)<(l.length:Int):=λl hl h=>by rw [hl];exact aJ h
  have iC:i<64→xw dA eI i=false→rC (dA,eI)=false:=λh h2=>by rw [hE];exact T8 h h2
  have hgo:xw dA eI i=true→∀j,j<i+1→xw dA eI j=true:=λh j yK=>by
   by_cases e:j=i
   ·rw [e];exact h
   ·exact hj j (by omega)
  refine⟨λw1=>⟨Sq1,Sq18,ζ,[.s 18,.b 1001],Sq19,ζ,Sq3,Sq20,ζ,[.s 19,.s 20],Sq21,ζ,⟨?_,?_⟩,Sq21,Sq22,ζ,Sq22,Sq23,ζ,⟨tv4,aa⟩,?_,λx2 w3=>⟨Sq23,Sq24,ζ,Sq24,Sq25,ζ,aa,λw4=>⟨Sq25,Sq26,ζ,Sq25,Sq27,ζ,Sq25,Sq28,ζ,Sq25,Sq29,ζ,Sq25,Sq30,ζ,Sq25,Sq31,ζ,Sq25,Sq32,ζ,Sq25,Sq33,ζ,Sq25,Sq34,ζ,Sq25,Sq35,ζ,Sq25,Sq36,ζ,Sq25,Sq37,ζ,[.s 25,.s 37],Sq38,ζ,Sq38,Sq39,ζ,Sq39,Sq40,ζ,Sq39,Sq41,ζ,Sq39,Sq42,ζ,Sq39,Sq43,ζ,Sq39,Sq44,ζ,Sq39,Sq45,ζ,Sq39,Sq46,ζ,Sq46,Sq47,ζ,Sq46,Sq48,ζ,Sq46,Sq49,ζ,Sq46,Sq50,ζ,Sq46,Sq51,ζ,Sq46,Sq52,ζ,Sq39,Sq53,ζ,[.s 39,.s 53],Sq54,ζ,Sq54,Sq55,ζ,Sq55,Sq56,ζ,Sq55,Sq57,ζ,Sq55,Sq58,ζ,Sq55,Sq59,ζ,Sq59,Sq60,ζ,Sq59,Sq61,ζ,Sq59,Sq62,ζ,Sq59,Sq63,ζ,Sq59,Sq64,ζ,Sq59,Sq65,ζ,Sq55,Sq66,ζ,[.s 55,.s 66],Sq67,ζ,?_⟩,λw5=>⟨[.s 25,.s 1],Sq26,ζ,[.s 25,.s 26,.b 1001],Sq27,ζ,[.s 25,.s 3],Sq28,ζ,[.s 25,.s 27,.s 28],Sq29,ζ,⟨?_,?_⟩,[.s 25,.s 29],Sq30,ζ,[.s 25,.s 1],Sq31,ζ,[.s 25,.s 31,.b 1001],Sq32,ζ,[.s 25,.s 3],Sq33,ζ,[.s 25,.s 32,.s 33],Sq34,ζ,⟨?_,?_⟩,[.s 25,.s 34],Sq35,ζ,[.s 25,.s 30,.s 35],Sq36,ζ,⟨tv4,aa⟩,?_,λx6 w7=>⟨[.s 25,.s 36],Sq37,ζ,[.s 25,.s 37],Sq38,ζ,Sq38,Sq39,ζ,aa,λw8=>⟨Sq39,Sq40,ζ,Sq39,Sq41,ζ,Sq39,Sq42,ζ,Sq39,Sq43,ζ,Sq39,Sq44,ζ,Sq39,Sq45,ζ,Sq39,Sq46,ζ,Sq46,Sq47,ζ,Sq46,Sq48,ζ,Sq46,Sq49,ζ,Sq46,Sq50,ζ,Sq46,Sq51,ζ,Sq46,Sq52,ζ,Sq39,Sq53,ζ,[.s 39,.s 53],Sq54,ζ,Sq54,Sq55,ζ,Sq55,Sq56,ζ,Sq55,Sq57,ζ,Sq55,Sq58,ζ,Sq55,Sq59,ζ,Sq59,Sq60,ζ,Sq59,Sq61,ζ,Sq59,Sq62,ζ,Sq59,Sq63,ζ,Sq59,Sq64,ζ,Sq59,Sq65,ζ,Sq55,Sq66,ζ,[.s 55,.s 66],Sq67,ζ,?_⟩,λw9=>⟨[.s 39,.s 1],Sq40,ζ,[.s 39,.s 40,.b 1001],Sq41,ζ,[.s 39,.s 3],Sq42,ζ,[.s 39,.s 41,.s 42],Sq43,ζ,⟨?_,?_⟩,[.s 39,.s 43],Sq44,ζ,[.s 39,.s 44],Sq45,ζ,[.s 39,.s 45],Sq46,ζ,aa,λdy=>⟨[.s 46,.s 1],Sq47,ζ,[.s 46,.s 47,.b 1001],Sq48,ζ,[.s 46,.s 3],Sq49,ζ,[.s 46,.s 48,.s 49],Sq50,ζ,⟨?_,?_⟩,[.s 46,.s 50],Sq51,ζ,[.s 46,.s 51],Sq52,ζ,[.s 39,.s 46,.s 52],Sq53,ζ,[.s 39,.s 53],Sq54,ζ,Sq54,Sq55,ζ,aa,λkA=>⟨Sq55,Sq56,ζ,Sq55,Sq57,ζ,Sq55,Sq58,ζ,Sq55,Sq59,ζ,Sq59,Sq60,ζ,Sq59,Sq61,ζ,Sq59,Sq62,ζ,Sq59,Sq63,ζ,Sq59,Sq64,ζ,Sq59,Sq65,ζ,Sq55,Sq66,ζ,[.s 55,.s 66],Sq67,ζ,?_⟩,λdJ=>⟨[.s 55,.s 3],Sq56,ζ,[.s 55,.s 56],Sq57,ζ,⟨tv2,aa⟩,?_,λrW gO=>⟨[.s 55,.s 57],Sq58,ζ,[.s 55,.s 58],Sq59,ζ,aa,λqK=>⟨[.s 59,.s 1],Sq60,ζ,[.s 59,.s 60,.b 1001],Sq61,ζ,[.s 59,.s 3],Sq62,ζ,[.s 59,.s 61,.s 62],Sq63,ζ,⟨?_,?_⟩,[.s 59,.s 63],Sq64,ζ,[.s 59,.s 64],Sq65,ζ,[.s 55,.s 59,.s 65],Sq66,ζ,[.s 55,.s 66],Sq67,ζ,λkg=>?_,λxh=>⟨⟨?_,?_⟩,?_⟩⟩,λrS=>⟨Sq59,Sq60,ζ,Sq59,Sq61,ζ,Sq59,Sq62,ζ,Sq59,Sq63,ζ,Sq59,Sq64,ζ,Sq59,Sq65,ζ,[.s 55,.s 59,.s 65],Sq66,ζ,[.s 55,.s 66],Sq67,ζ,⟨?_,?_⟩,?_⟩⟩⟩⟩,λoL=>⟨Sq46,Sq47,ζ,Sq46,Sq48,ζ,Sq46,Sq49,ζ,Sq46,Sq50,ζ,Sq46,Sq51,ζ,Sq46,Sq52,ζ,[.s 39,.s 46,.s 52],Sq53,ζ,[.s 39,.s 53],Sq54,ζ,Sq54,Sq55,ζ,[.s 55,.s 3],Sq56,ζ,[.s 55,.s 56],Sq57,ζ,⟨tv2,aa⟩,?_,λx20 A4=>⟨[.s 55,.s 57],Sq58,ζ,[.s 55,.s 58],Sq59,ζ,aa,λA3=>⟨[.s 59,.s 1],Sq60,ζ,[.s 59,.s 60,.b 1001],Sq61,ζ,[.s 59,.s 3],Sq62,ζ,[.s 59,.s 61,.s 62],Sq63,ζ,⟨?_,?_⟩,[.s 59,.s 63],Sq64,ζ,[.s 59,.s 64],Sq65,ζ,[.s 55,.s 59,.s 65],Sq66,ζ,[.s 55,.s 66],Sq67,ζ,λxK=>?_,λrR=>⟨⟨?_,?_⟩,?_⟩⟩,λw25=>⟨Sq59,Sq60,ζ,Sq59,Sq61,ζ,Sq59,Sq62,ζ,Sq59,Sq63,ζ,Sq59,Sq64,ζ,Sq59,Sq65,ζ,[.s 55,.s 59,.s 65],Sq66,ζ,[.s 55,.s 66],Sq67,ζ,⟨?_,?_⟩,?_⟩⟩⟩⟩⟩⟩⟩⟩,λw26=>?_⟩
  all_goals first|refine aw ?_|refine ax ?_|exact a8|(dsimp only [oY,sd];omega)|exact a7|exact bU _ l1 w1|exact bU _ l2 w1|skip
  ·refine⟨[],[],_,_,_,ζ,az,(),aa,?_,?_,ζ⟩
   ·(show _=cV (dA,eI));unfold cV;first|(rw [iC (cm w1) (aiM w4)];rfl)|rfl
   ·rfl
  ·refine⟨[],[],_,_,_,ζ,az,(),aa,?_,?_,ζ⟩
   ·(show _=cV (dA,eI));unfold cV;first|(rw [iC (cm w1) (aiL w8)];rfl)|rfl
   ·rfl
  ·refine⟨[],[],_,_,_,ζ,az,(),aa,?_,?_,ζ⟩
   ·(show _=cV (dA,eI));unfold cV;first|(rw [iC (cm w1) (agG dy kA)];rfl)|rfl
   ·rfl
  ·refine⟨[],[],_,_,_,ζ,az,(),aa,?_,?_,ζ⟩
   ·(show _=cV (dA,eI));unfold cV;first|(rw [iC (cm w1) (agF (cm w1) qK kg)];rfl)|rfl
   ·rfl
  ·refine⟨(i+1),[],?_,?_,?_⟩
   rotate_right
   ·exact bV
   ·exact⟨cm w1,hgo (YW w5 w9 (.inr dJ) (.inr xh))⟩
   ·show 64-(i+1)<64-i;have:=cm w1;omega
  ·refine⟨(i+1),[],?_,?_,?_⟩
   rotate_right
   ·exact bV
   ·exact⟨cm w1,hgo (YW w5 w9 (.inr dJ) (.inl rS))⟩
   ·show 64-(i+1)<64-i;have:=cm w1;omega
  ·refine⟨[],[],_,_,_,ζ,az,(),aa,?_,?_,ζ⟩
   ·(show _=cV (dA,eI));unfold cV;first|(rw [iC (cm w1) (agF (cm w1) A3 xK)];rfl)|rfl
   ·rfl
  ·refine⟨(i+1),[],?_,?_,?_⟩
   rotate_right
   ·exact bV
   ·exact⟨cm w1,hgo (YW w5 w9 (.inl oL) (.inr rR))⟩
   ·show 64-(i+1)<64-i;have:=cm w1;omega
  ·refine⟨(i+1),[],?_,?_,?_⟩
   rotate_right
   ·exact bV
   ·exact⟨cm w1,hgo (YW w5 w9 (.inl oL) (.inl w25))⟩
   ·show 64-(i+1)<64-i;have:=cm w1;omega
  ·have e:rC (dA,eI)=true:=by rw [hE];exact M7 λj yK=>hj j (by have:=aA w26;omega)
   refine⟨[],[],_,_,_,ζ,az,(),aa,?_,?_,ζ⟩
   ·(show _=cV (dA,eI));unfold cV;first|(rw [e];rfl)|rfl
   ·rfl
