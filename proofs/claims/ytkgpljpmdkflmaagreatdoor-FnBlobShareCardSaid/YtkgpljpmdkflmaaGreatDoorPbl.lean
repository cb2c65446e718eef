/- A drawn law returns true for every code (its row lists package variables, tied by the card): part 38. -/
import Derived.Test.YtkgpljpmdkflmaaGreatDoorPbi
import Derived.Test.YtkgpljpmdkflmaaGreatDoorPbj
import Derived.Test.YtkgpljpmdkflmaaGreatDoorPbk
set_option maxHeartbeats 20000000
set_option maxRecDepth 100000
set_option linter.all false
namespace Go.Proofs.YtkgpljpmdkflmaaGreatDoor
namespace GL
attribute [local irreducible] dH cL bK nb aY aC ck dw dS bC uP xt qU bD ey lz pz
def p6 (F:fp) (path:ByteArray) (qP:ByteArray):Prop:=cZ F 1000000∧F.2.2=false∧path.size≤1000∧qP.size≤1000
def G9 (F:fp) (path:ByteArray) (qP:ByteArray) (z:fp×Int):Prop:=∀n,cZ F n→cZ z.1 (n+300)
def GP (F:fp) (path:ByteArray) (qP:ByteArray) (z:fp×Int):AV:=.s (.int z.2)
def KP (F:fp) (path:ByteArray) (qP:ByteArray) (z:fp×Int):List AV:=fsP z.1
def uc:ct where
 A:=[.b 0,.s .str,.s .str]
 B:=[.a [.xb 1 ab,.xb 2 ag,.xb 3 ag,.int,.xb 4 ae,.int,.xb 5 ae,.bool,.int,.int,.int,.int,.int,.int,.int,.bool],.r ab,.r ag,.r ag,.r ae,.r ae]
 pre:=fun x b=>fsW b∧p6 (oI b) (x.2.1) (x.2.2)
 α:=fun _ _=>fp×Int
 φ:=fun x b z=>G9 (oI b) (x.2.1) (x.2.2) z
 r:=fun x b z=>GP (oI b) (x.2.1) (x.2.2) z
 o:=fun x b z=>KP (oI b) (x.2.1) (x.2.2) z
 nf:=2
 mv:=true
theorem O9:Has Tryz.prog 185 uc:=by
 refine Has.ofZ zT zF zF (l:=[(223,eC),(229,vY),(225,gM),(218,dU),(222,j8),(227,o6),(226,sN),(221,qC),(220,fa)]) ⟨l8,S9,rM,kG,wV,FF,MB,IJ,nz,aa⟩ Tryz.func185 ?_
 rintro⟨_,(path:ByteArray),(qP:ByteArray)⟩ ⟨⟨(Fm1:Nat),(Fm2:Nat),(Fm3:Nat),(aM:Int),(Fm4:Nat),(aW:Int),(Fm5:Nat),(aV:Bool),(aU:Int),(aS:Int),(aR:Int),(aQ:Int),(aP:Int),(aO:Int),(aN:Int),(aX:Bool)⟩,(aE:List ByteArray),(aF:List Int),(aG:List Int),(aH:List Pt),(aI:List Pt)⟩ ⟨⟨(jB:Fm1=List.length aE),(jA:Fm2=List.length aF),(jz:Fm3=List.length aG),(jy:Fm4=List.length aH),(jx:Fm5=List.length aI)⟩,(hp:p6 ((aE,aF,aG,aM,aH,aW,aI,aV),(aU,aS,aR,aQ,aP,aO,aN),aX) path qP)⟩
 subst jB jA jz jy jx
 show vc _ _ _ _ (entry [.s (.bp 0 0),.str path,.str qP] [.a [.xs 1 1 0 aE.length,.xs 2 1 0 aF.length,.xs 3 1 0 aG.length,.int aM,.xs 4 5 0 aH.length,.int aW,.xs 5 5 0 aI.length,.q aV,.int aU,.int aS,.int aR,.int aQ,.int aP,.int aO,.int aN,.q aX],.rs ab aE,.rs ag aF,.rs ag aG,.rs ae aH,.rs ae aI]) _
 obtain⟨hF,hfu,hps,hpt⟩:=hp
 have hF:cZ ((aE,aF,aG,aM,aH,aW,aI,aV),(aU,aS,aR,aQ,aP,aO,aN),aX) 1000000:=hF
 have dG:ay.rd ((aE,aF,aG,aM,aH,aW,aI,aV),(aU,aS,aR,aQ,aP,aO,aN),aX).1:=hF.wg.wf.rd
 have cH:bf.ok ((aE,aF,aG,aM,aH,aW,aI,aV),(aU,aS,aR,aQ,aP,aO,aN),aX).2.1:=hF.ok
 have hp6:path.size≤1000000:=ZB0 hps (by decide)
 have ht6:qP.size≤1000000:=ZB0 hpt (by decide)
 have h0:decide (bC ((aE,aF,aG,aM,aH,aW,aI,aV),(aU,aS,aR,aQ,aP,aO,aN),aX) path<0)=false→decide (bC ((aE,aF,aG,aM,aH,aW,aI,aV),(aU,aS,aR,aQ,aP,aO,aN),aX) path=0)=false→0<bC ((aE,aF,aG,aM,aH,aW,aI,aV),(aU,aS,aR,aQ,aP,aO,aN),aX) path:=fun h h2=>by have:=aA h;have:=aA h2;omega
 have xG:bC ((aE,aF,aG,aM,aH,aW,aI,aV),(aU,aS,aR,aQ,aP,aO,aN),aX) path≤15:=(zk _ _).2
 have rW:=fun (h:0<bC ((aE,aF,aG,aM,aH,aW,aI,aV),(aU,aS,aR,aQ,aP,aO,aN),aX) path)=>OC (pF h).1
 have hpb:0<bC ((aE,aF,aG,aM,aH,aW,aI,aV),(aU,aS,aR,aQ,aP,aO,aN),aX) path→0≤(dS ((aE,aF,aG,aM,aH,aW,aI,aV),(aU,aS,aR,aQ,aP,aO,aN),aX) path).1∧(dS ((aE,aF,aG,aM,aH,aW,aI,aV),(aU,aS,aR,aQ,aP,aO,aN),aX) path).1≤15:=fun h=>by rw [(rW h).2.1];exact⟨(rW h).2.2.1,(rW h).2.2.2.1⟩
 have hto:decide ((dS ((aE,aF,aG,aM,aH,aW,aI,aV),(aU,aS,aR,aQ,aP,aO,aN),aX) qP).2>0)=false→1≤(bD qP).length∧0≤(dS ((aE,aF,aG,aM,aH,aW,aI,aV),(aU,aS,aR,aQ,aP,aO,aN),aX) qP).1∧(dS ((aE,aF,aG,aM,aH,aW,aI,aV),(aU,aS,aR,aQ,aP,aO,aN),aX) qP).1≤15:=fun h=>by
  have h1:=OC h
  rw [h1.2.1];exact⟨h1.1,h1.2.2.1,h1.2.2.2.1⟩
 have hen:∀s nd,(bK s nd).1.length≤1000:=fun s nd=>ZB0 (qx s nd).len (by decide)
 have hln:∀s nd i,(ey (bK s nd).1 i).length≤1000:=fun s nd i=>ZB0 ((qx s nd).less i).len (by decide)
 have xF:=fun (h:0<bC ((aE,aF,aG,aM,aH,aW,aI,aV),(aU,aS,aR,aQ,aP,aO,aN),aX) path)=>(pF h).2.1
 have hal:=fun (h:0<bC ((aE,aF,aG,aM,aH,aW,aI,aV),(aU,aS,aR,aQ,aP,aO,aN),aX) path)=>(za (xF h)).1
 have hwr:=fun n (hF:cZ ((aE,aF,aG,aM,aH,aW,aI,aV),(aU,aS,aR,aQ,aP,aO,aN),aX) n) (h:0<bC ((aE,aF,aG,aM,aH,aW,aI,aV),(aU,aS,aR,aQ,aP,aO,aN),aX) path)=>(hF.sX (l:=(ey (bK ((aE,aF,aG,aM,aH,aW,aI,aV),(aU,aS,aR,aQ,aP,aO,aN),aX).1 (a6 ((aE,aF,aG,aM,aH,aW,aI,aV),(aU,aS,aR,aQ,aP,aO,aN),aX) (dS ((aE,aF,aG,aM,aH,aW,aI,aV),(aU,aS,aR,aQ,aP,aO,aN),aX) path).1)).1 (lz (bK ((aE,aF,aG,aM,aH,aW,aI,aV),(aU,aS,aR,aQ,aP,aO,aN),aX).1 (a6 ((aE,aF,aG,aM,aH,aW,aI,aV),(aU,aS,aR,aQ,aP,aO,aN),aX) (dS ((aE,aF,aG,aM,aH,aW,aI,aV),(aU,aS,aR,aQ,aP,aO,aN),aX) path).1)).1 (dL path)).toNat)) (hpb h).1 (hpb h).2).1
 have hea:decide ((dS ((aE,aF,aG,aM,aH,aW,aI,aV),(aU,aS,aR,aQ,aP,aO,aN),aX) qP).2>0)=false→0<bC ((aE,aF,aG,aM,aH,aW,aI,aV),(aU,aS,aR,aQ,aP,aO,aN),aX) path→∀l,P4 l→KL (qU l (dL qP,bC ((aE,aF,aG,aM,aH,aW,aI,aV),(aU,aS,aR,aQ,aP,aO,aN),aX) path)):=fun h h2 l hv=>hv.add (ZB0 (KB (hto h).1) hpt) ⟨Int.le_of_lt h2,ZE0 xG (by decide)⟩
 refine⟨⟨⟨⟨aa,aa,aa⟩,⟨?_,?_,?_,?_,?_⟩,?_,?_,?_⟩,fun x1 w2=>?_⟩,fun x3 w4=>⟨fun w5=>?_,fun w6=>⟨fun w7=>?_,fun w8=>⟨⟨⟨⟨aa,aa,aa⟩,⟨?_,?_,?_,?_,?_⟩,?_,?_,?_⟩,fun x9 dy=>?_⟩,fun kB dK=>⟨fun iV=>?_,fun gP=>⟨⟨⟨aa,aa,aa⟩,?_,?_⟩,fun kA ki=>⟨fun xk=>?_,fun rV=>⟨⟨⟨⟨aa,aa,aa⟩,⟨?_,?_,?_,?_,?_⟩,?_,?_,?_⟩,fun x19 uL=>?_⟩,fun x21 A3=>⟨fun xM=>?_,fun rU=>⟨⟨⟨⟨aa,aa,aa⟩,⟨?_,?_,?_,?_,?_⟩,?_,?_,?_⟩,fun x25 w26=>?_⟩,fun x27 w28=>⟨aa,fun w29=>⟨⟨⟨⟨aa,aa,aa⟩,⟨?_,?_,?_,?_,?_⟩,?_,?_⟩,fun x30 w31=>?_⟩,fun x32 w33=>⟨fun w34=>?_,fun w35=>⟨⟨⟨⟨aa,aa,aa⟩,⟨?_,?_,?_,?_,?_⟩,?_,?_⟩,fun x36 w37=>?_⟩,fun x38 w39=>⟨⟨⟨aa,aa⟩,?_,?_⟩,fun x40 w41=>⟨⟨⟨aa,aa,aa⟩,?_⟩,fun x42 w43=>⟨⟨⟨aa,aa,aa⟩,?_,?_,?_⟩,fun x44 w45=>⟨⟨⟨aa,aa⟩,?_,?_⟩,fun x46 w47=>⟨fun w48=>⟨⟨⟨⟨?_,?_⟩,⟨aa,aa,aa⟩,aa⟩,?_⟩,fun x49 w50=>⟨⟨⟨aa,aa,⟨?_,?_⟩,aa⟩,⟨?_,?_,?_,?_,?_⟩,?_,?_,⟨?_,?_⟩,?_⟩,fun x51 w52=>?_⟩⟩,fun w53=>⟨⟨⟨aa,aa,⟨?_,?_⟩,aa⟩,⟨?_,?_,?_,?_,?_⟩,?_,?_,⟨?_,?_⟩,?_⟩,fun x54 w55=>⟨Sq0,Sq83,rfl,Sq8,Sq84,rfl,Sq0,Sq85,rfl,Sq8,Sq86,rfl,[.s 85,.s 86,.b 0,.b 1,.b 2,.b 3,.b 1000830000,.b 1000830001],Sq87,rfl,⟨⟨⟨aa,aa,aa⟩,⟨?_,?_,?_,?_,?_⟩,?_,?_⟩,fun x56 w57=>?_⟩,?_,fun x58 w59=>⟨[.s 13,.b 1013],Sq88,rfl,[.s 87,.s 88,.b 900000],[.s 89,.b 900000],rfl,⟨⟨aa,⟨aa,aa,aa⟩,aa⟩,?_⟩,?_,fun x60 w61=>⟨[.s 83,.s 84,.s 89,.b 0,.b 1,.b 2,.b 3,.b 1000830000,.b 1000830001,.b 900000,.b 1000910001,.b 1000910000],[.s 90,.b 0,.b 1,.b 2,.b 3,.b 1000830000,.b 1000830001,.b 1000910000,.b 1000910001],rfl,⟨⟨aa,aa,⟨?_,?_⟩,aa⟩,⟨?_,?_,?_,?_,?_⟩,?_,?_,⟨?_,?_⟩,?_⟩,?_,fun x62 w63=>?_⟩⟩⟩⟩⟩⟩⟩⟩⟩⟩⟩⟩,fun w64=>⟨⟨⟨⟨aa,aa,aa⟩,⟨?_,?_,?_,?_,?_⟩,?_,?_⟩,fun x65 w66=>?_⟩,fun x67 w68=>⟨⟨⟨aa,aa⟩,?_,?_⟩,fun x69 w70=>⟨⟨⟨aa,aa,aa⟩,?_⟩,fun x71 w72=>⟨⟨⟨aa,aa,aa⟩,?_,?_,?_⟩,fun x73 w74=>⟨⟨⟨aa,aa⟩,?_,?_⟩,fun x75 w76=>⟨fun w77=>⟨⟨⟨⟨?_,?_⟩,⟨aa,aa,aa⟩,aa⟩,?_⟩,fun x78 w79=>⟨⟨⟨aa,aa,⟨?_,?_⟩,aa⟩,⟨?_,?_,?_,?_,?_⟩,?_,?_,⟨?_,?_⟩,?_⟩,fun x80 w81=>?_⟩⟩,fun w82=>⟨⟨⟨aa,aa,⟨?_,?_⟩,aa⟩,⟨?_,?_,?_,?_,?_⟩,?_,?_,⟨?_,?_⟩,?_⟩,fun x83 w84=>⟨Sq0,Sq83,rfl,Sq8,Sq84,rfl,Sq0,Sq85,rfl,Sq8,Sq86,rfl,[.s 85,.s 86,.b 0,.b 1,.b 2,.b 3,.b 1000830000,.b 1000830001],Sq87,rfl,⟨⟨⟨aa,aa,aa⟩,⟨?_,?_,?_,?_,?_⟩,?_,?_⟩,fun x85 w86=>?_⟩,?_,fun x87 w88=>⟨[.s 13,.b 1013],Sq88,rfl,[.s 87,.s 88,.b 900000],[.s 89,.b 900000],rfl,⟨⟨aa,⟨aa,aa,aa⟩,aa⟩,?_⟩,?_,fun x89 w90=>⟨[.s 83,.s 84,.s 89,.b 0,.b 1,.b 2,.b 3,.b 1000830000,.b 1000830001,.b 900000,.b 1000910001,.b 1000910000],[.s 90,.b 0,.b 1,.b 2,.b 3,.b 1000830000,.b 1000830001,.b 1000910000,.b 1000910001],rfl,⟨⟨aa,aa,⟨?_,?_⟩,aa⟩,⟨?_,?_,?_,?_,?_⟩,?_,?_,⟨?_,?_⟩,?_⟩,?_,fun x91 w92=>?_⟩⟩⟩⟩⟩⟩⟩⟩⟩⟩⟩⟩⟩⟩⟩⟩⟩⟩⟩⟩⟩
 all_goals first|refine aw ?_|refine ax ?_|exact a8|(dsimp only [eC,fW,vY,rJ,gM,iN,dU,fm,j8,lf,o6,pc,sN,q9,qC,qc,fa,gm,oI];omega)|exact a7|exact dG|exact cH|exact hp6|exact ht6|exact⟨dG,cH⟩|exact⟨dG,cH,hp6⟩|exact⟨dG,cH,ht6⟩|exact fun _ _=>rfl|exact hF.wg.mono (by decide)|exact xG|exact hen _ _|exact ZB0 (hen _ _) (by decide)|exact (rW (h0 w6 w8)).1|exact xF (h0 w6 w8)|exact hal (h0 w6 w8)|exact (hto rU).1|exact hln _ _ _|exact (hto rU).2.1|exact (hto rU).2.2|exact (hpb (h0 w6 w8)).1|exact (hpb (h0 w6 w8)).2|exact ((qx _ _).less _).w|exact hea rU (h0 w6 w8) _ ((qx _ _).less _)|exact hea rU (h0 w6 w8) _ (qx _ _)|exact (hwr _ hF (h0 w6 w8)).wg.mono (by decide)|exact (hwr _ hF (h0 w6 w8)).ok|exact (hwr _ hF (h0 w6 w8)).wg.wf.rd|skip
 ·refine⟨[4,5],[],_,_,_,rfl,cg,(((aE,aF,aG,aM,aH,aW,aI,aV),(aU,aS,aR,aQ,aP,aO,aN),aX),2),0,fun n h=>h.mono (by omega),rfl,rfl,rfl⟩
 ·refine⟨[4,5],[],_,_,_,rfl,cg,(((aE,aF,aG,aM,aH,aW,aI,aV),(aU,aS,aR,aQ,aP,aO,aN),aX),5),0,fun n h=>h.mono (by omega),rfl,rfl,rfl⟩
 ·refine⟨[4,5],[],_,_,_,rfl,cg,(((aE,aF,aG,aM,aH,aW,aI,aV),(aU,aS,aR,aQ,aP,aO,aN),aX),3),0,fun n h=>h.mono (by omega),rfl,rfl,rfl⟩
 ·refine⟨[4,5],[],_,_,_,rfl,cg,(((aE,aF,aG,aM,aH,aW,aI,aV),(aU,aS,aR,aQ,aP,aO,aN),aX),5),0,fun n h=>h.mono (by omega),rfl,rfl,rfl⟩
 ·refine⟨[4,5],[],_,_,_,rfl,cg,(((aE,aF,aG,aM,aH,aW,aI,aV),(aU,aS,aR,aQ,aP,aO,aN),aX),(dS ((aE,aF,aG,aM,aH,aW,aI,aV),(aU,aS,aR,aQ,aP,aO,aN),aX) qP).2),0,fun n h=>h.mono (by omega),rfl,rfl,rfl⟩
 ·refine⟨[4,5],[],_,_,_,rfl,cg,(((aE,aF,aG,aM,aH,aW,aI,aV),(aU,aS,aR,aQ,aP,aO,aN),aX),6),0,fun n h=>h.mono (by omega),rfl,rfl,rfl⟩
 ·refine⟨[1000790000,1000790001],[],_,_,_,rfl,cg,(ck ((aE,aF,aG,aM,aH,aW,aI,aV),(aU,aS,aR,aQ,aP,aO,aN),aX) (dS ((aE,aF,aG,aM,aH,aW,aI,aV),(aU,aS,aR,aQ,aP,aO,aN),aX) qP).1 (qU (ey (bK ((aE,aF,aG,aM,aH,aW,aI,aV),(aU,aS,aR,aQ,aP,aO,aN),aX).1 (a6 ((aE,aF,aG,aM,aH,aW,aI,aV),(aU,aS,aR,aQ,aP,aO,aN),aX) (dS ((aE,aF,aG,aM,aH,aW,aI,aV),(aU,aS,aR,aQ,aP,aO,aN),aX) path).1)).1 (lz (bK ((aE,aF,aG,aM,aH,aW,aI,aV),(aU,aS,aR,aQ,aP,aO,aN),aX).1 (a6 ((aE,aF,aG,aM,aH,aW,aI,aV),(aU,aS,aR,aQ,aP,aO,aN),aX) (dS ((aE,aF,aG,aM,aH,aW,aI,aV),(aU,aS,aR,aQ,aP,aO,aN),aX) path).1)).1 (dL path)).toNat) (dL qP,bC ((aE,aF,aG,aM,aH,aW,aI,aV),(aU,aS,aR,aQ,aP,aO,aN),aX) path)),0),0,fun n h=>(h.sX (hto rU).2.1 (hto rU).2.2).1.mono (by omega),rfl,rfl,rfl⟩
 ·refine⟨[1000910000,1000910001],[],_,_,_,rfl,cg,(ck (ck ((aE,aF,aG,aM,aH,aW,aI,aV),(aU,aS,aR,aQ,aP,aO,aN),aX) (dS ((aE,aF,aG,aM,aH,aW,aI,aV),(aU,aS,aR,aQ,aP,aO,aN),aX) path).1 (ey (bK ((aE,aF,aG,aM,aH,aW,aI,aV),(aU,aS,aR,aQ,aP,aO,aN),aX).1 (a6 ((aE,aF,aG,aM,aH,aW,aI,aV),(aU,aS,aR,aQ,aP,aO,aN),aX) (dS ((aE,aF,aG,aM,aH,aW,aI,aV),(aU,aS,aR,aQ,aP,aO,aN),aX) path).1)).1 (lz (bK ((aE,aF,aG,aM,aH,aW,aI,aV),(aU,aS,aR,aQ,aP,aO,aN),aX).1 (a6 ((aE,aF,aG,aM,aH,aW,aI,aV),(aU,aS,aR,aQ,aP,aO,aN),aX) (dS ((aE,aF,aG,aM,aH,aW,aI,aV),(aU,aS,aR,aQ,aP,aO,aN),aX) path).1)).1 (dL path)).toNat)) (dS ((aE,aF,aG,aM,aH,aW,aI,aV),(aU,aS,aR,aQ,aP,aO,aN),aX) qP).1 (qU (bK (ck ((aE,aF,aG,aM,aH,aW,aI,aV),(aU,aS,aR,aQ,aP,aO,aN),aX) (dS ((aE,aF,aG,aM,aH,aW,aI,aV),(aU,aS,aR,aQ,aP,aO,aN),aX) path).1 (ey (bK ((aE,aF,aG,aM,aH,aW,aI,aV),(aU,aS,aR,aQ,aP,aO,aN),aX).1 (a6 ((aE,aF,aG,aM,aH,aW,aI,aV),(aU,aS,aR,aQ,aP,aO,aN),aX) (dS ((aE,aF,aG,aM,aH,aW,aI,aV),(aU,aS,aR,aQ,aP,aO,aN),aX) path).1)).1 (lz (bK ((aE,aF,aG,aM,aH,aW,aI,aV),(aU,aS,aR,aQ,aP,aO,aN),aX).1 (a6 ((aE,aF,aG,aM,aH,aW,aI,aV),(aU,aS,aR,aQ,aP,aO,aN),aX) (dS ((aE,aF,aG,aM,aH,aW,aI,aV),(aU,aS,aR,aQ,aP,aO,aN),aX) path).1)).1 (dL path)).toNat)).1 (a6 (ck ((aE,aF,aG,aM,aH,aW,aI,aV),(aU,aS,aR,aQ,aP,aO,aN),aX) (dS ((aE,aF,aG,aM,aH,aW,aI,aV),(aU,aS,aR,aQ,aP,aO,aN),aX) path).1 (ey (bK ((aE,aF,aG,aM,aH,aW,aI,aV),(aU,aS,aR,aQ,aP,aO,aN),aX).1 (a6 ((aE,aF,aG,aM,aH,aW,aI,aV),(aU,aS,aR,aQ,aP,aO,aN),aX) (dS ((aE,aF,aG,aM,aH,aW,aI,aV),(aU,aS,aR,aQ,aP,aO,aN),aX) path).1)).1 (lz (bK ((aE,aF,aG,aM,aH,aW,aI,aV),(aU,aS,aR,aQ,aP,aO,aN),aX).1 (a6 ((aE,aF,aG,aM,aH,aW,aI,aV),(aU,aS,aR,aQ,aP,aO,aN),aX) (dS ((aE,aF,aG,aM,aH,aW,aI,aV),(aU,aS,aR,aQ,aP,aO,aN),aX) path).1)).1 (dL path)).toNat)) (dS ((aE,aF,aG,aM,aH,aW,aI,aV),(aU,aS,aR,aQ,aP,aO,aN),aX) qP).1)).1 (dL qP,bC ((aE,aF,aG,aM,aH,aW,aI,aV),(aU,aS,aR,aQ,aP,aO,aN),aX) path)),0),0,fun n h=>((hwr _ h (h0 w6 w8)).sX (hto rU).2.1 (hto rU).2.2).1.mono (by omega),rfl,rfl,rfl⟩
 ·refine⟨[1000790000,1000790001],[],_,_,_,rfl,cg,(ck ((aE,aF,aG,aM,aH,aW,aI,aV),(aU,aS,aR,aQ,aP,aO,aN),aX) (dS ((aE,aF,aG,aM,aH,aW,aI,aV),(aU,aS,aR,aQ,aP,aO,aN),aX) qP).1 (qU (ey (bK ((aE,aF,aG,aM,aH,aW,aI,aV),(aU,aS,aR,aQ,aP,aO,aN),aX).1 (a6 ((aE,aF,aG,aM,aH,aW,aI,aV),(aU,aS,aR,aQ,aP,aO,aN),aX) (dS ((aE,aF,aG,aM,aH,aW,aI,aV),(aU,aS,aR,aQ,aP,aO,aN),aX) path).1)).1 (lz (bK ((aE,aF,aG,aM,aH,aW,aI,aV),(aU,aS,aR,aQ,aP,aO,aN),aX).1 (a6 ((aE,aF,aG,aM,aH,aW,aI,aV),(aU,aS,aR,aQ,aP,aO,aN),aX) (dS ((aE,aF,aG,aM,aH,aW,aI,aV),(aU,aS,aR,aQ,aP,aO,aN),aX) path).1)).1 (dL path)).toNat) (dL qP,bC ((aE,aF,aG,aM,aH,aW,aI,aV),(aU,aS,aR,aQ,aP,aO,aN),aX) path)),0),0,fun n h=>(h.sX (hto rU).2.1 (hto rU).2.2).1.mono (by omega),rfl,rfl,rfl⟩
 ·refine⟨[1000910000,1000910001],[],_,_,_,rfl,cg,(ck (ck ((aE,aF,aG,aM,aH,aW,aI,aV),(aU,aS,aR,aQ,aP,aO,aN),aX) (dS ((aE,aF,aG,aM,aH,aW,aI,aV),(aU,aS,aR,aQ,aP,aO,aN),aX) path).1 (ey (bK ((aE,aF,aG,aM,aH,aW,aI,aV),(aU,aS,aR,aQ,aP,aO,aN),aX).1 (a6 ((aE,aF,aG,aM,aH,aW,aI,aV),(aU,aS,aR,aQ,aP,aO,aN),aX) (dS ((aE,aF,aG,aM,aH,aW,aI,aV),(aU,aS,aR,aQ,aP,aO,aN),aX) path).1)).1 (lz (bK ((aE,aF,aG,aM,aH,aW,aI,aV),(aU,aS,aR,aQ,aP,aO,aN),aX).1 (a6 ((aE,aF,aG,aM,aH,aW,aI,aV),(aU,aS,aR,aQ,aP,aO,aN),aX) (dS ((aE,aF,aG,aM,aH,aW,aI,aV),(aU,aS,aR,aQ,aP,aO,aN),aX) path).1)).1 (dL path)).toNat)) (dS ((aE,aF,aG,aM,aH,aW,aI,aV),(aU,aS,aR,aQ,aP,aO,aN),aX) qP).1 (qU (bK (ck ((aE,aF,aG,aM,aH,aW,aI,aV),(aU,aS,aR,aQ,aP,aO,aN),aX) (dS ((aE,aF,aG,aM,aH,aW,aI,aV),(aU,aS,aR,aQ,aP,aO,aN),aX) path).1 (ey (bK ((aE,aF,aG,aM,aH,aW,aI,aV),(aU,aS,aR,aQ,aP,aO,aN),aX).1 (a6 ((aE,aF,aG,aM,aH,aW,aI,aV),(aU,aS,aR,aQ,aP,aO,aN),aX) (dS ((aE,aF,aG,aM,aH,aW,aI,aV),(aU,aS,aR,aQ,aP,aO,aN),aX) path).1)).1 (lz (bK ((aE,aF,aG,aM,aH,aW,aI,aV),(aU,aS,aR,aQ,aP,aO,aN),aX).1 (a6 ((aE,aF,aG,aM,aH,aW,aI,aV),(aU,aS,aR,aQ,aP,aO,aN),aX) (dS ((aE,aF,aG,aM,aH,aW,aI,aV),(aU,aS,aR,aQ,aP,aO,aN),aX) path).1)).1 (dL path)).toNat)).1 (a6 (ck ((aE,aF,aG,aM,aH,aW,aI,aV),(aU,aS,aR,aQ,aP,aO,aN),aX) (dS ((aE,aF,aG,aM,aH,aW,aI,aV),(aU,aS,aR,aQ,aP,aO,aN),aX) path).1 (ey (bK ((aE,aF,aG,aM,aH,aW,aI,aV),(aU,aS,aR,aQ,aP,aO,aN),aX).1 (a6 ((aE,aF,aG,aM,aH,aW,aI,aV),(aU,aS,aR,aQ,aP,aO,aN),aX) (dS ((aE,aF,aG,aM,aH,aW,aI,aV),(aU,aS,aR,aQ,aP,aO,aN),aX) path).1)).1 (lz (bK ((aE,aF,aG,aM,aH,aW,aI,aV),(aU,aS,aR,aQ,aP,aO,aN),aX).1 (a6 ((aE,aF,aG,aM,aH,aW,aI,aV),(aU,aS,aR,aQ,aP,aO,aN),aX) (dS ((aE,aF,aG,aM,aH,aW,aI,aV),(aU,aS,aR,aQ,aP,aO,aN),aX) path).1)).1 (dL path)).toNat)) (dS ((aE,aF,aG,aM,aH,aW,aI,aV),(aU,aS,aR,aQ,aP,aO,aN),aX) qP).1)).1 (dL qP,bC ((aE,aF,aG,aM,aH,aW,aI,aV),(aU,aS,aR,aQ,aP,aO,aN),aX) path)),0),0,fun n h=>((hwr _ h (h0 w6 w8)).sX (hto rU).2.1 (hto rU).2.2).1.mono (by omega),rfl,rfl,rfl⟩
end GL
namespace GL
def sj (S:ay) (t:bf) (o:Opr):Prop:=FS S t∧S.wg 1000000∧o.2.1.size≤1000∧o.2.2.1.size≤1000∧0≤o.2.2.2.1∧o.2.2.2.1≤192∧o.2.2.2.2.size≤1000
def aaV (S:ay) (t:bf) (o:Opr) (z:ay×bf×Int):Prop:=FS z.1 z.2.1∧∀n,S.wg n→z.1.wg (n+300)
def aaL (S:ay) (t:bf) (o:Opr) (z:ay×bf×Int):AV:=.t [.a (kZ 5 6 7 8 9 z.1),trA z.2.1,.s (.int z.2.2)]
def ac3 (S:ay) (t:bf) (o:Opr) (z:ay×bf×Int):List AV:=[.zz,.zz,.zz,.zz,.zz,.rs ab z.1.rows,.rs ag z.1.refs,.rs ag z.1.last,.rs ae z.1.gone,.rs ae z.1.dead]
def ug:ct where
 A:=[.a (stB 0 1 2 3 4),.a [.int,.int,.int,.int,.int,.int,.int],.a [.int,.str,.str,.int,.str]]
 B:=[.r ab,.r ag,.r ag,.r ae,.r ae]
 pre:=fun x b=>stW x.1 b∧sj (gQ x.1 b) (x.2.1) (x.2.2)
 α:=fun _ _=>ay×bf×Int
 φ:=fun x b z=>aaV (gQ x.1 b) (x.2.1) (x.2.2) z
 r:=fun x b z=>aaL (gQ x.1 b) (x.2.1) (x.2.2) z
 o:=fun x b z=>ac3 (gQ x.1 b) (x.2.1) (x.2.2) z
 nf:=5
 mv:=true
theorem PD:Has Tryz.prog 149 ug:=by
 refine Has.ofZ zT zF zF (l:=[(74,jF),(182,ud),(186,qA),(183,uf),(184,ue),(185,uc)]) ⟨IG,PA,IH,PC,PB,O9,aa⟩ Tryz.func149 ?_
 rintro⟨⟨(AU:Nat),(AT:Nat),(AS:Nat),(ao:Int),(AR:Nat),(aq:Int),(AQ:Nat),(ar:Bool)⟩,⟨(t1:Int),(t2:Int),(t3:Int),(t4:Int),(t5:Int),(t6:Int),(t7:Int)⟩,⟨(o1:Int),(o2:ByteArray),(o3:ByteArray),(o4:Int),(o5:ByteArray)⟩⟩ ⟨(aj:List ByteArray),(ak:List Int),(an:List Int),(ah:List Pt),(ai:List Pt)⟩ ⟨⟨(gD:AU=List.length aj),(gC:AT=List.length ak),(gB:AS=List.length an),(gA:AR=List.length ah),(gz:AQ=List.length ai)⟩,(hp:sj (aj,ak,an,ao,ah,aq,ai,ar) (t1,t2,t3,t4,t5,t6,t7) (o1,o2,o3,o4,o5))⟩
 subst gD gC gB gA gz
 show vc _ _ _ _ (entry [.a [.xs 0 1 0 aj.length,.xs 1 1 0 ak.length,.xs 2 1 0 an.length,.int ao,.xs 3 5 0 ah.length,.int aq,.xs 4 5 0 ai.length,.q ar],.a [.int t1,.int t2,.int t3,.int t4,.int t5,.int t6,.int t7],.a [.int o1,.str o2,.str o3,.int o4,.str o5]] [.rs ab aj,.rs ag ak,.rs ag an,.rs ae ah,.rs ae ai]) _
 obtain⟨uO,lu,hs1,hs2,ha0,ha1,htx⟩:=hp
 have uO:FS (aj,ak,an,ao,ah,aq,ai,ar) (t1,t2,t3,t4,t5,t6,t7):=uO
 have lu:ay.wg (aj,ak,an,ao,ah,aq,ai,ar) 1000000:=lu
 have hsm:ay.small (aj,ak,an,ao,ah,aq,ai,ar):=⟨by have:=lu.wf.n.1;omega,by have:=lu.wf.n.2.1;omega,by have:=lu.wf.n.2.2;omega,lu.g,lu.d⟩
 have hF:cZ ((aj,ak,an,ao,ah,aq,ai,ar),(t1,t2,t3,t4,t5,t6,t7),false) 1000000:=⟨lu,uO.fi.tree.ok,fun _=>uO⟩
 have vG:∀x:fp×Int,(∀n,cZ ((aj,ak,an,ao,ah,aq,ai,ar),(t1,t2,t3,t4,t5,t6,t7),false) n→cZ x.1 (n+300))→(x.1.2.2=false→FS x.1.1 x.1.2.1)∧∀n,ay.wg (aj,ak,an,ao,ah,aq,ai,ar) n→x.1.1.wg (n+300):=fun x h=>⟨(h _ hF).fs,fun n hn=>(h n ⟨hn,hF.ok,fun _=>uO⟩).wg⟩
 refine⟨[.s 3,.b 1003],Sq11,rfl,[.s 11,.b 0,.b 1,.b 2,.b 3,.b 4,.b 130004,.b 130003,.b 130002,.b 130001,.b 130000],[.s 12,.b 130000,.b 130001,.b 130002,.b 130003,.b 130004],rfl,⟨⟨⟨⟨?_,?_⟩,⟨?_,?_⟩,⟨?_,?_⟩,aa,⟨?_,?_⟩,aa,⟨?_,?_⟩,aa,aa⟩,aa⟩,?_,?_,?_,?_,?_⟩,?_,fun x1 w2=>⟨[.s 4,.b 1004],Sq13,rfl,[.s 12,.s 13],Sq14,rfl,[.s 14,.b 1015],[.s 15,.b 1015],rfl,Sq15,Sq9,rfl,fun w3=>⟨⟨⟨aa,aa,aa,aa⟩,⟨?_,?_,?_,?_,?_⟩,?_,?_,?_⟩,fun x4 w5=>⟨aa,fun w6=>⟨fun w7=>⟨fun w8=>⟨[.s 3,.b 1003],Sq65,rfl,[.s 4,.b 1004],Sq66,rfl,Sq10,Sq67,rfl,[.s 6,.s 65,.b 1006],[.b 1006],rfl,[.s 7,.s 66,.b 1007],[.b 1007],rfl,Sq67,Sq8,rfl,?_⟩,fun w9=>⟨Sq9,Sq68,rfl,Sq68,Sq69,rfl,Sq69,Sq70,rfl,[.s 70,.b 1015],Sq71,rfl,Sq9,Sq72,rfl,Sq72,Sq73,rfl,Sq73,Sq74,rfl,[.s 74,.b 1015],Sq75,rfl,Sq10,Sq76,rfl,[.s 6,.s 71,.b 1006],[.b 1006],rfl,[.s 7,.s 75,.b 1007],[.b 1007],rfl,Sq76,Sq8,rfl,?_⟩⟩,fun dy=>⟨fun kC=>⟨[.s 3,.b 1003],Sq65,rfl,[.s 4,.b 1004],Sq66,rfl,Sq10,Sq67,rfl,[.s 6,.s 65,.b 1006],[.b 1006],rfl,[.s 7,.s 66,.b 1007],[.b 1007],rfl,Sq67,Sq8,rfl,?_⟩,fun dK=>⟨Sq9,Sq68,rfl,Sq68,Sq69,rfl,Sq69,Sq70,rfl,[.s 70,.b 1015],Sq71,rfl,Sq9,Sq72,rfl,Sq72,Sq73,rfl,Sq73,Sq74,rfl,[.s 74,.b 1015],Sq75,rfl,Sq10,Sq76,rfl,[.s 6,.s 71,.b 1006],[.b 1006],rfl,[.s 7,.s 75,.b 1007],[.b 1007],rfl,Sq76,Sq8,rfl,?_⟩⟩⟩,fun iV=>⟨fun gP=>⟨[.s 3,.b 1003],Sq65,rfl,[.s 4,.b 1004],Sq66,rfl,Sq10,Sq67,rfl,[.s 6,.s 65,.b 1006],[.b 1006],rfl,[.s 7,.s 66,.b 1007],[.b 1007],rfl,Sq67,Sq8,rfl,?_⟩,fun qN=>⟨Sq9,Sq68,rfl,Sq68,Sq69,rfl,Sq69,Sq70,rfl,[.s 70,.b 1015],Sq71,rfl,Sq9,Sq72,rfl,Sq72,Sq73,rfl,Sq73,Sq74,rfl,[.s 74,.b 1015],Sq75,rfl,Sq10,Sq76,rfl,[.s 6,.s 71,.b 1006],[.b 1006],rfl,[.s 7,.s 75,.b 1007],[.b 1007],rfl,Sq76,Sq8,rfl,?_⟩⟩⟩⟩,fun ki=>⟨fun xk=>⟨⟨⟨aa,aa,aa,aa⟩,⟨?_,?_,?_,?_,?_⟩,?_,?_,?_⟩,fun qK oN=>⟨aa,fun uL=>⟨fun A4=>⟨fun A3=>⟨[.s 3,.b 1003],Sq65,rfl,[.s 4,.b 1004],Sq66,rfl,Sq10,Sq67,rfl,[.s 6,.s 65,.b 1006],[.b 1006],rfl,[.s 7,.s 66,.b 1007],[.b 1007],rfl,Sq67,Sq8,rfl,?_⟩,fun xM=>⟨Sq9,Sq68,rfl,Sq68,Sq69,rfl,Sq69,Sq70,rfl,[.s 70,.b 1015],Sq71,rfl,Sq9,Sq72,rfl,Sq72,Sq73,rfl,Sq73,Sq74,rfl,[.s 74,.b 1015],Sq75,rfl,Sq10,Sq76,rfl,[.s 6,.s 71,.b 1006],[.b 1006],rfl,[.s 7,.s 75,.b 1007],[.b 1007],rfl,Sq76,Sq8,rfl,?_⟩⟩,fun rU=>⟨fun w25=>⟨[.s 3,.b 1003],Sq65,rfl,[.s 4,.b 1004],Sq66,rfl,Sq10,Sq67,rfl,[.s 6,.s 65,.b 1006],[.b 1006],rfl,[.s 7,.s 66,.b 1007],[.b 1007],rfl,Sq67,Sq8,rfl,?_⟩,fun w26=>⟨Sq9,Sq68,rfl,Sq68,Sq69,rfl,Sq69,Sq70,rfl,[.s 70,.b 1015],Sq71,rfl,Sq9,Sq72,rfl,Sq72,Sq73,rfl,Sq73,Sq74,rfl,[.s 74,.b 1015],Sq75,rfl,Sq10,Sq76,rfl,[.s 6,.s 71,.b 1006],[.b 1006],rfl,[.s 7,.s 75,.b 1007],[.b 1007],rfl,Sq76,Sq8,rfl,?_⟩⟩⟩,fun w27=>⟨fun w28=>⟨[.s 3,.b 1003],Sq65,rfl,[.s 4,.b 1004],Sq66,rfl,Sq10,Sq67,rfl,[.s 6,.s 65,.b 1006],[.b 1006],rfl,[.s 7,.s 66,.b 1007],[.b 1007],rfl,Sq67,Sq8,rfl,?_⟩,fun w29=>⟨Sq9,Sq68,rfl,Sq68,Sq69,rfl,Sq69,Sq70,rfl,[.s 70,.b 1015],Sq71,rfl,Sq9,Sq72,rfl,Sq72,Sq73,rfl,Sq73,Sq74,rfl,[.s 74,.b 1015],Sq75,rfl,Sq10,Sq76,rfl,[.s 6,.s 71,.b 1006],[.b 1006],rfl,[.s 7,.s 75,.b 1007],[.b 1007],rfl,Sq76,Sq8,rfl,?_⟩⟩⟩⟩,fun w30=>⟨fun w31=>⟨⟨⟨aa,aa,aa⟩,⟨?_,?_,?_,?_,?_⟩,?_,?_,?_⟩,fun x32 w33=>⟨aa,fun w34=>⟨fun w35=>⟨fun w36=>⟨[.s 3,.b 1003],Sq65,rfl,[.s 4,.b 1004],Sq66,rfl,Sq10,Sq67,rfl,[.s 6,.s 65,.b 1006],[.b 1006],rfl,[.s 7,.s 66,.b 1007],[.b 1007],rfl,Sq67,Sq8,rfl,?_⟩,fun w37=>⟨Sq9,Sq68,rfl,Sq68,Sq69,rfl,Sq69,Sq70,rfl,[.s 70,.b 1015],Sq71,rfl,Sq9,Sq72,rfl,Sq72,Sq73,rfl,Sq73,Sq74,rfl,[.s 74,.b 1015],Sq75,rfl,Sq10,Sq76,rfl,[.s 6,.s 71,.b 1006],[.b 1006],rfl,[.s 7,.s 75,.b 1007],[.b 1007],rfl,Sq76,Sq8,rfl,?_⟩⟩,fun w38=>⟨fun w39=>⟨[.s 3,.b 1003],Sq65,rfl,[.s 4,.b 1004],Sq66,rfl,Sq10,Sq67,rfl,[.s 6,.s 65,.b 1006],[.b 1006],rfl,[.s 7,.s 66,.b 1007],[.b 1007],rfl,Sq67,Sq8,rfl,?_⟩,fun w40=>⟨Sq9,Sq68,rfl,Sq68,Sq69,rfl,Sq69,Sq70,rfl,[.s 70,.b 1015],Sq71,rfl,Sq9,Sq72,rfl,Sq72,Sq73,rfl,Sq73,Sq74,rfl,[.s 74,.b 1015],Sq75,rfl,Sq10,Sq76,rfl,[.s 6,.s 71,.b 1006],[.b 1006],rfl,[.s 7,.s 75,.b 1007],[.b 1007],rfl,Sq76,Sq8,rfl,?_⟩⟩⟩,fun w41=>⟨fun w42=>⟨[.s 3,.b 1003],Sq65,rfl,[.s 4,.b 1004],Sq66,rfl,Sq10,Sq67,rfl,[.s 6,.s 65,.b 1006],[.b 1006],rfl,[.s 7,.s 66,.b 1007],[.b 1007],rfl,Sq67,Sq8,rfl,?_⟩,fun w43=>⟨Sq9,Sq68,rfl,Sq68,Sq69,rfl,Sq69,Sq70,rfl,[.s 70,.b 1015],Sq71,rfl,Sq9,Sq72,rfl,Sq72,Sq73,rfl,Sq73,Sq74,rfl,[.s 74,.b 1015],Sq75,rfl,Sq10,Sq76,rfl,[.s 6,.s 71,.b 1006],[.b 1006],rfl,[.s 7,.s 75,.b 1007],[.b 1007],rfl,Sq76,Sq8,rfl,?_⟩⟩⟩⟩,fun w44=>⟨fun w45=>⟨⟨⟨aa,aa,aa,aa⟩,⟨?_,?_,?_,?_,?_⟩,?_,?_,?_,?_⟩,fun x46 w47=>⟨aa,fun w48=>⟨fun w49=>⟨fun w50=>⟨[.s 3,.b 1003],Sq65,rfl,[.s 4,.b 1004],Sq66,rfl,Sq10,Sq67,rfl,[.s 6,.s 65,.b 1006],[.b 1006],rfl,[.s 7,.s 66,.b 1007],[.b 1007],rfl,Sq67,Sq8,rfl,?_⟩,fun w51=>⟨Sq9,Sq68,rfl,Sq68,Sq69,rfl,Sq69,Sq70,rfl,[.s 70,.b 1015],Sq71,rfl,Sq9,Sq72,rfl,Sq72,Sq73,rfl,Sq73,Sq74,rfl,[.s 74,.b 1015],Sq75,rfl,Sq10,Sq76,rfl,[.s 6,.s 71,.b 1006],[.b 1006],rfl,[.s 7,.s 75,.b 1007],[.b 1007],rfl,Sq76,Sq8,rfl,?_⟩⟩,fun w52=>⟨fun w53=>⟨[.s 3,.b 1003],Sq65,rfl,[.s 4,.b 1004],Sq66,rfl,Sq10,Sq67,rfl,[.s 6,.s 65,.b 1006],[.b 1006],rfl,[.s 7,.s 66,.b 1007],[.b 1007],rfl,Sq67,Sq8,rfl,?_⟩,fun w54=>⟨Sq9,Sq68,rfl,Sq68,Sq69,rfl,Sq69,Sq70,rfl,[.s 70,.b 1015],Sq71,rfl,Sq9,Sq72,rfl,Sq72,Sq73,rfl,Sq73,Sq74,rfl,[.s 74,.b 1015],Sq75,rfl,Sq10,Sq76,rfl,[.s 6,.s 71,.b 1006],[.b 1006],rfl,[.s 7,.s 75,.b 1007],[.b 1007],rfl,Sq76,Sq8,rfl,?_⟩⟩⟩,fun w55=>⟨fun w56=>⟨[.s 3,.b 1003],Sq65,rfl,[.s 4,.b 1004],Sq66,rfl,Sq10,Sq67,rfl,[.s 6,.s 65,.b 1006],[.b 1006],rfl,[.s 7,.s 66,.b 1007],[.b 1007],rfl,Sq67,Sq8,rfl,?_⟩,fun w57=>⟨Sq9,Sq68,rfl,Sq68,Sq69,rfl,Sq69,Sq70,rfl,[.s 70,.b 1015],Sq71,rfl,Sq9,Sq72,rfl,Sq72,Sq73,rfl,Sq73,Sq74,rfl,[.s 74,.b 1015],Sq75,rfl,Sq10,Sq76,rfl,[.s 6,.s 71,.b 1006],[.b 1006],rfl,[.s 7,.s 75,.b 1007],[.b 1007],rfl,Sq76,Sq8,rfl,?_⟩⟩⟩⟩,fun w58=>⟨fun w59=>⟨⟨⟨aa,aa,aa,aa⟩,⟨?_,?_,?_,?_,?_⟩,?_,?_,?_,?_⟩,fun x60 w61=>⟨aa,fun w62=>⟨fun w63=>⟨fun w64=>⟨[.s 3,.b 1003],Sq65,rfl,[.s 4,.b 1004],Sq66,rfl,Sq10,Sq67,rfl,[.s 6,.s 65,.b 1006],[.b 1006],rfl,[.s 7,.s 66,.b 1007],[.b 1007],rfl,Sq67,Sq8,rfl,?_⟩,fun w65=>⟨Sq9,Sq68,rfl,Sq68,Sq69,rfl,Sq69,Sq70,rfl,[.s 70,.b 1015],Sq71,rfl,Sq9,Sq72,rfl,Sq72,Sq73,rfl,Sq73,Sq74,rfl,[.s 74,.b 1015],Sq75,rfl,Sq10,Sq76,rfl,[.s 6,.s 71,.b 1006],[.b 1006],rfl,[.s 7,.s 75,.b 1007],[.b 1007],rfl,Sq76,Sq8,rfl,?_⟩⟩,fun w66=>⟨fun w67=>⟨[.s 3,.b 1003],Sq65,rfl,[.s 4,.b 1004],Sq66,rfl,Sq10,Sq67,rfl,[.s 6,.s 65,.b 1006],[.b 1006],rfl,[.s 7,.s 66,.b 1007],[.b 1007],rfl,Sq67,Sq8,rfl,?_⟩,fun w68=>⟨Sq9,Sq68,rfl,Sq68,Sq69,rfl,Sq69,Sq70,rfl,[.s 70,.b 1015],Sq71,rfl,Sq9,Sq72,rfl,Sq72,Sq73,rfl,Sq73,Sq74,rfl,[.s 74,.b 1015],Sq75,rfl,Sq10,Sq76,rfl,[.s 6,.s 71,.b 1006],[.b 1006],rfl,[.s 7,.s 75,.b 1007],[.b 1007],rfl,Sq76,Sq8,rfl,?_⟩⟩⟩,fun w69=>⟨fun w70=>⟨[.s 3,.b 1003],Sq65,rfl,[.s 4,.b 1004],Sq66,rfl,Sq10,Sq67,rfl,[.s 6,.s 65,.b 1006],[.b 1006],rfl,[.s 7,.s 66,.b 1007],[.b 1007],rfl,Sq67,Sq8,rfl,?_⟩,fun w71=>⟨Sq9,Sq68,rfl,Sq68,Sq69,rfl,Sq69,Sq70,rfl,[.s 70,.b 1015],Sq71,rfl,Sq9,Sq72,rfl,Sq72,Sq73,rfl,Sq73,Sq74,rfl,[.s 74,.b 1015],Sq75,rfl,Sq10,Sq76,rfl,[.s 6,.s 71,.b 1006],[.b 1006],rfl,[.s 7,.s 75,.b 1007],[.b 1007],rfl,Sq76,Sq8,rfl,?_⟩⟩⟩⟩,fun w72=>⟨⟨⟨aa,⟨aa,aa,aa,aa,aa,aa⟩,aa⟩,⟨?_,?_,?_,?_,?_⟩,?_,?_,?_,?_,?_,?_⟩,fun x73 w74=>⟨aa,fun w75=>⟨fun w76=>⟨fun w77=>⟨[.s 3,.b 1003],Sq65,rfl,[.s 4,.b 1004],Sq66,rfl,Sq10,Sq67,rfl,[.s 6,.s 65,.b 1006],[.b 1006],rfl,[.s 7,.s 66,.b 1007],[.b 1007],rfl,Sq67,Sq8,rfl,?_⟩,fun w78=>⟨Sq9,Sq68,rfl,Sq68,Sq69,rfl,Sq69,Sq70,rfl,[.s 70,.b 1015],Sq71,rfl,Sq9,Sq72,rfl,Sq72,Sq73,rfl,Sq73,Sq74,rfl,[.s 74,.b 1015],Sq75,rfl,Sq10,Sq76,rfl,[.s 6,.s 71,.b 1006],[.b 1006],rfl,[.s 7,.s 75,.b 1007],[.b 1007],rfl,Sq76,Sq8,rfl,?_⟩⟩,fun w79=>⟨fun w80=>⟨[.s 3,.b 1003],Sq65,rfl,[.s 4,.b 1004],Sq66,rfl,Sq10,Sq67,rfl,[.s 6,.s 65,.b 1006],[.b 1006],rfl,[.s 7,.s 66,.b 1007],[.b 1007],rfl,Sq67,Sq8,rfl,?_⟩,fun w81=>⟨Sq9,Sq68,rfl,Sq68,Sq69,rfl,Sq69,Sq70,rfl,[.s 70,.b 1015],Sq71,rfl,Sq9,Sq72,rfl,Sq72,Sq73,rfl,Sq73,Sq74,rfl,[.s 74,.b 1015],Sq75,rfl,Sq10,Sq76,rfl,[.s 6,.s 71,.b 1006],[.b 1006],rfl,[.s 7,.s 75,.b 1007],[.b 1007],rfl,Sq76,Sq8,rfl,?_⟩⟩⟩,fun w82=>⟨fun w83=>⟨[.s 3,.b 1003],Sq65,rfl,[.s 4,.b 1004],Sq66,rfl,Sq10,Sq67,rfl,[.s 6,.s 65,.b 1006],[.b 1006],rfl,[.s 7,.s 66,.b 1007],[.b 1007],rfl,Sq67,Sq8,rfl,?_⟩,fun w84=>⟨Sq9,Sq68,rfl,Sq68,Sq69,rfl,Sq69,Sq70,rfl,[.s 70,.b 1015],Sq71,rfl,Sq9,Sq72,rfl,Sq72,Sq73,rfl,Sq73,Sq74,rfl,[.s 74,.b 1015],Sq75,rfl,Sq10,Sq76,rfl,[.s 6,.s 71,.b 1006],[.b 1006],rfl,[.s 7,.s 75,.b 1007],[.b 1007],rfl,Sq76,Sq8,rfl,?_⟩⟩⟩⟩⟩⟩⟩⟩⟩⟩
 all_goals first|refine aw ?_|refine ax ?_|exact a8|(dsimp only [jF,pZ,ud,p8,qA,mO,uf,qa,ue,p9,uc,p6,oI];omega)|exact a7|exact hsm|exact hF|exact⟨hF,rfl,hs1⟩|exact⟨hF,rfl,hs1,hs2⟩|exact hs1|exact hs2|exact hsm.1|exact hsm.2.1|exact hsm.2.2.1|exact hsm.2.2.2.1|exact hsm.2.2.2.2|exact ha0|exact ha1|exact htx|skip
 ·refine⟨[0,1,2,3,4],[],_,_,_,rfl,cg,((aj,ak,an,ao,ah,aq,ai,ar),(t1,t2,t3,t4,t5,t6,t7),7),0,⟨uO,fun n h=>h.mono (by omega)⟩,rfl,rfl,rfl⟩
 ·exact absurd (show true=false from w9) Bool.noConfusion
 ·refine⟨[0,1,2,3,4],[],_,_,_,rfl,cg,((aj,ak,an,ao,ah,aq,ai,ar),(t1,t2,t3,t4,t5,t6,t7),x4.2),0,⟨uO,fun n h=>h.mono (by omega)⟩,rfl,rfl,rfl⟩
 ·refine⟨[130000,130001,130002,1000270000,1000270001],[0,1,2,3,4],_,_,_,rfl,cg,(x4.1.1,x4.1.2.1,x4.2),0,⟨(vG x4 w5).1 dy,(vG x4 w5).2⟩,rfl,rfl,rfl⟩
 ·refine⟨[0,1,2,3,4],[],_,_,_,rfl,cg,((aj,ak,an,ao,ah,aq,ai,ar),(t1,t2,t3,t4,t5,t6,t7),x4.2),0,⟨uO,fun n h=>h.mono (by omega)⟩,rfl,rfl,rfl⟩
 ·exact absurd (aA iV) (aA qN)
 ·refine⟨[0,1,2,3,4],[],_,_,_,rfl,cg,((aj,ak,an,ao,ah,aq,ai,ar),(t1,t2,t3,t4,t5,t6,t7),7),0,⟨uO,fun n h=>h.mono (by omega)⟩,rfl,rfl,rfl⟩
 ·exact absurd (show true=false from xM) Bool.noConfusion
 ·refine⟨[0,1,2,3,4],[],_,_,_,rfl,cg,((aj,ak,an,ao,ah,aq,ai,ar),(t1,t2,t3,t4,t5,t6,t7),qK.2),0,⟨uO,fun n h=>h.mono (by omega)⟩,rfl,rfl,rfl⟩
 ·refine⟨[130000,130001,130002,1000330000,1000330001],[0,1,2,3,4],_,_,_,rfl,cg,(qK.1.1,qK.1.2.1,qK.2),0,⟨(vG qK oN).1 rU,(vG qK oN).2⟩,rfl,rfl,rfl⟩
 ·refine⟨[0,1,2,3,4],[],_,_,_,rfl,cg,((aj,ak,an,ao,ah,aq,ai,ar),(t1,t2,t3,t4,t5,t6,t7),qK.2),0,⟨uO,fun n h=>h.mono (by omega)⟩,rfl,rfl,rfl⟩
 ·exact absurd (aA w27) (aA w29)
 ·refine⟨[0,1,2,3,4],[],_,_,_,rfl,cg,((aj,ak,an,ao,ah,aq,ai,ar),(t1,t2,t3,t4,t5,t6,t7),7),0,⟨uO,fun n h=>h.mono (by omega)⟩,rfl,rfl,rfl⟩
 ·exact absurd (show true=false from w37) Bool.noConfusion
 ·refine⟨[0,1,2,3,4],[],_,_,_,rfl,cg,((aj,ak,an,ao,ah,aq,ai,ar),(t1,t2,t3,t4,t5,t6,t7),x32.2),0,⟨uO,fun n h=>h.mono (by omega)⟩,rfl,rfl,rfl⟩
 ·refine⟨[130000,130001,130002,1000390000,1000390001],[0,1,2,3,4],_,_,_,rfl,cg,(x32.1.1,x32.1.2.1,x32.2),0,⟨(vG x32 w33).1 w38,(vG x32 w33).2⟩,rfl,rfl,rfl⟩
 ·refine⟨[0,1,2,3,4],[],_,_,_,rfl,cg,((aj,ak,an,ao,ah,aq,ai,ar),(t1,t2,t3,t4,t5,t6,t7),x32.2),0,⟨uO,fun n h=>h.mono (by omega)⟩,rfl,rfl,rfl⟩
 ·exact absurd (aA w41) (aA w43)
 ·refine⟨[0,1,2,3,4],[],_,_,_,rfl,cg,((aj,ak,an,ao,ah,aq,ai,ar),(t1,t2,t3,t4,t5,t6,t7),7),0,⟨uO,fun n h=>h.mono (by omega)⟩,rfl,rfl,rfl⟩
 ·exact absurd (show true=false from w51) Bool.noConfusion
 ·refine⟨[0,1,2,3,4],[],_,_,_,rfl,cg,((aj,ak,an,ao,ah,aq,ai,ar),(t1,t2,t3,t4,t5,t6,t7),x46.2),0,⟨uO,fun n h=>h.mono (by omega)⟩,rfl,rfl,rfl⟩
 ·refine⟨[130000,130001,130002,1000470000,1000470001],[0,1,2,3,4],_,_,_,rfl,cg,(x46.1.1,x46.1.2.1,x46.2),0,⟨(vG x46 w47).1 w52,(vG x46 w47).2⟩,rfl,rfl,rfl⟩
 ·refine⟨[0,1,2,3,4],[],_,_,_,rfl,cg,((aj,ak,an,ao,ah,aq,ai,ar),(t1,t2,t3,t4,t5,t6,t7),x46.2),0,⟨uO,fun n h=>h.mono (by omega)⟩,rfl,rfl,rfl⟩
 ·exact absurd (aA w55) (aA w57)
 ·refine⟨[0,1,2,3,4],[],_,_,_,rfl,cg,((aj,ak,an,ao,ah,aq,ai,ar),(t1,t2,t3,t4,t5,t6,t7),7),0,⟨uO,fun n h=>h.mono (by omega)⟩,rfl,rfl,rfl⟩
 ·exact absurd (show true=false from w65) Bool.noConfusion
 ·refine⟨[0,1,2,3,4],[],_,_,_,rfl,cg,((aj,ak,an,ao,ah,aq,ai,ar),(t1,t2,t3,t4,t5,t6,t7),x60.2),0,⟨uO,fun n h=>h.mono (by omega)⟩,rfl,rfl,rfl⟩
 ·refine⟨[130000,130001,130002,1000550000,1000550001],[0,1,2,3,4],_,_,_,rfl,cg,(x60.1.1,x60.1.2.1,x60.2),0,⟨(vG x60 w61).1 w66,(vG x60 w61).2⟩,rfl,rfl,rfl⟩
 ·refine⟨[0,1,2,3,4],[],_,_,_,rfl,cg,((aj,ak,an,ao,ah,aq,ai,ar),(t1,t2,t3,t4,t5,t6,t7),x60.2),0,⟨uO,fun n h=>h.mono (by omega)⟩,rfl,rfl,rfl⟩
 ·exact absurd (aA w69) (aA w71)
 ·refine⟨[0,1,2,3,4],[],_,_,_,rfl,cg,((aj,ak,an,ao,ah,aq,ai,ar),(t1,t2,t3,t4,t5,t6,t7),7),0,⟨uO,fun n h=>h.mono (by omega)⟩,rfl,rfl,rfl⟩
 ·exact absurd (show true=false from w78) Bool.noConfusion
 ·refine⟨[0,1,2,3,4],[],_,_,_,rfl,cg,((aj,ak,an,ao,ah,aq,ai,ar),(t1,t2,t3,t4,t5,t6,t7),x73.2),0,⟨uO,fun n h=>h.mono (by omega)⟩,rfl,rfl,rfl⟩
 ·refine⟨[130000,130001,130002,1000210000,1000210001],[0,1,2,3,4],_,_,_,rfl,cg,(x73.1.1,x73.1.2.1,x73.2),0,⟨(vG x73 w74).1 w79,(vG x73 w74).2⟩,rfl,rfl,rfl⟩
 ·refine⟨[0,1,2,3,4],[],_,_,_,rfl,cg,((aj,ak,an,ao,ah,aq,ai,ar),(t1,t2,t3,t4,t5,t6,t7),x73.2),0,⟨uO,fun n h=>h.mono (by omega)⟩,rfl,rfl,rfl⟩
 ·exact absurd (aA w82) (aA w84)
end GL
namespace GL
def kf (same:Bool):ay:=(List.replicate 64 ⟨#[]⟩,List.replicate 64 0,List.replicate 64 0,1,[],0,[],same)
def tv:Prop:=True
def th:AV:=.a [.xs 0 1 0 64,.xs 1 1 0 64]
def vr:List AV:=[.rs ag (List.replicate 64 0),.rs ag (List.replicate 64 0)]
def y8:ct where
 A:=[]
 B:=[]
 pre:=fun x b=>tv
 r:=fun x b _=>th
 o:=fun x b _=>vr
 nf:=2
theorem W8:Has Tryz.prog 181 y8:=by
 refine Has.fu zT zF zF (l:=[]) trivial Tryz.func181 ?_
 rintro _ _ (hp:tv)
 show vc _ _ _ _ (entry [] []) _
 refine⟨[.b 1001],[.s 1,.b 1001],rfl,⟨?_,?_,?_⟩,[.b 1002],[.s 2,.b 1002],rfl,⟨?_,?_,?_⟩,[.s 1,.s 2],Sq3,rfl,[.s 0,.s 3,.b 1000],[.b 1000],rfl,?_⟩
 all_goals first|refine aw ?_|refine ax ?_|exact a8|exact a7|skip
 refine⟨[1001,1002],[],_,_,_,rfl,az,(),aa,?_,?_,rfl⟩
 ·(show _=th);unfold th;first|rfl
 ·(show _=vr);unfold vr;first|rfl
def lS (same:Bool):Prop:=True
def tg (same:Bool):AV:=.a (kZ 0 1 2 3 4 (kf same))
def vq (same:Bool):List AV:=[.rs ab (kf same).rows,.rs ag (kf same).refs,.rs ag (kf same).last,.rs ae (kf same).gone,.rs ae (kf same).dead]
def kV:ct where
 A:=[.s .bool]
 B:=[]
 pre:=fun x b=>lS x
 r:=fun x b _=>tg x
 o:=fun x b _=>vq x
 nf:=5
theorem yJ:Has Tryz.prog 147 kV:=by
 refine Has.fu zT zF zF (l:=[(181,y8)]) ⟨W8,aa⟩ Tryz.func147 ?_
 rintro (same:Bool) _ (hp:lS same)
 show vc _ _ _ _ (entry [.q same] []) _
 refine⟨[.b 1003],[.s 3,.b 1003],rfl,⟨?_,?_,?_⟩,[.b 50001,.b 50000],[.s 4,.b 50000,.b 50001],rfl,⟨aa,aa⟩,?_,fun x1 w2=>⟨[.b 1005],[.s 5,.b 1005],rfl,aa,[.b 1006],[.s 6,.b 1006],rfl,aa,Sq0,Sq7,rfl,[.s 3,.s 4,.s 5,.s 6,.s 7],Sq8,rfl,[.s 2,.s 8,.b 1002],[.b 1002],rfl,?_⟩⟩
 all_goals first|refine aw ?_|refine ax ?_|exact a8|(dsimp only [y8,tv];omega)|exact a7|skip
 refine⟨[1003,50000,50001,1005,1006],[],_,_,_,rfl,az,(),aa,?_,?_,rfl⟩
 ·(show _=tg same);unfold tg;first|rfl
 ·(show _=vq same);unfold vq;first|rfl
end GL
end Go.Proofs.YtkgpljpmdkflmaaGreatDoor
