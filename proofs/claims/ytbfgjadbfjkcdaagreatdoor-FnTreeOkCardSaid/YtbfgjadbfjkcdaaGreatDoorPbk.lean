/- FnTreeOk returns true for every code (its row lists package variables, tied by the card): part 37 of 39. -/
import Derived.Test.YtbfgjadbfjkcdaaGreatDoorPaw
import Derived.Test.YtbfgjadbfjkcdaaGreatDoorPay
import Derived.Test.YtbfgjadbfjkcdaaGreatDoorPbi
import Derived.Test.YtbfgjadbfjkcdaaGreatDoorPbj
set_option maxHeartbeats 20000000
set_option linter.all false
namespace Go.Proofs.YtbfgjadbfjkcdaaGreatDoor
namespace GL
attribute [local irreducible] dB cF bE mY aU az bZ dp dK bo uL xm qH bq eh lu pg
def pO (F:fj) (path:ByteArray) (qB:ByteArray):Prop:=cT F 1000000∧F.2.2=false∧path.size≤1000∧qB.size≤1000
def G9 (F:fj) (path:ByteArray) (qB:ByteArray) (z:fj×Int):Prop:=∀n,cT F n→cT z.1 (n+300)
def GP (F:fj) (path:ByteArray) (qB:ByteArray) (z:fj×Int):AV:=.s (.int z.2)
def KR (F:fj) (path:ByteArray) (qB:ByteArray) (z:fj×Int):List AV:=fsP z.1
def tY:Con where
 A:=[.b 0, .s .str, .s .str]
 B:=[.a [.xb 1 aa, .xb 2 ae, .xb 3 ae, .int, .xb 4 ab, .int, .xb 5 ab, .bool, .int, .int, .int, .int, .int, .int, .int, .bool], .r aa, .r ae, .r ae, .r ab, .r ab]
 pre:=fun x b=>whole ((b.1).1) ((b.1).2.1) ((b.1).2.2.1) ((b.1).2.2.2.2.1) ((b.1).2.2.2.2.2.2.1) (b.2.1) (b.2.2.1) (b.2.2.2.1) (b.2.2.2.2.1) (b.2.2.2.2.2)∧pO (((b.2.1,b.2.2.1,b.2.2.2.1,(b.1).2.2.2.1,b.2.2.2.2.1,(b.1).2.2.2.2.2.1,b.2.2.2.2.2,(b.1).2.2.2.2.2.2.2.1),((b.1).2.2.2.2.2.2.2.2.1,(b.1).2.2.2.2.2.2.2.2.2.1,(b.1).2.2.2.2.2.2.2.2.2.2.1,(b.1).2.2.2.2.2.2.2.2.2.2.2.1,(b.1).2.2.2.2.2.2.2.2.2.2.2.2.1,(b.1).2.2.2.2.2.2.2.2.2.2.2.2.2.1,(b.1).2.2.2.2.2.2.2.2.2.2.2.2.2.2.1),(b.1).2.2.2.2.2.2.2.2.2.2.2.2.2.2.2)) (x.2.1) (x.2.2)
 α:=fun _ _=>fj×Int
 φ:=fun x b z=>G9 (((b.2.1,b.2.2.1,b.2.2.2.1,(b.1).2.2.2.1,b.2.2.2.2.1,(b.1).2.2.2.2.2.1,b.2.2.2.2.2,(b.1).2.2.2.2.2.2.2.1),((b.1).2.2.2.2.2.2.2.2.1,(b.1).2.2.2.2.2.2.2.2.2.1,(b.1).2.2.2.2.2.2.2.2.2.2.1,(b.1).2.2.2.2.2.2.2.2.2.2.2.1,(b.1).2.2.2.2.2.2.2.2.2.2.2.2.1,(b.1).2.2.2.2.2.2.2.2.2.2.2.2.2.1,(b.1).2.2.2.2.2.2.2.2.2.2.2.2.2.2.1),(b.1).2.2.2.2.2.2.2.2.2.2.2.2.2.2.2)) (x.2.1) (x.2.2) z
 r:=fun x b z=>GP (((b.2.1,b.2.2.1,b.2.2.2.1,(b.1).2.2.2.1,b.2.2.2.2.1,(b.1).2.2.2.2.2.1,b.2.2.2.2.2,(b.1).2.2.2.2.2.2.2.1),((b.1).2.2.2.2.2.2.2.2.1,(b.1).2.2.2.2.2.2.2.2.2.1,(b.1).2.2.2.2.2.2.2.2.2.2.1,(b.1).2.2.2.2.2.2.2.2.2.2.2.1,(b.1).2.2.2.2.2.2.2.2.2.2.2.2.1,(b.1).2.2.2.2.2.2.2.2.2.2.2.2.2.1,(b.1).2.2.2.2.2.2.2.2.2.2.2.2.2.2.1),(b.1).2.2.2.2.2.2.2.2.2.2.2.2.2.2.2)) (x.2.1) (x.2.2) z
 o:=fun x b z=>KR (((b.2.1,b.2.2.1,b.2.2.2.1,(b.1).2.2.2.1,b.2.2.2.2.1,(b.1).2.2.2.2.2.1,b.2.2.2.2.2,(b.1).2.2.2.2.2.2.2.1),((b.1).2.2.2.2.2.2.2.2.1,(b.1).2.2.2.2.2.2.2.2.2.1,(b.1).2.2.2.2.2.2.2.2.2.2.1,(b.1).2.2.2.2.2.2.2.2.2.2.2.1,(b.1).2.2.2.2.2.2.2.2.2.2.2.2.1,(b.1).2.2.2.2.2.2.2.2.2.2.2.2.2.1,(b.1).2.2.2.2.2.2.2.2.2.2.2.2.2.2.1),(b.1).2.2.2.2.2.2.2.2.2.2.2.2.2.2.2)) (x.2.1) (x.2.2) z
 nf:=2
 mv:=true
set_option maxRecDepth 100000 in
theorem PE:Has Tryz.prog 68 tY:=by
 refine Has.ofZ (fun _=>true) (fun _=>false) (fun _=>false) (l:=[(102,eu),(108,vW),(104,gE),(97,dM),(101,jX),(106,oQ),(105,sG),(100,qo),(99,eS)]) ⟨l6,TO,rF,kC,wT,FE,ME,IJ,nv,trivial⟩ (fn:=Tryz.f68) Tryz.func68 rfl (by decide) (cH rfl) ?_
 rintro ⟨_,(path:ByteArray),(qB:ByteArray)⟩ ⟨⟨(Fm1:Nat),(Fm2:Nat),(Fm3:Nat),(aH:Int),(Fm4:Nat),(aR:Int),(Fm5:Nat),(aQ:Bool),(aP:Int),(aO:Int),(aN:Int),(aM:Int),(aK:Int),(aJ:Int),(aI:Int),(aS:Bool)⟩,(aB:List ByteArray),(aC:List Int),(aD:List Int),(aE:List Pt),(aF:List Pt)⟩ ⟨⟨(jr:Fm1=List.length aB),(jq:Fm2=List.length aC),(jo:Fm3=List.length aD),(jn:Fm4=List.length aE),(jm:Fm5=List.length aF)⟩,(hp:pO ((aB,aC,aD,aH,aE,aR,aF,aQ),(aP,aO,aN,aM,aK,aJ,aI),aS) path qB)⟩
 subst jr jq jo jn jm
 show vc _ _ _ _ (entry [.s (.bp 0 0), .str path, .str qB] [.a [.xs 1 1 0 aB.length, .xs 2 1 0 aC.length, .xs 3 1 0 aD.length, .int aH, .xs 4 5 0 aE.length, .int aR, .xs 5 5 0 aF.length, .q aQ, .int aP, .int aO, .int aN, .int aM, .int aK, .int aJ, .int aI, .q aS], .rs aa aB, .rs ae aC, .rs ae aD, .rs ab aE, .rs ab aF]) _
 obtain ⟨hF,hfu,hps,hpt⟩:=hp
 have hF:cT ((aB,aC,aD,aH,aE,aR,aF,aQ),(aP,aO,aN,aM,aK,aJ,aI),aS) 1000000:=hF
 have dA:ax.rd ((aB,aC,aD,aH,aE,aR,aF,aQ),(aP,aO,aN,aM,aK,aJ,aI),aS).1:=hF.wg.wf.rd
 have cq:aZ.ok ((aB,aC,aD,aH,aE,aR,aF,aQ),(aP,aO,aN,aM,aK,aJ,aI),aS).2.1:=hF.ok
 have hp6:path.size≤1000000:=Nat.le_trans hps (by decide)
 have ht6:qB.size≤1000000:=Nat.le_trans hpt (by decide)
 have h0:decide (bo ((aB,aC,aD,aH,aE,aR,aF,aQ),(aP,aO,aN,aM,aK,aJ,aI),aS) path < 0)=false→decide (bo ((aB,aC,aD,aH,aE,aR,aF,aQ),(aP,aO,aN,aM,aK,aJ,aI),aS) path=0)=false→0 < bo ((aB,aC,aD,aH,aE,aR,aF,aQ),(aP,aO,aN,aM,aK,aJ,aI),aS) path:=fun h h2=>by have:=ca h;have:=ca h2;omega
 have xF:bo ((aB,aC,aD,aH,aE,aR,aF,aQ),(aP,aO,aN,aM,aK,aJ,aI),aS) path≤15:=(zn _ _).2
 have rM:=fun (h:0 < bo ((aB,aC,aD,aH,aE,aR,aF,aQ),(aP,aO,aN,aM,aK,aJ,aI),aS) path)=>OF (po h).1
 have hpb:0 < bo ((aB,aC,aD,aH,aE,aR,aF,aQ),(aP,aO,aN,aM,aK,aJ,aI),aS) path→0≤(dK ((aB,aC,aD,aH,aE,aR,aF,aQ),(aP,aO,aN,aM,aK,aJ,aI),aS) path).1∧(dK ((aB,aC,aD,aH,aE,aR,aF,aQ),(aP,aO,aN,aM,aK,aJ,aI),aS) path).1≤15:=fun h=>by rw [(rM h).2.1];exact ⟨(rM h).2.2.1,(rM h).2.2.2.1⟩
 have hto:decide ((dK ((aB,aC,aD,aH,aE,aR,aF,aQ),(aP,aO,aN,aM,aK,aJ,aI),aS) qB).2 > 0)=false→1≤(bq qB).length∧0≤(dK ((aB,aC,aD,aH,aE,aR,aF,aQ),(aP,aO,aN,aM,aK,aJ,aI),aS) qB).1∧(dK ((aB,aC,aD,aH,aE,aR,aF,aQ),(aP,aO,aN,aM,aK,aJ,aI),aS) qB).1≤15:=fun h=>by
  have h1:=OF h
  rw [h1.2.1];exact ⟨h1.1,h1.2.2.1,h1.2.2.2.1⟩
 have hen:∀s nd,(bE s nd).1.length≤1000:=fun s nd=>Nat.le_trans (qj s nd).len (by decide)
 have hln:∀s nd i,(eh (bE s nd).1 i).length≤1000:=fun s nd i=>Nat.le_trans ((qj s nd).less i).len (by decide)
 have xE:=fun (h:0 < bo ((aB,aC,aD,aH,aE,aR,aF,aQ),(aP,aO,aN,aM,aK,aJ,aI),aS) path)=>(po h).2.1
 have hal:=fun (h:0 < bo ((aB,aC,aD,aH,aE,aR,aF,aQ),(aP,aO,aN,aM,aK,aJ,aI),aS) path)=>(zb (xE h)).1
 have hwr:=fun n (hF:cT ((aB,aC,aD,aH,aE,aR,aF,aQ),(aP,aO,aN,aM,aK,aJ,aI),aS) n) (h:0 < bo ((aB,aC,aD,aH,aE,aR,aF,aQ),(aP,aO,aN,aM,aK,aJ,aI),aS) path)=>(hF.sR (l:=(eh (bE ((aB,aC,aD,aH,aE,aR,aF,aQ),(aP,aO,aN,aM,aK,aJ,aI),aS).1 (aW ((aB,aC,aD,aH,aE,aR,aF,aQ),(aP,aO,aN,aM,aK,aJ,aI),aS) (dK ((aB,aC,aD,aH,aE,aR,aF,aQ),(aP,aO,aN,aM,aK,aJ,aI),aS) path).1)).1 (lu (bE ((aB,aC,aD,aH,aE,aR,aF,aQ),(aP,aO,aN,aM,aK,aJ,aI),aS).1 (aW ((aB,aC,aD,aH,aE,aR,aF,aQ),(aP,aO,aN,aM,aK,aJ,aI),aS) (dK ((aB,aC,aD,aH,aE,aR,aF,aQ),(aP,aO,aN,aM,aK,aJ,aI),aS) path).1)).1 (dF path)).toNat)) (hpb h).1 (hpb h).2).1
 have hea:decide ((dK ((aB,aC,aD,aH,aE,aR,aF,aQ),(aP,aO,aN,aM,aK,aJ,aI),aS) qB).2 > 0)=false→0 < bo ((aB,aC,aD,aH,aE,aR,aF,aQ),(aP,aO,aN,aM,aK,aJ,aI),aS) path→∀l,QC l→KN (qH l (dF qB,bo ((aB,aC,aD,aH,aE,aR,aF,aQ),(aP,aO,aN,aM,aK,aJ,aI),aS) path)):=fun h h2 l hv=>hv.add (Nat.le_trans (KD (hto h).1) hpt) ⟨Int.le_of_lt h2,Int.le_trans xF (by decide)⟩
 refine ⟨⟨⟨⟨tv,tv,tv⟩,⟨?_,?_,?_,?_,?_⟩,?_,?_,?_⟩,fun x1 w2=>?_⟩,fun x3 w4=>⟨fun w5=>?_,fun w6=>⟨fun w7=>?_,fun w8=>⟨⟨⟨⟨tv,tv,tv⟩,⟨?_,?_,?_,?_,?_⟩,?_,?_,?_⟩,fun x9 df=>?_⟩,fun kx dC=>⟨fun iA=>?_,fun gx=>⟨⟨⟨tv,tv,tv⟩,?_,?_⟩,fun ku j9=>⟨fun wu=>?_,fun qI=>⟨⟨⟨⟨tv,tv,tv⟩,⟨?_,?_,?_,?_,?_⟩,?_,?_,?_⟩,fun x19 um=>?_⟩,fun x21 zf=>⟨fun xv=>?_,fun rl=>⟨⟨⟨⟨tv,tv,tv⟩,⟨?_,?_,?_,?_,?_⟩,?_,?_,?_⟩,fun x25 EL=>?_⟩,fun x27 w28=>⟨tv,fun w29=>⟨⟨⟨⟨tv,tv,tv⟩,⟨?_,?_,?_,?_,?_⟩,?_,?_⟩,fun x30 w31=>?_⟩,fun x32 w33=>⟨fun w34=>?_,fun w35=>⟨⟨⟨⟨tv,tv,tv⟩,⟨?_,?_,?_,?_,?_⟩,?_,?_⟩,fun x36 w37=>?_⟩,fun x38 w39=>⟨⟨⟨tv,tv⟩,?_,?_⟩,fun x40 w41=>⟨⟨⟨tv,tv,tv⟩,?_⟩,fun x42 w43=>⟨⟨⟨tv,tv,tv⟩,?_,?_,?_⟩,fun x44 w45=>⟨⟨⟨tv,tv⟩,?_,?_⟩,fun x46 w47=>⟨fun w48=>⟨⟨⟨⟨?_,?_⟩,⟨tv,tv,tv⟩,tv⟩,?_⟩,fun x49 w50=>⟨⟨⟨tv,tv,⟨?_,?_⟩,tv⟩,⟨?_,?_,?_,?_,?_⟩,?_,?_,⟨?_,?_⟩,?_⟩,fun x51 w52=>?_⟩⟩,fun w53=>⟨⟨⟨tv,tv,⟨?_,?_⟩,tv⟩,⟨?_,?_,?_,?_,?_⟩,?_,?_,⟨?_,?_⟩,?_⟩,fun x54 w55=>⟨[.s 0],[.s 83],rfl,[.s 8],[.s 84],rfl,[.s 0],[.s 85],rfl,[.s 8],[.s 86],rfl,[.s 85, .s 86, .b 0, .b 1, .b 2, .b 3, .b 1000830000, .b 1000830001],[.s 87],rfl,⟨⟨⟨tv,tv,tv⟩,⟨?_,?_,?_,?_,?_⟩,?_,?_⟩,fun x56 w57=>?_⟩,?_,fun x58 w59=>⟨[.s 13, .b 1013],[.s 88],rfl,[.s 87, .s 88, .b 900000],[.s 89, .b 900000],rfl,⟨⟨tv,⟨tv,tv,tv⟩,tv⟩,?_⟩,?_,fun x60 w61=>⟨[.s 83, .s 84, .s 89, .b 0, .b 1, .b 2, .b 3, .b 1000830000, .b 1000830001, .b 900000, .b 1000910001, .b 1000910000],[.s 90, .b 0, .b 1, .b 2, .b 3, .b 1000830000, .b 1000830001, .b 1000910000, .b 1000910001],rfl,⟨⟨tv,tv,⟨?_,?_⟩,tv⟩,⟨?_,?_,?_,?_,?_⟩,?_,?_,⟨?_,?_⟩,?_⟩,?_,fun x62 w63=>?_⟩⟩⟩⟩⟩⟩⟩⟩⟩⟩⟩⟩,fun w64=>⟨⟨⟨⟨tv,tv,tv⟩,⟨?_,?_,?_,?_,?_⟩,?_,?_⟩,fun x65 w66=>?_⟩,fun x67 w68=>⟨⟨⟨tv,tv⟩,?_,?_⟩,fun x69 w70=>⟨⟨⟨tv,tv,tv⟩,?_⟩,fun x71 w72=>⟨⟨⟨tv,tv,tv⟩,?_,?_,?_⟩,fun x73 w74=>⟨⟨⟨tv,tv⟩,?_,?_⟩,fun x75 w76=>⟨fun w77=>⟨⟨⟨⟨?_,?_⟩,⟨tv,tv,tv⟩,tv⟩,?_⟩,fun x78 w79=>⟨⟨⟨tv,tv,⟨?_,?_⟩,tv⟩,⟨?_,?_,?_,?_,?_⟩,?_,?_,⟨?_,?_⟩,?_⟩,fun x80 w81=>?_⟩⟩,fun w82=>⟨⟨⟨tv,tv,⟨?_,?_⟩,tv⟩,⟨?_,?_,?_,?_,?_⟩,?_,?_,⟨?_,?_⟩,?_⟩,fun x83 w84=>⟨[.s 0],[.s 83],rfl,[.s 8],[.s 84],rfl,[.s 0],[.s 85],rfl,[.s 8],[.s 86],rfl,[.s 85, .s 86, .b 0, .b 1, .b 2, .b 3, .b 1000830000, .b 1000830001],[.s 87],rfl,⟨⟨⟨tv,tv,tv⟩,⟨?_,?_,?_,?_,?_⟩,?_,?_⟩,fun x85 w86=>?_⟩,?_,fun x87 w88=>⟨[.s 13, .b 1013],[.s 88],rfl,[.s 87, .s 88, .b 900000],[.s 89, .b 900000],rfl,⟨⟨tv,⟨tv,tv,tv⟩,tv⟩,?_⟩,?_,fun x89 w90=>⟨[.s 83, .s 84, .s 89, .b 0, .b 1, .b 2, .b 3, .b 1000830000, .b 1000830001, .b 900000, .b 1000910001, .b 1000910000],[.s 90, .b 0, .b 1, .b 2, .b 3, .b 1000830000, .b 1000830001, .b 1000910000, .b 1000910001],rfl,⟨⟨tv,tv,⟨?_,?_⟩,tv⟩,⟨?_,?_,?_,?_,?_⟩,?_,?_,⟨?_,?_⟩,?_⟩,?_,fun x91 w92=>?_⟩⟩⟩⟩⟩⟩⟩⟩⟩⟩⟩⟩⟩⟩⟩⟩⟩⟩⟩⟩⟩
 all_goals first|refine au ?_|refine aw ?_|exact sa|(dsimp only [eu,fO];omega)|(dsimp only [vW,rC];omega)|(dsimp only [gE,iF];omega)|(dsimp only [dM,fe];omega)|(dsimp only [jX,k7];omega)|(dsimp only [oQ,oW];omega)|(dsimp only [sG,qQ];omega)|(dsimp only [qo,pT];omega)|(dsimp only [eS,fZ];omega)|exact sb|exact dA|exact cq|exact hp6|exact ht6|exact ⟨dA,cq⟩|exact ⟨dA,cq,hp6⟩|exact ⟨dA,cq,ht6⟩|exact fun _ _=>rfl|exact hF.wg.mono (by decide)|exact xF|exact hen _ _|exact Nat.le_trans (hen _ _) (by decide)|exact (rM (h0 w6 w8)).1|exact xE (h0 w6 w8)|exact hal (h0 w6 w8)|exact (hto rl).1|exact hln _ _ _|exact (hto rl).2.1|exact (hto rl).2.2|exact (hpb (h0 w6 w8)).1|exact (hpb (h0 w6 w8)).2|exact ((qj _ _).less _).w|exact hea rl (h0 w6 w8) _ ((qj _ _).less _)|exact hea rl (h0 w6 w8) _ (qj _ _)|exact (hwr _ hF (h0 w6 w8)).wg.mono (by decide)|exact (hwr _ hF (h0 w6 w8)).ok|exact (hwr _ hF (h0 w6 w8)).wg.wf.rd|skip
 ·refine ⟨[4,5],[],_,_,_,rfl,rr,(((aB,aC,aD,aH,aE,aR,aF,aQ),(aP,aO,aN,aM,aK,aJ,aI),aS),2),0,fun n h=>h.mono (by omega),rfl,rfl,rfl⟩
 ·refine ⟨[4,5],[],_,_,_,rfl,rr,(((aB,aC,aD,aH,aE,aR,aF,aQ),(aP,aO,aN,aM,aK,aJ,aI),aS),5),0,fun n h=>h.mono (by omega),rfl,rfl,rfl⟩
 ·refine ⟨[4,5],[],_,_,_,rfl,rr,(((aB,aC,aD,aH,aE,aR,aF,aQ),(aP,aO,aN,aM,aK,aJ,aI),aS),3),0,fun n h=>h.mono (by omega),rfl,rfl,rfl⟩
 ·refine ⟨[4,5],[],_,_,_,rfl,rr,(((aB,aC,aD,aH,aE,aR,aF,aQ),(aP,aO,aN,aM,aK,aJ,aI),aS),5),0,fun n h=>h.mono (by omega),rfl,rfl,rfl⟩
 ·refine ⟨[4,5],[],_,_,_,rfl,rr,(((aB,aC,aD,aH,aE,aR,aF,aQ),(aP,aO,aN,aM,aK,aJ,aI),aS),(dK ((aB,aC,aD,aH,aE,aR,aF,aQ),(aP,aO,aN,aM,aK,aJ,aI),aS) qB).2),0,fun n h=>h.mono (by omega),rfl,rfl,rfl⟩
 ·refine ⟨[4,5],[],_,_,_,rfl,rr,(((aB,aC,aD,aH,aE,aR,aF,aQ),(aP,aO,aN,aM,aK,aJ,aI),aS),6),0,fun n h=>h.mono (by omega),rfl,rfl,rfl⟩
 ·refine ⟨[1000790000,1000790001],[],_,_,_,rfl,rr,(bZ ((aB,aC,aD,aH,aE,aR,aF,aQ),(aP,aO,aN,aM,aK,aJ,aI),aS) (dK ((aB,aC,aD,aH,aE,aR,aF,aQ),(aP,aO,aN,aM,aK,aJ,aI),aS) qB).1 (qH (eh (bE ((aB,aC,aD,aH,aE,aR,aF,aQ),(aP,aO,aN,aM,aK,aJ,aI),aS).1 (aW ((aB,aC,aD,aH,aE,aR,aF,aQ),(aP,aO,aN,aM,aK,aJ,aI),aS) (dK ((aB,aC,aD,aH,aE,aR,aF,aQ),(aP,aO,aN,aM,aK,aJ,aI),aS) path).1)).1 (lu (bE ((aB,aC,aD,aH,aE,aR,aF,aQ),(aP,aO,aN,aM,aK,aJ,aI),aS).1 (aW ((aB,aC,aD,aH,aE,aR,aF,aQ),(aP,aO,aN,aM,aK,aJ,aI),aS) (dK ((aB,aC,aD,aH,aE,aR,aF,aQ),(aP,aO,aN,aM,aK,aJ,aI),aS) path).1)).1 (dF path)).toNat) (dF qB,bo ((aB,aC,aD,aH,aE,aR,aF,aQ),(aP,aO,aN,aM,aK,aJ,aI),aS) path)),0),0,fun n h=>(h.sR (hto rl).2.1 (hto rl).2.2).1.mono (by omega),rfl,rfl,rfl⟩
 ·refine ⟨[1000910000,1000910001],[],_,_,_,rfl,rr,(bZ (bZ ((aB,aC,aD,aH,aE,aR,aF,aQ),(aP,aO,aN,aM,aK,aJ,aI),aS) (dK ((aB,aC,aD,aH,aE,aR,aF,aQ),(aP,aO,aN,aM,aK,aJ,aI),aS) path).1 (eh (bE ((aB,aC,aD,aH,aE,aR,aF,aQ),(aP,aO,aN,aM,aK,aJ,aI),aS).1 (aW ((aB,aC,aD,aH,aE,aR,aF,aQ),(aP,aO,aN,aM,aK,aJ,aI),aS) (dK ((aB,aC,aD,aH,aE,aR,aF,aQ),(aP,aO,aN,aM,aK,aJ,aI),aS) path).1)).1 (lu (bE ((aB,aC,aD,aH,aE,aR,aF,aQ),(aP,aO,aN,aM,aK,aJ,aI),aS).1 (aW ((aB,aC,aD,aH,aE,aR,aF,aQ),(aP,aO,aN,aM,aK,aJ,aI),aS) (dK ((aB,aC,aD,aH,aE,aR,aF,aQ),(aP,aO,aN,aM,aK,aJ,aI),aS) path).1)).1 (dF path)).toNat)) (dK ((aB,aC,aD,aH,aE,aR,aF,aQ),(aP,aO,aN,aM,aK,aJ,aI),aS) qB).1 (qH (bE (bZ ((aB,aC,aD,aH,aE,aR,aF,aQ),(aP,aO,aN,aM,aK,aJ,aI),aS) (dK ((aB,aC,aD,aH,aE,aR,aF,aQ),(aP,aO,aN,aM,aK,aJ,aI),aS) path).1 (eh (bE ((aB,aC,aD,aH,aE,aR,aF,aQ),(aP,aO,aN,aM,aK,aJ,aI),aS).1 (aW ((aB,aC,aD,aH,aE,aR,aF,aQ),(aP,aO,aN,aM,aK,aJ,aI),aS) (dK ((aB,aC,aD,aH,aE,aR,aF,aQ),(aP,aO,aN,aM,aK,aJ,aI),aS) path).1)).1 (lu (bE ((aB,aC,aD,aH,aE,aR,aF,aQ),(aP,aO,aN,aM,aK,aJ,aI),aS).1 (aW ((aB,aC,aD,aH,aE,aR,aF,aQ),(aP,aO,aN,aM,aK,aJ,aI),aS) (dK ((aB,aC,aD,aH,aE,aR,aF,aQ),(aP,aO,aN,aM,aK,aJ,aI),aS) path).1)).1 (dF path)).toNat)).1 (aW (bZ ((aB,aC,aD,aH,aE,aR,aF,aQ),(aP,aO,aN,aM,aK,aJ,aI),aS) (dK ((aB,aC,aD,aH,aE,aR,aF,aQ),(aP,aO,aN,aM,aK,aJ,aI),aS) path).1 (eh (bE ((aB,aC,aD,aH,aE,aR,aF,aQ),(aP,aO,aN,aM,aK,aJ,aI),aS).1 (aW ((aB,aC,aD,aH,aE,aR,aF,aQ),(aP,aO,aN,aM,aK,aJ,aI),aS) (dK ((aB,aC,aD,aH,aE,aR,aF,aQ),(aP,aO,aN,aM,aK,aJ,aI),aS) path).1)).1 (lu (bE ((aB,aC,aD,aH,aE,aR,aF,aQ),(aP,aO,aN,aM,aK,aJ,aI),aS).1 (aW ((aB,aC,aD,aH,aE,aR,aF,aQ),(aP,aO,aN,aM,aK,aJ,aI),aS) (dK ((aB,aC,aD,aH,aE,aR,aF,aQ),(aP,aO,aN,aM,aK,aJ,aI),aS) path).1)).1 (dF path)).toNat)) (dK ((aB,aC,aD,aH,aE,aR,aF,aQ),(aP,aO,aN,aM,aK,aJ,aI),aS) qB).1)).1 (dF qB,bo ((aB,aC,aD,aH,aE,aR,aF,aQ),(aP,aO,aN,aM,aK,aJ,aI),aS) path)),0),0,fun n h=>((hwr _ h (h0 w6 w8)).sR (hto rl).2.1 (hto rl).2.2).1.mono (by omega),rfl,rfl,rfl⟩
 ·refine ⟨[1000790000,1000790001],[],_,_,_,rfl,rr,(bZ ((aB,aC,aD,aH,aE,aR,aF,aQ),(aP,aO,aN,aM,aK,aJ,aI),aS) (dK ((aB,aC,aD,aH,aE,aR,aF,aQ),(aP,aO,aN,aM,aK,aJ,aI),aS) qB).1 (qH (eh (bE ((aB,aC,aD,aH,aE,aR,aF,aQ),(aP,aO,aN,aM,aK,aJ,aI),aS).1 (aW ((aB,aC,aD,aH,aE,aR,aF,aQ),(aP,aO,aN,aM,aK,aJ,aI),aS) (dK ((aB,aC,aD,aH,aE,aR,aF,aQ),(aP,aO,aN,aM,aK,aJ,aI),aS) path).1)).1 (lu (bE ((aB,aC,aD,aH,aE,aR,aF,aQ),(aP,aO,aN,aM,aK,aJ,aI),aS).1 (aW ((aB,aC,aD,aH,aE,aR,aF,aQ),(aP,aO,aN,aM,aK,aJ,aI),aS) (dK ((aB,aC,aD,aH,aE,aR,aF,aQ),(aP,aO,aN,aM,aK,aJ,aI),aS) path).1)).1 (dF path)).toNat) (dF qB,bo ((aB,aC,aD,aH,aE,aR,aF,aQ),(aP,aO,aN,aM,aK,aJ,aI),aS) path)),0),0,fun n h=>(h.sR (hto rl).2.1 (hto rl).2.2).1.mono (by omega),rfl,rfl,rfl⟩
 ·refine ⟨[1000910000,1000910001],[],_,_,_,rfl,rr,(bZ (bZ ((aB,aC,aD,aH,aE,aR,aF,aQ),(aP,aO,aN,aM,aK,aJ,aI),aS) (dK ((aB,aC,aD,aH,aE,aR,aF,aQ),(aP,aO,aN,aM,aK,aJ,aI),aS) path).1 (eh (bE ((aB,aC,aD,aH,aE,aR,aF,aQ),(aP,aO,aN,aM,aK,aJ,aI),aS).1 (aW ((aB,aC,aD,aH,aE,aR,aF,aQ),(aP,aO,aN,aM,aK,aJ,aI),aS) (dK ((aB,aC,aD,aH,aE,aR,aF,aQ),(aP,aO,aN,aM,aK,aJ,aI),aS) path).1)).1 (lu (bE ((aB,aC,aD,aH,aE,aR,aF,aQ),(aP,aO,aN,aM,aK,aJ,aI),aS).1 (aW ((aB,aC,aD,aH,aE,aR,aF,aQ),(aP,aO,aN,aM,aK,aJ,aI),aS) (dK ((aB,aC,aD,aH,aE,aR,aF,aQ),(aP,aO,aN,aM,aK,aJ,aI),aS) path).1)).1 (dF path)).toNat)) (dK ((aB,aC,aD,aH,aE,aR,aF,aQ),(aP,aO,aN,aM,aK,aJ,aI),aS) qB).1 (qH (bE (bZ ((aB,aC,aD,aH,aE,aR,aF,aQ),(aP,aO,aN,aM,aK,aJ,aI),aS) (dK ((aB,aC,aD,aH,aE,aR,aF,aQ),(aP,aO,aN,aM,aK,aJ,aI),aS) path).1 (eh (bE ((aB,aC,aD,aH,aE,aR,aF,aQ),(aP,aO,aN,aM,aK,aJ,aI),aS).1 (aW ((aB,aC,aD,aH,aE,aR,aF,aQ),(aP,aO,aN,aM,aK,aJ,aI),aS) (dK ((aB,aC,aD,aH,aE,aR,aF,aQ),(aP,aO,aN,aM,aK,aJ,aI),aS) path).1)).1 (lu (bE ((aB,aC,aD,aH,aE,aR,aF,aQ),(aP,aO,aN,aM,aK,aJ,aI),aS).1 (aW ((aB,aC,aD,aH,aE,aR,aF,aQ),(aP,aO,aN,aM,aK,aJ,aI),aS) (dK ((aB,aC,aD,aH,aE,aR,aF,aQ),(aP,aO,aN,aM,aK,aJ,aI),aS) path).1)).1 (dF path)).toNat)).1 (aW (bZ ((aB,aC,aD,aH,aE,aR,aF,aQ),(aP,aO,aN,aM,aK,aJ,aI),aS) (dK ((aB,aC,aD,aH,aE,aR,aF,aQ),(aP,aO,aN,aM,aK,aJ,aI),aS) path).1 (eh (bE ((aB,aC,aD,aH,aE,aR,aF,aQ),(aP,aO,aN,aM,aK,aJ,aI),aS).1 (aW ((aB,aC,aD,aH,aE,aR,aF,aQ),(aP,aO,aN,aM,aK,aJ,aI),aS) (dK ((aB,aC,aD,aH,aE,aR,aF,aQ),(aP,aO,aN,aM,aK,aJ,aI),aS) path).1)).1 (lu (bE ((aB,aC,aD,aH,aE,aR,aF,aQ),(aP,aO,aN,aM,aK,aJ,aI),aS).1 (aW ((aB,aC,aD,aH,aE,aR,aF,aQ),(aP,aO,aN,aM,aK,aJ,aI),aS) (dK ((aB,aC,aD,aH,aE,aR,aF,aQ),(aP,aO,aN,aM,aK,aJ,aI),aS) path).1)).1 (dF path)).toNat)) (dK ((aB,aC,aD,aH,aE,aR,aF,aQ),(aP,aO,aN,aM,aK,aJ,aI),aS) qB).1)).1 (dF qB,bo ((aB,aC,aD,aH,aE,aR,aF,aQ),(aP,aO,aN,aM,aK,aJ,aI),aS) path)),0),0,fun n h=>((hwr _ h (h0 w6 w8)).sR (hto rl).2.1 (hto rl).2.2).1.mono (by omega),rfl,rfl,rfl⟩
end GL
namespace GL
def r7 (S:ax) (t:aZ) (o:Opr):Prop:=FS S t∧S.wg 1000000∧o.2.1.size≤1000∧o.2.2.1.size≤1000∧0≤o.2.2.2.1∧o.2.2.2.1≤192∧o.2.2.2.2.size≤1000
def aa7 (S:ax) (t:aZ) (o:Opr) (z:ax×aZ×Int):Prop:=FS z.1 z.2.1∧∀n,S.wg n→z.1.wg (n+300)
def aaX (S:ax) (t:aZ) (o:Opr) (z:ax×aZ×Int):AV:=.t [.a (lA 5 6 7 8 9 z.1),trA z.2.1, .s (.int z.2.2)]
def adi (S:ax) (t:aZ) (o:Opr) (z:ax×aZ×Int):List AV:=[.zz, .zz, .zz, .zz, .zz, .rs aa z.1.rows, .rs ae z.1.refs, .rs ae z.1.last, .rs ab z.1.gone, .rs ab z.1.dead]
def uc:Con where
 A:=[.a (stB 0 1 2 3 4), .a [.int, .int, .int, .int, .int, .int, .int], .a [.int, .str, .str, .int, .str]]
 B:=[.r aa, .r ae, .r ae, .r ab, .r ab]
 pre:=fun x b=>whole x.1.1 x.1.2.1 x.1.2.2.1 x.1.2.2.2.2.1 x.1.2.2.2.2.2.2.1 (b.1) (b.2.1) (b.2.2.1) (b.2.2.2.1) (b.2.2.2.2)∧r7 ((b.1,b.2.1,b.2.2.1,x.1.2.2.2.1,b.2.2.2.1,x.1.2.2.2.2.2.1,b.2.2.2.2,x.1.2.2.2.2.2.2.2)) (x.2.1) (x.2.2)
 α:=fun _ _=>ax×aZ×Int
 φ:=fun x b z=>aa7 ((b.1,b.2.1,b.2.2.1,x.1.2.2.2.1,b.2.2.2.1,x.1.2.2.2.2.2.1,b.2.2.2.2,x.1.2.2.2.2.2.2.2)) (x.2.1) (x.2.2) z
 r:=fun x b z=>aaX ((b.1,b.2.1,b.2.2.1,x.1.2.2.2.1,b.2.2.2.1,x.1.2.2.2.2.2.1,b.2.2.2.2,x.1.2.2.2.2.2.2.2)) (x.2.1) (x.2.2) z
 o:=fun x b z=>adi ((b.1,b.2.1,b.2.2.1,x.1.2.2.2.1,b.2.2.2.1,x.1.2.2.2.2.2.1,b.2.2.2.2,x.1.2.2.2.2.2.2.2)) (x.2.1) (x.2.2) z
 nf:=5
 mv:=true
set_option maxRecDepth 100000 in
theorem PI:Has Tryz.prog 42 uc:=by
 refine Has.ofZ (fun _=>true) (fun _=>false) (fun _=>false) (l:=[(54,jv),(65,tZ),(69,qm),(66,ub),(67,ua),(68,tY)]) ⟨IG,PF,IH,PH,PG,PE,trivial⟩ (fn:=Tryz.f42) Tryz.func42 rfl (by decide) (cH rfl) ?_
 rintro ⟨⟨(AS:Nat),(AR:Nat),(AQ:Nat),(an:Int),(AO:Nat),(ao:Int),(AN:Nat),(aq:Bool)⟩,⟨(t1:Int),(t2:Int),(t3:Int),(t4:Int),(t5:Int),(t6:Int),(t7:Int)⟩,⟨(o1:Int),(o2:ByteArray),(o3:ByteArray),(o4:Int),(o5:ByteArray)⟩⟩ ⟨(ai:List ByteArray),(aj:List Int),(ak:List Int),(ag:List Pt),(ah:List Pt)⟩ ⟨⟨(gr:AS=List.length ai),(gq:AR=List.length aj),(gp:AQ=List.length ak),(gn:AO=List.length ag),(gm:AN=List.length ah)⟩,(hp:r7 (ai,aj,ak,an,ag,ao,ah,aq) (t1,t2,t3,t4,t5,t6,t7) (o1,o2,o3,o4,o5))⟩
 subst gr gq gp gn gm
 show vc _ _ _ _ (entry [.a [.xs 0 1 0 ai.length, .xs 1 1 0 aj.length, .xs 2 1 0 ak.length, .int an, .xs 3 5 0 ag.length, .int ao, .xs 4 5 0 ah.length, .q aq], .a [.int t1, .int t2, .int t3, .int t4, .int t5, .int t6, .int t7], .a [.int o1, .str o2, .str o3, .int o4, .str o5]] [.rs aa ai, .rs ae aj, .rs ae ak, .rs ab ag, .rs ab ah]) _
 obtain ⟨uK,ll,hs1,hs2,ha0,ha1,htx⟩:=hp
 have uK:FS (ai,aj,ak,an,ag,ao,ah,aq) (t1,t2,t3,t4,t5,t6,t7):=uK
 have ll:ax.wg (ai,aj,ak,an,ag,ao,ah,aq) 1000000:=ll
 have hsm:ax.small (ai,aj,ak,an,ag,ao,ah,aq):=⟨by have:=ll.wf.n.1;omega,by have:=ll.wf.n.2.1;omega,by have:=ll.wf.n.2.2;omega,ll.g,ll.d⟩
 have hF:cT ((ai,aj,ak,an,ag,ao,ah,aq),(t1,t2,t3,t4,t5,t6,t7),false) 1000000:=⟨ll,uK.fi.tree.ok,fun _=>uK⟩
 have vE:∀x:fj×Int,(∀n,cT ((ai,aj,ak,an,ag,ao,ah,aq),(t1,t2,t3,t4,t5,t6,t7),false) n→cT x.1 (n+300))→(x.1.2.2=false→FS x.1.1 x.1.2.1)∧∀n,ax.wg (ai,aj,ak,an,ag,ao,ah,aq) n→x.1.1.wg (n+300):=fun x h=>⟨(h _ hF).fs,fun n hn=>(h n ⟨hn,hF.ok,fun _=>uK⟩).wg⟩
 refine ⟨[.s 3, .b 1003],[.s 11],rfl,[.s 11, .b 0, .b 1, .b 2, .b 3, .b 4, .b 130004, .b 130003, .b 130002, .b 130001, .b 130000],[.s 12, .b 130000, .b 130001, .b 130002, .b 130003, .b 130004],rfl,⟨⟨⟨⟨?_,?_⟩,⟨?_,?_⟩,⟨?_,?_⟩,tv,⟨?_,?_⟩,tv,⟨?_,?_⟩,tv,tv⟩,tv⟩,?_,?_,?_,?_,?_⟩,?_,fun x1 w2=>⟨[.s 4, .b 1004],[.s 13],rfl,[.s 12, .s 13],[.s 14],rfl,[.s 14, .b 1015],[.s 15, .b 1015],rfl,[.s 15],[.s 9],rfl,fun w3=>⟨⟨⟨tv,tv,tv,tv⟩,⟨?_,?_,?_,?_,?_⟩,?_,?_,?_⟩,fun x4 w5=>⟨tv,fun w6=>⟨fun w7=>⟨fun w8=>⟨[.s 3, .b 1003],[.s 65],rfl,[.s 4, .b 1004],[.s 66],rfl,[.s 10],[.s 67],rfl,[.s 6, .s 65, .b 1006],[.b 1006],rfl,[.s 7, .s 66, .b 1007],[.b 1007],rfl,[.s 67],[.s 8],rfl,?_⟩,fun w9=>⟨[.s 9],[.s 68],rfl,[.s 68],[.s 69],rfl,[.s 69],[.s 70],rfl,[.s 70, .b 1015],[.s 71],rfl,[.s 9],[.s 72],rfl,[.s 72],[.s 73],rfl,[.s 73],[.s 74],rfl,[.s 74, .b 1015],[.s 75],rfl,[.s 10],[.s 76],rfl,[.s 6, .s 71, .b 1006],[.b 1006],rfl,[.s 7, .s 75, .b 1007],[.b 1007],rfl,[.s 76],[.s 8],rfl,?_⟩⟩,fun df=>⟨fun ka=>⟨[.s 3, .b 1003],[.s 65],rfl,[.s 4, .b 1004],[.s 66],rfl,[.s 10],[.s 67],rfl,[.s 6, .s 65, .b 1006],[.b 1006],rfl,[.s 7, .s 66, .b 1007],[.b 1007],rfl,[.s 67],[.s 8],rfl,?_⟩,fun dC=>⟨[.s 9],[.s 68],rfl,[.s 68],[.s 69],rfl,[.s 69],[.s 70],rfl,[.s 70, .b 1015],[.s 71],rfl,[.s 9],[.s 72],rfl,[.s 72],[.s 73],rfl,[.s 73],[.s 74],rfl,[.s 74, .b 1015],[.s 75],rfl,[.s 10],[.s 76],rfl,[.s 6, .s 71, .b 1006],[.b 1006],rfl,[.s 7, .s 75, .b 1007],[.b 1007],rfl,[.s 76],[.s 8],rfl,?_⟩⟩⟩,fun iA=>⟨fun gx=>⟨[.s 3, .b 1003],[.s 65],rfl,[.s 4, .b 1004],[.s 66],rfl,[.s 10],[.s 67],rfl,[.s 6, .s 65, .b 1006],[.b 1006],rfl,[.s 7, .s 66, .b 1007],[.b 1007],rfl,[.s 67],[.s 8],rfl,?_⟩,fun oU=>⟨[.s 9],[.s 68],rfl,[.s 68],[.s 69],rfl,[.s 69],[.s 70],rfl,[.s 70, .b 1015],[.s 71],rfl,[.s 9],[.s 72],rfl,[.s 72],[.s 73],rfl,[.s 73],[.s 74],rfl,[.s 74, .b 1015],[.s 75],rfl,[.s 10],[.s 76],rfl,[.s 6, .s 71, .b 1006],[.b 1006],rfl,[.s 7, .s 75, .b 1007],[.b 1007],rfl,[.s 76],[.s 8],rfl,?_⟩⟩⟩⟩,fun j9=>⟨fun wu=>⟨⟨⟨tv,tv,tv,tv⟩,⟨?_,?_,?_,?_,?_⟩,?_,?_,?_⟩,fun qy ot=>⟨tv,fun um=>⟨fun zg=>⟨fun zf=>⟨[.s 3, .b 1003],[.s 65],rfl,[.s 4, .b 1004],[.s 66],rfl,[.s 10],[.s 67],rfl,[.s 6, .s 65, .b 1006],[.b 1006],rfl,[.s 7, .s 66, .b 1007],[.b 1007],rfl,[.s 67],[.s 8],rfl,?_⟩,fun xv=>⟨[.s 9],[.s 68],rfl,[.s 68],[.s 69],rfl,[.s 69],[.s 70],rfl,[.s 70, .b 1015],[.s 71],rfl,[.s 9],[.s 72],rfl,[.s 72],[.s 73],rfl,[.s 73],[.s 74],rfl,[.s 74, .b 1015],[.s 75],rfl,[.s 10],[.s 76],rfl,[.s 6, .s 71, .b 1006],[.b 1006],rfl,[.s 7, .s 75, .b 1007],[.b 1007],rfl,[.s 76],[.s 8],rfl,?_⟩⟩,fun rl=>⟨fun w25=>⟨[.s 3, .b 1003],[.s 65],rfl,[.s 4, .b 1004],[.s 66],rfl,[.s 10],[.s 67],rfl,[.s 6, .s 65, .b 1006],[.b 1006],rfl,[.s 7, .s 66, .b 1007],[.b 1007],rfl,[.s 67],[.s 8],rfl,?_⟩,fun EL=>⟨[.s 9],[.s 68],rfl,[.s 68],[.s 69],rfl,[.s 69],[.s 70],rfl,[.s 70, .b 1015],[.s 71],rfl,[.s 9],[.s 72],rfl,[.s 72],[.s 73],rfl,[.s 73],[.s 74],rfl,[.s 74, .b 1015],[.s 75],rfl,[.s 10],[.s 76],rfl,[.s 6, .s 71, .b 1006],[.b 1006],rfl,[.s 7, .s 75, .b 1007],[.b 1007],rfl,[.s 76],[.s 8],rfl,?_⟩⟩⟩,fun w27=>⟨fun w28=>⟨[.s 3, .b 1003],[.s 65],rfl,[.s 4, .b 1004],[.s 66],rfl,[.s 10],[.s 67],rfl,[.s 6, .s 65, .b 1006],[.b 1006],rfl,[.s 7, .s 66, .b 1007],[.b 1007],rfl,[.s 67],[.s 8],rfl,?_⟩,fun w29=>⟨[.s 9],[.s 68],rfl,[.s 68],[.s 69],rfl,[.s 69],[.s 70],rfl,[.s 70, .b 1015],[.s 71],rfl,[.s 9],[.s 72],rfl,[.s 72],[.s 73],rfl,[.s 73],[.s 74],rfl,[.s 74, .b 1015],[.s 75],rfl,[.s 10],[.s 76],rfl,[.s 6, .s 71, .b 1006],[.b 1006],rfl,[.s 7, .s 75, .b 1007],[.b 1007],rfl,[.s 76],[.s 8],rfl,?_⟩⟩⟩⟩,fun w30=>⟨fun w31=>⟨⟨⟨tv,tv,tv⟩,⟨?_,?_,?_,?_,?_⟩,?_,?_,?_⟩,fun x32 w33=>⟨tv,fun w34=>⟨fun w35=>⟨fun w36=>⟨[.s 3, .b 1003],[.s 65],rfl,[.s 4, .b 1004],[.s 66],rfl,[.s 10],[.s 67],rfl,[.s 6, .s 65, .b 1006],[.b 1006],rfl,[.s 7, .s 66, .b 1007],[.b 1007],rfl,[.s 67],[.s 8],rfl,?_⟩,fun w37=>⟨[.s 9],[.s 68],rfl,[.s 68],[.s 69],rfl,[.s 69],[.s 70],rfl,[.s 70, .b 1015],[.s 71],rfl,[.s 9],[.s 72],rfl,[.s 72],[.s 73],rfl,[.s 73],[.s 74],rfl,[.s 74, .b 1015],[.s 75],rfl,[.s 10],[.s 76],rfl,[.s 6, .s 71, .b 1006],[.b 1006],rfl,[.s 7, .s 75, .b 1007],[.b 1007],rfl,[.s 76],[.s 8],rfl,?_⟩⟩,fun w38=>⟨fun w39=>⟨[.s 3, .b 1003],[.s 65],rfl,[.s 4, .b 1004],[.s 66],rfl,[.s 10],[.s 67],rfl,[.s 6, .s 65, .b 1006],[.b 1006],rfl,[.s 7, .s 66, .b 1007],[.b 1007],rfl,[.s 67],[.s 8],rfl,?_⟩,fun w40=>⟨[.s 9],[.s 68],rfl,[.s 68],[.s 69],rfl,[.s 69],[.s 70],rfl,[.s 70, .b 1015],[.s 71],rfl,[.s 9],[.s 72],rfl,[.s 72],[.s 73],rfl,[.s 73],[.s 74],rfl,[.s 74, .b 1015],[.s 75],rfl,[.s 10],[.s 76],rfl,[.s 6, .s 71, .b 1006],[.b 1006],rfl,[.s 7, .s 75, .b 1007],[.b 1007],rfl,[.s 76],[.s 8],rfl,?_⟩⟩⟩,fun w41=>⟨fun w42=>⟨[.s 3, .b 1003],[.s 65],rfl,[.s 4, .b 1004],[.s 66],rfl,[.s 10],[.s 67],rfl,[.s 6, .s 65, .b 1006],[.b 1006],rfl,[.s 7, .s 66, .b 1007],[.b 1007],rfl,[.s 67],[.s 8],rfl,?_⟩,fun w43=>⟨[.s 9],[.s 68],rfl,[.s 68],[.s 69],rfl,[.s 69],[.s 70],rfl,[.s 70, .b 1015],[.s 71],rfl,[.s 9],[.s 72],rfl,[.s 72],[.s 73],rfl,[.s 73],[.s 74],rfl,[.s 74, .b 1015],[.s 75],rfl,[.s 10],[.s 76],rfl,[.s 6, .s 71, .b 1006],[.b 1006],rfl,[.s 7, .s 75, .b 1007],[.b 1007],rfl,[.s 76],[.s 8],rfl,?_⟩⟩⟩⟩,fun w44=>⟨fun w45=>⟨⟨⟨tv,tv,tv,tv⟩,⟨?_,?_,?_,?_,?_⟩,?_,?_,?_,?_⟩,fun x46 w47=>⟨tv,fun w48=>⟨fun w49=>⟨fun w50=>⟨[.s 3, .b 1003],[.s 65],rfl,[.s 4, .b 1004],[.s 66],rfl,[.s 10],[.s 67],rfl,[.s 6, .s 65, .b 1006],[.b 1006],rfl,[.s 7, .s 66, .b 1007],[.b 1007],rfl,[.s 67],[.s 8],rfl,?_⟩,fun w51=>⟨[.s 9],[.s 68],rfl,[.s 68],[.s 69],rfl,[.s 69],[.s 70],rfl,[.s 70, .b 1015],[.s 71],rfl,[.s 9],[.s 72],rfl,[.s 72],[.s 73],rfl,[.s 73],[.s 74],rfl,[.s 74, .b 1015],[.s 75],rfl,[.s 10],[.s 76],rfl,[.s 6, .s 71, .b 1006],[.b 1006],rfl,[.s 7, .s 75, .b 1007],[.b 1007],rfl,[.s 76],[.s 8],rfl,?_⟩⟩,fun w52=>⟨fun w53=>⟨[.s 3, .b 1003],[.s 65],rfl,[.s 4, .b 1004],[.s 66],rfl,[.s 10],[.s 67],rfl,[.s 6, .s 65, .b 1006],[.b 1006],rfl,[.s 7, .s 66, .b 1007],[.b 1007],rfl,[.s 67],[.s 8],rfl,?_⟩,fun w54=>⟨[.s 9],[.s 68],rfl,[.s 68],[.s 69],rfl,[.s 69],[.s 70],rfl,[.s 70, .b 1015],[.s 71],rfl,[.s 9],[.s 72],rfl,[.s 72],[.s 73],rfl,[.s 73],[.s 74],rfl,[.s 74, .b 1015],[.s 75],rfl,[.s 10],[.s 76],rfl,[.s 6, .s 71, .b 1006],[.b 1006],rfl,[.s 7, .s 75, .b 1007],[.b 1007],rfl,[.s 76],[.s 8],rfl,?_⟩⟩⟩,fun w55=>⟨fun w56=>⟨[.s 3, .b 1003],[.s 65],rfl,[.s 4, .b 1004],[.s 66],rfl,[.s 10],[.s 67],rfl,[.s 6, .s 65, .b 1006],[.b 1006],rfl,[.s 7, .s 66, .b 1007],[.b 1007],rfl,[.s 67],[.s 8],rfl,?_⟩,fun w57=>⟨[.s 9],[.s 68],rfl,[.s 68],[.s 69],rfl,[.s 69],[.s 70],rfl,[.s 70, .b 1015],[.s 71],rfl,[.s 9],[.s 72],rfl,[.s 72],[.s 73],rfl,[.s 73],[.s 74],rfl,[.s 74, .b 1015],[.s 75],rfl,[.s 10],[.s 76],rfl,[.s 6, .s 71, .b 1006],[.b 1006],rfl,[.s 7, .s 75, .b 1007],[.b 1007],rfl,[.s 76],[.s 8],rfl,?_⟩⟩⟩⟩,fun w58=>⟨fun w59=>⟨⟨⟨tv,tv,tv,tv⟩,⟨?_,?_,?_,?_,?_⟩,?_,?_,?_,?_⟩,fun x60 w61=>⟨tv,fun w62=>⟨fun w63=>⟨fun w64=>⟨[.s 3, .b 1003],[.s 65],rfl,[.s 4, .b 1004],[.s 66],rfl,[.s 10],[.s 67],rfl,[.s 6, .s 65, .b 1006],[.b 1006],rfl,[.s 7, .s 66, .b 1007],[.b 1007],rfl,[.s 67],[.s 8],rfl,?_⟩,fun w65=>⟨[.s 9],[.s 68],rfl,[.s 68],[.s 69],rfl,[.s 69],[.s 70],rfl,[.s 70, .b 1015],[.s 71],rfl,[.s 9],[.s 72],rfl,[.s 72],[.s 73],rfl,[.s 73],[.s 74],rfl,[.s 74, .b 1015],[.s 75],rfl,[.s 10],[.s 76],rfl,[.s 6, .s 71, .b 1006],[.b 1006],rfl,[.s 7, .s 75, .b 1007],[.b 1007],rfl,[.s 76],[.s 8],rfl,?_⟩⟩,fun w66=>⟨fun w67=>⟨[.s 3, .b 1003],[.s 65],rfl,[.s 4, .b 1004],[.s 66],rfl,[.s 10],[.s 67],rfl,[.s 6, .s 65, .b 1006],[.b 1006],rfl,[.s 7, .s 66, .b 1007],[.b 1007],rfl,[.s 67],[.s 8],rfl,?_⟩,fun w68=>⟨[.s 9],[.s 68],rfl,[.s 68],[.s 69],rfl,[.s 69],[.s 70],rfl,[.s 70, .b 1015],[.s 71],rfl,[.s 9],[.s 72],rfl,[.s 72],[.s 73],rfl,[.s 73],[.s 74],rfl,[.s 74, .b 1015],[.s 75],rfl,[.s 10],[.s 76],rfl,[.s 6, .s 71, .b 1006],[.b 1006],rfl,[.s 7, .s 75, .b 1007],[.b 1007],rfl,[.s 76],[.s 8],rfl,?_⟩⟩⟩,fun w69=>⟨fun w70=>⟨[.s 3, .b 1003],[.s 65],rfl,[.s 4, .b 1004],[.s 66],rfl,[.s 10],[.s 67],rfl,[.s 6, .s 65, .b 1006],[.b 1006],rfl,[.s 7, .s 66, .b 1007],[.b 1007],rfl,[.s 67],[.s 8],rfl,?_⟩,fun w71=>⟨[.s 9],[.s 68],rfl,[.s 68],[.s 69],rfl,[.s 69],[.s 70],rfl,[.s 70, .b 1015],[.s 71],rfl,[.s 9],[.s 72],rfl,[.s 72],[.s 73],rfl,[.s 73],[.s 74],rfl,[.s 74, .b 1015],[.s 75],rfl,[.s 10],[.s 76],rfl,[.s 6, .s 71, .b 1006],[.b 1006],rfl,[.s 7, .s 75, .b 1007],[.b 1007],rfl,[.s 76],[.s 8],rfl,?_⟩⟩⟩⟩,fun w72=>⟨⟨⟨tv,⟨tv,tv,tv,tv,tv,tv⟩,tv⟩,⟨?_,?_,?_,?_,?_⟩,?_,?_,?_,?_,?_,?_⟩,fun x73 w74=>⟨tv,fun w75=>⟨fun w76=>⟨fun w77=>⟨[.s 3, .b 1003],[.s 65],rfl,[.s 4, .b 1004],[.s 66],rfl,[.s 10],[.s 67],rfl,[.s 6, .s 65, .b 1006],[.b 1006],rfl,[.s 7, .s 66, .b 1007],[.b 1007],rfl,[.s 67],[.s 8],rfl,?_⟩,fun w78=>⟨[.s 9],[.s 68],rfl,[.s 68],[.s 69],rfl,[.s 69],[.s 70],rfl,[.s 70, .b 1015],[.s 71],rfl,[.s 9],[.s 72],rfl,[.s 72],[.s 73],rfl,[.s 73],[.s 74],rfl,[.s 74, .b 1015],[.s 75],rfl,[.s 10],[.s 76],rfl,[.s 6, .s 71, .b 1006],[.b 1006],rfl,[.s 7, .s 75, .b 1007],[.b 1007],rfl,[.s 76],[.s 8],rfl,?_⟩⟩,fun w79=>⟨fun w80=>⟨[.s 3, .b 1003],[.s 65],rfl,[.s 4, .b 1004],[.s 66],rfl,[.s 10],[.s 67],rfl,[.s 6, .s 65, .b 1006],[.b 1006],rfl,[.s 7, .s 66, .b 1007],[.b 1007],rfl,[.s 67],[.s 8],rfl,?_⟩,fun w81=>⟨[.s 9],[.s 68],rfl,[.s 68],[.s 69],rfl,[.s 69],[.s 70],rfl,[.s 70, .b 1015],[.s 71],rfl,[.s 9],[.s 72],rfl,[.s 72],[.s 73],rfl,[.s 73],[.s 74],rfl,[.s 74, .b 1015],[.s 75],rfl,[.s 10],[.s 76],rfl,[.s 6, .s 71, .b 1006],[.b 1006],rfl,[.s 7, .s 75, .b 1007],[.b 1007],rfl,[.s 76],[.s 8],rfl,?_⟩⟩⟩,fun w82=>⟨fun w83=>⟨[.s 3, .b 1003],[.s 65],rfl,[.s 4, .b 1004],[.s 66],rfl,[.s 10],[.s 67],rfl,[.s 6, .s 65, .b 1006],[.b 1006],rfl,[.s 7, .s 66, .b 1007],[.b 1007],rfl,[.s 67],[.s 8],rfl,?_⟩,fun w84=>⟨[.s 9],[.s 68],rfl,[.s 68],[.s 69],rfl,[.s 69],[.s 70],rfl,[.s 70, .b 1015],[.s 71],rfl,[.s 9],[.s 72],rfl,[.s 72],[.s 73],rfl,[.s 73],[.s 74],rfl,[.s 74, .b 1015],[.s 75],rfl,[.s 10],[.s 76],rfl,[.s 6, .s 71, .b 1006],[.b 1006],rfl,[.s 7, .s 75, .b 1007],[.b 1007],rfl,[.s 76],[.s 8],rfl,?_⟩⟩⟩⟩⟩⟩⟩⟩⟩⟩
 all_goals first|refine au ?_|refine aw ?_|exact sa|(dsimp only [jv,pN];omega)|(dsimp only [tZ,pP];omega)|(dsimp only [qm,mK];omega)|(dsimp only [ub,pR];omega)|(dsimp only [ua,pQ];omega)|(dsimp only [tY,pO];omega)|exact sb|exact hsm|exact hF|exact ⟨hF,rfl,hs1⟩|exact ⟨hF,rfl,hs1,hs2⟩|exact hs1|exact hs2|exact hsm.1|exact hsm.2.1|exact hsm.2.2.1|exact hsm.2.2.2.1|exact hsm.2.2.2.2|exact ha0|exact ha1|exact htx|skip
 ·refine ⟨[0,1,2,3,4],[],_,_,_,rfl,rr,((ai,aj,ak,an,ag,ao,ah,aq),(t1,t2,t3,t4,t5,t6,t7),7),0,⟨uK,fun n h=>h.mono (by omega)⟩,rfl,rfl,rfl⟩
 ·exact absurd (show true=false from w9) Bool.noConfusion
 ·refine ⟨[0,1,2,3,4],[],_,_,_,rfl,rr,((ai,aj,ak,an,ag,ao,ah,aq),(t1,t2,t3,t4,t5,t6,t7),x4.2),0,⟨uK,fun n h=>h.mono (by omega)⟩,rfl,rfl,rfl⟩
 ·refine ⟨[130000,130001,130002,1000270000,1000270001],[0,1,2,3,4],_,_,_,rfl,rr,(x4.1.1,x4.1.2.1,x4.2),0,⟨(vE x4 w5).1 df,(vE x4 w5).2⟩,rfl,rfl,rfl⟩
 ·refine ⟨[0,1,2,3,4],[],_,_,_,rfl,rr,((ai,aj,ak,an,ag,ao,ah,aq),(t1,t2,t3,t4,t5,t6,t7),x4.2),0,⟨uK,fun n h=>h.mono (by omega)⟩,rfl,rfl,rfl⟩
 ·exact absurd (ca iA) (ca oU)
 ·refine ⟨[0,1,2,3,4],[],_,_,_,rfl,rr,((ai,aj,ak,an,ag,ao,ah,aq),(t1,t2,t3,t4,t5,t6,t7),7),0,⟨uK,fun n h=>h.mono (by omega)⟩,rfl,rfl,rfl⟩
 ·exact absurd (show true=false from xv) Bool.noConfusion
 ·refine ⟨[0,1,2,3,4],[],_,_,_,rfl,rr,((ai,aj,ak,an,ag,ao,ah,aq),(t1,t2,t3,t4,t5,t6,t7),qy.2),0,⟨uK,fun n h=>h.mono (by omega)⟩,rfl,rfl,rfl⟩
 ·refine ⟨[130000,130001,130002,1000330000,1000330001],[0,1,2,3,4],_,_,_,rfl,rr,(qy.1.1,qy.1.2.1,qy.2),0,⟨(vE qy ot).1 rl,(vE qy ot).2⟩,rfl,rfl,rfl⟩
 ·refine ⟨[0,1,2,3,4],[],_,_,_,rfl,rr,((ai,aj,ak,an,ag,ao,ah,aq),(t1,t2,t3,t4,t5,t6,t7),qy.2),0,⟨uK,fun n h=>h.mono (by omega)⟩,rfl,rfl,rfl⟩
 ·exact absurd (ca w27) (ca w29)
 ·refine ⟨[0,1,2,3,4],[],_,_,_,rfl,rr,((ai,aj,ak,an,ag,ao,ah,aq),(t1,t2,t3,t4,t5,t6,t7),7),0,⟨uK,fun n h=>h.mono (by omega)⟩,rfl,rfl,rfl⟩
 ·exact absurd (show true=false from w37) Bool.noConfusion
 ·refine ⟨[0,1,2,3,4],[],_,_,_,rfl,rr,((ai,aj,ak,an,ag,ao,ah,aq),(t1,t2,t3,t4,t5,t6,t7),x32.2),0,⟨uK,fun n h=>h.mono (by omega)⟩,rfl,rfl,rfl⟩
 ·refine ⟨[130000,130001,130002,1000390000,1000390001],[0,1,2,3,4],_,_,_,rfl,rr,(x32.1.1,x32.1.2.1,x32.2),0,⟨(vE x32 w33).1 w38,(vE x32 w33).2⟩,rfl,rfl,rfl⟩
 ·refine ⟨[0,1,2,3,4],[],_,_,_,rfl,rr,((ai,aj,ak,an,ag,ao,ah,aq),(t1,t2,t3,t4,t5,t6,t7),x32.2),0,⟨uK,fun n h=>h.mono (by omega)⟩,rfl,rfl,rfl⟩
 ·exact absurd (ca w41) (ca w43)
 ·refine ⟨[0,1,2,3,4],[],_,_,_,rfl,rr,((ai,aj,ak,an,ag,ao,ah,aq),(t1,t2,t3,t4,t5,t6,t7),7),0,⟨uK,fun n h=>h.mono (by omega)⟩,rfl,rfl,rfl⟩
 ·exact absurd (show true=false from w51) Bool.noConfusion
 ·refine ⟨[0,1,2,3,4],[],_,_,_,rfl,rr,((ai,aj,ak,an,ag,ao,ah,aq),(t1,t2,t3,t4,t5,t6,t7),x46.2),0,⟨uK,fun n h=>h.mono (by omega)⟩,rfl,rfl,rfl⟩
 ·refine ⟨[130000,130001,130002,1000470000,1000470001],[0,1,2,3,4],_,_,_,rfl,rr,(x46.1.1,x46.1.2.1,x46.2),0,⟨(vE x46 w47).1 w52,(vE x46 w47).2⟩,rfl,rfl,rfl⟩
 ·refine ⟨[0,1,2,3,4],[],_,_,_,rfl,rr,((ai,aj,ak,an,ag,ao,ah,aq),(t1,t2,t3,t4,t5,t6,t7),x46.2),0,⟨uK,fun n h=>h.mono (by omega)⟩,rfl,rfl,rfl⟩
 ·exact absurd (ca w55) (ca w57)
 ·refine ⟨[0,1,2,3,4],[],_,_,_,rfl,rr,((ai,aj,ak,an,ag,ao,ah,aq),(t1,t2,t3,t4,t5,t6,t7),7),0,⟨uK,fun n h=>h.mono (by omega)⟩,rfl,rfl,rfl⟩
 ·exact absurd (show true=false from w65) Bool.noConfusion
 ·refine ⟨[0,1,2,3,4],[],_,_,_,rfl,rr,((ai,aj,ak,an,ag,ao,ah,aq),(t1,t2,t3,t4,t5,t6,t7),x60.2),0,⟨uK,fun n h=>h.mono (by omega)⟩,rfl,rfl,rfl⟩
 ·refine ⟨[130000,130001,130002,1000550000,1000550001],[0,1,2,3,4],_,_,_,rfl,rr,(x60.1.1,x60.1.2.1,x60.2),0,⟨(vE x60 w61).1 w66,(vE x60 w61).2⟩,rfl,rfl,rfl⟩
 ·refine ⟨[0,1,2,3,4],[],_,_,_,rfl,rr,((ai,aj,ak,an,ag,ao,ah,aq),(t1,t2,t3,t4,t5,t6,t7),x60.2),0,⟨uK,fun n h=>h.mono (by omega)⟩,rfl,rfl,rfl⟩
 ·exact absurd (ca w69) (ca w71)
 ·refine ⟨[0,1,2,3,4],[],_,_,_,rfl,rr,((ai,aj,ak,an,ag,ao,ah,aq),(t1,t2,t3,t4,t5,t6,t7),7),0,⟨uK,fun n h=>h.mono (by omega)⟩,rfl,rfl,rfl⟩
 ·exact absurd (show true=false from w78) Bool.noConfusion
 ·refine ⟨[0,1,2,3,4],[],_,_,_,rfl,rr,((ai,aj,ak,an,ag,ao,ah,aq),(t1,t2,t3,t4,t5,t6,t7),x73.2),0,⟨uK,fun n h=>h.mono (by omega)⟩,rfl,rfl,rfl⟩
 ·refine ⟨[130000,130001,130002,1000210000,1000210001],[0,1,2,3,4],_,_,_,rfl,rr,(x73.1.1,x73.1.2.1,x73.2),0,⟨(vE x73 w74).1 w79,(vE x73 w74).2⟩,rfl,rfl,rfl⟩
 ·refine ⟨[0,1,2,3,4],[],_,_,_,rfl,rr,((ai,aj,ak,an,ag,ao,ah,aq),(t1,t2,t3,t4,t5,t6,t7),x73.2),0,⟨uK,fun n h=>h.mono (by omega)⟩,rfl,rfl,rfl⟩
 ·exact absurd (ca w82) (ca w84)
end GL
namespace GL
def Kept (O:Nat→Nat) (s u:ax):Prop:=Acc u O∧Kp O s u∧dJ s u
theorem Kept.refl {O:Nat→Nat} {s:ax} (h:Acc s O):Kept O s s:=⟨h,Kp.refl _ _,dJ.refl _⟩
theorem Kept.trans {O:Nat→Nat} {a b c:ax} (h:Kept O a b) (h2:Kept O b c):Kept O a c:=⟨h2.1,h.2.1.trans h2.2.1,h.2.2.trans h2.2.2⟩
theorem DI {s:ax} {O:Nat→Nat} (h:Acc s O) (text:ByteArray) (lv:Int):Kept O s (a6 s text lv).1:=by
 cases hz:(a6 s text lv).2.2 with
 |true=>
  have e:=xL h hz
  exact ⟨e.1.mono fun r=>Nat.le_add_right _ _,e.2.1,e.2.2.1⟩
 |false=>
  rcases jC s text lv with ⟨_,e⟩ |⟨k,e,_⟩
  ·rw [e];exact .refl h
  ·rw [e] at hz;cases hz
theorem acf {s:ax} {O:Nat→Nat} (h:Acc s O) (l:List Pt) (lv:Int) (old:Pt):Kept O s (dT s l lv old).1:=by
 cases h1:nV l with
 |true=>rw [JF h1];exact .refl h
 |false=>
  cases h2:fw s l old with
  |true=>rw [JE h1 h2];exact .refl h
  |false=>rw [tQ h1 h2];exact DI h _ _
theorem JB {O:Nat→Nat} {lv:Int} {j4 l:List Pt}:∀(f:Nat) {s:ax} (i:Nat) (next stays:List Pt),Acc s O→Kept O s (fB f s lv j4 l i next stays).1
 |0,s,i,next,stays,h=>.refl h
 |f+1,s,i,next,stays,h=>by
  unfold fB
  cases decide ((i:Int) * 4 < l.length) with
  |false=>exact .refl h
  |true=>
   have h1:=acf h (qC l i) lv (nth ab j4 i)
   cases hz: !(dT s (qC l i) lv (nth ab j4 i)).2.2 with
   |true=>exact h1
   |false=>exact h1.trans (JB f _ _ _ h1.1)
theorem MA {O:Nat→Nat} {t:aZ} {d:Int}:∀(f:Nat) {s:ax} (lv:Int) (l stays:List Pt),Acc s O→Kept O s (mm f s t d lv l stays).1
 |0,s,lv,l,stays,h=>.refl h
 |f+1,s,lv,l,stays,h=>by
  unfold mm
  cases decide (lv≤d) with
  |false=>exact .refl h
  |true=>
   have h1:=JB (lv:=lv) (j4:=dG s t d lv) (l:=eF l) 5 0 [] stays h
   rw [cond_true]
   cases hz:fB 5 s lv (dG s t d lv) (eF l) 0 [] stays with
   |mk u r=>
    rw [hz] at h1
    cases r with
    |none=>exact h1
    |some q=>exact h1.trans (MA f _ _ _ h1.1)
theorem XB {s:ax} {O:Nat→Nat} {t:aZ} {L:List Pt} {many:Int} (h:Acc s O) (hz:(bK s t L many).2.2=false):Kept O s (bK s t L many).1:=by
 have h1:=MA (t:=t) (d:=bb many) 3 1 (L.take many.toNat) [] h
 unfold bK at hz ⊢
 cases hf:mm 3 s t (bb many) 1 (L.take many.toNat) [] with
 |mk u r=>
  rw [hf] at h1 hz
  cases r with
  |none=>exact h1
  |some q=>cases hz
theorem BP {s:ax} {O:Nat→Nat} {t:aZ} {L:List Pt} {k:Nat} {p old:Pt} {many:Int} (h:Acc s O) (hz:(pI s t L k p many old).2.2=false):Kept O s (pI s t L k p many old).1:=by
 unfold pI at hz ⊢
 cases h1:(bK s t (L.set k p) many).2.2 with
 |true=>rw [h1] at hz;cases hz
 |false=>exact XB h h1
theorem aa1 {s:ax} {O:Nat→Nat} {t:aZ} {k:Int} {text:ByteArray} (h:Acc s O) (hz:(aU s t k text).2.2=false):Kept O s (aU s t k text).1:=by
 unfold aU at hz ⊢
 cases h1:decide (gN s t k=text)&&decide (bH t k=t.many) with
 |true=>exact .refl h
 |false=>
  rw [h1,cond_false] at hz
  rw [cond_false]
  cases h2:decide (gN s t k≠text) with
  |false=>
   rw [h2,cond_false] at hz
   exact BP h hz
  |true=>
   rw [h2,cond_true] at hz
   rw [cond_true]
   cases h3:decide (text≠⟨#[]⟩) with
   |false=>
    rw [h3,cond_false] at hz
    exact BP h hz
   |true=>
    rw [h3,cond_true] at hz
    rw [cond_true]
    cases h4: !(a6 s text 0).2.2 with
    |true=>exact .refl h
    |false=>
     rw [h4,cond_false] at hz
     have h5:=DI h text 0
     exact h5.trans (BP h5.1 hz)
structure TA (s:ax) (t:aZ):Prop where
 tree:Tree s t t.d
 acc:∃X:Nat→Nat,Acc s (fun r=>X r+bj (c8 s t) r)
theorem FS.ta {s:ax} {t:aZ} (h:FS s t):TA s t:=
 ⟨h.fi.tree,_,h.fi.acc.mono (O':=fun r=>0+bj (c8 s t) r) fun r=>by show 0+bj (c8 s t) r≤0+bj (c8 s t) r+gy s t E0 r;omega⟩
theorem FS.taN {s:ax} {t:aZ} (h:FS s t) {k:Nat} (hk:k < 16):TA s (cO (nodeAt s t k)):=by
 rcases h.fi.nodes k hk rfl with he |⟨_,hn⟩
 ·have e:nodeAt s t k=nz:=by unfold nodeAt;rw [he,fA]
  rw [e]
  refine ⟨NQ s,O0,h.fi.acc.mono fun r=>?_⟩
  show 0+bj (c8 s ny) r≤_
  rw [show c8 s ny=hZ s 0 bL from rfl,zk]
  exact Nat.zero_le _
 ·refine ⟨hn.tree,O0,h.fi.acc.mono fun r=>?_⟩
  have h1:=H9 (f:=fun k=>bif E0 k then 0 else bj (du s (nodeAt s t k)) r) (List.mem_range.2 hk)
  have h2:bj (du s (nodeAt s t k)) r≤gy s t E0 r:=h1
  show 0+bj (c8 s (cO (nodeAt s t k))) r≤0+bj (c8 s t) r+gy s t E0 r
  show 0+bj (du s (nodeAt s t k)) r≤_
  omega
theorem TA.next {s:ax} {t:aZ} (h:TA s t) (ht:s.bY < 1000000):TA (gY s) t:=by
 obtain ⟨X,ha⟩:=h.acc
 obtain ⟨h1,h2,h3,_⟩:=yC ha ht
 have h4:=xh h.tree (by rw [h3];omega) h2 fun r=>Nat.le_add_left _ _
 exact ⟨h4.1,X,h1.mono fun r=>by rw [show c8 (gY s) t=c8 s t from h4.2.1];exact Nat.le_refl _⟩
theorem TA.put {s:ax} {t:aZ} {k:Int} {text:ByteArray} (h:TA s t) (hk0:0≤k) (hk:k≤15) (hz:(aU s t k text).2.2=true):TA (aU s t k text).1 (aU s t k text).2.1:=by
 obtain ⟨X,ha⟩:=h.acc
 obtain ⟨d,hP⟩:=BN ha h.tree hk0 hk hz
 refine ⟨hP.tree.at,X,hP.acc.mono fun r=>?_⟩
 rw [F2 hP.tree];exact Nat.le_refl _
theorem TA.akx {s:ax} {t:aZ} {k:Int} {text:ByteArray} (h:TA s t) (hz:(aU s t k text).2.2=false):TA (aU s t k text).1 t:=by
 obtain ⟨X,ha⟩:=h.acc
 obtain ⟨h1,h2,h3⟩:=aa1 ha hz
 have h4:=xh h.tree (by rw [h3.bY];exact Int.le_refl _) h2 fun r=>Nat.le_add_left _ _
 exact ⟨h4.1,X,h1.mono fun r=>by rw [show c8 _ t=c8 s t from h4.2.1];exact Nat.le_refl _⟩
theorem TA.gk {s:ax} {t:aZ} {n:Nat} (h:TA s t) (hw:s.wg n) (hn:n≤900000):s.gk:=by
 obtain ⟨X,ha⟩:=h.acc
 exact ⟨ha.wf.n,Nat.le_trans hw.g (by omega),fun p hp=>nT (ha.ok p (by simp [hp])).1,by have:=ha.bY;omega⟩
theorem HS:∀(l:List Pt) (s:ax),(j1 l s).dead=s.dead
 |[],_=>rfl
 |p::l,s=>HS l (fU s p.1.toNat)
theorem SW {s:ax} {n:Nat} {O:Nat→Nat} (h:Acc s O) (hw:s.wg n) (hn:n≤900000):(gY s).wg (n+1):=by
 have ht:s.bY < 1000000:=by have:=hw.t;omega
 obtain ⟨h1,_,e3,_⟩:=yC h ht
 refine ⟨h1.wf,Nat.zero_le _,?_,?_⟩
 ·show (j1 s.gone s).dead.length≤_;rw [HS];have:=hw.d;omega
 ·rw [e3];have:=hw.t;omega
theorem TA.SU {s:ax} {t:aZ} {n:Nat} (h:TA s t) (hw:s.wg n) (hn:n≤900000):TA (gY s) t∧(gY s).wg (n+1):=by
 obtain ⟨X,ha⟩:=h.acc
 exact ⟨h.next (by have:=hw.t;omega),SW ha hw hn⟩
theorem W2 {s:ax} {t:aZ} (h:Tree s t t.d) {k:Nat} (hk:k < (oC s t).length):nth oS (oC s t) k=nodeAt s t k:=by
 rw [show (oC s t).length=(bg s t).length from List.length_map ..] at hk
 have h1:=xP (s:=s) h.ok (k:=k) (by rw [←fg (s:=s) h.ok];exact hk)
 have h2:nth oS ((bg s t).map fun x=>(bm x).1) k=(bm (nth aa (bg s t) k)).1:=by
  unfold nth;rw [List.getElem?_map,List.getElem?_eq_getElem hk];rfl
 rw [oC,h2,h1]
end GL
end Go.Proofs.YtbfgjadbfjkcdaaGreatDoor
