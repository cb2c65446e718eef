/- FnTreeOk returns true for every code (its row lists package variables, tied by the card): part 35 of 39. -/
import Derived.Test.YtbfgjadbfjkcdaaGreatDoorPbh
set_option maxHeartbeats 20000000
set_option linter.all false
namespace Go.Proofs.YtbfgjadbfjkcdaaGreatDoor
namespace GL
attribute [local irreducible] dB cF dW mY aU az
def fZ (F:fj) (id:Int) (l:List eU):Prop:=F.1.wg 1040000∧F.2.1.ok∧(0≤id∧id≤15)∧KN l
def iD (F:fj) (id:Int) (l:List eU):AV:=.t []
def jj (F:fj) (id:Int) (l:List eU):List AV:=fsP (bZ F id l)
def eS:Con where
 A:=[.b 0, .s .int, .s (.vz aG)]
 B:=[.a [.xb 1 aa, .xb 2 ae, .xb 3 ae, .int, .xb 4 ab, .int, .xb 5 ab, .bool, .int, .int, .int, .int, .int, .int, .int, .bool], .r aa, .r ae, .r ae, .r ab, .r ab]
 pre:=fun x b=>whole ((b.1).1) ((b.1).2.1) ((b.1).2.2.1) ((b.1).2.2.2.2.1) ((b.1).2.2.2.2.2.2.1) (b.2.1) (b.2.2.1) (b.2.2.2.1) (b.2.2.2.2.1) (b.2.2.2.2.2)∧fZ (((b.2.1,b.2.2.1,b.2.2.2.1,(b.1).2.2.2.1,b.2.2.2.2.1,(b.1).2.2.2.2.2.1,b.2.2.2.2.2,(b.1).2.2.2.2.2.2.2.1),((b.1).2.2.2.2.2.2.2.2.1,(b.1).2.2.2.2.2.2.2.2.2.1,(b.1).2.2.2.2.2.2.2.2.2.2.1,(b.1).2.2.2.2.2.2.2.2.2.2.2.1,(b.1).2.2.2.2.2.2.2.2.2.2.2.2.1,(b.1).2.2.2.2.2.2.2.2.2.2.2.2.2.1,(b.1).2.2.2.2.2.2.2.2.2.2.2.2.2.2.1),(b.1).2.2.2.2.2.2.2.2.2.2.2.2.2.2.2)) (x.2.1) (x.2.2)
 α:=fun _ _=>Unit
 φ:=fun _ _ _=>True
 r:=fun x b _=>iD (((b.2.1,b.2.2.1,b.2.2.2.1,(b.1).2.2.2.1,b.2.2.2.2.1,(b.1).2.2.2.2.2.1,b.2.2.2.2.2,(b.1).2.2.2.2.2.2.2.1),((b.1).2.2.2.2.2.2.2.2.1,(b.1).2.2.2.2.2.2.2.2.2.1,(b.1).2.2.2.2.2.2.2.2.2.2.1,(b.1).2.2.2.2.2.2.2.2.2.2.2.1,(b.1).2.2.2.2.2.2.2.2.2.2.2.2.1,(b.1).2.2.2.2.2.2.2.2.2.2.2.2.2.1,(b.1).2.2.2.2.2.2.2.2.2.2.2.2.2.2.1),(b.1).2.2.2.2.2.2.2.2.2.2.2.2.2.2.2)) (x.2.1) (x.2.2)
 o:=fun x b _=>jj (((b.2.1,b.2.2.1,b.2.2.2.1,(b.1).2.2.2.1,b.2.2.2.2.1,(b.1).2.2.2.2.2.1,b.2.2.2.2.2,(b.1).2.2.2.2.2.2.2.1),((b.1).2.2.2.2.2.2.2.2.1,(b.1).2.2.2.2.2.2.2.2.2.1,(b.1).2.2.2.2.2.2.2.2.2.2.1,(b.1).2.2.2.2.2.2.2.2.2.2.2.1,(b.1).2.2.2.2.2.2.2.2.2.2.2.2.1,(b.1).2.2.2.2.2.2.2.2.2.2.2.2.2.1,(b.1).2.2.2.2.2.2.2.2.2.2.2.2.2.2.1),(b.1).2.2.2.2.2.2.2.2.2.2.2.2.2.2.2)) (x.2.1) (x.2.2)
 nf:=2
 mv:=true
set_option maxRecDepth 100000 in
theorem nv:Has Tryz.prog 99 eS:=by
 refine Has.ofZ (fun _=>true) (fun _=>false) (fun _=>false) (l:=[(103,dz),(129,qn),(130,P0),(98,fb)]) ⟨jN,II,af4,nY,trivial⟩ (fn:=Tryz.f99) Tryz.func99 rfl (by decide) (cH rfl) ?_
 rintro ⟨_,(id:Int),(l:List eU)⟩ ⟨⟨(Fm1:Nat),(Fm2:Nat),(Fm3:Nat),(aH:Int),(Fm4:Nat),(aR:Int),(Fm5:Nat),(aQ:Bool),(aP:Int),(aO:Int),(aN:Int),(aM:Int),(aK:Int),(aJ:Int),(aI:Int),(aS:Bool)⟩,(aB:List ByteArray),(aC:List Int),(aD:List Int),(aE:List Pt),(aF:List Pt)⟩ ⟨⟨(jr:Fm1=List.length aB),(jq:Fm2=List.length aC),(jo:Fm3=List.length aD),(jn:Fm4=List.length aE),(jm:Fm5=List.length aF)⟩,(hp:fZ ((aB,aC,aD,aH,aE,aR,aF,aQ),(aP,aO,aN,aM,aK,aJ,aI),aS) id l)⟩
 subst jr jq jo jn jm
 show vc _ _ _ _ (entry [.s (.bp 0 0), .int id, .s (.vz aG l)] [.a [.xs 1 1 0 aB.length, .xs 2 1 0 aC.length, .xs 3 1 0 aD.length, .int aH, .xs 4 5 0 aE.length, .int aR, .xs 5 5 0 aF.length, .q aQ, .int aP, .int aO, .int aN, .int aM, .int aK, .int aJ, .int aI, .q aS], .rs aa aB, .rs ae aC, .rs ae aD, .rs ab aE, .rs ab aF]) _
 obtain ⟨ll,cq,⟨hi0,mo⟩,hl⟩:=hp
 have hl:KN l:=hl
 have ll:ax.wg ((aB,aC,aD,aH,aE,aR,aF,aQ),(aP,aO,aN,aM,aK,aJ,aI),aS).1 1040000:=ll
 have cq:aZ.ok ((aB,aC,aD,aH,aE,aR,aF,aQ),(aP,aO,aN,aM,aK,aJ,aI),aS).2.1:=cq
 have hbo:=UR (text:=dW l) ll (o0 ((aB,aC,aD,aH,aE,aR,aF,aQ),(aP,aO,aN,aM,aK,aJ,aI),aS).1 ((aB,aC,aD,aH,aE,aR,aF,aQ),(aP,aO,aN,aM,aK,aJ,aI),aS).2.1 id)
 refine ⟨fun w1=>?_,fun w2=>⟨⟨⟨⟨tv,tv,tv⟩,⟨?_,?_,?_,?_,?_⟩,?_,?_⟩,fun x3 w4=>?_⟩,fun x5 w6=>⟨⟨⟨tv,tv⟩,?_⟩,fun x7 w8=>⟨[.s 0],[.s 21],rfl,[.s 21],[.s 22],rfl,[.s 22],[.s 23],rfl,[.s 23, .b 0],[.s 24],rfl,[.s 6],[.s 25],rfl,[.s 25, .b 1006],[.s 26],rfl,[.s 7],[.s 27],rfl,[.s 24, .s 26, .s 27, .b 1, .b 2, .b 3, .b 4, .b 5, .b 1000290001, .b 1000290000],[.s 28, .b 1, .b 2, .b 3, .b 4, .b 5, .b 1000290000, .b 1000290001],rfl,⟨⟨⟨tv,tv,tv,tv,tv,tv,tv,tv,tv⟩,⟨tv,tv,tv,tv,tv,tv,tv,tv⟩,tv,tv⟩,⟨?_,?_,?_,?_,?_⟩,?_,?_,?_⟩,?_,fun x9 df=>⟨[.s 28],[.s 20],rfl,[.s 20],[.s 29],rfl,[.s 20],[.s 30],rfl,[.s 20],[.s 31],rfl,[.b 1008],[.s 8, .b 1008],rfl,[.b 1009],[.s 9, .b 1009],rfl,[.s 8, .s 29, .b 1008],[.b 1008],rfl,[.s 9, .s 30, .b 1009],[.b 1009],rfl,[.s 31],[.s 10],rfl,⟨⟨tv,tv,⟨tv,tv,tv,tv,tv,tv,tv,tv,tv,tv,tv⟩,tv⟩,⟨?_,?_,?_,?_,?_⟩,?_,?_,?_,?_⟩,fun kx dC=>?_⟩⟩⟩⟩⟩
 all_goals first|refine au ?_|refine aw ?_|exact sa|(dsimp only [dz,eY];omega)|(dsimp only [qn,pS];omega)|(dsimp only [P0,BW];omega)|(dsimp only [fb,gA];omega)|exact sb|exact ll.wf.rd|exact cq|exact ⟨ll.wf.rd,cq⟩|exact fun _ _=>rfl|exact hl.p|exact o0 _ _ _|exact hl.size|skip
 ·refine ⟨[4,5],[],_,_,_,rfl,rp,(),0,tv,?_,?_,rfl⟩
  ·(show _=iD ((aB,aC,aD,aH,aE,aR,aF,aQ),(aP,aO,aN,aM,aK,aJ,aI),aS) id l);unfold iD;first |(rw [JI (F:=((aB,aC,aD,aH,aE,aR,aF,aQ),(aP,aO,aN,aM,aK,aJ,aI),aS)) w1];rfl) |rfl
  ·(show _=jj ((aB,aC,aD,aH,aE,aR,aF,aQ),(aP,aO,aN,aM,aK,aJ,aI),aS) id l);unfold jj;first |(rw [JI (F:=((aB,aC,aD,aH,aE,aR,aF,aQ),(aP,aO,aN,aM,aK,aJ,aI),aS)) w1];rfl) |rfl
 ·exact ll.mono (by decide)
 ·exact hbo.1.mono (by decide)
 ·refine ⟨[1000500000,1000500001],[],_,_,_,rfl,rp,(),0,tv,?_,?_,rfl⟩
  ·(show _=iD ((aB,aC,aD,aH,aE,aR,aF,aQ),(aP,aO,aN,aM,aK,aJ,aI),aS) id l);unfold iD;first |(exact Eq.trans rfl (congrArg fsP (JH (F:=((aB,aC,aD,aH,aE,aR,aF,aQ),(aP,aO,aN,aM,aK,aJ,aI),aS)) (id:=id) (l:=l) w2).symm)) |rfl
  ·(show _=jj ((aB,aC,aD,aH,aE,aR,aF,aQ),(aP,aO,aN,aM,aK,aJ,aI),aS) id l);unfold jj;first |(exact Eq.trans rfl (congrArg fsP (JH (F:=((aB,aC,aD,aH,aE,aR,aF,aQ),(aP,aO,aN,aM,aK,aJ,aI),aS)) (id:=id) (l:=l) w2).symm)) |rfl
end GL
namespace GL
attribute [local irreducible] dB cF bE mY aU az bZ dp dK bo uL xm qH bq
def pP (F:fj) (path:ByteArray) (kind:Int):Prop:=cT F 1000000∧F.2.2=false∧path.size≤1000
def HA (F:fj) (path:ByteArray) (kind:Int) (z:fj×Int):Prop:=∀n,cT F n→cT z.1 (n+300)
def GQ (F:fj) (path:ByteArray) (kind:Int) (z:fj×Int):AV:=.s (.int z.2)
def KS (F:fj) (path:ByteArray) (kind:Int) (z:fj×Int):List AV:=fsP z.1
def tZ:Con where
 A:=[.b 0, .s .str, .s .int]
 B:=[.a [.xb 1 aa, .xb 2 ae, .xb 3 ae, .int, .xb 4 ab, .int, .xb 5 ab, .bool, .int, .int, .int, .int, .int, .int, .int, .bool], .r aa, .r ae, .r ae, .r ab, .r ab]
 pre:=fun x b=>whole ((b.1).1) ((b.1).2.1) ((b.1).2.2.1) ((b.1).2.2.2.2.1) ((b.1).2.2.2.2.2.2.1) (b.2.1) (b.2.2.1) (b.2.2.2.1) (b.2.2.2.2.1) (b.2.2.2.2.2)∧pP (((b.2.1,b.2.2.1,b.2.2.2.1,(b.1).2.2.2.1,b.2.2.2.2.1,(b.1).2.2.2.2.2.1,b.2.2.2.2.2,(b.1).2.2.2.2.2.2.2.1),((b.1).2.2.2.2.2.2.2.2.1,(b.1).2.2.2.2.2.2.2.2.2.1,(b.1).2.2.2.2.2.2.2.2.2.2.1,(b.1).2.2.2.2.2.2.2.2.2.2.2.1,(b.1).2.2.2.2.2.2.2.2.2.2.2.2.1,(b.1).2.2.2.2.2.2.2.2.2.2.2.2.2.1,(b.1).2.2.2.2.2.2.2.2.2.2.2.2.2.2.1),(b.1).2.2.2.2.2.2.2.2.2.2.2.2.2.2.2)) (x.2.1) (x.2.2)
 α:=fun _ _=>fj×Int
 φ:=fun x b z=>HA (((b.2.1,b.2.2.1,b.2.2.2.1,(b.1).2.2.2.1,b.2.2.2.2.1,(b.1).2.2.2.2.2.1,b.2.2.2.2.2,(b.1).2.2.2.2.2.2.2.1),((b.1).2.2.2.2.2.2.2.2.1,(b.1).2.2.2.2.2.2.2.2.2.1,(b.1).2.2.2.2.2.2.2.2.2.2.1,(b.1).2.2.2.2.2.2.2.2.2.2.2.1,(b.1).2.2.2.2.2.2.2.2.2.2.2.2.1,(b.1).2.2.2.2.2.2.2.2.2.2.2.2.2.1,(b.1).2.2.2.2.2.2.2.2.2.2.2.2.2.2.1),(b.1).2.2.2.2.2.2.2.2.2.2.2.2.2.2.2)) (x.2.1) (x.2.2) z
 r:=fun x b z=>GQ (((b.2.1,b.2.2.1,b.2.2.2.1,(b.1).2.2.2.1,b.2.2.2.2.1,(b.1).2.2.2.2.2.1,b.2.2.2.2.2,(b.1).2.2.2.2.2.2.2.1),((b.1).2.2.2.2.2.2.2.2.1,(b.1).2.2.2.2.2.2.2.2.2.1,(b.1).2.2.2.2.2.2.2.2.2.2.1,(b.1).2.2.2.2.2.2.2.2.2.2.2.1,(b.1).2.2.2.2.2.2.2.2.2.2.2.2.1,(b.1).2.2.2.2.2.2.2.2.2.2.2.2.2.1,(b.1).2.2.2.2.2.2.2.2.2.2.2.2.2.2.1),(b.1).2.2.2.2.2.2.2.2.2.2.2.2.2.2.2)) (x.2.1) (x.2.2) z
 o:=fun x b z=>KS (((b.2.1,b.2.2.1,b.2.2.2.1,(b.1).2.2.2.1,b.2.2.2.2.1,(b.1).2.2.2.2.2.1,b.2.2.2.2.2,(b.1).2.2.2.2.2.2.2.1),((b.1).2.2.2.2.2.2.2.2.1,(b.1).2.2.2.2.2.2.2.2.2.1,(b.1).2.2.2.2.2.2.2.2.2.2.1,(b.1).2.2.2.2.2.2.2.2.2.2.2.1,(b.1).2.2.2.2.2.2.2.2.2.2.2.2.1,(b.1).2.2.2.2.2.2.2.2.2.2.2.2.2.1,(b.1).2.2.2.2.2.2.2.2.2.2.2.2.2.2.1),(b.1).2.2.2.2.2.2.2.2.2.2.2.2.2.2.2)) (x.2.1) (x.2.2) z
 nf:=2
 mv:=true
set_option maxRecDepth 100000 in
theorem PF:Has Tryz.prog 65 tZ:=by
 refine Has.ofZ (fun _=>true) (fun _=>false) (fun _=>false) (l:=[(95,km),(96,C9),(97,dM),(98,fb),(101,jX),(100,qo),(99,eS)]) ⟨xB,abU,kC,nY,wT,IJ,nv,trivial⟩ (fn:=Tryz.f65) Tryz.func65 rfl (by decide) (cH rfl) ?_
 rintro ⟨_,(path:ByteArray),(kind:Int)⟩ ⟨⟨(Fm1:Nat),(Fm2:Nat),(Fm3:Nat),(aH:Int),(Fm4:Nat),(aR:Int),(Fm5:Nat),(aQ:Bool),(aP:Int),(aO:Int),(aN:Int),(aM:Int),(aK:Int),(aJ:Int),(aI:Int),(aS:Bool)⟩,(aB:List ByteArray),(aC:List Int),(aD:List Int),(aE:List Pt),(aF:List Pt)⟩ ⟨⟨(jr:Fm1=List.length aB),(jq:Fm2=List.length aC),(jo:Fm3=List.length aD),(jn:Fm4=List.length aE),(jm:Fm5=List.length aF)⟩,(hp:pP ((aB,aC,aD,aH,aE,aR,aF,aQ),(aP,aO,aN,aM,aK,aJ,aI),aS) path kind)⟩
 subst jr jq jo jn jm
 show vc _ _ _ _ (entry [.s (.bp 0 0), .str path, .int kind] [.a [.xs 1 1 0 aB.length, .xs 2 1 0 aC.length, .xs 3 1 0 aD.length, .int aH, .xs 4 5 0 aE.length, .int aR, .xs 5 5 0 aF.length, .q aQ, .int aP, .int aO, .int aN, .int aM, .int aK, .int aJ, .int aI, .q aS], .rs aa aB, .rs ae aC, .rs ae aD, .rs ab aE, .rs ab aF]) _
 obtain ⟨hF,hfu,hps⟩:=hp
 have hF:cT ((aB,aC,aD,aH,aE,aR,aF,aQ),(aP,aO,aN,aM,aK,aJ,aI),aS) 1000000:=hF
 have dA:ax.rd ((aB,aC,aD,aH,aE,aR,aF,aQ),(aP,aO,aN,aM,aK,aJ,aI),aS).1:=hF.wg.wf.rd
 have cq:aZ.ok ((aB,aC,aD,aH,aE,aR,aF,aQ),(aP,aO,aN,aM,aK,aJ,aI),aS).2.1:=hF.ok
 have hp6:path.size≤1000000:=Nat.le_trans hps (by decide)
 have h0:decide (xm ((aB,aC,aD,aH,aE,aR,aF,aQ),(aP,aO,aN,aM,aK,aJ,aI),aS).1 ((aB,aC,aD,aH,aE,aR,aF,aQ),(aP,aO,aN,aM,aK,aJ,aI),aS).2.1 < 0)=false→0≤xm ((aB,aC,aD,aH,aE,aR,aF,aQ),(aP,aO,aN,aM,aK,aJ,aI),aS).1 ((aB,aC,aD,aH,aE,aR,aF,aQ),(aP,aO,aN,aM,aK,aJ,aI),aS).2.1:=fun h=>Int.not_lt.1 (ca h)
 have xF:decide (xm ((aB,aC,aD,aH,aE,aR,aF,aQ),(aP,aO,aN,aM,aK,aJ,aI),aS).1 ((aB,aC,aD,aH,aE,aR,aF,aQ),(aP,aO,aN,aM,aK,aJ,aI),aS).2.1 < 0)=false→xm ((aB,aC,aD,aH,aE,aR,aF,aQ),(aP,aO,aN,aM,aK,aJ,aI),aS).1 ((aB,aC,aD,aH,aE,aR,aF,aQ),(aP,aO,aN,aM,aK,aJ,aI),aS).2.1≤15:=fun h=>hF.free hfu (h0 h)
 have j6:decide ((dp ((aB,aC,aD,aH,aE,aR,aF,aQ),(aP,aO,aN,aM,aK,aJ,aI),aS) path).2 > 0)=false→1≤(bq path).length∧0≤(dp ((aB,aC,aD,aH,aE,aR,aF,aQ),(aP,aO,aN,aM,aK,aJ,aI),aS) path).1∧(dp ((aB,aC,aD,aH,aE,aR,aF,aQ),(aP,aO,aN,aM,aK,aJ,aI),aS) path).1≤15:=MT
 have hen:∀nd,(bE ((aB,aC,aD,aH,aE,aR,aF,aQ),(aP,aO,aN,aM,aK,aJ,aI),aS).1 nd).1.length≤1000:=fun nd=>Nat.le_trans (qj _ nd).len (by decide)
 have hmk:decide (xm ((aB,aC,aD,aH,aE,aR,aF,aQ),(aP,aO,aN,aM,aK,aJ,aI),aS).1 ((aB,aC,aD,aH,aE,aR,aF,aQ),(aP,aO,aN,aM,aK,aJ,aI),aS).2.1 < 0)=false→cT (mY ((aB,aC,aD,aH,aE,aR,aF,aQ),(aP,aO,aN,aM,aK,aJ,aI),aS) (xm ((aB,aC,aD,aH,aE,aR,aF,aQ),(aP,aO,aN,aM,aK,aJ,aI),aS).1 ((aB,aC,aD,aH,aE,aR,aF,aQ),(aP,aO,aN,aM,aK,aJ,aI),aS).2.1) (kind,1,0,ny)) 1000006:=fun h=>hF.make hfu (h0 h)
 have hew:decide ((dp ((aB,aC,aD,aH,aE,aR,aF,aQ),(aP,aO,aN,aM,aK,aJ,aI),aS) path).2 > 0)=false→decide (xm ((aB,aC,aD,aH,aE,aR,aF,aQ),(aP,aO,aN,aM,aK,aJ,aI),aS).1 ((aB,aC,aD,aH,aE,aR,aF,aQ),(aP,aO,aN,aM,aK,aJ,aI),aS).2.1 < 0)=false→KN (qH (bE ((aB,aC,aD,aH,aE,aR,aF,aQ),(aP,aO,aN,aM,aK,aJ,aI),aS).1 (aW ((aB,aC,aD,aH,aE,aR,aF,aQ),(aP,aO,aN,aM,aK,aJ,aI),aS) (dp ((aB,aC,aD,aH,aE,aR,aF,aQ),(aP,aO,aN,aM,aK,aJ,aI),aS) path).1)).1 (dF path,xm ((aB,aC,aD,aH,aE,aR,aF,aQ),(aP,aO,aN,aM,aK,aJ,aI),aS).1 ((aB,aC,aD,aH,aE,aR,aF,aQ),(aP,aO,aN,aM,aK,aJ,aI),aS).2.1)):=fun h h2=>(qj _ _).add (Nat.le_trans (KD (j6 h).1) hps) ⟨h0 h2,Int.le_trans (xF h2) (by decide)⟩
 refine ⟨⟨⟨⟨tv,tv,tv⟩,⟨?_,?_,?_,?_,?_⟩,?_,?_,?_⟩,fun x1 w2=>?_⟩,fun x3 w4=>⟨fun w5=>?_,fun w6=>⟨[.s 0],[.s 20],rfl,[.s 20],[.s 21],rfl,[.s 21],[.s 22],rfl,[.s 22, .b 0],[.s 23],rfl,[.s 0],[.s 24],rfl,[.s 24],[.s 25],rfl,[.s 25],[.s 26],rfl,[.s 26, .b 0],[.s 27],rfl,[.s 23, .s 27, .b 1, .b 2, .b 3, .b 4, .b 5],[.s 28],rfl,⟨⟨⟨⟨?_,?_⟩,⟨?_,?_⟩,⟨?_,?_⟩,tv,⟨?_,?_⟩,tv,⟨?_,?_⟩,tv,tv⟩,⟨tv,tv,tv,tv,tv,tv,tv,tv⟩,tv⟩,?_,?_⟩,?_,fun x7 w8=>⟨[.s 28],[.s 9],rfl,⟨⟨⟨tv,tv,tv⟩,⟨?_,?_,?_,?_,?_⟩,?_,?_⟩,fun x9 df=>?_⟩,fun kx dC=>⟨tv,fun iA=>?_,fun gx=>⟨fun oU=>?_,fun j9=>⟨⟨⟨tv,tv,⟨tv,tv,tv,tv,tv,tv,tv,tv,tv,tv,tv⟩,tv⟩,⟨?_,?_,?_,?_,?_⟩,?_,?_,?_,?_⟩,fun x17 qI=>⟨⟨⟨tv,tv⟩,?_,?_⟩,fun x19 um=>⟨⟨⟨tv,⟨tv,tv,tv⟩,tv⟩,?_⟩,fun x21 zf=>⟨⟨⟨tv,tv,⟨?_,?_⟩,tv⟩,⟨?_,?_,?_,?_,?_⟩,?_,?_,⟨?_,?_⟩,?_⟩,fun x23 rl=>?_⟩⟩⟩⟩⟩⟩⟩⟩⟩⟩
 all_goals first|refine au ?_|refine aw ?_|exact sa|(dsimp only [km,ky];omega)|(dsimp only [C9,ve];omega)|(dsimp only [dM,fe];omega)|(dsimp only [fb,gA];omega)|(dsimp only [jX,k7];omega)|(dsimp only [qo,pT];omega)|(dsimp only [eS,fZ];omega)|exact sb|exact dA|exact cq|exact hp6|exact ⟨dA,cq⟩|exact ⟨dA,cq,hp6⟩|exact fun _ _=>rfl|exact hF.wg.mono (by decide)|exact h0 gx|exact xF gx|exact (j6 w6).1|exact (j6 w6).2.1|exact (j6 w6).2.2|exact hen _|exact (hmk gx).wg.mono (by decide)|exact (hmk gx).ok|exact hew w6 gx|skip
 ·refine ⟨[4,5],[],_,_,_,rfl,rr,(((aB,aC,aD,aH,aE,aR,aF,aQ),(aP,aO,aN,aM,aK,aJ,aI),aS),(dp ((aB,aC,aD,aH,aE,aR,aF,aQ),(aP,aO,aN,aM,aK,aJ,aI),aS) path).2),0,fun n h=>h.mono (by omega),rfl,rfl,rfl⟩
 ·refine ⟨[4,5],[],_,_,_,rfl,rr,(((aB,aC,aD,aH,aE,aR,aF,aQ),(aP,aO,aN,aM,aK,aJ,aI),aS),6),0,fun n h=>h.mono (by omega),rfl,rfl,rfl⟩
 ·refine ⟨[4,5],[],_,_,_,rfl,rr,(((aB,aC,aD,aH,aE,aR,aF,aQ),(aP,aO,aN,aM,aK,aJ,aI),aS),6),0,fun n h=>h.mono (by omega),rfl,rfl,rfl⟩
 ·refine ⟨[1000530000,1000530001],[],_,_,_,rfl,rr,(bZ (mY ((aB,aC,aD,aH,aE,aR,aF,aQ),(aP,aO,aN,aM,aK,aJ,aI),aS) (xm ((aB,aC,aD,aH,aE,aR,aF,aQ),(aP,aO,aN,aM,aK,aJ,aI),aS).1 ((aB,aC,aD,aH,aE,aR,aF,aQ),(aP,aO,aN,aM,aK,aJ,aI),aS).2.1) (kind,1,0,ny)) (dp ((aB,aC,aD,aH,aE,aR,aF,aQ),(aP,aO,aN,aM,aK,aJ,aI),aS) path).1 (qH (bE ((aB,aC,aD,aH,aE,aR,aF,aQ),(aP,aO,aN,aM,aK,aJ,aI),aS).1 (aW ((aB,aC,aD,aH,aE,aR,aF,aQ),(aP,aO,aN,aM,aK,aJ,aI),aS) (dp ((aB,aC,aD,aH,aE,aR,aF,aQ),(aP,aO,aN,aM,aK,aJ,aI),aS) path).1)).1 (dF path,xm ((aB,aC,aD,aH,aE,aR,aF,aQ),(aP,aO,aN,aM,aK,aJ,aI),aS).1 ((aB,aC,aD,aH,aE,aR,aF,aQ),(aP,aO,aN,aM,aK,aJ,aI),aS).2.1)),0),0,fun n h=>((h.make (kind:=kind) hfu (h0 gx)).sR (j6 w6).2.1 (j6 w6).2.2).1.mono (by omega),rfl,rfl,rfl⟩
end GL
namespace GL
attribute [local irreducible] dB cF bE mY aU az bZ dp dK bo uL xm qH bq nB iU ch eh lu
def mK (F:fj) (o:Opr):Prop:=cT F 1000000∧F.2.2=false∧o.2.1.size≤1000∧0≤o.2.2.2.1∧o.2.2.2.1≤192∧o.2.2.2.2.size≤1000
def B0 (F:fj) (o:Opr) (z:fj×Int):Prop:=∀n,cT F n→cT z.1 (n+300)
def BC (F:fj) (o:Opr) (z:fj×Int):AV:=.s (.int z.2)
def EP (F:fj) (o:Opr) (z:fj×Int):List AV:=fsP z.1
def qm:Con where
 A:=[.b 0, .a [.int, .str, .str, .int, .str]]
 B:=[.a [.xb 1 aa, .xb 2 ae, .xb 3 ae, .int, .xb 4 ab, .int, .xb 5 ab, .bool, .int, .int, .int, .int, .int, .int, .int, .bool], .r aa, .r ae, .r ae, .r ab, .r ab]
 pre:=fun x b=>whole ((b.1).1) ((b.1).2.1) ((b.1).2.2.1) ((b.1).2.2.2.2.1) ((b.1).2.2.2.2.2.2.1) (b.2.1) (b.2.2.1) (b.2.2.2.1) (b.2.2.2.2.1) (b.2.2.2.2.2)∧mK (((b.2.1,b.2.2.1,b.2.2.2.1,(b.1).2.2.2.1,b.2.2.2.2.1,(b.1).2.2.2.2.2.1,b.2.2.2.2.2,(b.1).2.2.2.2.2.2.2.1),((b.1).2.2.2.2.2.2.2.2.1,(b.1).2.2.2.2.2.2.2.2.2.1,(b.1).2.2.2.2.2.2.2.2.2.2.1,(b.1).2.2.2.2.2.2.2.2.2.2.2.1,(b.1).2.2.2.2.2.2.2.2.2.2.2.2.1,(b.1).2.2.2.2.2.2.2.2.2.2.2.2.2.1,(b.1).2.2.2.2.2.2.2.2.2.2.2.2.2.2.1),(b.1).2.2.2.2.2.2.2.2.2.2.2.2.2.2.2)) (x.2)
 α:=fun _ _=>fj×Int
 φ:=fun x b z=>B0 (((b.2.1,b.2.2.1,b.2.2.2.1,(b.1).2.2.2.1,b.2.2.2.2.1,(b.1).2.2.2.2.2.1,b.2.2.2.2.2,(b.1).2.2.2.2.2.2.2.1),((b.1).2.2.2.2.2.2.2.2.1,(b.1).2.2.2.2.2.2.2.2.2.1,(b.1).2.2.2.2.2.2.2.2.2.2.1,(b.1).2.2.2.2.2.2.2.2.2.2.2.1,(b.1).2.2.2.2.2.2.2.2.2.2.2.2.1,(b.1).2.2.2.2.2.2.2.2.2.2.2.2.2.1,(b.1).2.2.2.2.2.2.2.2.2.2.2.2.2.2.1),(b.1).2.2.2.2.2.2.2.2.2.2.2.2.2.2.2)) (x.2) z
 r:=fun x b z=>BC (((b.2.1,b.2.2.1,b.2.2.2.1,(b.1).2.2.2.1,b.2.2.2.2.1,(b.1).2.2.2.2.2.1,b.2.2.2.2.2,(b.1).2.2.2.2.2.2.2.1),((b.1).2.2.2.2.2.2.2.2.1,(b.1).2.2.2.2.2.2.2.2.2.1,(b.1).2.2.2.2.2.2.2.2.2.2.1,(b.1).2.2.2.2.2.2.2.2.2.2.2.1,(b.1).2.2.2.2.2.2.2.2.2.2.2.2.1,(b.1).2.2.2.2.2.2.2.2.2.2.2.2.2.1,(b.1).2.2.2.2.2.2.2.2.2.2.2.2.2.2.1),(b.1).2.2.2.2.2.2.2.2.2.2.2.2.2.2.2)) (x.2) z
 o:=fun x b z=>EP (((b.2.1,b.2.2.1,b.2.2.2.1,(b.1).2.2.2.1,b.2.2.2.2.1,(b.1).2.2.2.2.2.1,b.2.2.2.2.2,(b.1).2.2.2.2.2.2.2.1),((b.1).2.2.2.2.2.2.2.2.1,(b.1).2.2.2.2.2.2.2.2.2.1,(b.1).2.2.2.2.2.2.2.2.2.2.1,(b.1).2.2.2.2.2.2.2.2.2.2.2.1,(b.1).2.2.2.2.2.2.2.2.2.2.2.2.1,(b.1).2.2.2.2.2.2.2.2.2.2.2.2.2.1,(b.1).2.2.2.2.2.2.2.2.2.2.2.2.2.2.1),(b.1).2.2.2.2.2.2.2.2.2.2.2.2.2.2.2)) (x.2) z
 nf:=2
 mv:=true
set_option maxRecDepth 100000 in
theorem IH:Has Tryz.prog 69 qm:=by
 refine Has.ofZ (fun _=>true) (fun _=>false) (fun _=>false) (l:=[(102,eu),(103,dz),(109,y4),(110,J2),(98,fb)]) ⟨l6,jN,XE,ad8,nY,trivial⟩ (fn:=Tryz.f69) Tryz.func69 rfl (by decide) (cH rfl) ?_
 rintro ⟨_,⟨(o1:Int),(o2:ByteArray),(o3:ByteArray),(o4:Int),(o5:ByteArray)⟩⟩ ⟨⟨(Fm1:Nat),(Fm2:Nat),(Fm3:Nat),(aH:Int),(Fm4:Nat),(aR:Int),(Fm5:Nat),(aQ:Bool),(aP:Int),(aO:Int),(aN:Int),(aM:Int),(aK:Int),(aJ:Int),(aI:Int),(aS:Bool)⟩,(aB:List ByteArray),(aC:List Int),(aD:List Int),(aE:List Pt),(aF:List Pt)⟩ ⟨⟨(jr:Fm1=List.length aB),(jq:Fm2=List.length aC),(jo:Fm3=List.length aD),(jn:Fm4=List.length aE),(jm:Fm5=List.length aF)⟩,(hp:mK ((aB,aC,aD,aH,aE,aR,aF,aQ),(aP,aO,aN,aM,aK,aJ,aI),aS) (o1,o2,o3,o4,o5))⟩
 subst jr jq jo jn jm
 show vc _ _ _ _ (entry [.s (.bp 0 0), .a [.int o1, .str o2, .str o3, .int o4, .str o5]] [.a [.xs 1 1 0 aB.length, .xs 2 1 0 aC.length, .xs 3 1 0 aD.length, .int aH, .xs 4 5 0 aE.length, .int aR, .xs 5 5 0 aF.length, .q aQ, .int aP, .int aO, .int aN, .int aM, .int aK, .int aJ, .int aI, .q aS], .rs aa aB, .rs ae aC, .rs ae aD, .rs ab aE, .rs ab aF]) _
 obtain ⟨hF,hfu,hps,ha0,ha1,htx⟩:=hp
 have hF:cT ((aB,aC,aD,aH,aE,aR,aF,aQ),(aP,aO,aN,aM,aK,aJ,aI),aS) 1000000:=hF
 have dA:ax.rd ((aB,aC,aD,aH,aE,aR,aF,aQ),(aP,aO,aN,aM,aK,aJ,aI),aS).1:=hF.wg.wf.rd
 have cq:aZ.ok ((aB,aC,aD,aH,aE,aR,aF,aQ),(aP,aO,aN,aM,aK,aJ,aI),aS).2.1:=hF.ok
 have hp6:o2.size≤1000000:=Nat.le_trans hps (by decide)
 have h0:decide (bo ((aB,aC,aD,aH,aE,aR,aF,aQ),(aP,aO,aN,aM,aK,aJ,aI),aS) o2 < 0)=false→0≤bo ((aB,aC,aD,aH,aE,aR,aF,aQ),(aP,aO,aN,aM,aK,aJ,aI),aS) o2:=fun h=>Int.not_lt.1 (ca h)
 have xF:bo ((aB,aC,aD,aH,aE,aR,aF,aQ),(aP,aO,aN,aM,aK,aJ,aI),aS) o2≤15:=(zn _ _).2
 have ET:decide ((aW ((aB,aC,aD,aH,aE,aR,aF,aQ),(aP,aO,aN,aM,aK,aJ,aI),aS) (bo ((aB,aC,aD,aH,aE,aR,aF,aQ),(aP,aO,aN,aM,aK,aJ,aI),aS) o2)).1≠1)=false→(aW ((aB,aC,aD,aH,aE,aR,aF,aQ),(aP,aO,aN,aM,aK,aJ,aI),aS) (bo ((aB,aC,aD,aH,aE,aR,aF,aQ),(aP,aO,aN,aM,aK,aJ,aI),aS) o2)).1=1:=fun h=>Decidable.not_not.1 (ca h)
 have uy:decide (bo ((aB,aC,aD,aH,aE,aR,aF,aQ),(aP,aO,aN,aM,aK,aJ,aI),aS) o2 < 0)=false→decide ((aW ((aB,aC,aD,aH,aE,aR,aF,aQ),(aP,aO,aN,aM,aK,aJ,aI),aS) (bo ((aB,aC,aD,aH,aE,aR,aF,aQ),(aP,aO,aN,aM,aK,aJ,aI),aS) o2)).1≠1)=false→cm (aW ((aB,aC,aD,aH,aE,aR,aF,aQ),(aP,aO,aN,aM,aK,aJ,aI),aS) (bo ((aB,aC,aD,aH,aE,aR,aF,aQ),(aP,aO,aN,aM,aK,aJ,aI),aS) o2))=true:=fun h h2=>(hF.file hfu (h0 h) xF (ET h2)).2
 have hw:=fun h h2 (h3:o4+o5.size≤192)=>hF.iA (text:=o5) hfu (h0 h) xF (ET h2) ha0 h3
 have hc:=fun h h2=>hF.c13 hfu (h0 h) xF (ET h2) ha0 ha1
 have ah3:decide (o4+(o5.size:Int) > 192)=false→o4+(o5.size:Int)≤192:=fun h=>Int.not_lt.1 (ca h)
 refine ⟨⟨⟨⟨tv,tv,tv⟩,⟨?_,?_,?_,?_,?_⟩,?_,?_,?_⟩,fun x1 w2=>?_⟩,fun x3 w4=>⟨fun w5=>?_,fun w6=>⟨⟨⟨⟨tv,tv,tv⟩,⟨?_,?_,?_,?_,?_⟩,?_,?_⟩,fun x7 w8=>?_⟩,fun x9 df=>⟨fun ka=>?_,fun dC=>⟨⟨?_,?_⟩,fun iA=>?_,fun gx=>⟨fun oU=>⟨[.s 0],[.s 31],rfl,[.s 0],[.s 32],rfl,[.s 32],[.s 33],rfl,[.s 33],[.s 34],rfl,[.s 34, .b 0],[.s 35],rfl,[.s 6, .b 1006],[.s 36],rfl,[.s 3],[.s 37],rfl,[.s 37, .b 1003],[.s 38],rfl,[.s 3],[.s 39],rfl,[.s 39, .b 1003],[.s 40],rfl,[.s 35, .s 36, .s 38, .s 40, .b 1, .b 2, .b 3, .b 4, .b 5, .b 1000420001, .b 1000420000],[.s 41, .b 1, .b 2, .b 3, .b 4, .b 5, .b 1000420000, .b 1000420001],rfl,⟨⟨⟨tv,tv,tv,tv,tv,tv,tv,tv,tv⟩,⟨tv,tv,tv,tv,tv,tv,tv,tv,tv,tv,tv⟩,tv,tv,tv⟩,⟨?_,?_,?_,?_,?_⟩,?_,?_,?_,?_⟩,?_,fun x16 wu=>⟨[.s 41],[.s 30],rfl,[.s 30],[.s 42],rfl,[.s 30],[.s 43],rfl,[.s 30],[.s 44],rfl,[.s 31],[.s 45],rfl,[.s 45],[.s 46],rfl,[.s 46, .s 42, .b 0],[.b 0],rfl,[.s 6, .s 43, .b 1006],[.b 1006],rfl,[.s 44],[.s 7],rfl,⟨⟨tv,tv,⟨tv,tv,tv,tv,tv,tv,tv,tv,tv,tv,tv⟩,tv⟩,⟨?_,?_,?_,?_,?_⟩,?_,?_,?_,?_⟩,fun qy ot=>?_⟩⟩,fun um=>⟨[.s 0],[.s 48],rfl,[.s 0],[.s 49],rfl,[.s 49],[.s 50],rfl,[.s 50],[.s 51],rfl,[.s 51, .b 0],[.s 52],rfl,[.s 6, .b 1006],[.s 53],rfl,[.s 3],[.s 54],rfl,[.s 54, .b 1003],[.s 55],rfl,[.s 52, .s 53, .s 55, .b 1, .b 2, .b 3, .b 4, .b 5, .b 1000570001, .b 1000570000],[.s 56, .b 1, .b 2, .b 3, .b 4, .b 5, .b 1000570000, .b 1000570001],rfl,⟨⟨⟨tv,tv,tv,tv,tv,tv,tv,tv,tv⟩,⟨tv,tv,tv,tv,tv,tv,tv,tv,tv,tv,tv⟩,tv,tv⟩,⟨?_,?_,?_,?_,?_⟩,?_,?_,?_,?_,?_⟩,?_,fun x21 zf=>⟨[.s 56],[.s 47],rfl,[.s 47],[.s 57],rfl,[.s 47],[.s 58],rfl,[.s 47],[.s 59],rfl,[.s 48],[.s 60],rfl,[.s 60],[.s 61],rfl,[.s 61, .s 57, .b 0],[.b 0],rfl,[.s 6, .s 58, .b 1006],[.b 1006],rfl,[.s 59],[.s 7],rfl,⟨⟨tv,tv,⟨tv,tv,tv,tv,tv,tv,tv,tv,tv,tv,tv⟩,tv⟩,⟨?_,?_,?_,?_,?_⟩,?_,?_,?_,?_⟩,fun x23 rl=>?_⟩⟩⟩⟩⟩⟩⟩⟩
 all_goals first|refine au ?_|refine aw ?_|exact sa|(dsimp only [eu,fO];omega)|(dsimp only [dz,eY];omega)|(dsimp only [y4,tf];omega)|(dsimp only [J2,yo];omega)|(dsimp only [fb,gA];omega)|exact sb|exact dA|exact cq|exact hp6|exact ⟨dA,cq⟩|exact ⟨dA,cq,hp6⟩|exact fun _ _=>rfl|exact hF.wg.mono (by decide)|exact h0 w6|exact xF|exact ah3 gx|exact HR (uy w6 dC)|exact uy w6 dC|exact ET dC|exact (hw w6 dC (ah3 gx)).1.mono (by decide)|exact (hc w6 dC).1.mono (by decide)|skip
 ·refine ⟨[4,5],[],_,_,_,rfl,rr,(((aB,aC,aD,aH,aE,aR,aF,aQ),(aP,aO,aN,aM,aK,aJ,aI),aS),2),0,fun n h=>h.mono (by omega),rfl,rfl,rfl⟩
 ·refine ⟨[4,5],[],_,_,_,rfl,rr,(((aB,aC,aD,aH,aE,aR,aF,aQ),(aP,aO,aN,aM,aK,aJ,aI),aS),4),0,fun n h=>h.mono (by omega),rfl,rfl,rfl⟩
 ·refine ⟨[4,5],[],_,_,_,rfl,rr,(((aB,aC,aD,aH,aE,aR,aF,aQ),(aP,aO,aN,aM,aK,aJ,aI),aS),6),0,fun n h=>h.mono (by omega),rfl,rfl,rfl⟩
 ·refine ⟨[1000710000,1000710001],[],_,_,_,rfl,rr,(mY ((nB ((aB,aC,aD,aH,aE,aR,aF,aQ),(aP,aO,aN,aM,aK,aJ,aI),aS).1 (aW ((aB,aC,aD,aH,aE,aR,aF,aQ),(aP,aO,aN,aM,aK,aJ,aI),aS) (bo ((aB,aC,aD,aH,aE,aR,aF,aQ),(aP,aO,aN,aM,aK,aJ,aI),aS) o2)) o4 o5).1,((aB,aC,aD,aH,aE,aR,aF,aQ),(aP,aO,aN,aM,aK,aJ,aI),aS).2.1,!(nB ((aB,aC,aD,aH,aE,aR,aF,aQ),(aP,aO,aN,aM,aK,aJ,aI),aS).1 (aW ((aB,aC,aD,aH,aE,aR,aF,aQ),(aP,aO,aN,aM,aK,aJ,aI),aS) (bo ((aB,aC,aD,aH,aE,aR,aF,aQ),(aP,aO,aN,aM,aK,aJ,aI),aS) o2)) o4 o5).2.2) (bo ((aB,aC,aD,aH,aE,aR,aF,aQ),(aP,aO,aN,aM,aK,aJ,aI),aS) o2) (nB ((aB,aC,aD,aH,aE,aR,aF,aQ),(aP,aO,aN,aM,aK,aJ,aI),aS).1 (aW ((aB,aC,aD,aH,aE,aR,aF,aQ),(aP,aO,aN,aM,aK,aJ,aI),aS) (bo ((aB,aC,aD,aH,aE,aR,aF,aQ),(aP,aO,aN,aM,aK,aJ,aI),aS) o2)) o4 o5).2.1,0),0,fun n h=>(h.iA (text:=o5) hfu (h0 w6) xF (ET dC) ha0 (ah3 gx)).2.mono (by omega),rfl,rfl,rfl⟩
 ·refine ⟨[1000710000,1000710001],[],_,_,_,rfl,rr,(mY ((iU ((aB,aC,aD,aH,aE,aR,aF,aQ),(aP,aO,aN,aM,aK,aJ,aI),aS).1 (aW ((aB,aC,aD,aH,aE,aR,aF,aQ),(aP,aO,aN,aM,aK,aJ,aI),aS) (bo ((aB,aC,aD,aH,aE,aR,aF,aQ),(aP,aO,aN,aM,aK,aJ,aI),aS) o2)) o4).1,((aB,aC,aD,aH,aE,aR,aF,aQ),(aP,aO,aN,aM,aK,aJ,aI),aS).2.1,!(iU ((aB,aC,aD,aH,aE,aR,aF,aQ),(aP,aO,aN,aM,aK,aJ,aI),aS).1 (aW ((aB,aC,aD,aH,aE,aR,aF,aQ),(aP,aO,aN,aM,aK,aJ,aI),aS) (bo ((aB,aC,aD,aH,aE,aR,aF,aQ),(aP,aO,aN,aM,aK,aJ,aI),aS) o2)) o4).2.2) (bo ((aB,aC,aD,aH,aE,aR,aF,aQ),(aP,aO,aN,aM,aK,aJ,aI),aS) o2) (iU ((aB,aC,aD,aH,aE,aR,aF,aQ),(aP,aO,aN,aM,aK,aJ,aI),aS).1 (aW ((aB,aC,aD,aH,aE,aR,aF,aQ),(aP,aO,aN,aM,aK,aJ,aI),aS) (bo ((aB,aC,aD,aH,aE,aR,aF,aQ),(aP,aO,aN,aM,aK,aJ,aI),aS) o2)) o4).2.1,0),0,fun n h=>(h.c13 hfu (h0 w6) xF (ET dC) ha0 ha1).2.mono (by omega),rfl,rfl,rfl⟩
end GL
end Go.Proofs.YtbfgjadbfjkcdaaGreatDoor
