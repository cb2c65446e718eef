/- FnTreeOk returns true for every code (its row lists package variables, tied by the card): part 34 of 39. -/
import Derived.Test.YtbfgjadbfjkcdaaGreatDoorPaz
set_option maxHeartbeats 20000000
set_option linter.all false
namespace Go.Proofs.YtbfgjadbfjkcdaaGreatDoor
namespace GL
def fsA (b0 b1 b2 b3 b4:Nat) (F:fj):List SV:=[.xs b0 1 0 F.1.rows.length, .xs b1 1 0 F.1.refs.length, .xs b2 1 0 F.1.last.length, .int F.1.bY, .xs b3 5 0 F.1.gone.length, .int F.1.bT, .xs b4 5 0 F.1.dead.length, .q F.1.same, .int F.2.1.1, .int F.2.1.2.1, .int F.2.1.2.2.1, .int F.2.1.2.2.2.1, .int F.2.1.2.2.2.2.1, .int F.2.1.2.2.2.2.2.1, .int F.2.1.2.2.2.2.2.2, .q F.2.2]
def fsO (F:fj):List AV:=[.a (fsA 1 2 3 4 5 F), .rs aa F.1.rows, .rs ae F.1.refs, .rs ae F.1.last, .rs ab F.1.gone, .rs ab F.1.dead]
def fsP (F:fj):List AV:=[.a (fsA 1 2 3 6 7 F), .rs aa F.1.rows, .rs ae F.1.refs, .rs ae F.1.last, .zz, .zz, .rs ab F.1.gone, .rs ab F.1.dead]
def eY (F:fj) (id:Int):Prop:=F.1.rd∧F.2.1.ok
def pw (F:fj) (id:Int):AV:=.o (ndA (cF F.1 F.2.1 id).1)
def rD (F:fj) (id:Int):List AV:=fsO F
def dz:Con where
 A:=[.b 0, .s .int]
 B:=[.a [.xb 1 aa, .xb 2 ae, .xb 3 ae, .int, .xb 4 ab, .int, .xb 5 ab, .bool, .int, .int, .int, .int, .int, .int, .int, .bool], .r aa, .r ae, .r ae, .r ab, .r ab]
 pre:=fun x b=>whole ((b.1).1) ((b.1).2.1) ((b.1).2.2.1) ((b.1).2.2.2.2.1) ((b.1).2.2.2.2.2.2.1) (b.2.1) (b.2.2.1) (b.2.2.2.1) (b.2.2.2.2.1) (b.2.2.2.2.2)∧eY (((b.2.1,b.2.2.1,b.2.2.2.1,(b.1).2.2.2.1,b.2.2.2.2.1,(b.1).2.2.2.2.2.1,b.2.2.2.2.2,(b.1).2.2.2.2.2.2.2.1),((b.1).2.2.2.2.2.2.2.2.1,(b.1).2.2.2.2.2.2.2.2.2.1,(b.1).2.2.2.2.2.2.2.2.2.2.1,(b.1).2.2.2.2.2.2.2.2.2.2.2.1,(b.1).2.2.2.2.2.2.2.2.2.2.2.2.1,(b.1).2.2.2.2.2.2.2.2.2.2.2.2.2.1,(b.1).2.2.2.2.2.2.2.2.2.2.2.2.2.2.1),(b.1).2.2.2.2.2.2.2.2.2.2.2.2.2.2.2)) (x.2)
 α:=fun _ _=>Unit
 φ:=fun _ _ _=>True
 r:=fun x b _=>pw (((b.2.1,b.2.2.1,b.2.2.2.1,(b.1).2.2.2.1,b.2.2.2.2.1,(b.1).2.2.2.2.2.1,b.2.2.2.2.2,(b.1).2.2.2.2.2.2.2.1),((b.1).2.2.2.2.2.2.2.2.1,(b.1).2.2.2.2.2.2.2.2.2.1,(b.1).2.2.2.2.2.2.2.2.2.2.1,(b.1).2.2.2.2.2.2.2.2.2.2.2.1,(b.1).2.2.2.2.2.2.2.2.2.2.2.2.1,(b.1).2.2.2.2.2.2.2.2.2.2.2.2.2.1,(b.1).2.2.2.2.2.2.2.2.2.2.2.2.2.2.1),(b.1).2.2.2.2.2.2.2.2.2.2.2.2.2.2.2)) (x.2)
 o:=fun x b _=>rD (((b.2.1,b.2.2.1,b.2.2.2.1,(b.1).2.2.2.1,b.2.2.2.2.1,(b.1).2.2.2.2.2.1,b.2.2.2.2.2,(b.1).2.2.2.2.2.2.2.1),((b.1).2.2.2.2.2.2.2.2.1,(b.1).2.2.2.2.2.2.2.2.2.1,(b.1).2.2.2.2.2.2.2.2.2.2.1,(b.1).2.2.2.2.2.2.2.2.2.2.2.1,(b.1).2.2.2.2.2.2.2.2.2.2.2.2.1,(b.1).2.2.2.2.2.2.2.2.2.2.2.2.2.1,(b.1).2.2.2.2.2.2.2.2.2.2.2.2.2.2.1),(b.1).2.2.2.2.2.2.2.2.2.2.2.2.2.2.2)) (x.2)
 nf:=0
 ro:=true
set_option maxRecDepth 100000 in
theorem jN:Has Tryz.prog 103 dz:=by
 refine Has.ofE (fun _=>true) (fun _=>false) (fun _=>false) (l:=[(132,jx)]) ⟨vA,trivial⟩ (fn:=Tryz.f103) Tryz.func103 rfl (by decide) (cH rfl) ?_
 rintro ⟨_,(id:Int)⟩ ⟨⟨(Fm1:Nat),(Fm2:Nat),(Fm3:Nat),(aH:Int),(Fm4:Nat),(aR:Int),(Fm5:Nat),(aQ:Bool),(aP:Int),(aO:Int),(aN:Int),(aM:Int),(aK:Int),(aJ:Int),(aI:Int),(aS:Bool)⟩,(aB:List ByteArray),(aC:List Int),(aD:List Int),(aE:List Pt),(aF:List Pt)⟩ ⟨⟨(jr:Fm1=List.length aB),(jq:Fm2=List.length aC),(jo:Fm3=List.length aD),(jn:Fm4=List.length aE),(jm:Fm5=List.length aF)⟩,(hp:eY ((aB,aC,aD,aH,aE,aR,aF,aQ),(aP,aO,aN,aM,aK,aJ,aI),aS) id)⟩
 subst jr jq jo jn jm
 show vc _ _ _ _ (entry [.s (.bp 0 0), .int id] [.a [.xs 1 1 0 aB.length, .xs 2 1 0 aC.length, .xs 3 1 0 aD.length, .int aH, .xs 4 5 0 aE.length, .int aR, .xs 5 5 0 aF.length, .q aQ, .int aP, .int aO, .int aN, .int aM, .int aK, .int aJ, .int aI, .q aS], .rs aa aB, .rs ae aC, .rs ae aD, .rs ab aE, .rs ab aF]) _
 obtain ⟨dA,cq⟩:=hp
 refine ⟨[.s 0],[.s 8],rfl,[.s 8],[.s 9],rfl,[.s 9],[.s 10],rfl,[.s 10, .b 0],[.s 11],rfl,[.s 0],[.s 12],rfl,[.s 12],[.s 13],rfl,[.s 13],[.s 14],rfl,[.s 14, .b 0],[.s 15],rfl,[.s 1],[.s 16],rfl,[.s 11, .s 15, .s 16, .b 1, .b 2, .b 3, .b 4, .b 5],[.s 17],rfl,⟨⟨⟨⟨?_,?_⟩,⟨?_,?_⟩,⟨?_,?_⟩,tv,⟨?_,?_⟩,tv,⟨?_,?_⟩,tv,tv⟩,⟨tv,tv,tv,tv,tv,tv,tv,tv⟩,tv,tv⟩,?_,?_⟩,?_,fun x1 w2=>⟨[.s 17],[.s 7],rfl,[.s 7],[.s 18],rfl,[.s 7],[.s 19],rfl,[.b 1005],[.s 5, .b 1005],rfl,[.s 5, .s 18, .b 1005],[.b 1005],rfl,[.s 19],[.s 6],rfl,?_⟩⟩
 all_goals first|refine au ?_|refine aw ?_|exact sa|(dsimp only [jx,kI];omega)|exact sb|exact dA|exact cq|skip
 refine ⟨[],[],_,_,_,rfl,rp,(),tv,?_,?_,rfl⟩
 ·(show _=pw ((aB,aC,aD,aH,aE,aR,aF,aQ),(aP,aO,aN,aM,aK,aJ,aI),aS) id);unfold pw;first |rfl
 ·(show _=rD ((aB,aC,aD,aH,aE,aR,aF,aQ),(aP,aO,aN,aM,aK,aJ,aI),aS) id);unfold rD;first |rfl
def fe (F:fj) (id:Int):Prop:=F.1.rd∧F.2.1.ok
def lE (F:fj) (id:Int):AV:=.s (.vw aG (bE F.1 (aW F id)).1)
def mP (F:fj) (id:Int):List AV:=fsO F
def dM:Con where
 A:=[.b 0, .s .int]
 B:=[.a [.xb 1 aa, .xb 2 ae, .xb 3 ae, .int, .xb 4 ab, .int, .xb 5 ab, .bool, .int, .int, .int, .int, .int, .int, .int, .bool], .r aa, .r ae, .r ae, .r ab, .r ab]
 pre:=fun x b=>whole ((b.1).1) ((b.1).2.1) ((b.1).2.2.1) ((b.1).2.2.2.2.1) ((b.1).2.2.2.2.2.2.1) (b.2.1) (b.2.2.1) (b.2.2.2.1) (b.2.2.2.2.1) (b.2.2.2.2.2)∧fe (((b.2.1,b.2.2.1,b.2.2.2.1,(b.1).2.2.2.1,b.2.2.2.2.1,(b.1).2.2.2.2.2.1,b.2.2.2.2.2,(b.1).2.2.2.2.2.2.2.1),((b.1).2.2.2.2.2.2.2.2.1,(b.1).2.2.2.2.2.2.2.2.2.1,(b.1).2.2.2.2.2.2.2.2.2.2.1,(b.1).2.2.2.2.2.2.2.2.2.2.2.1,(b.1).2.2.2.2.2.2.2.2.2.2.2.2.1,(b.1).2.2.2.2.2.2.2.2.2.2.2.2.2.1,(b.1).2.2.2.2.2.2.2.2.2.2.2.2.2.2.1),(b.1).2.2.2.2.2.2.2.2.2.2.2.2.2.2.2)) (x.2)
 α:=fun _ _=>Unit
 φ:=fun _ _ _=>True
 r:=fun x b _=>lE (((b.2.1,b.2.2.1,b.2.2.2.1,(b.1).2.2.2.1,b.2.2.2.2.1,(b.1).2.2.2.2.2.1,b.2.2.2.2.2,(b.1).2.2.2.2.2.2.2.1),((b.1).2.2.2.2.2.2.2.2.1,(b.1).2.2.2.2.2.2.2.2.2.1,(b.1).2.2.2.2.2.2.2.2.2.2.1,(b.1).2.2.2.2.2.2.2.2.2.2.2.1,(b.1).2.2.2.2.2.2.2.2.2.2.2.2.1,(b.1).2.2.2.2.2.2.2.2.2.2.2.2.2.1,(b.1).2.2.2.2.2.2.2.2.2.2.2.2.2.2.1),(b.1).2.2.2.2.2.2.2.2.2.2.2.2.2.2.2)) (x.2)
 o:=fun x b _=>mP (((b.2.1,b.2.2.1,b.2.2.2.1,(b.1).2.2.2.1,b.2.2.2.2.1,(b.1).2.2.2.2.2.1,b.2.2.2.2.2,(b.1).2.2.2.2.2.2.2.1),((b.1).2.2.2.2.2.2.2.2.1,(b.1).2.2.2.2.2.2.2.2.2.1,(b.1).2.2.2.2.2.2.2.2.2.2.1,(b.1).2.2.2.2.2.2.2.2.2.2.2.1,(b.1).2.2.2.2.2.2.2.2.2.2.2.2.1,(b.1).2.2.2.2.2.2.2.2.2.2.2.2.2.1,(b.1).2.2.2.2.2.2.2.2.2.2.2.2.2.2.1),(b.1).2.2.2.2.2.2.2.2.2.2.2.2.2.2.2)) (x.2)
 nf:=0
 ro:=true
set_option maxRecDepth 100000 in
theorem kC:Has Tryz.prog 97 dM:=by
 refine Has.ofE (fun _=>true) (fun _=>false) (fun _=>false) (l:=[(103,dz),(128,iw)]) ⟨jN,tG,trivial⟩ (fn:=Tryz.f97) Tryz.func97 rfl (by decide) (cH rfl) ?_
 rintro ⟨_,(id:Int)⟩ ⟨⟨(Fm1:Nat),(Fm2:Nat),(Fm3:Nat),(aH:Int),(Fm4:Nat),(aR:Int),(Fm5:Nat),(aQ:Bool),(aP:Int),(aO:Int),(aN:Int),(aM:Int),(aK:Int),(aJ:Int),(aI:Int),(aS:Bool)⟩,(aB:List ByteArray),(aC:List Int),(aD:List Int),(aE:List Pt),(aF:List Pt)⟩ ⟨⟨(jr:Fm1=List.length aB),(jq:Fm2=List.length aC),(jo:Fm3=List.length aD),(jn:Fm4=List.length aE),(jm:Fm5=List.length aF)⟩,(hp:fe ((aB,aC,aD,aH,aE,aR,aF,aQ),(aP,aO,aN,aM,aK,aJ,aI),aS) id)⟩
 subst jr jq jo jn jm
 show vc _ _ _ _ (entry [.s (.bp 0 0), .int id] [.a [.xs 1 1 0 aB.length, .xs 2 1 0 aC.length, .xs 3 1 0 aD.length, .int aH, .xs 4 5 0 aE.length, .int aR, .xs 5 5 0 aF.length, .q aQ, .int aP, .int aO, .int aN, .int aM, .int aK, .int aJ, .int aI, .q aS], .rs aa aB, .rs ae aC, .rs ae aD, .rs ab aE, .rs ab aF]) _
 obtain ⟨dA,cq⟩:=hp
 refine ⟨[.s 0],[.s 8],rfl,[.s 8],[.s 9],rfl,[.s 9],[.s 10],rfl,[.s 10, .b 0],[.s 11],rfl,[.s 0],[.s 12],rfl,[.s 1],[.s 13],rfl,[.s 12, .s 13, .b 0, .b 1, .b 2, .b 3, .b 4, .b 5],[.s 14],rfl,⟨⟨⟨tv,tv,tv⟩,⟨?_,?_,?_,?_,?_⟩,?_,?_⟩,fun x1 w2=>?_⟩,?_,fun x3 w4=>⟨[.s 11, .s 14, .b 1, .b 2, .b 3, .b 4, .b 5],[.s 15],rfl,⟨⟨⟨⟨?_,?_⟩,⟨?_,?_⟩,⟨?_,?_⟩,tv,⟨?_,?_⟩,tv,⟨?_,?_⟩,tv,tv⟩,⟨tv,tv,tv,tv,tv,tv,tv,tv,tv,tv,tv⟩,tv⟩,?_⟩,?_,fun x5 w6=>⟨[.s 15],[.s 7],rfl,[.s 7],[.s 16],rfl,[.s 7],[.s 17],rfl,[.s 16],[.s 5],rfl,[.s 17],[.s 6],rfl,?_⟩⟩⟩
 all_goals first|refine au ?_|refine aw ?_|exact sa|(dsimp only [dz,eY];omega)|(dsimp only [iw,je];omega)|exact sb|exact dA|exact cq|exact ⟨dA,cq⟩|exact fun _ _=>rfl|skip
 refine ⟨[],[],_,_,_,rfl,rp,(),tv,?_,?_,rfl⟩
 ·(show _=lE ((aB,aC,aD,aH,aE,aR,aF,aQ),(aP,aO,aN,aM,aK,aJ,aI),aS) id);unfold lE;first |rfl
 ·(show _=mP ((aB,aC,aD,aH,aE,aR,aF,aQ),(aP,aO,aN,aM,aK,aJ,aI),aS) id);unfold mP;first |rfl
def gA (F:fj) (id:Int) (n:fl):Prop:=F.1.wg 1046000∧F.2.1.ok∧0≤id∧id≤15
def kc (F:fj) (id:Int) (n:fl):AV:=.t []
def lV (F:fj) (id:Int) (n:fl):List AV:=fsP (mY F id n)
def fb:Con where
 A:=[.b 0, .s .int, .a [.int, .int, .int, .int, .int, .int, .int, .int, .int, .int]]
 B:=[.a [.xb 1 aa, .xb 2 ae, .xb 3 ae, .int, .xb 4 ab, .int, .xb 5 ab, .bool, .int, .int, .int, .int, .int, .int, .int, .bool], .r aa, .r ae, .r ae, .r ab, .r ab]
 pre:=fun x b=>whole ((b.1).1) ((b.1).2.1) ((b.1).2.2.1) ((b.1).2.2.2.2.1) ((b.1).2.2.2.2.2.2.1) (b.2.1) (b.2.2.1) (b.2.2.2.1) (b.2.2.2.2.1) (b.2.2.2.2.2)∧gA (((b.2.1,b.2.2.1,b.2.2.2.1,(b.1).2.2.2.1,b.2.2.2.2.1,(b.1).2.2.2.2.2.1,b.2.2.2.2.2,(b.1).2.2.2.2.2.2.2.1),((b.1).2.2.2.2.2.2.2.2.1,(b.1).2.2.2.2.2.2.2.2.2.1,(b.1).2.2.2.2.2.2.2.2.2.2.1,(b.1).2.2.2.2.2.2.2.2.2.2.2.1,(b.1).2.2.2.2.2.2.2.2.2.2.2.2.1,(b.1).2.2.2.2.2.2.2.2.2.2.2.2.2.1,(b.1).2.2.2.2.2.2.2.2.2.2.2.2.2.2.1),(b.1).2.2.2.2.2.2.2.2.2.2.2.2.2.2.2)) (x.2.1) (x.2.2)
 α:=fun _ _=>Unit
 φ:=fun _ _ _=>True
 r:=fun x b _=>kc (((b.2.1,b.2.2.1,b.2.2.2.1,(b.1).2.2.2.1,b.2.2.2.2.1,(b.1).2.2.2.2.2.1,b.2.2.2.2.2,(b.1).2.2.2.2.2.2.2.1),((b.1).2.2.2.2.2.2.2.2.1,(b.1).2.2.2.2.2.2.2.2.2.1,(b.1).2.2.2.2.2.2.2.2.2.2.1,(b.1).2.2.2.2.2.2.2.2.2.2.2.1,(b.1).2.2.2.2.2.2.2.2.2.2.2.2.1,(b.1).2.2.2.2.2.2.2.2.2.2.2.2.2.1,(b.1).2.2.2.2.2.2.2.2.2.2.2.2.2.2.1),(b.1).2.2.2.2.2.2.2.2.2.2.2.2.2.2.2)) (x.2.1) (x.2.2)
 o:=fun x b _=>lV (((b.2.1,b.2.2.1,b.2.2.2.1,(b.1).2.2.2.1,b.2.2.2.2.1,(b.1).2.2.2.2.2.1,b.2.2.2.2.2,(b.1).2.2.2.2.2.2.2.1),((b.1).2.2.2.2.2.2.2.2.1,(b.1).2.2.2.2.2.2.2.2.2.1,(b.1).2.2.2.2.2.2.2.2.2.2.1,(b.1).2.2.2.2.2.2.2.2.2.2.2.1,(b.1).2.2.2.2.2.2.2.2.2.2.2.2.1,(b.1).2.2.2.2.2.2.2.2.2.2.2.2.2.1,(b.1).2.2.2.2.2.2.2.2.2.2.2.2.2.2.1),(b.1).2.2.2.2.2.2.2.2.2.2.2.2.2.2.2)) (x.2.1) (x.2.2)
 nf:=2
 mv:=true
set_option maxRecDepth 100000 in
theorem nY:Has Tryz.prog 98 fb:=by
 refine Has.ofZ (fun _=>true) (fun _=>false) (fun _=>false) (l:=[(63,vU)]) ⟨TM,trivial⟩ (fn:=Tryz.f98) Tryz.func98 rfl (by decide) (cH rfl) ?_
 rintro ⟨_,(id:Int),⟨(n1:Int),(n2:Int),(n3:Int),(n4:Int),(n5:Int),(n6:Int),(n7:Int),(n8:Int),(n9:Int),(ck:Int)⟩⟩ ⟨⟨(Fm1:Nat),(Fm2:Nat),(Fm3:Nat),(aH:Int),(Fm4:Nat),(aR:Int),(Fm5:Nat),(aQ:Bool),(aP:Int),(aO:Int),(aN:Int),(aM:Int),(aK:Int),(aJ:Int),(aI:Int),(aS:Bool)⟩,(aB:List ByteArray),(aC:List Int),(aD:List Int),(aE:List Pt),(aF:List Pt)⟩ ⟨⟨(jr:Fm1=List.length aB),(jq:Fm2=List.length aC),(jo:Fm3=List.length aD),(jn:Fm4=List.length aE),(jm:Fm5=List.length aF)⟩,(hp:gA ((aB,aC,aD,aH,aE,aR,aF,aQ),(aP,aO,aN,aM,aK,aJ,aI),aS) id (n1,n2,n3,n4,n5,n6,n7,n8,n9,ck))⟩
 subst jr jq jo jn jm
 show vc _ _ _ _ (entry [.s (.bp 0 0), .int id, .a [.int n1, .int n2, .int n3, .int n4, .int n5, .int n6, .int n7, .int n8, .int n9, .int ck]] [.a [.xs 1 1 0 aB.length, .xs 2 1 0 aC.length, .xs 3 1 0 aD.length, .int aH, .xs 4 5 0 aE.length, .int aR, .xs 5 5 0 aF.length, .q aQ, .int aP, .int aO, .int aN, .int aM, .int aK, .int aJ, .int aI, .q aS], .rs aa aB, .rs ae aC, .rs ae aD, .rs ab aE, .rs ab aF]) _
 obtain ⟨ll,cq,hi0,mo⟩:=hp
 refine ⟨fun w1=>?_,fun w2=>⟨[.s 0],[.s 14],rfl,[.s 14],[.s 15],rfl,[.s 15],[.s 16],rfl,[.s 16, .b 0],[.s 17],rfl,[.s 0],[.s 18],rfl,[.s 18],[.s 19],rfl,[.s 19],[.s 20],rfl,[.s 20, .b 0],[.s 21],rfl,[.s 1],[.s 22],rfl,[.s 5, .b 1005],[.s 23],rfl,[.s 17, .s 21, .s 22, .s 23, .b 1, .b 2, .b 3, .b 4, .b 5, .b 1000250001, .b 1000250000],[.s 24, .b 1, .b 2, .b 3, .b 4, .b 5, .b 1000250000, .b 1000250001],rfl,⟨⟨⟨tv,tv,tv,tv,tv,tv,tv,tv,tv⟩,⟨tv,tv,tv,tv,tv,tv,tv,tv⟩,tv,⟨tv,tv,tv,tv,tv,tv,tv,tv,tv,tv,tv⟩,tv⟩,⟨?_,?_,?_,?_,?_⟩,?_,?_,?_,?_⟩,?_,fun x3 w4=>⟨[.s 24],[.s 13],rfl,[.s 13],[.s 25],rfl,[.s 13],[.s 26],rfl,[.s 13],[.s 27],rfl,[.b 1006],[.s 6, .b 1006],rfl,[.b 1007],[.s 7, .b 1007],rfl,[.s 6, .s 25, .b 1006],[.b 1006],rfl,[.s 7, .s 26, .b 1007],[.b 1007],rfl,[.s 27],[.s 8],rfl,?_⟩⟩⟩
 all_goals first|refine au ?_|refine aw ?_|exact sa|(dsimp only [vU,th];omega)|exact sb|exact ll|exact cq|skip
 ·refine ⟨[4,5],[],_,_,_,rfl,rp,(),0,tv,?_,?_,rfl⟩
  ·(show _=kc ((aB,aC,aD,aH,aE,aR,aF,aQ),(aP,aO,aN,aM,aK,aJ,aI),aS) id (n1,n2,n3,n4,n5,n6,n7,n8,n9,ck));unfold kc;first |(rw [PX (F:=((aB,aC,aD,aH,aE,aR,aF,aQ),(aP,aO,aN,aM,aK,aJ,aI),aS)) w1];rfl) |rfl
  ·(show _=lV ((aB,aC,aD,aH,aE,aR,aF,aQ),(aP,aO,aN,aM,aK,aJ,aI),aS) id (n1,n2,n3,n4,n5,n6,n7,n8,n9,ck));unfold lV;first |(rw [PX (F:=((aB,aC,aD,aH,aE,aR,aF,aQ),(aP,aO,aN,aM,aK,aJ,aI),aS)) w1];rfl) |rfl
 ·refine ⟨[1000250000,1000250001],[],_,_,_,rfl,rp,(),0,tv,?_,?_,rfl⟩
  ·(show _=kc ((aB,aC,aD,aH,aE,aR,aF,aQ),(aP,aO,aN,aM,aK,aJ,aI),aS) id (n1,n2,n3,n4,n5,n6,n7,n8,n9,ck));unfold kc;first |(rw [PW (F:=((aB,aC,aD,aH,aE,aR,aF,aQ),(aP,aO,aN,aM,aK,aJ,aI),aS)) w2];rfl) |rfl
  ·(show _=lV ((aB,aC,aD,aH,aE,aR,aF,aQ),(aP,aO,aN,aM,aK,aJ,aI),aS) id (n1,n2,n3,n4,n5,n6,n7,n8,n9,ck));unfold lV;first |(rw [PW (F:=((aB,aC,aD,aH,aE,aR,aF,aQ),(aP,aO,aN,aM,aK,aJ,aI),aS)) w2];rfl) |rfl
def iF (F:fj) (path:ByteArray):Prop:=F.1.rd∧F.2.1.ok∧path.size≤1000000
def dL (F:fj) (path:ByteArray):AV:=.t [.s (.int (dK F path).1), .s (.int (dK F path).2)]
def ef (F:fj) (path:ByteArray):List AV:=fsO F
def gE:Con where
 A:=[.b 0, .s .str]
 B:=[.a [.xb 1 aa, .xb 2 ae, .xb 3 ae, .int, .xb 4 ab, .int, .xb 5 ab, .bool, .int, .int, .int, .int, .int, .int, .int, .bool], .r aa, .r ae, .r ae, .r ab, .r ab]
 pre:=fun x b=>whole ((b.1).1) ((b.1).2.1) ((b.1).2.2.1) ((b.1).2.2.2.2.1) ((b.1).2.2.2.2.2.2.1) (b.2.1) (b.2.2.1) (b.2.2.2.1) (b.2.2.2.2.1) (b.2.2.2.2.2)∧iF (((b.2.1,b.2.2.1,b.2.2.2.1,(b.1).2.2.2.1,b.2.2.2.2.1,(b.1).2.2.2.2.2.1,b.2.2.2.2.2,(b.1).2.2.2.2.2.2.2.1),((b.1).2.2.2.2.2.2.2.2.1,(b.1).2.2.2.2.2.2.2.2.2.1,(b.1).2.2.2.2.2.2.2.2.2.2.1,(b.1).2.2.2.2.2.2.2.2.2.2.2.1,(b.1).2.2.2.2.2.2.2.2.2.2.2.2.1,(b.1).2.2.2.2.2.2.2.2.2.2.2.2.2.1,(b.1).2.2.2.2.2.2.2.2.2.2.2.2.2.2.1),(b.1).2.2.2.2.2.2.2.2.2.2.2.2.2.2.2)) (x.2)
 α:=fun _ _=>Unit
 φ:=fun _ _ _=>True
 r:=fun x b _=>dL (((b.2.1,b.2.2.1,b.2.2.2.1,(b.1).2.2.2.1,b.2.2.2.2.1,(b.1).2.2.2.2.2.1,b.2.2.2.2.2,(b.1).2.2.2.2.2.2.2.1),((b.1).2.2.2.2.2.2.2.2.1,(b.1).2.2.2.2.2.2.2.2.2.1,(b.1).2.2.2.2.2.2.2.2.2.2.1,(b.1).2.2.2.2.2.2.2.2.2.2.2.1,(b.1).2.2.2.2.2.2.2.2.2.2.2.2.1,(b.1).2.2.2.2.2.2.2.2.2.2.2.2.2.1,(b.1).2.2.2.2.2.2.2.2.2.2.2.2.2.2.1),(b.1).2.2.2.2.2.2.2.2.2.2.2.2.2.2.2)) (x.2)
 o:=fun x b _=>ef (((b.2.1,b.2.2.1,b.2.2.2.1,(b.1).2.2.2.1,b.2.2.2.2.1,(b.1).2.2.2.2.2.1,b.2.2.2.2.2,(b.1).2.2.2.2.2.2.2.1),((b.1).2.2.2.2.2.2.2.2.1,(b.1).2.2.2.2.2.2.2.2.2.1,(b.1).2.2.2.2.2.2.2.2.2.2.1,(b.1).2.2.2.2.2.2.2.2.2.2.2.1,(b.1).2.2.2.2.2.2.2.2.2.2.2.2.1,(b.1).2.2.2.2.2.2.2.2.2.2.2.2.2.1,(b.1).2.2.2.2.2.2.2.2.2.2.2.2.2.2.1),(b.1).2.2.2.2.2.2.2.2.2.2.2.2.2.2.2)) (x.2)
 nf:=0
 ro:=true
set_option maxRecDepth 100000 in
theorem rF:Has Tryz.prog 104 gE:=by
 refine Has.ofE (fun _=>true) (fun _=>false) (fun _=>false) (l:=[(111,eL),(131,sD),(103,dz)]) ⟨mU,MB,jN,trivial⟩ (fn:=Tryz.f104) Tryz.func104 rfl (by decide) (cH rfl) ?_
 rintro ⟨_,(path:ByteArray)⟩ ⟨⟨(Fm1:Nat),(Fm2:Nat),(Fm3:Nat),(aH:Int),(Fm4:Nat),(aR:Int),(Fm5:Nat),(aQ:Bool),(aP:Int),(aO:Int),(aN:Int),(aM:Int),(aK:Int),(aJ:Int),(aI:Int),(aS:Bool)⟩,(aB:List ByteArray),(aC:List Int),(aD:List Int),(aE:List Pt),(aF:List Pt)⟩ ⟨⟨(jr:Fm1=List.length aB),(jq:Fm2=List.length aC),(jo:Fm3=List.length aD),(jn:Fm4=List.length aE),(jm:Fm5=List.length aF)⟩,(hp:iF ((aB,aC,aD,aH,aE,aR,aF,aQ),(aP,aO,aN,aM,aK,aJ,aI),aS) path)⟩
 subst jr jq jo jn jm
 show vc _ _ _ _ (entry [.s (.bp 0 0), .str path] [.a [.xs 1 1 0 aB.length, .xs 2 1 0 aC.length, .xs 3 1 0 aD.length, .int aH, .xs 4 5 0 aE.length, .int aR, .xs 5 5 0 aF.length, .q aQ, .int aP, .int aO, .int aN, .int aM, .int aK, .int aJ, .int aI, .q aS], .rs aa aB, .rs ae aC, .rs ae aD, .rs ab aE, .rs ab aF]) _
 obtain ⟨dA,cq,hps⟩:=hp
 have hnl:=qc (s:=path)
 have hln:(nZ path).length≤1000000:=by rw [List.length_take];omega
 refine ⟨⟨⟨tv,tv⟩,?_⟩,fun x1 w2=>⟨fun w3=>?_,fun w4=>⟨[.s 0],[.s 13],rfl,[.s 13],[.s 14],rfl,[.s 14],[.s 15],rfl,[.s 15, .b 0],[.s 16],rfl,[.s 0],[.s 17],rfl,[.s 17],[.s 18],rfl,[.s 18],[.s 19],rfl,[.s 19, .b 0],[.s 20],rfl,[.s 6],[.s 21],rfl,[.s 6],[.s 22],rfl,[.s 22],[.s 23],rfl,[.s 23],[.s 24],rfl,⟨?_,?_⟩,[.s 21, .s 24],[.s 25],rfl,⟨?_,?_,?_⟩,[.s 16, .s 20, .s 25, .b 1, .b 2, .b 3, .b 4, .b 5],[.s 26],rfl,⟨⟨⟨⟨?_,?_⟩,⟨?_,?_⟩,⟨?_,?_⟩,tv,⟨?_,?_⟩,tv,⟨?_,?_⟩,tv,tv⟩,⟨tv,tv,tv,tv,tv,tv,tv,tv⟩,tv,tv⟩,?_,?_,?_⟩,?_,fun x5 w6=>⟨[.s 26],[.s 7],rfl,fun w7=>?_,fun w8=>⟨⟨⟨⟨tv,tv,tv⟩,⟨?_,?_,?_,?_,?_⟩,?_,?_⟩,fun x9 df=>?_⟩,fun kx dC=>⟨fun iA=>?_,fun gx=>?_⟩⟩⟩⟩⟩⟩
 all_goals first|refine au ?_|refine aw ?_|exact sa|(dsimp only [eL,fu];omega)|(dsimp only [sD,qN];omega)|(dsimp only [dz,eY];omega)|exact sb|exact dA|exact cq|exact ⟨dA,cq⟩|exact fun _ _=>rfl|skip
 ·have e:dK ((aB,aC,aD,aH,aE,aR,aF,aQ),(aP,aO,aN,aM,aK,aJ,aI),aS) path=(0,3):=by unfold dK;rw [w3];rfl
  refine ⟨[],[],_,_,_,rfl,rp,(),tv,?_,?_,rfl⟩
  ·(show _=dL ((aB,aC,aD,aH,aE,aR,aF,aQ),(aP,aO,aN,aM,aK,aJ,aI),aS) path);unfold dL;first |(rw [e];rfl) |rfl
  ·(show _=ef ((aB,aC,aD,aH,aE,aR,aF,aQ),(aP,aO,aN,aM,aK,aJ,aI),aS) path);unfold ef;first |(rw [e];rfl) |rfl
 ·exact hln
 ·have e:dK ((aB,aC,aD,aH,aE,aR,aF,aQ),(aP,aO,aN,aM,aK,aJ,aI),aS) path=(0,2):=by unfold dK plE;rw [w4,show decide (uL ((aB,aC,aD,aH,aE,aR,aF,aQ),(aP,aO,aN,aM,aK,aJ,aI),aS).1 ((aB,aC,aD,aH,aE,aR,aF,aQ),(aP,aO,aN,aM,aK,aJ,aI),aS).2.1 (nZ path) < 0)=true from w7];rfl
  refine ⟨[],[],_,_,_,rfl,rp,(),tv,?_,?_,rfl⟩
  ·(show _=dL ((aB,aC,aD,aH,aE,aR,aF,aQ),(aP,aO,aN,aM,aK,aJ,aI),aS) path);unfold dL;first |(rw [e];rfl) |rfl
  ·(show _=ef ((aB,aC,aD,aH,aE,aR,aF,aQ),(aP,aO,aN,aM,aK,aJ,aI),aS) path);unfold ef;first |(rw [e];rfl) |rfl
 ·have e:dK ((aB,aC,aD,aH,aE,aR,aF,aQ),(aP,aO,aN,aM,aK,aJ,aI),aS) path=(0,4):=by unfold dK plE;rw [w4,show decide (uL ((aB,aC,aD,aH,aE,aR,aF,aQ),(aP,aO,aN,aM,aK,aJ,aI),aS).1 ((aB,aC,aD,aH,aE,aR,aF,aQ),(aP,aO,aN,aM,aK,aJ,aI),aS).2.1 (nZ path) < 0)=false from w8,show decide ((aW ((aB,aC,aD,aH,aE,aR,aF,aQ),(aP,aO,aN,aM,aK,aJ,aI),aS) (uL ((aB,aC,aD,aH,aE,aR,aF,aQ),(aP,aO,aN,aM,aK,aJ,aI),aS).1 ((aB,aC,aD,aH,aE,aR,aF,aQ),(aP,aO,aN,aM,aK,aJ,aI),aS).2.1 (nZ path))).1≠2)=true from iA];rfl
  refine ⟨[],[],_,_,_,rfl,rp,(),tv,?_,?_,rfl⟩
  ·(show _=dL ((aB,aC,aD,aH,aE,aR,aF,aQ),(aP,aO,aN,aM,aK,aJ,aI),aS) path);unfold dL;first |(rw [e];rfl) |rfl
  ·(show _=ef ((aB,aC,aD,aH,aE,aR,aF,aQ),(aP,aO,aN,aM,aK,aJ,aI),aS) path);unfold ef;first |(rw [e];rfl) |rfl
 ·have e:dK ((aB,aC,aD,aH,aE,aR,aF,aQ),(aP,aO,aN,aM,aK,aJ,aI),aS) path=(uL ((aB,aC,aD,aH,aE,aR,aF,aQ),(aP,aO,aN,aM,aK,aJ,aI),aS).1 ((aB,aC,aD,aH,aE,aR,aF,aQ),(aP,aO,aN,aM,aK,aJ,aI),aS).2.1 (nZ path),0):=by unfold dK plE;rw [w4,show decide (uL ((aB,aC,aD,aH,aE,aR,aF,aQ),(aP,aO,aN,aM,aK,aJ,aI),aS).1 ((aB,aC,aD,aH,aE,aR,aF,aQ),(aP,aO,aN,aM,aK,aJ,aI),aS).2.1 (nZ path) < 0)=false from w8,show decide ((aW ((aB,aC,aD,aH,aE,aR,aF,aQ),(aP,aO,aN,aM,aK,aJ,aI),aS) (uL ((aB,aC,aD,aH,aE,aR,aF,aQ),(aP,aO,aN,aM,aK,aJ,aI),aS).1 ((aB,aC,aD,aH,aE,aR,aF,aQ),(aP,aO,aN,aM,aK,aJ,aI),aS).2.1 (nZ path))).1≠2)=false from gx];rfl
  refine ⟨[],[],_,_,_,rfl,rp,(),tv,?_,?_,rfl⟩
  ·(show _=dL ((aB,aC,aD,aH,aE,aR,aF,aQ),(aP,aO,aN,aM,aK,aJ,aI),aS) path);unfold dL;first |(rw [e];rfl) |rfl
  ·(show _=ef ((aB,aC,aD,aH,aE,aR,aF,aQ),(aP,aO,aN,aM,aK,aJ,aI),aS) path);unfold ef;first |(rw [e];rfl) |rfl
def fO (F:fj) (path:ByteArray):Prop:=F.1.rd∧F.2.1.ok∧path.size≤1000000
def px (F:fj) (path:ByteArray):AV:=.s (.int (bo F path))
def rE (F:fj) (path:ByteArray):List AV:=fsO F
def eu:Con where
 A:=[.b 0, .s .str]
 B:=[.a [.xb 1 aa, .xb 2 ae, .xb 3 ae, .int, .xb 4 ab, .int, .xb 5 ab, .bool, .int, .int, .int, .int, .int, .int, .int, .bool], .r aa, .r ae, .r ae, .r ab, .r ab]
 pre:=fun x b=>whole ((b.1).1) ((b.1).2.1) ((b.1).2.2.1) ((b.1).2.2.2.2.1) ((b.1).2.2.2.2.2.2.1) (b.2.1) (b.2.2.1) (b.2.2.2.1) (b.2.2.2.2.1) (b.2.2.2.2.2)∧fO (((b.2.1,b.2.2.1,b.2.2.2.1,(b.1).2.2.2.1,b.2.2.2.2.1,(b.1).2.2.2.2.2.1,b.2.2.2.2.2,(b.1).2.2.2.2.2.2.2.1),((b.1).2.2.2.2.2.2.2.2.1,(b.1).2.2.2.2.2.2.2.2.2.1,(b.1).2.2.2.2.2.2.2.2.2.2.1,(b.1).2.2.2.2.2.2.2.2.2.2.2.1,(b.1).2.2.2.2.2.2.2.2.2.2.2.2.1,(b.1).2.2.2.2.2.2.2.2.2.2.2.2.2.1,(b.1).2.2.2.2.2.2.2.2.2.2.2.2.2.2.1),(b.1).2.2.2.2.2.2.2.2.2.2.2.2.2.2.2)) (x.2)
 α:=fun _ _=>Unit
 φ:=fun _ _ _=>True
 r:=fun x b _=>px (((b.2.1,b.2.2.1,b.2.2.2.1,(b.1).2.2.2.1,b.2.2.2.2.1,(b.1).2.2.2.2.2.1,b.2.2.2.2.2,(b.1).2.2.2.2.2.2.2.1),((b.1).2.2.2.2.2.2.2.2.1,(b.1).2.2.2.2.2.2.2.2.2.1,(b.1).2.2.2.2.2.2.2.2.2.2.1,(b.1).2.2.2.2.2.2.2.2.2.2.2.1,(b.1).2.2.2.2.2.2.2.2.2.2.2.2.1,(b.1).2.2.2.2.2.2.2.2.2.2.2.2.2.1,(b.1).2.2.2.2.2.2.2.2.2.2.2.2.2.2.1),(b.1).2.2.2.2.2.2.2.2.2.2.2.2.2.2.2)) (x.2)
 o:=fun x b _=>rE (((b.2.1,b.2.2.1,b.2.2.2.1,(b.1).2.2.2.1,b.2.2.2.2.1,(b.1).2.2.2.2.2.1,b.2.2.2.2.2,(b.1).2.2.2.2.2.2.2.1),((b.1).2.2.2.2.2.2.2.2.1,(b.1).2.2.2.2.2.2.2.2.2.1,(b.1).2.2.2.2.2.2.2.2.2.2.1,(b.1).2.2.2.2.2.2.2.2.2.2.2.1,(b.1).2.2.2.2.2.2.2.2.2.2.2.2.1,(b.1).2.2.2.2.2.2.2.2.2.2.2.2.2.1,(b.1).2.2.2.2.2.2.2.2.2.2.2.2.2.2.1),(b.1).2.2.2.2.2.2.2.2.2.2.2.2.2.2.2)) (x.2)
 nf:=0
 ro:=true
set_option maxRecDepth 100000 in
theorem l6:Has Tryz.prog 102 eu:=by
 refine Has.ofE (fun _=>true) (fun _=>false) (fun _=>false) (l:=[(111,eL),(131,sD)]) ⟨mU,MB,trivial⟩ (fn:=Tryz.f102) Tryz.func102 rfl (by decide) (cH rfl) ?_
 rintro ⟨_,(path:ByteArray)⟩ ⟨⟨(Fm1:Nat),(Fm2:Nat),(Fm3:Nat),(aH:Int),(Fm4:Nat),(aR:Int),(Fm5:Nat),(aQ:Bool),(aP:Int),(aO:Int),(aN:Int),(aM:Int),(aK:Int),(aJ:Int),(aI:Int),(aS:Bool)⟩,(aB:List ByteArray),(aC:List Int),(aD:List Int),(aE:List Pt),(aF:List Pt)⟩ ⟨⟨(jr:Fm1=List.length aB),(jq:Fm2=List.length aC),(jo:Fm3=List.length aD),(jn:Fm4=List.length aE),(jm:Fm5=List.length aF)⟩,(hp:fO ((aB,aC,aD,aH,aE,aR,aF,aQ),(aP,aO,aN,aM,aK,aJ,aI),aS) path)⟩
 subst jr jq jo jn jm
 show vc _ _ _ _ (entry [.s (.bp 0 0), .str path] [.a [.xs 1 1 0 aB.length, .xs 2 1 0 aC.length, .xs 3 1 0 aD.length, .int aH, .xs 4 5 0 aE.length, .int aR, .xs 5 5 0 aF.length, .q aQ, .int aP, .int aO, .int aN, .int aM, .int aK, .int aJ, .int aI, .q aS], .rs aa aB, .rs ae aC, .rs ae aD, .rs ab aE, .rs ab aF]) _
 obtain ⟨dA,cq,hps⟩:=hp
 have hnl:=qc (s:=path)
 refine ⟨[.s 0],[.s 5],rfl,[.s 5],[.s 6],rfl,[.s 6],[.s 7],rfl,[.s 7, .b 0],[.s 8],rfl,[.s 0],[.s 9],rfl,[.s 9],[.s 10],rfl,[.s 10],[.s 11],rfl,[.s 11, .b 0],[.s 12],rfl,[.s 1],[.s 13],rfl,[.s 13],[.s 14],rfl,⟨⟨tv,tv⟩,?_⟩,?_,fun x1 w2=>⟨[.s 8, .s 12, .s 14, .b 1, .b 2, .b 3, .b 4, .b 5],[.s 15],rfl,⟨⟨⟨⟨?_,?_⟩,⟨?_,?_⟩,⟨?_,?_⟩,tv,⟨?_,?_⟩,tv,⟨?_,?_⟩,tv,tv⟩,⟨tv,tv,tv,tv,tv,tv,tv,tv⟩,tv,tv⟩,?_,?_,?_⟩,?_,fun x3 w4=>⟨[.s 15],[.s 4],rfl,?_⟩⟩⟩
 all_goals first|refine au ?_|refine aw ?_|exact sa|(dsimp only [eL,fu];omega)|(dsimp only [sD,qN];omega)|exact sb|exact dA|exact cq|exact Nat.le_trans hnl hps|skip
 refine ⟨[],[],_,_,_,rfl,rp,(),tv,?_,?_,rfl⟩
 ·(show _=px ((aB,aC,aD,aH,aE,aR,aF,aQ),(aP,aO,aN,aM,aK,aJ,aI),aS) path);unfold px;first |rfl
 ·(show _=rE ((aB,aC,aD,aH,aE,aR,aF,aQ),(aP,aO,aN,aM,aK,aJ,aI),aS) path);unfold rE;first |rfl
def ky (F:fj) (path:ByteArray):Prop:=F.1.rd∧F.2.1.ok∧path.size≤1000000
def fh (F:fj) (path:ByteArray):AV:=.t [.s (.int (dp F path).1), .s (.int (dp F path).2)]
def fP (F:fj) (path:ByteArray):List AV:=fsO F
def km:Con where
 A:=[.b 0, .s .str]
 B:=[.a [.xb 1 aa, .xb 2 ae, .xb 3 ae, .int, .xb 4 ab, .int, .xb 5 ab, .bool, .int, .int, .int, .int, .int, .int, .int, .bool], .r aa, .r ae, .r ae, .r ab, .r ab]
 pre:=fun x b=>whole ((b.1).1) ((b.1).2.1) ((b.1).2.2.1) ((b.1).2.2.2.2.1) ((b.1).2.2.2.2.2.2.1) (b.2.1) (b.2.2.1) (b.2.2.2.1) (b.2.2.2.2.1) (b.2.2.2.2.2)∧ky (((b.2.1,b.2.2.1,b.2.2.2.1,(b.1).2.2.2.1,b.2.2.2.2.1,(b.1).2.2.2.2.2.1,b.2.2.2.2.2,(b.1).2.2.2.2.2.2.2.1),((b.1).2.2.2.2.2.2.2.2.1,(b.1).2.2.2.2.2.2.2.2.2.1,(b.1).2.2.2.2.2.2.2.2.2.2.1,(b.1).2.2.2.2.2.2.2.2.2.2.2.1,(b.1).2.2.2.2.2.2.2.2.2.2.2.2.1,(b.1).2.2.2.2.2.2.2.2.2.2.2.2.2.1,(b.1).2.2.2.2.2.2.2.2.2.2.2.2.2.2.1),(b.1).2.2.2.2.2.2.2.2.2.2.2.2.2.2.2)) (x.2)
 α:=fun _ _=>Unit
 φ:=fun _ _ _=>True
 r:=fun x b _=>fh (((b.2.1,b.2.2.1,b.2.2.2.1,(b.1).2.2.2.1,b.2.2.2.2.1,(b.1).2.2.2.2.2.1,b.2.2.2.2.2,(b.1).2.2.2.2.2.2.2.1),((b.1).2.2.2.2.2.2.2.2.1,(b.1).2.2.2.2.2.2.2.2.2.1,(b.1).2.2.2.2.2.2.2.2.2.2.1,(b.1).2.2.2.2.2.2.2.2.2.2.2.1,(b.1).2.2.2.2.2.2.2.2.2.2.2.2.1,(b.1).2.2.2.2.2.2.2.2.2.2.2.2.2.1,(b.1).2.2.2.2.2.2.2.2.2.2.2.2.2.2.1),(b.1).2.2.2.2.2.2.2.2.2.2.2.2.2.2.2)) (x.2)
 o:=fun x b _=>fP (((b.2.1,b.2.2.1,b.2.2.2.1,(b.1).2.2.2.1,b.2.2.2.2.1,(b.1).2.2.2.2.2.1,b.2.2.2.2.2,(b.1).2.2.2.2.2.2.2.1),((b.1).2.2.2.2.2.2.2.2.1,(b.1).2.2.2.2.2.2.2.2.2.1,(b.1).2.2.2.2.2.2.2.2.2.2.1,(b.1).2.2.2.2.2.2.2.2.2.2.2.1,(b.1).2.2.2.2.2.2.2.2.2.2.2.2.1,(b.1).2.2.2.2.2.2.2.2.2.2.2.2.2.1,(b.1).2.2.2.2.2.2.2.2.2.2.2.2.2.2.1),(b.1).2.2.2.2.2.2.2.2.2.2.2.2.2.2.2)) (x.2)
 nf:=0
 ro:=true
set_option maxRecDepth 100000 in
theorem xB:Has Tryz.prog 95 km:=by
 refine Has.ofE (fun _=>true) (fun _=>false) (fun _=>false) (l:=[(104,gE),(102,eu)]) ⟨rF,l6,trivial⟩ (fn:=Tryz.f95) Tryz.func95 rfl (by decide) (cH rfl) ?_
 rintro ⟨_,(path:ByteArray)⟩ ⟨⟨(Fm1:Nat),(Fm2:Nat),(Fm3:Nat),(aH:Int),(Fm4:Nat),(aR:Int),(Fm5:Nat),(aQ:Bool),(aP:Int),(aO:Int),(aN:Int),(aM:Int),(aK:Int),(aJ:Int),(aI:Int),(aS:Bool)⟩,(aB:List ByteArray),(aC:List Int),(aD:List Int),(aE:List Pt),(aF:List Pt)⟩ ⟨⟨(jr:Fm1=List.length aB),(jq:Fm2=List.length aC),(jo:Fm3=List.length aD),(jn:Fm4=List.length aE),(jm:Fm5=List.length aF)⟩,(hp:ky ((aB,aC,aD,aH,aE,aR,aF,aQ),(aP,aO,aN,aM,aK,aJ,aI),aS) path)⟩
 subst jr jq jo jn jm
 show vc _ _ _ _ (entry [.s (.bp 0 0), .str path] [.a [.xs 1 1 0 aB.length, .xs 2 1 0 aC.length, .xs 3 1 0 aD.length, .int aH, .xs 4 5 0 aE.length, .int aR, .xs 5 5 0 aF.length, .q aQ, .int aP, .int aO, .int aN, .int aM, .int aK, .int aJ, .int aI, .q aS], .rs aa aB, .rs ae aC, .rs ae aD, .rs ab aE, .rs ab aF]) _
 obtain ⟨dA,cq,hps⟩:=hp
 refine ⟨⟨⟨⟨tv,tv,tv⟩,⟨?_,?_,?_,?_,?_⟩,?_,?_,?_⟩,fun x1 w2=>?_⟩,fun x3 w4=>⟨fun w5=>?_,fun w6=>⟨⟨⟨⟨tv,tv,tv⟩,⟨?_,?_,?_,?_,?_⟩,?_,?_,?_⟩,fun x7 w8=>?_⟩,fun x9 df=>⟨fun ka=>?_,fun dC=>?_⟩⟩⟩⟩
 all_goals first|refine au ?_|refine aw ?_|exact sa|(dsimp only [gE,iF];omega)|(dsimp only [eu,fO];omega)|exact sb|exact dA|exact cq|exact ⟨dA,cq,hps⟩|exact fun _ _=>rfl|skip
 ·have e:dp ((aB,aC,aD,aH,aE,aR,aF,aQ),(aP,aO,aN,aM,aK,aJ,aI),aS) path=(0,(dK ((aB,aC,aD,aH,aE,aR,aF,aQ),(aP,aO,aN,aM,aK,aJ,aI),aS) path).2):=by unfold dp;rw [show decide ((dK ((aB,aC,aD,aH,aE,aR,aF,aQ),(aP,aO,aN,aM,aK,aJ,aI),aS) path).2 > 0)=true from w5];rfl
  refine ⟨[],[],_,_,_,rfl,rp,(),tv,?_,?_,rfl⟩
  ·(show _=fh ((aB,aC,aD,aH,aE,aR,aF,aQ),(aP,aO,aN,aM,aK,aJ,aI),aS) path);unfold fh;first |(rw [e];rfl) |rfl
  ·(show _=fP ((aB,aC,aD,aH,aE,aR,aF,aQ),(aP,aO,aN,aM,aK,aJ,aI),aS) path);unfold fP;first |(rw [e];rfl) |rfl
 ·have e:dp ((aB,aC,aD,aH,aE,aR,aF,aQ),(aP,aO,aN,aM,aK,aJ,aI),aS) path=(0,3):=by unfold dp;rw [show decide ((dK ((aB,aC,aD,aH,aE,aR,aF,aQ),(aP,aO,aN,aM,aK,aJ,aI),aS) path).2 > 0)=false from w6,show decide (bo ((aB,aC,aD,aH,aE,aR,aF,aQ),(aP,aO,aN,aM,aK,aJ,aI),aS) path≥0)=true from ka];rfl
  refine ⟨[],[],_,_,_,rfl,rp,(),tv,?_,?_,rfl⟩
  ·(show _=fh ((aB,aC,aD,aH,aE,aR,aF,aQ),(aP,aO,aN,aM,aK,aJ,aI),aS) path);unfold fh;first |(rw [e];rfl) |rfl
  ·(show _=fP ((aB,aC,aD,aH,aE,aR,aF,aQ),(aP,aO,aN,aM,aK,aJ,aI),aS) path);unfold fP;first |(rw [e];rfl) |rfl
 ·have e:dp ((aB,aC,aD,aH,aE,aR,aF,aQ),(aP,aO,aN,aM,aK,aJ,aI),aS) path=((dK ((aB,aC,aD,aH,aE,aR,aF,aQ),(aP,aO,aN,aM,aK,aJ,aI),aS) path).1,0):=by unfold dp;rw [show decide ((dK ((aB,aC,aD,aH,aE,aR,aF,aQ),(aP,aO,aN,aM,aK,aJ,aI),aS) path).2 > 0)=false from w6,show decide (bo ((aB,aC,aD,aH,aE,aR,aF,aQ),(aP,aO,aN,aM,aK,aJ,aI),aS) path≥0)=false from dC];rfl
  refine ⟨[],[],_,_,_,rfl,rp,(),tv,?_,?_,rfl⟩
  ·(show _=fh ((aB,aC,aD,aH,aE,aR,aF,aQ),(aP,aO,aN,aM,aK,aJ,aI),aS) path);unfold fh;first |(rw [e];rfl) |rfl
  ·(show _=fP ((aB,aC,aD,aH,aE,aR,aF,aQ),(aP,aO,aN,aM,aK,aJ,aI),aS) path);unfold fP;first |(rw [e];rfl) |rfl
end GL
namespace GL
structure KN (l:List eU):Prop where
 len:l.length≤13
 sz:∀e∈l,e.1.size≤1000
 id:∀e∈l,0≤e.2∧e.2≤999999999
theorem KN.p {l:List eU} (h:KN l):acs l:=⟨by have:=h.len;omega,fun e he=>by have:=h.sz e he;omega,h.id⟩
theorem EB:∀ {l:List eU} {out:ByteArray},(∀e∈l,e.1.size≤1000∧0≤e.2∧e.2≤999999999)→(l.foldl q8 out).size≤out.size+1100 * l.length
 |[],out,_=>Nat.le_refl _
 |e::l,out,h=>by
  have h1:=EB (l:=l) (out:=q8 out e) fun x hx=>h x (by simp [hx])
  have h2:=h e (by simp)
  have h3:(bQ e.2).size≤12:=cZ (Int.le_trans h2.2.2 (by omega))
  have h4:(q8 out e).size=out.size+e.1.size+1+(bQ e.2).size+1:=by
   show (out++e.1++⟨#[61]⟩++bQ e.2++⟨#[59]⟩).size=_
   simp only [ByteArray.size_append]
   rw [show (⟨#[61]⟩:ByteArray).size=1 from rfl,show (⟨#[59]⟩:ByteArray).size=1 from rfl]
  rw [List.foldl_cons,List.length_cons];omega
theorem KN.size {l:List eU} (h:KN l):(dW l).size≤1000000:=by
 have h1:=EB (l:=l) (out:=⟨#[]⟩) fun e he=>⟨h.sz e he,h.id e he⟩
 have h2:=h.len
 rw [show (⟨#[]⟩:ByteArray).size=0 from rfl] at h1
 show (l.foldl q8 ⟨#[]⟩).size≤_;omega
structure QC (l:List eU):Prop where
 len:l.length≤12
 sz:∀e∈l,e.1.size≤1000
 id:∀e∈l,0≤e.2∧e.2≤999999999
theorem QC.w {l:List eU} (h:QC l):KN l:=⟨by have:=h.len;omega,h.sz,h.id⟩
theorem qj (s:ax) (n:fl):QC (bE s n).1:=by
 have h:=FM s n
 refine ⟨h.1,fun e he=>?_,fun e he=>?_⟩
 ·have:=DV (h.2 e he).1;omega
 ·have:=(h.2 e he).2;omega
theorem QC.less {l:List eU} (h:QC l) (i:Nat):QC (eh l i):=by
 have hm:∀e∈eh l i,e∈l:=fun e he=>by
  rcases List.mem_append.1 he with h1 |h1
  ·exact List.mem_of_mem_take h1
  ·exact List.mem_of_mem_drop h1
 refine ⟨?_,fun e he=>h.sz e (hm e he),fun e he=>h.id e (hm e he)⟩
 show (l.take i++l.drop (i+1)).length≤12
 rw [List.length_append,List.length_take,List.length_drop]
 have:=h.len;omega
theorem acr {e x:eU} {d:Bool} (h:EX e x d=true):d=false:=by
 cases d with
 |false=>rfl
 |true=>cases h
theorem KJ {e:eU}:∀ {l out:List eU} {d:Bool},(wj e (xr l e d out)).length=out.length+l.length+(bif d then 0 else 1)
 |[],out,true=>rfl
 |[],out,false=>by show (out++[e]).length=_;rw [List.length_append];rfl
 |x::l,out,d=>by
  cases h:EX e x d with
  |true=>
   rw [YQ h,KJ (l:=l) (out:=out++[e]++[x]) (d:=true),acr h,List.length_append,List.length_append]
   show out.length+1+1+l.length+0=out.length+(l.length+1)+1;omega
  |false=>
   rw [P8 h,KJ (l:=l) (out:=out++[x]) (d:=d),List.length_append]
   show out.length+1+l.length+_=out.length+(l.length+1)+_;omega
theorem KI {e:eU}:∀ {l out:List eU} {d:Bool},∀y∈wj e (xr l e d out),y∈out∨y∈l∨y=e
 |[],out,true=>fun y hy=>.inl hy
 |[],out,false=>fun y hy=>by
  have hy:y∈out++[e]:=hy
  rcases List.mem_append.1 hy with h |h
  ·exact .inl h
  ·exact .inr (.inr (List.mem_singleton.1 h))
 |x::l,out,d=>fun y hy=>by
  cases h:EX e x d with
  |true=>
   rw [YQ h] at hy
   rcases KI y hy with h1 |h1 |h1
   ·rcases List.mem_append.1 h1 with h2 |h2
    ·rcases List.mem_append.1 h2 with h3 |h3
     ·exact .inl h3
     ·exact .inr (.inr (List.mem_singleton.1 h3))
    ·exact .inr (.inl (by rw [List.mem_singleton.1 h2];simp))
   ·exact .inr (.inl (by simp [h1]))
   ·exact .inr (.inr h1)
  |false=>
   rw [P8 h] at hy
   rcases KI y hy with h1 |h1 |h1
   ·rcases List.mem_append.1 h1 with h2 |h2
    ·exact .inl h2
    ·exact .inr (.inl (by rw [List.mem_singleton.1 h2];simp))
   ·exact .inr (.inl (by simp [h1]))
   ·exact .inr (.inr h1)
theorem QC.add {l:List eU} (h:QC l) {e:eU} (h1:e.1.size≤1000) (h2:0≤e.2∧e.2≤999999999):KN (qH l e):=by
 have hm:∀y∈qH l e,y∈l∨y=e:=fun y hy=>(KI y hy).elim (fun h=>absurd h List.not_mem_nil) fun h=>h
 refine ⟨?_,fun y hy=>?_,fun y hy=>?_⟩
 ·show (wj e (xr l e false [])).length≤13
  rw [KJ]
  show 0+l.length+1≤13
  have:=h.len;omega
 ·rcases hm y hy with h3 |h3
  ·exact h.sz y h3
  ·rw [h3];exact h1
 ·rcases hm y hy with h3 |h3
  ·exact h.id y h3
  ·rw [h3];exact h2
theorem C3:(cK ⟨#[]⟩).1=[]:=by rfl
theorem UK {s:ax} {n:fl} (h:(bE s n).1≠[]):n.1=2∧0 < n.2.2.1:=by
 cases h1: !(cm n) with
 |true=>rw [aeZ h1] at h;exact absurd rfl h
 |false=>cases h2:decide (n.1≠2) with
  |true=>rw [aeY h2] at h;exact absurd rfl h
  |false=>cases h3: !(oz s (cO n)) with
   |true=>rw [aeX h3] at h;exact absurd rfl h
   |false=>cases h4: !(cW s (cO n)).2 with
    |true=>rw [aeW h4] at h;exact absurd rfl h
    |false=>cases h5:decide (((cW s (cO n)).1.size:Int)≠n.2.2.1) with
     |true=>rw [aeV h5] at h;exact absurd rfl h
     |false=>
      rw [aeU h1 h2 h3 h4 h5] at h
      have h2:=ca h2
      have h5:=ca h5
      refine ⟨by omega,?_⟩
      have:(cW s (cO n)).1≠⟨#[]⟩:=fun e=>by rw [e,C3] at h;exact h rfl
      have:=size_pos this
      omega
theorem ab9 {F:fj} {path:ByteArray} (h:decide ((dp F path).2 > 0)=false):decide ((dK F path).2 > 0)=false∧dp F path=((dK F path).1,0):=by
 unfold dp at h ⊢
 cases hp:decide ((dK F path).2 > 0) with
 |true=>
  rw [hp] at h
  have h:decide ((dK F path).2 > 0)=false:=h
  rw [hp] at h;cases h
 |false=>cases hs:decide (bo F path≥0) with
  |true=>rw [hp,hs] at h;cases h
  |false=>exact ⟨rfl,rfl⟩
theorem OF {F:fj} {path:ByteArray} (h:decide ((dK F path).2 > 0)=false):1≤(bq path).length∧dK F path=(uL F.1 F.2.1 (nZ path),0)∧0≤uL F.1 F.2.1 (nZ path)∧uL F.1 F.2.1 (nZ path)≤15∧(aW F (uL F.1 F.2.1 (nZ path))).1=2:=by
 unfold dK at h ⊢
 cases h1:decide (((bq path).length:Int)=0) with
 |true=>rw [h1] at h;cases h
 |false=>
  rw [h1] at h
  have h:decide ((plE F (uL F.1 F.2.1 (nZ path))).2 > 0)=false:=h
  show _∧plE F (uL F.1 F.2.1 (nZ path))=_∧_
  unfold plE at h ⊢
  cases h2:decide (uL F.1 F.2.1 (nZ path) < 0) with
  |true=>rw [h2] at h;cases h
  |false=>cases h3:decide ((aW F (uL F.1 F.2.1 (nZ path))).1≠2) with
   |true=>rw [h2,h3] at h;cases h
   |false=>
    have h1:=ca h1
    have h2:=ca h2
    have h3:=ca h3
    exact ⟨by omega,rfl,by omega,(aeB _ _ _).2,by omega⟩
abbrev dF (path:ByteArray):ByteArray:=nth aa (bq path) ((bq path).length - 1)
theorem KD {path:ByteArray} (h:1≤(bq path).length):(dF path).size≤path.size:=CB _ (bS (ek:=aa) (by omega))
theorem DU {path:ByteArray} (h:1≤(bq path).length):bq path=nZ path++[dF path]:=by
 have e:(((bq path).length:Int) - 1).toNat=(bq path).length - 1:=by omega
 show _=(bq path).take (((bq path).length:Int) - 1).toNat++_
 rw [e]
 conv=>lhs;rw [←List.take_append_drop ((bq path).length - 1) (bq path),bP (ek:=aa) (show (bq path).length - 1 < (bq path).length by omega),List.drop_eq_nil_of_le (by omega)]
theorem po {F:fj} {path:ByteArray} (h:0 < bo F path):decide ((dK F path).2 > 0)=false∧0≤lu (bE F.1 (aW F (dK F path).1)).1 (dF path)∧bo F path=(nth aG (bE F.1 (aW F (dK F path).1)).1 (lu (bE F.1 (aW F (dK F path).1)).1 (dF path)).toNat).2:=by
 have hn:1≤(bq path).length:=by
  rcases Nat.eq_zero_or_pos (bq path).length with e |e
  ·have e2:bq path=[]:=List.eq_nil_of_length_eq_zero e
   have:bo F path=0:=by unfold bo;rw [e2];rfl
   omega
  ·exact e
 have hg:0≤EV F.1 F.2.1 (nZ path++[dF path]) 0:=by rw [←DU hn];exact Int.le_of_lt h
 obtain ⟨g1,g2,g3,g4⟩:=Z9 F.1 F.2.1 hg (Int.le_refl _)
 have hk:(aW F (uL F.1 F.2.1 (nZ path))).1=2:=(UK (s:=F.1) (n:=aW F (uL F.1 F.2.1 (nZ path))) (fun e=>by
  have h1:=zb (l:=(bE F.1 (aW F (uL F.1 F.2.1 (nZ path)))).1) (name:=dF path) g3
  rw [e] at h1
  have:=h1.1
  have g3:0≤lu (bE F.1 (aW F (uL F.1 F.2.1 (nZ path)))).1 (dF path):=g3
  rw [e] at g3
  have:lu ([]:List eU) (dF path) < 0:=this
  omega)).1
 have hp:dK F path=(uL F.1 F.2.1 (nZ path),0):=by
  unfold dK plE
  rw [show decide (((bq path).length:Int)=0)=false from decide_eq_false (by omega),show decide (uL F.1 F.2.1 (nZ path) < 0)=false from decide_eq_false (by show¬EV F.1 F.2.1 (nZ path) 0 < 0;omega),show decide ((aW F (uL F.1 F.2.1 (nZ path))).1≠2)=false from decide_eq_false (by omega)];rfl
 rw [hp]
 refine ⟨rfl,g3,?_⟩
 show EV F.1 F.2.1 (bq path) 0=_
 rw [DU hn];exact g4
theorem zn (F:fj) (path:ByteArray): -1≤bo F path∧bo F path≤15:=aeB _ _ _
theorem cT.sR {F:fj} {n:Nat} {i:Int} {l:List eU} (h:cT F n) (h0:0≤i) (h1:i≤15):cT (bZ F i l) (n+123)∧(F.2.2=false→(bZ F i l).2.2=false→∀k:Nat,k < 16→(k:Int)≠i→getM (bZ F i l).1 (bZ F i l).2.1 k=getM F.1 F.2.1 k):=by
 obtain ⟨j,rfl⟩:∃j:Nat,i=j:=⟨i.toNat,by omega⟩
 have:=h.write (i:=j) (l:=l) (by omega)
 exact ⟨this.1,fun a b k hk fq=>this.2 a b k hk (by omega)⟩
theorem cT.adM {F:fj} {n:Nat} {i:Int} {nd:fl} {l:Int} (h:cT F n) (h0:0 < i) (h1:i≤15) (hn:F.2.2=false→nd=aW F i):cT (mY F i (nd.1,l,nd.2.2)) (n+6):=by
 obtain ⟨j,rfl⟩:∃j:Nat,i=j:=⟨i.toNat,by omega⟩
 refine h.adO (by omega) (by omega) fun hf=>?_
 rw [hn hf];exact (h.fs hf).aW j
theorem cT.free {F:fj} {n:Nat} (h:cT F n) (hf:F.2.2=false) (h0:0≤xm F.1 F.2.1):xm F.1 F.2.1≤15:=by
 have:=(T4 (h.fs hf).fi.tree h0).1;omega
theorem MT {F:fj} {path:ByteArray} (h:decide ((dp F path).2 > 0)=false):1≤(bq path).length∧0≤(dp F path).1∧(dp F path).1≤15:=by
 obtain ⟨h1,h2⟩:=ab9 h
 obtain ⟨p1,p2,p3,p4,_⟩:=OF h1
 rw [h2,p2];exact ⟨p1,p3,p4⟩
theorem cT.node {F:fj} {n:Nat} {id:Int} (h:cT F n) (hf:F.2.2=false) (h0:0≤id) (h1:id≤15):cm (aW F id)=true∨aW F id=nz:=by
 obtain ⟨j,rfl⟩:∃j:Nat,id=j:=⟨id.toNat,by omega⟩
 have h2:=((h.fs hf).at (i:=j) (by omega)).2
 rw [show aW F (j:Int)=nodeAt F.1 F.2.1 j from (h.fs hf).aW (b:=F.2.2) j];exact h2
theorem cT.file {F:fj} {n:Nat} {id:Int} (h:cT F n) (hf:F.2.2=false) (h0:0≤id) (h1:id≤15) (hk:(aW F id).1=1):0 < id∧cm (aW F id)=true:=by
 refine ⟨?_,?_⟩
 ·rcases Int.lt_or_eq_of_le h0 with e |e
  ·exact e
  ·have h2:(nodeAt F.1 F.2.1 0).1=2:=(h.fs hf).root
   have h3:aW F ((0:Nat):Int)=nodeAt F.1 F.2.1 0:=(h.fs hf).aW (b:=F.2.2) 0
   rw [←h3] at h2
   rw [←e] at hk
   have hk:(aW F ((0:Nat):Int)).1=1:=hk
   omega
 ·rcases h.node hf h0 h1 with e |e
  ·exact e
  ·rw [e] at hk;exact absurd (show (0:Int)=1 from hk) (by decide)
theorem cT.adN {F:fj} {n:Nat} {id:Int} (h:cT F n) (hf:F.2.2=false) (h0:0≤id) (h1:id≤15):0≤(aW F id).2.1∧(aW F id).2.1≤9:=by
 rcases h.node hf h0 h1 with e |e
 ·have:=(lh e).2.1;omega
 ·rw [e];exact ⟨by decide,by decide⟩
theorem cT.iA {F:fj} {n:Nat} {id a:Int} {text:ByteArray} (h:cT F n) (hf:F.2.2=false) (h0:0≤id) (h1:id≤15) (hk:(aW F id).1=1) (ha:0≤a) (ha1:a+text.size≤192):(nB F.1 (aW F id) a text).1.wg (n+96)∧cT (mY ((nB F.1 (aW F id) a text).1,F.2.1,!(nB F.1 (aW F id) a text).2.2) id (nB F.1 (aW F id) a text).2.1) (n+102):=by
 have hp:=(h.file hf h0 h1 hk).1
 obtain ⟨j,rfl⟩:∃j:Nat,id=j:=⟨id.toNat,by omega⟩
 have e:aW F (j:Int)=nodeAt F.1 F.2.1 j:=(h.fs hf).aW (b:=F.2.2) j
 have hw:=(ahf (nd:=aW F j) h.wg (o0 F.1 F.2.1 j) ha ha1).1
 refine ⟨hw,h.change hf (by omega) (by omega) hw fun hz=>?_⟩
 have hB:=(h.fs hf).take (i:=j) (by omega)
 rw [←e] at hB
 exact hB.iA ha ha1 hz
theorem cT.c13 {F:fj} {n:Nat} {id a:Int} (h:cT F n) (hf:F.2.2=false) (h0:0≤id) (h1:id≤15) (hk:(aW F id).1=1) (ha:0≤a) (ha1:a≤192):(iU F.1 (aW F id) a).1.wg (n+96)∧cT (mY ((iU F.1 (aW F id) a).1,F.2.1,!(iU F.1 (aW F id) a).2.2) id (iU F.1 (aW F id) a).2.1) (n+102):=by
 have hp:=h.file hf h0 h1 hk
 obtain ⟨j,rfl⟩:∃j:Nat,id=j:=⟨id.toNat,by omega⟩
 have e:aW F (j:Int)=nodeAt F.1 F.2.1 j:=(h.fs hf).aW (b:=F.2.2) j
 have hw:=(ah9 (nd:=aW F j) h.wg hp.2 hk ha ha1).1
 refine ⟨hw,h.change hf (by omega) (by have:=hp.1;omega) hw fun hz=>?_⟩
 have hB:=(h.fs hf).take (i:=j) (by omega)
 rw [←e] at hB
 exact hB.c13 hp.2 hk ha ha1 hz
theorem cT.aaL {F:fj} {n:Nat} {i id:Int} {l:List eU} (h:cT F n) (hf:F.2.2=false) (h0:0≤i) (h1:i≤15) (k0:0≤id) (k1:id≤15) (fq:id≠i) (hz:(bZ F i l).2.2=false):aW F id=aW (bZ F i l) id:=by
 obtain ⟨j,rfl⟩:∃j:Nat,id=j:=⟨id.toNat,by omega⟩
 have hw:=h.sR (l:=l) h0 h1
 have e1:aW F (j:Int)=nodeAt F.1 F.2.1 j:=(h.fs hf).aW (b:=F.2.2) j
 have e2:aW (bZ F i l) (j:Int)=nodeAt (bZ F i l).1 (bZ F i l).2.1 j:=(hw.1.fs hz).aW (b:=(bZ F i l).2.2) j
 rw [e1,e2]
 show (bm (getM _ _ j)).1=(bm (getM _ _ j)).1
 rw [hw.2 hf hz j (by omega) fq]
theorem aax {F:fj} {path:ByteArray} (h:0 < bo F path) (hb:(aW F (bo F path)).1=2→¬0 < (aW F (bo F path)).2.2.1):bo F path≠(dK F path).1:=fun e=>by
 have h1:=(po h).2.1
 have h2:=UK (s:=F.1) (n:=aW F (dK F path).1) (fun e2=>by
  have h3:=(zb h1).1
  rw [e2] at h3 h1
  have:lu ([]:List eU) (dF path) < 0:=h3
  omega)
 rw [←e] at h2
 exact hb h2.1 h2.2
theorem cT.ajI {F:fj} {n:Nat} {id:Int} (h:cT F n) (h0:0 < id) (h1:id≤15) (hf:F.2.2=false):ND F.1 (cO (aW F id))=true∧cT ((ch F.1 F.2.1 id).1,(ch F.1 F.2.1 id).2.1,!(ch F.1 F.2.1 id).2.2) (n+67):=by
 have hd:=X5 h.wg h.ok (Int.le_of_lt h0) h1
 obtain ⟨j,rfl⟩:∃j:Nat,id=j:=⟨id.toNat,by omega⟩
 have h2:=h.drop (i:=j) hf (by omega) (by omega)
 exact ⟨h2.1,hd.1,hd.2,fun hz=>h2.2 (cB hz)⟩
end GL
end Go.Proofs.YtbfgjadbfjkcdaaGreatDoor
