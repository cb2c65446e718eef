/- FnTreeOk returns true for every code (its row lists package variables, tied by the card): part 33. -/
import Derived.Test.YtbfgjadbfjkcdaaGreatDoorPbf
set_option maxHeartbeats 20000000
set_option linter.all false
namespace Go.Proofs.YtbfgjadbfjkcdaaGreatDoor
namespace GL
def fsA (b0 b1 b2 b3 b4:Nat) (F:fv):List SV:=[.xs b0 1 0 F.1.rows.length,.xs b1 1 0 F.1.refs.length,.xs b2 1 0 F.1.last.length,.int F.1.ck,.xs b3 5 0 F.1.gone.length,.int F.1.bY,.xs b4 5 0 F.1.dead.length,.q F.1.same,.int F.2.1.1,.int F.2.1.2.1,.int F.2.1.2.2.1,.int F.2.1.2.2.2.1,.int F.2.1.2.2.2.2.1,.int F.2.1.2.2.2.2.2.1,.int F.2.1.2.2.2.2.2.2,.q F.2.2]
def fsO (F:fv):List AV:=[.a (fsA 1 2 3 4 5 F),.rs ab F.1.rows,.rs ag F.1.refs,.rs ag F.1.last,.rs ae F.1.gone,.rs ae F.1.dead]
def fsP (F:fv):List AV:=[.a (fsA 1 2 3 6 7 F),.rs ab F.1.rows,.rs ag F.1.refs,.rs ag F.1.last,.zz,.zz,.rs ae F.1.gone,.rs ae F.1.dead]
def fh (F:fv) (id:Int):Prop:=F.1.rd∧F.2.1.ok
def pK (F:fv) (id:Int):AV:=.o (ndA (cM F.1 F.2.1 id).1)
def rP (F:fv) (id:Int):List AV:=fsO F
def dF:Con where
 A:=[.b 0,.s .int]
 B:=[.a [.xb 1 ab,.xb 2 ag,.xb 3 ag,.int,.xb 4 ae,.int,.xb 5 ae,.bool,.int,.int,.int,.int,.int,.int,.int,.bool],.r ab,.r ag,.r ag,.r ae,.r ae]
 pre:=fun x b=>whole ((b.1).1) ((b.1).2.1) ((b.1).2.2.1) ((b.1).2.2.2.2.1) ((b.1).2.2.2.2.2.2.1) (b.2.1) (b.2.2.1) (b.2.2.2.1) (b.2.2.2.2.1) (b.2.2.2.2.2)∧fh (((b.2.1,b.2.2.1,b.2.2.2.1,(b.1).2.2.2.1,b.2.2.2.2.1,(b.1).2.2.2.2.2.1,b.2.2.2.2.2,(b.1).2.2.2.2.2.2.2.1),((b.1).2.2.2.2.2.2.2.2.1,(b.1).2.2.2.2.2.2.2.2.2.1,(b.1).2.2.2.2.2.2.2.2.2.2.1,(b.1).2.2.2.2.2.2.2.2.2.2.2.1,(b.1).2.2.2.2.2.2.2.2.2.2.2.2.1,(b.1).2.2.2.2.2.2.2.2.2.2.2.2.2.1,(b.1).2.2.2.2.2.2.2.2.2.2.2.2.2.2.1),(b.1).2.2.2.2.2.2.2.2.2.2.2.2.2.2.2)) (x.2)
 α:=fun _ _=>Unit
 φ:=fun _ _ _=>True
 r:=fun x b _=>pK (((b.2.1,b.2.2.1,b.2.2.2.1,(b.1).2.2.2.1,b.2.2.2.2.1,(b.1).2.2.2.2.2.1,b.2.2.2.2.2,(b.1).2.2.2.2.2.2.2.1),((b.1).2.2.2.2.2.2.2.2.1,(b.1).2.2.2.2.2.2.2.2.2.1,(b.1).2.2.2.2.2.2.2.2.2.2.1,(b.1).2.2.2.2.2.2.2.2.2.2.2.1,(b.1).2.2.2.2.2.2.2.2.2.2.2.2.1,(b.1).2.2.2.2.2.2.2.2.2.2.2.2.2.1,(b.1).2.2.2.2.2.2.2.2.2.2.2.2.2.2.1),(b.1).2.2.2.2.2.2.2.2.2.2.2.2.2.2.2)) (x.2)
 o:=fun x b _=>rP (((b.2.1,b.2.2.1,b.2.2.2.1,(b.1).2.2.2.1,b.2.2.2.2.1,(b.1).2.2.2.2.2.1,b.2.2.2.2.2,(b.1).2.2.2.2.2.2.2.1),((b.1).2.2.2.2.2.2.2.2.1,(b.1).2.2.2.2.2.2.2.2.2.1,(b.1).2.2.2.2.2.2.2.2.2.2.1,(b.1).2.2.2.2.2.2.2.2.2.2.2.1,(b.1).2.2.2.2.2.2.2.2.2.2.2.2.1,(b.1).2.2.2.2.2.2.2.2.2.2.2.2.2.1,(b.1).2.2.2.2.2.2.2.2.2.2.2.2.2.2.1),(b.1).2.2.2.2.2.2.2.2.2.2.2.2.2.2.2)) (x.2)
 nf:=0
 ro:=true
set_option maxRecDepth 100000 in
theorem jW:Has Tryz.prog 103 dF:=by
 refine Has.ofE (fun _=>true) (fun _=>false) (fun _=>false) (l:=[(132,jG)]) ⟨vG,trivial⟩ (fn:=Tryz.f103) Tryz.func103 rfl (by decide) (aZ rfl) ?_
 rintro⟨_,(id:Int)⟩ ⟨⟨(Fm1:Nat),(Fm2:Nat),(Fm3:Nat),(aM:Int),(Fm4:Nat),(aW:Int),(Fm5:Nat),(aV:Bool),(aU:Int),(aS:Int),(aR:Int),(aQ:Int),(aP:Int),(aO:Int),(aN:Int),(aX:Bool)⟩,(aF:List ByteArray),(aG:List Int),(aH:List Int),(aI:List Pt),(aJ:List Pt)⟩ ⟨⟨(jB:Fm1=List.length aF),(jA:Fm2=List.length aG),(jz:Fm3=List.length aH),(jy:Fm4=List.length aI),(jx:Fm5=List.length aJ)⟩,(hp:fh ((aF,aG,aH,aM,aI,aW,aJ,aV),(aU,aS,aR,aQ,aP,aO,aN),aX) id)⟩
 subst jB jA jz jy jx
 show vc _ _ _ _ (entry [.s (.bp 0 0),.int id] [.a [.xs 1 1 0 aF.length,.xs 2 1 0 aG.length,.xs 3 1 0 aH.length,.int aM,.xs 4 5 0 aI.length,.int aW,.xs 5 5 0 aJ.length,.q aV,.int aU,.int aS,.int aR,.int aQ,.int aP,.int aO,.int aN,.q aX],.rs ab aF,.rs ag aG,.rs ag aH,.rs ae aI,.rs ae aJ]) _
 obtain⟨dG,cA⟩:=hp
 refine⟨[.s 0],[.s 8],rfl,[.s 8],[.s 9],rfl,[.s 9],[.s 10],rfl,[.s 10,.b 0],[.s 11],rfl,[.s 0],[.s 12],rfl,[.s 12],[.s 13],rfl,[.s 13],[.s 14],rfl,[.s 14,.b 0],[.s 15],rfl,[.s 1],[.s 16],rfl,[.s 11,.s 15,.s 16,.b 1,.b 2,.b 3,.b 4,.b 5],[.s 17],rfl,⟨⟨⟨⟨?_,?_⟩,⟨?_,?_⟩,⟨?_,?_⟩,aa,⟨?_,?_⟩,aa,⟨?_,?_⟩,aa,aa⟩,⟨aa,aa,aa,aa,aa,aa,aa,aa⟩,aa,aa⟩,?_,?_⟩,?_,fun x1 w2=>⟨[.s 17],[.s 7],rfl,[.s 7],[.s 18],rfl,[.s 7],[.s 19],rfl,[.b 1005],[.s 5,.b 1005],rfl,[.s 5,.s 18,.b 1005],[.b 1005],rfl,[.s 19],[.s 6],rfl,?_⟩⟩
 all_goals first|refine aw ?_|refine ax ?_|exact ba|(dsimp only [jG,kP];omega)|exact a8|exact dG|exact cA|skip
 refine⟨[],[],_,_,_,rfl,az,(),aa,?_,?_,rfl⟩
 ·(show _=pK ((aF,aG,aH,aM,aI,aW,aJ,aV),(aU,aS,aR,aQ,aP,aO,aN),aX) id);unfold pK;first|rfl
 ·(show _=rP ((aF,aG,aH,aM,aI,aW,aJ,aV),(aU,aS,aR,aQ,aP,aO,aN),aX) id);unfold rP;first|rfl
def fo (F:fv) (id:Int):Prop:=F.1.rd∧F.2.1.ok
def lL (F:fv) (id:Int):AV:=.s (.vw aK (bL F.1 (a7 F id)).1)
def mW (F:fv) (id:Int):List AV:=fsO F
def dU:Con where
 A:=[.b 0,.s .int]
 B:=[.a [.xb 1 ab,.xb 2 ag,.xb 3 ag,.int,.xb 4 ae,.int,.xb 5 ae,.bool,.int,.int,.int,.int,.int,.int,.int,.bool],.r ab,.r ag,.r ag,.r ae,.r ae]
 pre:=fun x b=>whole ((b.1).1) ((b.1).2.1) ((b.1).2.2.1) ((b.1).2.2.2.2.1) ((b.1).2.2.2.2.2.2.1) (b.2.1) (b.2.2.1) (b.2.2.2.1) (b.2.2.2.2.1) (b.2.2.2.2.2)∧fo (((b.2.1,b.2.2.1,b.2.2.2.1,(b.1).2.2.2.1,b.2.2.2.2.1,(b.1).2.2.2.2.2.1,b.2.2.2.2.2,(b.1).2.2.2.2.2.2.2.1),((b.1).2.2.2.2.2.2.2.2.1,(b.1).2.2.2.2.2.2.2.2.2.1,(b.1).2.2.2.2.2.2.2.2.2.2.1,(b.1).2.2.2.2.2.2.2.2.2.2.2.1,(b.1).2.2.2.2.2.2.2.2.2.2.2.2.1,(b.1).2.2.2.2.2.2.2.2.2.2.2.2.2.1,(b.1).2.2.2.2.2.2.2.2.2.2.2.2.2.2.1),(b.1).2.2.2.2.2.2.2.2.2.2.2.2.2.2.2)) (x.2)
 α:=fun _ _=>Unit
 φ:=fun _ _ _=>True
 r:=fun x b _=>lL (((b.2.1,b.2.2.1,b.2.2.2.1,(b.1).2.2.2.1,b.2.2.2.2.1,(b.1).2.2.2.2.2.1,b.2.2.2.2.2,(b.1).2.2.2.2.2.2.2.1),((b.1).2.2.2.2.2.2.2.2.1,(b.1).2.2.2.2.2.2.2.2.2.1,(b.1).2.2.2.2.2.2.2.2.2.2.1,(b.1).2.2.2.2.2.2.2.2.2.2.2.1,(b.1).2.2.2.2.2.2.2.2.2.2.2.2.1,(b.1).2.2.2.2.2.2.2.2.2.2.2.2.2.1,(b.1).2.2.2.2.2.2.2.2.2.2.2.2.2.2.1),(b.1).2.2.2.2.2.2.2.2.2.2.2.2.2.2.2)) (x.2)
 o:=fun x b _=>mW (((b.2.1,b.2.2.1,b.2.2.2.1,(b.1).2.2.2.1,b.2.2.2.2.1,(b.1).2.2.2.2.2.1,b.2.2.2.2.2,(b.1).2.2.2.2.2.2.2.1),((b.1).2.2.2.2.2.2.2.2.1,(b.1).2.2.2.2.2.2.2.2.2.1,(b.1).2.2.2.2.2.2.2.2.2.2.1,(b.1).2.2.2.2.2.2.2.2.2.2.2.1,(b.1).2.2.2.2.2.2.2.2.2.2.2.2.1,(b.1).2.2.2.2.2.2.2.2.2.2.2.2.2.1,(b.1).2.2.2.2.2.2.2.2.2.2.2.2.2.2.1),(b.1).2.2.2.2.2.2.2.2.2.2.2.2.2.2.2)) (x.2)
 nf:=0
 ro:=true
set_option maxRecDepth 100000 in
theorem kJ:Has Tryz.prog 97 dU:=by
 refine Has.ofE (fun _=>true) (fun _=>false) (fun _=>false) (l:=[(103,dF),(128,iF)]) ⟨jW,tL,trivial⟩ (fn:=Tryz.f97) Tryz.func97 rfl (by decide) (aZ rfl) ?_
 rintro⟨_,(id:Int)⟩ ⟨⟨(Fm1:Nat),(Fm2:Nat),(Fm3:Nat),(aM:Int),(Fm4:Nat),(aW:Int),(Fm5:Nat),(aV:Bool),(aU:Int),(aS:Int),(aR:Int),(aQ:Int),(aP:Int),(aO:Int),(aN:Int),(aX:Bool)⟩,(aF:List ByteArray),(aG:List Int),(aH:List Int),(aI:List Pt),(aJ:List Pt)⟩ ⟨⟨(jB:Fm1=List.length aF),(jA:Fm2=List.length aG),(jz:Fm3=List.length aH),(jy:Fm4=List.length aI),(jx:Fm5=List.length aJ)⟩,(hp:fo ((aF,aG,aH,aM,aI,aW,aJ,aV),(aU,aS,aR,aQ,aP,aO,aN),aX) id)⟩
 subst jB jA jz jy jx
 show vc _ _ _ _ (entry [.s (.bp 0 0),.int id] [.a [.xs 1 1 0 aF.length,.xs 2 1 0 aG.length,.xs 3 1 0 aH.length,.int aM,.xs 4 5 0 aI.length,.int aW,.xs 5 5 0 aJ.length,.q aV,.int aU,.int aS,.int aR,.int aQ,.int aP,.int aO,.int aN,.q aX],.rs ab aF,.rs ag aG,.rs ag aH,.rs ae aI,.rs ae aJ]) _
 obtain⟨dG,cA⟩:=hp
 refine⟨[.s 0],[.s 8],rfl,[.s 8],[.s 9],rfl,[.s 9],[.s 10],rfl,[.s 10,.b 0],[.s 11],rfl,[.s 0],[.s 12],rfl,[.s 1],[.s 13],rfl,[.s 12,.s 13,.b 0,.b 1,.b 2,.b 3,.b 4,.b 5],[.s 14],rfl,⟨⟨⟨aa,aa,aa⟩,⟨?_,?_,?_,?_,?_⟩,?_,?_⟩,fun x1 w2=>?_⟩,?_,fun x3 w4=>⟨[.s 11,.s 14,.b 1,.b 2,.b 3,.b 4,.b 5],[.s 15],rfl,⟨⟨⟨⟨?_,?_⟩,⟨?_,?_⟩,⟨?_,?_⟩,aa,⟨?_,?_⟩,aa,⟨?_,?_⟩,aa,aa⟩,⟨aa,aa,aa,aa,aa,aa,aa,aa,aa,aa,aa⟩,aa⟩,?_⟩,?_,fun x5 w6=>⟨[.s 15],[.s 7],rfl,[.s 7],[.s 16],rfl,[.s 7],[.s 17],rfl,[.s 16],[.s 5],rfl,[.s 17],[.s 6],rfl,?_⟩⟩⟩
 all_goals first|refine aw ?_|refine ax ?_|exact ba|(dsimp only [dF,fh];omega)|(dsimp only [iF,jn];omega)|exact a8|exact dG|exact cA|exact⟨dG,cA⟩|exact fun _ _=>rfl|skip
 refine⟨[],[],_,_,_,rfl,az,(),aa,?_,?_,rfl⟩
 ·(show _=lL ((aF,aG,aH,aM,aI,aW,aJ,aV),(aU,aS,aR,aQ,aP,aO,aN),aX) id);unfold lL;first|rfl
 ·(show _=mW ((aF,aG,aH,aM,aI,aW,aJ,aV),(aU,aS,aR,aQ,aP,aO,aN),aX) id);unfold mW;first|rfl
def gL (F:fv) (id:Int) (n:fu):Prop:=F.1.wg 1046000∧F.2.1.ok∧0≤id∧id≤15
def kl (F:fv) (id:Int) (n:fu):AV:=.t []
def l8 (F:fv) (id:Int) (n:fu):List AV:=fsP (nj F id n)
def fl:Con where
 A:=[.b 0,.s .int,.a [.int,.int,.int,.int,.int,.int,.int,.int,.int,.int]]
 B:=[.a [.xb 1 ab,.xb 2 ag,.xb 3 ag,.int,.xb 4 ae,.int,.xb 5 ae,.bool,.int,.int,.int,.int,.int,.int,.int,.bool],.r ab,.r ag,.r ag,.r ae,.r ae]
 pre:=fun x b=>whole ((b.1).1) ((b.1).2.1) ((b.1).2.2.1) ((b.1).2.2.2.2.1) ((b.1).2.2.2.2.2.2.1) (b.2.1) (b.2.2.1) (b.2.2.2.1) (b.2.2.2.2.1) (b.2.2.2.2.2)∧gL (((b.2.1,b.2.2.1,b.2.2.2.1,(b.1).2.2.2.1,b.2.2.2.2.1,(b.1).2.2.2.2.2.1,b.2.2.2.2.2,(b.1).2.2.2.2.2.2.2.1),((b.1).2.2.2.2.2.2.2.2.1,(b.1).2.2.2.2.2.2.2.2.2.1,(b.1).2.2.2.2.2.2.2.2.2.2.1,(b.1).2.2.2.2.2.2.2.2.2.2.2.1,(b.1).2.2.2.2.2.2.2.2.2.2.2.2.1,(b.1).2.2.2.2.2.2.2.2.2.2.2.2.2.1,(b.1).2.2.2.2.2.2.2.2.2.2.2.2.2.2.1),(b.1).2.2.2.2.2.2.2.2.2.2.2.2.2.2.2)) (x.2.1) (x.2.2)
 α:=fun _ _=>Unit
 φ:=fun _ _ _=>True
 r:=fun x b _=>kl (((b.2.1,b.2.2.1,b.2.2.2.1,(b.1).2.2.2.1,b.2.2.2.2.1,(b.1).2.2.2.2.2.1,b.2.2.2.2.2,(b.1).2.2.2.2.2.2.2.1),((b.1).2.2.2.2.2.2.2.2.1,(b.1).2.2.2.2.2.2.2.2.2.1,(b.1).2.2.2.2.2.2.2.2.2.2.1,(b.1).2.2.2.2.2.2.2.2.2.2.2.1,(b.1).2.2.2.2.2.2.2.2.2.2.2.2.1,(b.1).2.2.2.2.2.2.2.2.2.2.2.2.2.1,(b.1).2.2.2.2.2.2.2.2.2.2.2.2.2.2.1),(b.1).2.2.2.2.2.2.2.2.2.2.2.2.2.2.2)) (x.2.1) (x.2.2)
 o:=fun x b _=>l8 (((b.2.1,b.2.2.1,b.2.2.2.1,(b.1).2.2.2.1,b.2.2.2.2.1,(b.1).2.2.2.2.2.1,b.2.2.2.2.2,(b.1).2.2.2.2.2.2.2.1),((b.1).2.2.2.2.2.2.2.2.1,(b.1).2.2.2.2.2.2.2.2.2.1,(b.1).2.2.2.2.2.2.2.2.2.2.1,(b.1).2.2.2.2.2.2.2.2.2.2.2.1,(b.1).2.2.2.2.2.2.2.2.2.2.2.2.1,(b.1).2.2.2.2.2.2.2.2.2.2.2.2.2.1,(b.1).2.2.2.2.2.2.2.2.2.2.2.2.2.2.1),(b.1).2.2.2.2.2.2.2.2.2.2.2.2.2.2.2)) (x.2.1) (x.2.2)
 nf:=2
 mv:=true
set_option maxRecDepth 100000 in
theorem oe:Has Tryz.prog 98 fl:=by
 refine Has.ofZ (fun _=>true) (fun _=>false) (fun _=>false) (l:=[(63,v7)]) ⟨TT,trivial⟩ (fn:=Tryz.f98) Tryz.func98 rfl (by decide) (aZ rfl) ?_
 rintro⟨_,(id:Int),⟨(n1:Int),(n2:Int),(n3:Int),(n4:Int),(n5:Int),(n6:Int),(n7:Int),(n8:Int),(n9:Int),(cx:Int)⟩⟩ ⟨⟨(Fm1:Nat),(Fm2:Nat),(Fm3:Nat),(aM:Int),(Fm4:Nat),(aW:Int),(Fm5:Nat),(aV:Bool),(aU:Int),(aS:Int),(aR:Int),(aQ:Int),(aP:Int),(aO:Int),(aN:Int),(aX:Bool)⟩,(aF:List ByteArray),(aG:List Int),(aH:List Int),(aI:List Pt),(aJ:List Pt)⟩ ⟨⟨(jB:Fm1=List.length aF),(jA:Fm2=List.length aG),(jz:Fm3=List.length aH),(jy:Fm4=List.length aI),(jx:Fm5=List.length aJ)⟩,(hp:gL ((aF,aG,aH,aM,aI,aW,aJ,aV),(aU,aS,aR,aQ,aP,aO,aN),aX) id (n1,n2,n3,n4,n5,n6,n7,n8,n9,cx))⟩
 subst jB jA jz jy jx
 show vc _ _ _ _ (entry [.s (.bp 0 0),.int id,.a [.int n1,.int n2,.int n3,.int n4,.int n5,.int n6,.int n7,.int n8,.int n9,.int cx]] [.a [.xs 1 1 0 aF.length,.xs 2 1 0 aG.length,.xs 3 1 0 aH.length,.int aM,.xs 4 5 0 aI.length,.int aW,.xs 5 5 0 aJ.length,.q aV,.int aU,.int aS,.int aR,.int aQ,.int aP,.int aO,.int aN,.q aX],.rs ab aF,.rs ag aG,.rs ag aH,.rs ae aI,.rs ae aJ]) _
 obtain⟨lB,cA,hi0,mz⟩:=hp
 refine⟨fun w1=>?_,fun w2=>⟨[.s 0],[.s 14],rfl,[.s 14],[.s 15],rfl,[.s 15],[.s 16],rfl,[.s 16,.b 0],[.s 17],rfl,[.s 0],[.s 18],rfl,[.s 18],[.s 19],rfl,[.s 19],[.s 20],rfl,[.s 20,.b 0],[.s 21],rfl,[.s 1],[.s 22],rfl,[.s 5,.b 1005],[.s 23],rfl,[.s 17,.s 21,.s 22,.s 23,.b 1,.b 2,.b 3,.b 4,.b 5,.b 1000250001,.b 1000250000],[.s 24,.b 1,.b 2,.b 3,.b 4,.b 5,.b 1000250000,.b 1000250001],rfl,⟨⟨⟨aa,aa,aa,aa,aa,aa,aa,aa,aa⟩,⟨aa,aa,aa,aa,aa,aa,aa,aa⟩,aa,⟨aa,aa,aa,aa,aa,aa,aa,aa,aa,aa,aa⟩,aa⟩,⟨?_,?_,?_,?_,?_⟩,?_,?_,?_,?_⟩,?_,fun x3 w4=>⟨[.s 24],[.s 13],rfl,[.s 13],[.s 25],rfl,[.s 13],[.s 26],rfl,[.s 13],[.s 27],rfl,[.b 1006],[.s 6,.b 1006],rfl,[.b 1007],[.s 7,.b 1007],rfl,[.s 6,.s 25,.b 1006],[.b 1006],rfl,[.s 7,.s 26,.b 1007],[.b 1007],rfl,[.s 27],[.s 8],rfl,?_⟩⟩⟩
 all_goals first|refine aw ?_|refine ax ?_|exact ba|(dsimp only [v7,tn];omega)|exact a8|exact lB|exact cA|skip
 ·refine⟨[4,5],[],_,_,_,rfl,az,(),0,aa,?_,?_,rfl⟩
  ·(show _=kl ((aF,aG,aH,aM,aI,aW,aJ,aV),(aU,aS,aR,aQ,aP,aO,aN),aX) id (n1,n2,n3,n4,n5,n6,n7,n8,n9,cx));unfold kl;first|(rw [P6 (F:=((aF,aG,aH,aM,aI,aW,aJ,aV),(aU,aS,aR,aQ,aP,aO,aN),aX)) w1];rfl)|rfl
  ·(show _=l8 ((aF,aG,aH,aM,aI,aW,aJ,aV),(aU,aS,aR,aQ,aP,aO,aN),aX) id (n1,n2,n3,n4,n5,n6,n7,n8,n9,cx));unfold l8;first|(rw [P6 (F:=((aF,aG,aH,aM,aI,aW,aJ,aV),(aU,aS,aR,aQ,aP,aO,aN),aX)) w1];rfl)|rfl
 ·refine⟨[1000250000,1000250001],[],_,_,_,rfl,az,(),0,aa,?_,?_,rfl⟩
  ·(show _=kl ((aF,aG,aH,aM,aI,aW,aJ,aV),(aU,aS,aR,aQ,aP,aO,aN),aX) id (n1,n2,n3,n4,n5,n6,n7,n8,n9,cx));unfold kl;first|(rw [P5 (F:=((aF,aG,aH,aM,aI,aW,aJ,aV),(aU,aS,aR,aQ,aP,aO,aN),aX)) w2];rfl)|rfl
  ·(show _=l8 ((aF,aG,aH,aM,aI,aW,aJ,aV),(aU,aS,aR,aQ,aP,aO,aN),aX) id (n1,n2,n3,n4,n5,n6,n7,n8,n9,cx));unfold l8;first|(rw [P5 (F:=((aF,aG,aH,aM,aI,aW,aJ,aV),(aU,aS,aR,aQ,aP,aO,aN),aX)) w2];rfl)|rfl
def iO (F:fv) (path:ByteArray):Prop:=F.1.rd∧F.2.1.ok∧path.size≤1000000
def dT (F:fv) (path:ByteArray):AV:=.t [.s (.int (dS F path).1),.s (.int (dS F path).2)]
def ew (F:fv) (path:ByteArray):List AV:=fsO F
def gP:Con where
 A:=[.b 0,.s .str]
 B:=[.a [.xb 1 ab,.xb 2 ag,.xb 3 ag,.int,.xb 4 ae,.int,.xb 5 ae,.bool,.int,.int,.int,.int,.int,.int,.int,.bool],.r ab,.r ag,.r ag,.r ae,.r ae]
 pre:=fun x b=>whole ((b.1).1) ((b.1).2.1) ((b.1).2.2.1) ((b.1).2.2.2.2.1) ((b.1).2.2.2.2.2.2.1) (b.2.1) (b.2.2.1) (b.2.2.2.1) (b.2.2.2.2.1) (b.2.2.2.2.2)∧iO (((b.2.1,b.2.2.1,b.2.2.2.1,(b.1).2.2.2.1,b.2.2.2.2.1,(b.1).2.2.2.2.2.1,b.2.2.2.2.2,(b.1).2.2.2.2.2.2.2.1),((b.1).2.2.2.2.2.2.2.2.1,(b.1).2.2.2.2.2.2.2.2.2.1,(b.1).2.2.2.2.2.2.2.2.2.2.1,(b.1).2.2.2.2.2.2.2.2.2.2.2.1,(b.1).2.2.2.2.2.2.2.2.2.2.2.2.1,(b.1).2.2.2.2.2.2.2.2.2.2.2.2.2.1,(b.1).2.2.2.2.2.2.2.2.2.2.2.2.2.2.1),(b.1).2.2.2.2.2.2.2.2.2.2.2.2.2.2.2)) (x.2)
 α:=fun _ _=>Unit
 φ:=fun _ _ _=>True
 r:=fun x b _=>dT (((b.2.1,b.2.2.1,b.2.2.2.1,(b.1).2.2.2.1,b.2.2.2.2.1,(b.1).2.2.2.2.2.1,b.2.2.2.2.2,(b.1).2.2.2.2.2.2.2.1),((b.1).2.2.2.2.2.2.2.2.1,(b.1).2.2.2.2.2.2.2.2.2.1,(b.1).2.2.2.2.2.2.2.2.2.2.1,(b.1).2.2.2.2.2.2.2.2.2.2.2.1,(b.1).2.2.2.2.2.2.2.2.2.2.2.2.1,(b.1).2.2.2.2.2.2.2.2.2.2.2.2.2.1,(b.1).2.2.2.2.2.2.2.2.2.2.2.2.2.2.1),(b.1).2.2.2.2.2.2.2.2.2.2.2.2.2.2.2)) (x.2)
 o:=fun x b _=>ew (((b.2.1,b.2.2.1,b.2.2.2.1,(b.1).2.2.2.1,b.2.2.2.2.1,(b.1).2.2.2.2.2.1,b.2.2.2.2.2,(b.1).2.2.2.2.2.2.2.1),((b.1).2.2.2.2.2.2.2.2.1,(b.1).2.2.2.2.2.2.2.2.2.1,(b.1).2.2.2.2.2.2.2.2.2.2.1,(b.1).2.2.2.2.2.2.2.2.2.2.2.1,(b.1).2.2.2.2.2.2.2.2.2.2.2.2.1,(b.1).2.2.2.2.2.2.2.2.2.2.2.2.2.1,(b.1).2.2.2.2.2.2.2.2.2.2.2.2.2.2.1),(b.1).2.2.2.2.2.2.2.2.2.2.2.2.2.2.2)) (x.2)
 nf:=0
 ro:=true
set_option maxRecDepth 100000 in
theorem rR:Has Tryz.prog 104 gP:=by
 refine Has.ofE (fun _=>true) (fun _=>false) (fun _=>false) (l:=[(111,eS),(131,sM),(103,dF)]) ⟨nb,ML,jW,trivial⟩ (fn:=Tryz.f104) Tryz.func104 rfl (by decide) (aZ rfl) ?_
 rintro⟨_,(path:ByteArray)⟩ ⟨⟨(Fm1:Nat),(Fm2:Nat),(Fm3:Nat),(aM:Int),(Fm4:Nat),(aW:Int),(Fm5:Nat),(aV:Bool),(aU:Int),(aS:Int),(aR:Int),(aQ:Int),(aP:Int),(aO:Int),(aN:Int),(aX:Bool)⟩,(aF:List ByteArray),(aG:List Int),(aH:List Int),(aI:List Pt),(aJ:List Pt)⟩ ⟨⟨(jB:Fm1=List.length aF),(jA:Fm2=List.length aG),(jz:Fm3=List.length aH),(jy:Fm4=List.length aI),(jx:Fm5=List.length aJ)⟩,(hp:iO ((aF,aG,aH,aM,aI,aW,aJ,aV),(aU,aS,aR,aQ,aP,aO,aN),aX) path)⟩
 subst jB jA jz jy jx
 show vc _ _ _ _ (entry [.s (.bp 0 0),.str path] [.a [.xs 1 1 0 aF.length,.xs 2 1 0 aG.length,.xs 3 1 0 aH.length,.int aM,.xs 4 5 0 aI.length,.int aW,.xs 5 5 0 aJ.length,.q aV,.int aU,.int aS,.int aR,.int aQ,.int aP,.int aO,.int aN,.q aX],.rs ab aF,.rs ag aG,.rs ag aH,.rs ae aI,.rs ae aJ]) _
 obtain⟨dG,cA,hps⟩:=hp
 have hnl:=qq (s:=path)
 have hln:(oh path).length≤1000000:=by rw [ZB8];omega
 refine⟨⟨⟨aa,aa⟩,?_⟩,fun x1 w2=>⟨fun w3=>?_,fun w4=>⟨[.s 0],[.s 13],rfl,[.s 13],[.s 14],rfl,[.s 14],[.s 15],rfl,[.s 15,.b 0],[.s 16],rfl,[.s 0],[.s 17],rfl,[.s 17],[.s 18],rfl,[.s 18],[.s 19],rfl,[.s 19,.b 0],[.s 20],rfl,[.s 6],[.s 21],rfl,[.s 6],[.s 22],rfl,[.s 22],[.s 23],rfl,[.s 23],[.s 24],rfl,⟨?_,?_⟩,[.s 21,.s 24],[.s 25],rfl,⟨?_,?_,?_⟩,[.s 16,.s 20,.s 25,.b 1,.b 2,.b 3,.b 4,.b 5],[.s 26],rfl,⟨⟨⟨⟨?_,?_⟩,⟨?_,?_⟩,⟨?_,?_⟩,aa,⟨?_,?_⟩,aa,⟨?_,?_⟩,aa,aa⟩,⟨aa,aa,aa,aa,aa,aa,aa,aa⟩,aa,aa⟩,?_,?_,?_⟩,?_,fun x5 w6=>⟨[.s 26],[.s 7],rfl,fun w7=>?_,fun w8=>⟨⟨⟨⟨aa,aa,aa⟩,⟨?_,?_,?_,?_,?_⟩,?_,?_⟩,fun x9 dq=>?_⟩,fun kE dI=>⟨fun iJ=>?_,fun gI=>?_⟩⟩⟩⟩⟩⟩
 all_goals first|refine aw ?_|refine ax ?_|exact ba|(dsimp only [eS,fC];omega)|(dsimp only [sM,q9];omega)|(dsimp only [dF,fh];omega)|exact a8|exact dG|exact cA|exact⟨dG,cA⟩|exact fun _ _=>rfl|skip
 ·have e:dS ((aF,aG,aH,aM,aI,aW,aJ,aV),(aU,aS,aR,aQ,aP,aO,aN),aX) path=(0,3):=by unfold dS;rw [w3];rfl
  refine⟨[],[],_,_,_,rfl,az,(),aa,?_,?_,rfl⟩
  ·(show _=dT ((aF,aG,aH,aM,aI,aW,aJ,aV),(aU,aS,aR,aQ,aP,aO,aN),aX) path);unfold dT;first|(rw [e];rfl)|rfl
  ·(show _=ew ((aF,aG,aH,aM,aI,aW,aJ,aV),(aU,aS,aR,aQ,aP,aO,aN),aX) path);unfold ew;first|(rw [e];rfl)|rfl
 ·exact hln
 ·have e:dS ((aF,aG,aH,aM,aI,aW,aJ,aV),(aU,aS,aR,aQ,aP,aO,aN),aX) path=(0,2):=by unfold dS plE;rw [w4,show decide (uR ((aF,aG,aH,aM,aI,aW,aJ,aV),(aU,aS,aR,aQ,aP,aO,aN),aX).1 ((aF,aG,aH,aM,aI,aW,aJ,aV),(aU,aS,aR,aQ,aP,aO,aN),aX).2.1 (oh path)<0)=true from w7];rfl
  refine⟨[],[],_,_,_,rfl,az,(),aa,?_,?_,rfl⟩
  ·(show _=dT ((aF,aG,aH,aM,aI,aW,aJ,aV),(aU,aS,aR,aQ,aP,aO,aN),aX) path);unfold dT;first|(rw [e];rfl)|rfl
  ·(show _=ew ((aF,aG,aH,aM,aI,aW,aJ,aV),(aU,aS,aR,aQ,aP,aO,aN),aX) path);unfold ew;first|(rw [e];rfl)|rfl
 ·have e:dS ((aF,aG,aH,aM,aI,aW,aJ,aV),(aU,aS,aR,aQ,aP,aO,aN),aX) path=(0,4):=by unfold dS plE;rw [w4,show decide (uR ((aF,aG,aH,aM,aI,aW,aJ,aV),(aU,aS,aR,aQ,aP,aO,aN),aX).1 ((aF,aG,aH,aM,aI,aW,aJ,aV),(aU,aS,aR,aQ,aP,aO,aN),aX).2.1 (oh path)<0)=false from w8,show decide ((a7 ((aF,aG,aH,aM,aI,aW,aJ,aV),(aU,aS,aR,aQ,aP,aO,aN),aX) (uR ((aF,aG,aH,aM,aI,aW,aJ,aV),(aU,aS,aR,aQ,aP,aO,aN),aX).1 ((aF,aG,aH,aM,aI,aW,aJ,aV),(aU,aS,aR,aQ,aP,aO,aN),aX).2.1 (oh path))).1≠2)=true from iJ];rfl
  refine⟨[],[],_,_,_,rfl,az,(),aa,?_,?_,rfl⟩
  ·(show _=dT ((aF,aG,aH,aM,aI,aW,aJ,aV),(aU,aS,aR,aQ,aP,aO,aN),aX) path);unfold dT;first|(rw [e];rfl)|rfl
  ·(show _=ew ((aF,aG,aH,aM,aI,aW,aJ,aV),(aU,aS,aR,aQ,aP,aO,aN),aX) path);unfold ew;first|(rw [e];rfl)|rfl
 ·have e:dS ((aF,aG,aH,aM,aI,aW,aJ,aV),(aU,aS,aR,aQ,aP,aO,aN),aX) path=(uR ((aF,aG,aH,aM,aI,aW,aJ,aV),(aU,aS,aR,aQ,aP,aO,aN),aX).1 ((aF,aG,aH,aM,aI,aW,aJ,aV),(aU,aS,aR,aQ,aP,aO,aN),aX).2.1 (oh path),0):=by unfold dS plE;rw [w4,show decide (uR ((aF,aG,aH,aM,aI,aW,aJ,aV),(aU,aS,aR,aQ,aP,aO,aN),aX).1 ((aF,aG,aH,aM,aI,aW,aJ,aV),(aU,aS,aR,aQ,aP,aO,aN),aX).2.1 (oh path)<0)=false from w8,show decide ((a7 ((aF,aG,aH,aM,aI,aW,aJ,aV),(aU,aS,aR,aQ,aP,aO,aN),aX) (uR ((aF,aG,aH,aM,aI,aW,aJ,aV),(aU,aS,aR,aQ,aP,aO,aN),aX).1 ((aF,aG,aH,aM,aI,aW,aJ,aV),(aU,aS,aR,aQ,aP,aO,aN),aX).2.1 (oh path))).1≠2)=false from gI];rfl
  refine⟨[],[],_,_,_,rfl,az,(),aa,?_,?_,rfl⟩
  ·(show _=dT ((aF,aG,aH,aM,aI,aW,aJ,aV),(aU,aS,aR,aQ,aP,aO,aN),aX) path);unfold dT;first|(rw [e];rfl)|rfl
  ·(show _=ew ((aF,aG,aH,aM,aI,aW,aJ,aV),(aU,aS,aR,aQ,aP,aO,aN),aX) path);unfold ew;first|(rw [e];rfl)|rfl
def fW (F:fv) (path:ByteArray):Prop:=F.1.rd∧F.2.1.ok∧path.size≤1000000
def pL (F:fv) (path:ByteArray):AV:=.s (.int (bD F path))
def rQ (F:fv) (path:ByteArray):List AV:=fsO F
def eD:Con where
 A:=[.b 0,.s .str]
 B:=[.a [.xb 1 ab,.xb 2 ag,.xb 3 ag,.int,.xb 4 ae,.int,.xb 5 ae,.bool,.int,.int,.int,.int,.int,.int,.int,.bool],.r ab,.r ag,.r ag,.r ae,.r ae]
 pre:=fun x b=>whole ((b.1).1) ((b.1).2.1) ((b.1).2.2.1) ((b.1).2.2.2.2.1) ((b.1).2.2.2.2.2.2.1) (b.2.1) (b.2.2.1) (b.2.2.2.1) (b.2.2.2.2.1) (b.2.2.2.2.2)∧fW (((b.2.1,b.2.2.1,b.2.2.2.1,(b.1).2.2.2.1,b.2.2.2.2.1,(b.1).2.2.2.2.2.1,b.2.2.2.2.2,(b.1).2.2.2.2.2.2.2.1),((b.1).2.2.2.2.2.2.2.2.1,(b.1).2.2.2.2.2.2.2.2.2.1,(b.1).2.2.2.2.2.2.2.2.2.2.1,(b.1).2.2.2.2.2.2.2.2.2.2.2.1,(b.1).2.2.2.2.2.2.2.2.2.2.2.2.1,(b.1).2.2.2.2.2.2.2.2.2.2.2.2.2.1,(b.1).2.2.2.2.2.2.2.2.2.2.2.2.2.2.1),(b.1).2.2.2.2.2.2.2.2.2.2.2.2.2.2.2)) (x.2)
 α:=fun _ _=>Unit
 φ:=fun _ _ _=>True
 r:=fun x b _=>pL (((b.2.1,b.2.2.1,b.2.2.2.1,(b.1).2.2.2.1,b.2.2.2.2.1,(b.1).2.2.2.2.2.1,b.2.2.2.2.2,(b.1).2.2.2.2.2.2.2.1),((b.1).2.2.2.2.2.2.2.2.1,(b.1).2.2.2.2.2.2.2.2.2.1,(b.1).2.2.2.2.2.2.2.2.2.2.1,(b.1).2.2.2.2.2.2.2.2.2.2.2.1,(b.1).2.2.2.2.2.2.2.2.2.2.2.2.1,(b.1).2.2.2.2.2.2.2.2.2.2.2.2.2.1,(b.1).2.2.2.2.2.2.2.2.2.2.2.2.2.2.1),(b.1).2.2.2.2.2.2.2.2.2.2.2.2.2.2.2)) (x.2)
 o:=fun x b _=>rQ (((b.2.1,b.2.2.1,b.2.2.2.1,(b.1).2.2.2.1,b.2.2.2.2.1,(b.1).2.2.2.2.2.1,b.2.2.2.2.2,(b.1).2.2.2.2.2.2.2.1),((b.1).2.2.2.2.2.2.2.2.1,(b.1).2.2.2.2.2.2.2.2.2.1,(b.1).2.2.2.2.2.2.2.2.2.2.1,(b.1).2.2.2.2.2.2.2.2.2.2.2.1,(b.1).2.2.2.2.2.2.2.2.2.2.2.2.1,(b.1).2.2.2.2.2.2.2.2.2.2.2.2.2.1,(b.1).2.2.2.2.2.2.2.2.2.2.2.2.2.2.1),(b.1).2.2.2.2.2.2.2.2.2.2.2.2.2.2.2)) (x.2)
 nf:=0
 ro:=true
set_option maxRecDepth 100000 in
theorem me:Has Tryz.prog 102 eD:=by
 refine Has.ofE (fun _=>true) (fun _=>false) (fun _=>false) (l:=[(111,eS),(131,sM)]) ⟨nb,ML,trivial⟩ (fn:=Tryz.f102) Tryz.func102 rfl (by decide) (aZ rfl) ?_
 rintro⟨_,(path:ByteArray)⟩ ⟨⟨(Fm1:Nat),(Fm2:Nat),(Fm3:Nat),(aM:Int),(Fm4:Nat),(aW:Int),(Fm5:Nat),(aV:Bool),(aU:Int),(aS:Int),(aR:Int),(aQ:Int),(aP:Int),(aO:Int),(aN:Int),(aX:Bool)⟩,(aF:List ByteArray),(aG:List Int),(aH:List Int),(aI:List Pt),(aJ:List Pt)⟩ ⟨⟨(jB:Fm1=List.length aF),(jA:Fm2=List.length aG),(jz:Fm3=List.length aH),(jy:Fm4=List.length aI),(jx:Fm5=List.length aJ)⟩,(hp:fW ((aF,aG,aH,aM,aI,aW,aJ,aV),(aU,aS,aR,aQ,aP,aO,aN),aX) path)⟩
 subst jB jA jz jy jx
 show vc _ _ _ _ (entry [.s (.bp 0 0),.str path] [.a [.xs 1 1 0 aF.length,.xs 2 1 0 aG.length,.xs 3 1 0 aH.length,.int aM,.xs 4 5 0 aI.length,.int aW,.xs 5 5 0 aJ.length,.q aV,.int aU,.int aS,.int aR,.int aQ,.int aP,.int aO,.int aN,.q aX],.rs ab aF,.rs ag aG,.rs ag aH,.rs ae aI,.rs ae aJ]) _
 obtain⟨dG,cA,hps⟩:=hp
 have hnl:=qq (s:=path)
 refine⟨[.s 0],[.s 5],rfl,[.s 5],[.s 6],rfl,[.s 6],[.s 7],rfl,[.s 7,.b 0],[.s 8],rfl,[.s 0],[.s 9],rfl,[.s 9],[.s 10],rfl,[.s 10],[.s 11],rfl,[.s 11,.b 0],[.s 12],rfl,[.s 1],[.s 13],rfl,[.s 13],[.s 14],rfl,⟨⟨aa,aa⟩,?_⟩,?_,fun x1 w2=>⟨[.s 8,.s 12,.s 14,.b 1,.b 2,.b 3,.b 4,.b 5],[.s 15],rfl,⟨⟨⟨⟨?_,?_⟩,⟨?_,?_⟩,⟨?_,?_⟩,aa,⟨?_,?_⟩,aa,⟨?_,?_⟩,aa,aa⟩,⟨aa,aa,aa,aa,aa,aa,aa,aa⟩,aa,aa⟩,?_,?_,?_⟩,?_,fun x3 w4=>⟨[.s 15],[.s 4],rfl,?_⟩⟩⟩
 all_goals first|refine aw ?_|refine ax ?_|exact ba|(dsimp only [eS,fC];omega)|(dsimp only [sM,q9];omega)|exact a8|exact dG|exact cA|exact ZB1 hnl hps|skip
 refine⟨[],[],_,_,_,rfl,az,(),aa,?_,?_,rfl⟩
 ·(show _=pL ((aF,aG,aH,aM,aI,aW,aJ,aV),(aU,aS,aR,aQ,aP,aO,aN),aX) path);unfold pL;first|rfl
 ·(show _=rQ ((aF,aG,aH,aM,aI,aW,aJ,aV),(aU,aS,aR,aQ,aP,aO,aN),aX) path);unfold rQ;first|rfl
def kF (F:fv) (path:ByteArray):Prop:=F.1.rd∧F.2.1.ok∧path.size≤1000000
def ft (F:fv) (path:ByteArray):AV:=.t [.s (.int (dy F path).1),.s (.int (dy F path).2)]
def fX (F:fv) (path:ByteArray):List AV:=fsO F
def kx:Con where
 A:=[.b 0,.s .str]
 B:=[.a [.xb 1 ab,.xb 2 ag,.xb 3 ag,.int,.xb 4 ae,.int,.xb 5 ae,.bool,.int,.int,.int,.int,.int,.int,.int,.bool],.r ab,.r ag,.r ag,.r ae,.r ae]
 pre:=fun x b=>whole ((b.1).1) ((b.1).2.1) ((b.1).2.2.1) ((b.1).2.2.2.2.1) ((b.1).2.2.2.2.2.2.1) (b.2.1) (b.2.2.1) (b.2.2.2.1) (b.2.2.2.2.1) (b.2.2.2.2.2)∧kF (((b.2.1,b.2.2.1,b.2.2.2.1,(b.1).2.2.2.1,b.2.2.2.2.1,(b.1).2.2.2.2.2.1,b.2.2.2.2.2,(b.1).2.2.2.2.2.2.2.1),((b.1).2.2.2.2.2.2.2.2.1,(b.1).2.2.2.2.2.2.2.2.2.1,(b.1).2.2.2.2.2.2.2.2.2.2.1,(b.1).2.2.2.2.2.2.2.2.2.2.2.1,(b.1).2.2.2.2.2.2.2.2.2.2.2.2.1,(b.1).2.2.2.2.2.2.2.2.2.2.2.2.2.1,(b.1).2.2.2.2.2.2.2.2.2.2.2.2.2.2.1),(b.1).2.2.2.2.2.2.2.2.2.2.2.2.2.2.2)) (x.2)
 α:=fun _ _=>Unit
 φ:=fun _ _ _=>True
 r:=fun x b _=>ft (((b.2.1,b.2.2.1,b.2.2.2.1,(b.1).2.2.2.1,b.2.2.2.2.1,(b.1).2.2.2.2.2.1,b.2.2.2.2.2,(b.1).2.2.2.2.2.2.2.1),((b.1).2.2.2.2.2.2.2.2.1,(b.1).2.2.2.2.2.2.2.2.2.1,(b.1).2.2.2.2.2.2.2.2.2.2.1,(b.1).2.2.2.2.2.2.2.2.2.2.2.1,(b.1).2.2.2.2.2.2.2.2.2.2.2.2.1,(b.1).2.2.2.2.2.2.2.2.2.2.2.2.2.1,(b.1).2.2.2.2.2.2.2.2.2.2.2.2.2.2.1),(b.1).2.2.2.2.2.2.2.2.2.2.2.2.2.2.2)) (x.2)
 o:=fun x b _=>fX (((b.2.1,b.2.2.1,b.2.2.2.1,(b.1).2.2.2.1,b.2.2.2.2.1,(b.1).2.2.2.2.2.1,b.2.2.2.2.2,(b.1).2.2.2.2.2.2.2.1),((b.1).2.2.2.2.2.2.2.2.1,(b.1).2.2.2.2.2.2.2.2.2.1,(b.1).2.2.2.2.2.2.2.2.2.2.1,(b.1).2.2.2.2.2.2.2.2.2.2.2.1,(b.1).2.2.2.2.2.2.2.2.2.2.2.2.1,(b.1).2.2.2.2.2.2.2.2.2.2.2.2.2.1,(b.1).2.2.2.2.2.2.2.2.2.2.2.2.2.2.1),(b.1).2.2.2.2.2.2.2.2.2.2.2.2.2.2.2)) (x.2)
 nf:=0
 ro:=true
set_option maxRecDepth 100000 in
theorem xJ:Has Tryz.prog 95 kx:=by
 refine Has.ofE (fun _=>true) (fun _=>false) (fun _=>false) (l:=[(104,gP),(102,eD)]) ⟨rR,me,trivial⟩ (fn:=Tryz.f95) Tryz.func95 rfl (by decide) (aZ rfl) ?_
 rintro⟨_,(path:ByteArray)⟩ ⟨⟨(Fm1:Nat),(Fm2:Nat),(Fm3:Nat),(aM:Int),(Fm4:Nat),(aW:Int),(Fm5:Nat),(aV:Bool),(aU:Int),(aS:Int),(aR:Int),(aQ:Int),(aP:Int),(aO:Int),(aN:Int),(aX:Bool)⟩,(aF:List ByteArray),(aG:List Int),(aH:List Int),(aI:List Pt),(aJ:List Pt)⟩ ⟨⟨(jB:Fm1=List.length aF),(jA:Fm2=List.length aG),(jz:Fm3=List.length aH),(jy:Fm4=List.length aI),(jx:Fm5=List.length aJ)⟩,(hp:kF ((aF,aG,aH,aM,aI,aW,aJ,aV),(aU,aS,aR,aQ,aP,aO,aN),aX) path)⟩
 subst jB jA jz jy jx
 show vc _ _ _ _ (entry [.s (.bp 0 0),.str path] [.a [.xs 1 1 0 aF.length,.xs 2 1 0 aG.length,.xs 3 1 0 aH.length,.int aM,.xs 4 5 0 aI.length,.int aW,.xs 5 5 0 aJ.length,.q aV,.int aU,.int aS,.int aR,.int aQ,.int aP,.int aO,.int aN,.q aX],.rs ab aF,.rs ag aG,.rs ag aH,.rs ae aI,.rs ae aJ]) _
 obtain⟨dG,cA,hps⟩:=hp
 refine⟨⟨⟨⟨aa,aa,aa⟩,⟨?_,?_,?_,?_,?_⟩,?_,?_,?_⟩,fun x1 w2=>?_⟩,fun x3 w4=>⟨fun w5=>?_,fun w6=>⟨⟨⟨⟨aa,aa,aa⟩,⟨?_,?_,?_,?_,?_⟩,?_,?_,?_⟩,fun x7 w8=>?_⟩,fun x9 dq=>⟨fun kk=>?_,fun dI=>?_⟩⟩⟩⟩
 all_goals first|refine aw ?_|refine ax ?_|exact ba|(dsimp only [gP,iO];omega)|(dsimp only [eD,fW];omega)|exact a8|exact dG|exact cA|exact⟨dG,cA,hps⟩|exact fun _ _=>rfl|skip
 ·have e:dy ((aF,aG,aH,aM,aI,aW,aJ,aV),(aU,aS,aR,aQ,aP,aO,aN),aX) path=(0,(dS ((aF,aG,aH,aM,aI,aW,aJ,aV),(aU,aS,aR,aQ,aP,aO,aN),aX) path).2):=by unfold dy;rw [show decide ((dS ((aF,aG,aH,aM,aI,aW,aJ,aV),(aU,aS,aR,aQ,aP,aO,aN),aX) path).2>0)=true from w5];rfl
  refine⟨[],[],_,_,_,rfl,az,(),aa,?_,?_,rfl⟩
  ·(show _=ft ((aF,aG,aH,aM,aI,aW,aJ,aV),(aU,aS,aR,aQ,aP,aO,aN),aX) path);unfold ft;first|(rw [e];rfl)|rfl
  ·(show _=fX ((aF,aG,aH,aM,aI,aW,aJ,aV),(aU,aS,aR,aQ,aP,aO,aN),aX) path);unfold fX;first|(rw [e];rfl)|rfl
 ·have e:dy ((aF,aG,aH,aM,aI,aW,aJ,aV),(aU,aS,aR,aQ,aP,aO,aN),aX) path=(0,3):=by unfold dy;rw [show decide ((dS ((aF,aG,aH,aM,aI,aW,aJ,aV),(aU,aS,aR,aQ,aP,aO,aN),aX) path).2>0)=false from w6,show decide (bD ((aF,aG,aH,aM,aI,aW,aJ,aV),(aU,aS,aR,aQ,aP,aO,aN),aX) path≥0)=true from kk];rfl
  refine⟨[],[],_,_,_,rfl,az,(),aa,?_,?_,rfl⟩
  ·(show _=ft ((aF,aG,aH,aM,aI,aW,aJ,aV),(aU,aS,aR,aQ,aP,aO,aN),aX) path);unfold ft;first|(rw [e];rfl)|rfl
  ·(show _=fX ((aF,aG,aH,aM,aI,aW,aJ,aV),(aU,aS,aR,aQ,aP,aO,aN),aX) path);unfold fX;first|(rw [e];rfl)|rfl
 ·have e:dy ((aF,aG,aH,aM,aI,aW,aJ,aV),(aU,aS,aR,aQ,aP,aO,aN),aX) path=((dS ((aF,aG,aH,aM,aI,aW,aJ,aV),(aU,aS,aR,aQ,aP,aO,aN),aX) path).1,0):=by unfold dy;rw [show decide ((dS ((aF,aG,aH,aM,aI,aW,aJ,aV),(aU,aS,aR,aQ,aP,aO,aN),aX) path).2>0)=false from w6,show decide (bD ((aF,aG,aH,aM,aI,aW,aJ,aV),(aU,aS,aR,aQ,aP,aO,aN),aX) path≥0)=false from dI];rfl
  refine⟨[],[],_,_,_,rfl,az,(),aa,?_,?_,rfl⟩
  ·(show _=ft ((aF,aG,aH,aM,aI,aW,aJ,aV),(aU,aS,aR,aQ,aP,aO,aN),aX) path);unfold ft;first|(rw [e];rfl)|rfl
  ·(show _=fX ((aF,aG,aH,aM,aI,aW,aJ,aV),(aU,aS,aR,aQ,aP,aO,aN),aX) path);unfold fX;first|(rw [e];rfl)|rfl
end GL
namespace GL
attribute [local irreducible] dH cM en nj aY aC
def gn (F:fv) (id:Int) (l:List eW):Prop:=F.1.wg 1040000∧F.2.1.ok∧(0≤id∧id≤15)∧KY l
def iM (F:fv) (id:Int) (l:List eW):AV:=.t []
def jt (F:fv) (id:Int) (l:List eW):List AV:=fsP (cl F id l)
def fb:Con where
 A:=[.b 0,.s .int,.s (.vz aK)]
 B:=[.a [.xb 1 ab,.xb 2 ag,.xb 3 ag,.int,.xb 4 ae,.int,.xb 5 ae,.bool,.int,.int,.int,.int,.int,.int,.int,.bool],.r ab,.r ag,.r ag,.r ae,.r ae]
 pre:=fun x b=>whole ((b.1).1) ((b.1).2.1) ((b.1).2.2.1) ((b.1).2.2.2.2.1) ((b.1).2.2.2.2.2.2.1) (b.2.1) (b.2.2.1) (b.2.2.2.1) (b.2.2.2.2.1) (b.2.2.2.2.2)∧gn (((b.2.1,b.2.2.1,b.2.2.2.1,(b.1).2.2.2.1,b.2.2.2.2.1,(b.1).2.2.2.2.2.1,b.2.2.2.2.2,(b.1).2.2.2.2.2.2.2.1),((b.1).2.2.2.2.2.2.2.2.1,(b.1).2.2.2.2.2.2.2.2.2.1,(b.1).2.2.2.2.2.2.2.2.2.2.1,(b.1).2.2.2.2.2.2.2.2.2.2.2.1,(b.1).2.2.2.2.2.2.2.2.2.2.2.2.1,(b.1).2.2.2.2.2.2.2.2.2.2.2.2.2.1,(b.1).2.2.2.2.2.2.2.2.2.2.2.2.2.2.1),(b.1).2.2.2.2.2.2.2.2.2.2.2.2.2.2.2)) (x.2.1) (x.2.2)
 α:=fun _ _=>Unit
 φ:=fun _ _ _=>True
 r:=fun x b _=>iM (((b.2.1,b.2.2.1,b.2.2.2.1,(b.1).2.2.2.1,b.2.2.2.2.1,(b.1).2.2.2.2.2.1,b.2.2.2.2.2,(b.1).2.2.2.2.2.2.2.1),((b.1).2.2.2.2.2.2.2.2.1,(b.1).2.2.2.2.2.2.2.2.2.1,(b.1).2.2.2.2.2.2.2.2.2.2.1,(b.1).2.2.2.2.2.2.2.2.2.2.2.1,(b.1).2.2.2.2.2.2.2.2.2.2.2.2.1,(b.1).2.2.2.2.2.2.2.2.2.2.2.2.2.1,(b.1).2.2.2.2.2.2.2.2.2.2.2.2.2.2.1),(b.1).2.2.2.2.2.2.2.2.2.2.2.2.2.2.2)) (x.2.1) (x.2.2)
 o:=fun x b _=>jt (((b.2.1,b.2.2.1,b.2.2.2.1,(b.1).2.2.2.1,b.2.2.2.2.1,(b.1).2.2.2.2.2.1,b.2.2.2.2.2,(b.1).2.2.2.2.2.2.2.1),((b.1).2.2.2.2.2.2.2.2.1,(b.1).2.2.2.2.2.2.2.2.2.1,(b.1).2.2.2.2.2.2.2.2.2.2.1,(b.1).2.2.2.2.2.2.2.2.2.2.2.1,(b.1).2.2.2.2.2.2.2.2.2.2.2.2.1,(b.1).2.2.2.2.2.2.2.2.2.2.2.2.2.1,(b.1).2.2.2.2.2.2.2.2.2.2.2.2.2.2.1),(b.1).2.2.2.2.2.2.2.2.2.2.2.2.2.2.2)) (x.2.1) (x.2.2)
 nf:=2
 mv:=true
set_option maxRecDepth 100000 in
theorem nD:Has Tryz.prog 99 fb:=by
 refine Has.ofZ (fun _=>true) (fun _=>false) (fun _=>false) (l:=[(103,dF),(129,qE),(130,P9),(98,fl)]) ⟨jW,IV,age,oe,trivial⟩ (fn:=Tryz.f99) Tryz.func99 rfl (by decide) (aZ rfl) ?_
 rintro⟨_,(id:Int),(l:List eW)⟩ ⟨⟨(Fm1:Nat),(Fm2:Nat),(Fm3:Nat),(aM:Int),(Fm4:Nat),(aW:Int),(Fm5:Nat),(aV:Bool),(aU:Int),(aS:Int),(aR:Int),(aQ:Int),(aP:Int),(aO:Int),(aN:Int),(aX:Bool)⟩,(aF:List ByteArray),(aG:List Int),(aH:List Int),(aI:List Pt),(aJ:List Pt)⟩ ⟨⟨(jB:Fm1=List.length aF),(jA:Fm2=List.length aG),(jz:Fm3=List.length aH),(jy:Fm4=List.length aI),(jx:Fm5=List.length aJ)⟩,(hp:gn ((aF,aG,aH,aM,aI,aW,aJ,aV),(aU,aS,aR,aQ,aP,aO,aN),aX) id l)⟩
 subst jB jA jz jy jx
 show vc _ _ _ _ (entry [.s (.bp 0 0),.int id,.s (.vz aK l)] [.a [.xs 1 1 0 aF.length,.xs 2 1 0 aG.length,.xs 3 1 0 aH.length,.int aM,.xs 4 5 0 aI.length,.int aW,.xs 5 5 0 aJ.length,.q aV,.int aU,.int aS,.int aR,.int aQ,.int aP,.int aO,.int aN,.q aX],.rs ab aF,.rs ag aG,.rs ag aH,.rs ae aI,.rs ae aJ]) _
 obtain⟨lB,cA,⟨hi0,mz⟩,hl⟩:=hp
 have hl:KY l:=hl
 have lB:ay.wg ((aF,aG,aH,aM,aI,aW,aJ,aV),(aU,aS,aR,aQ,aP,aO,aN),aX).1 1040000:=lB
 have cA:bf.ok ((aF,aG,aH,aM,aI,aW,aJ,aV),(aU,aS,aR,aQ,aP,aO,aN),aX).2.1:=cA
 have hbo:=UZ (text:=en l) lB (pq ((aF,aG,aH,aM,aI,aW,aJ,aV),(aU,aS,aR,aQ,aP,aO,aN),aX).1 ((aF,aG,aH,aM,aI,aW,aJ,aV),(aU,aS,aR,aQ,aP,aO,aN),aX).2.1 id)
 refine⟨fun w1=>?_,fun w2=>⟨⟨⟨⟨aa,aa,aa⟩,⟨?_,?_,?_,?_,?_⟩,?_,?_⟩,fun x3 w4=>?_⟩,fun x5 w6=>⟨⟨⟨aa,aa⟩,?_⟩,fun x7 w8=>⟨[.s 0],[.s 21],rfl,[.s 21],[.s 22],rfl,[.s 22],[.s 23],rfl,[.s 23,.b 0],[.s 24],rfl,[.s 6],[.s 25],rfl,[.s 25,.b 1006],[.s 26],rfl,[.s 7],[.s 27],rfl,[.s 24,.s 26,.s 27,.b 1,.b 2,.b 3,.b 4,.b 5,.b 1000290001,.b 1000290000],[.s 28,.b 1,.b 2,.b 3,.b 4,.b 5,.b 1000290000,.b 1000290001],rfl,⟨⟨⟨aa,aa,aa,aa,aa,aa,aa,aa,aa⟩,⟨aa,aa,aa,aa,aa,aa,aa,aa⟩,aa,aa⟩,⟨?_,?_,?_,?_,?_⟩,?_,?_,?_⟩,?_,fun x9 dq=>⟨[.s 28],[.s 20],rfl,[.s 20],[.s 29],rfl,[.s 20],[.s 30],rfl,[.s 20],[.s 31],rfl,[.b 1008],[.s 8,.b 1008],rfl,[.b 1009],[.s 9,.b 1009],rfl,[.s 8,.s 29,.b 1008],[.b 1008],rfl,[.s 9,.s 30,.b 1009],[.b 1009],rfl,[.s 31],[.s 10],rfl,⟨⟨aa,aa,⟨aa,aa,aa,aa,aa,aa,aa,aa,aa,aa,aa⟩,aa⟩,⟨?_,?_,?_,?_,?_⟩,?_,?_,?_,?_⟩,fun kE dI=>?_⟩⟩⟩⟩⟩
 all_goals first|refine aw ?_|refine ax ?_|exact ba|(dsimp only [dF,fh];omega)|(dsimp only [qE,qd];omega)|(dsimp only [P9,B6];omega)|(dsimp only [fl,gL];omega)|exact a8|exact lB.wf.rd|exact cA|exact⟨lB.wf.rd,cA⟩|exact fun _ _=>rfl|exact hl.p|exact pq _ _ _|exact hl.size|skip
 ·refine⟨[4,5],[],_,_,_,rfl,az,(),0,aa,?_,?_,rfl⟩
  ·(show _=iM ((aF,aG,aH,aM,aI,aW,aJ,aV),(aU,aS,aR,aQ,aP,aO,aN),aX) id l);unfold iM;first|(rw [JT (F:=((aF,aG,aH,aM,aI,aW,aJ,aV),(aU,aS,aR,aQ,aP,aO,aN),aX)) w1];rfl)|rfl
  ·(show _=jt ((aF,aG,aH,aM,aI,aW,aJ,aV),(aU,aS,aR,aQ,aP,aO,aN),aX) id l);unfold jt;first|(rw [JT (F:=((aF,aG,aH,aM,aI,aW,aJ,aV),(aU,aS,aR,aQ,aP,aO,aN),aX)) w1];rfl)|rfl
 ·exact lB.mono (by decide)
 ·exact hbo.1.mono (by decide)
 ·refine⟨[1000500000,1000500001],[],_,_,_,rfl,az,(),0,aa,?_,?_,rfl⟩
  ·(show _=iM ((aF,aG,aH,aM,aI,aW,aJ,aV),(aU,aS,aR,aQ,aP,aO,aN),aX) id l);unfold iM;first|(exact Eq.trans rfl (congrArg fsP (JS (F:=((aF,aG,aH,aM,aI,aW,aJ,aV),(aU,aS,aR,aQ,aP,aO,aN),aX)) (id:=id) (l:=l) w2).symm))|rfl
  ·(show _=jt ((aF,aG,aH,aM,aI,aW,aJ,aV),(aU,aS,aR,aQ,aP,aO,aN),aX) id l);unfold jt;first|(exact Eq.trans rfl (congrArg fsP (JS (F:=((aF,aG,aH,aM,aI,aW,aJ,aV),(aU,aS,aR,aQ,aP,aO,aN),aX)) (id:=id) (l:=l) w2).symm))|rfl
end GL
namespace GL
attribute [local irreducible] dH cM bL nj aY aC cl dy dS bD uR xx qW bE
def qa (F:fv) (path:ByteArray) (kind:Int):Prop:=cZ F 1000000∧F.2.2=false∧path.size≤1000
def HL (F:fv) (path:ByteArray) (kind:Int) (z:fv×Int):Prop:=∀n,cZ F n→cZ z.1 (n+300)
def G3 (F:fv) (path:ByteArray) (kind:Int) (z:fv×Int):AV:=.s (.int z.2)
def K3 (F:fv) (path:ByteArray) (kind:Int) (z:fv×Int):List AV:=fsP z.1
def uf:Con where
 A:=[.b 0,.s .str,.s .int]
 B:=[.a [.xb 1 ab,.xb 2 ag,.xb 3 ag,.int,.xb 4 ae,.int,.xb 5 ae,.bool,.int,.int,.int,.int,.int,.int,.int,.bool],.r ab,.r ag,.r ag,.r ae,.r ae]
 pre:=fun x b=>whole ((b.1).1) ((b.1).2.1) ((b.1).2.2.1) ((b.1).2.2.2.2.1) ((b.1).2.2.2.2.2.2.1) (b.2.1) (b.2.2.1) (b.2.2.2.1) (b.2.2.2.2.1) (b.2.2.2.2.2)∧qa (((b.2.1,b.2.2.1,b.2.2.2.1,(b.1).2.2.2.1,b.2.2.2.2.1,(b.1).2.2.2.2.2.1,b.2.2.2.2.2,(b.1).2.2.2.2.2.2.2.1),((b.1).2.2.2.2.2.2.2.2.1,(b.1).2.2.2.2.2.2.2.2.2.1,(b.1).2.2.2.2.2.2.2.2.2.2.1,(b.1).2.2.2.2.2.2.2.2.2.2.2.1,(b.1).2.2.2.2.2.2.2.2.2.2.2.2.1,(b.1).2.2.2.2.2.2.2.2.2.2.2.2.2.1,(b.1).2.2.2.2.2.2.2.2.2.2.2.2.2.2.1),(b.1).2.2.2.2.2.2.2.2.2.2.2.2.2.2.2)) (x.2.1) (x.2.2)
 α:=fun _ _=>fv×Int
 φ:=fun x b z=>HL (((b.2.1,b.2.2.1,b.2.2.2.1,(b.1).2.2.2.1,b.2.2.2.2.1,(b.1).2.2.2.2.2.1,b.2.2.2.2.2,(b.1).2.2.2.2.2.2.2.1),((b.1).2.2.2.2.2.2.2.2.1,(b.1).2.2.2.2.2.2.2.2.2.1,(b.1).2.2.2.2.2.2.2.2.2.2.1,(b.1).2.2.2.2.2.2.2.2.2.2.2.1,(b.1).2.2.2.2.2.2.2.2.2.2.2.2.1,(b.1).2.2.2.2.2.2.2.2.2.2.2.2.2.1,(b.1).2.2.2.2.2.2.2.2.2.2.2.2.2.2.1),(b.1).2.2.2.2.2.2.2.2.2.2.2.2.2.2.2)) (x.2.1) (x.2.2) z
 r:=fun x b z=>G3 (((b.2.1,b.2.2.1,b.2.2.2.1,(b.1).2.2.2.1,b.2.2.2.2.1,(b.1).2.2.2.2.2.1,b.2.2.2.2.2,(b.1).2.2.2.2.2.2.2.1),((b.1).2.2.2.2.2.2.2.2.1,(b.1).2.2.2.2.2.2.2.2.2.1,(b.1).2.2.2.2.2.2.2.2.2.2.1,(b.1).2.2.2.2.2.2.2.2.2.2.2.1,(b.1).2.2.2.2.2.2.2.2.2.2.2.2.1,(b.1).2.2.2.2.2.2.2.2.2.2.2.2.2.1,(b.1).2.2.2.2.2.2.2.2.2.2.2.2.2.2.1),(b.1).2.2.2.2.2.2.2.2.2.2.2.2.2.2.2)) (x.2.1) (x.2.2) z
 o:=fun x b z=>K3 (((b.2.1,b.2.2.1,b.2.2.2.1,(b.1).2.2.2.1,b.2.2.2.2.1,(b.1).2.2.2.2.2.1,b.2.2.2.2.2,(b.1).2.2.2.2.2.2.2.1),((b.1).2.2.2.2.2.2.2.2.1,(b.1).2.2.2.2.2.2.2.2.2.1,(b.1).2.2.2.2.2.2.2.2.2.2.1,(b.1).2.2.2.2.2.2.2.2.2.2.2.1,(b.1).2.2.2.2.2.2.2.2.2.2.2.2.1,(b.1).2.2.2.2.2.2.2.2.2.2.2.2.2.1,(b.1).2.2.2.2.2.2.2.2.2.2.2.2.2.2.1),(b.1).2.2.2.2.2.2.2.2.2.2.2.2.2.2.2)) (x.2.1) (x.2.2) z
 nf:=2
 mv:=true
set_option maxRecDepth 100000 in
theorem PO:Has Tryz.prog 65 uf:=by
 refine Has.ofZ (fun _=>true) (fun _=>false) (fun _=>false) (l:=[(95,kx),(96,DK),(97,dU),(98,fl),(101,j7),(100,qF),(99,fb)]) ⟨xJ,ab3,kJ,oe,w0,IW,nD,trivial⟩ (fn:=Tryz.f65) Tryz.func65 rfl (by decide) (aZ rfl) ?_
 rintro⟨_,(path:ByteArray),(kind:Int)⟩ ⟨⟨(Fm1:Nat),(Fm2:Nat),(Fm3:Nat),(aM:Int),(Fm4:Nat),(aW:Int),(Fm5:Nat),(aV:Bool),(aU:Int),(aS:Int),(aR:Int),(aQ:Int),(aP:Int),(aO:Int),(aN:Int),(aX:Bool)⟩,(aF:List ByteArray),(aG:List Int),(aH:List Int),(aI:List Pt),(aJ:List Pt)⟩ ⟨⟨(jB:Fm1=List.length aF),(jA:Fm2=List.length aG),(jz:Fm3=List.length aH),(jy:Fm4=List.length aI),(jx:Fm5=List.length aJ)⟩,(hp:qa ((aF,aG,aH,aM,aI,aW,aJ,aV),(aU,aS,aR,aQ,aP,aO,aN),aX) path kind)⟩
 subst jB jA jz jy jx
 show vc _ _ _ _ (entry [.s (.bp 0 0),.str path,.int kind] [.a [.xs 1 1 0 aF.length,.xs 2 1 0 aG.length,.xs 3 1 0 aH.length,.int aM,.xs 4 5 0 aI.length,.int aW,.xs 5 5 0 aJ.length,.q aV,.int aU,.int aS,.int aR,.int aQ,.int aP,.int aO,.int aN,.q aX],.rs ab aF,.rs ag aG,.rs ag aH,.rs ae aI,.rs ae aJ]) _
 obtain⟨hF,hfu,hps⟩:=hp
 have hF:cZ ((aF,aG,aH,aM,aI,aW,aJ,aV),(aU,aS,aR,aQ,aP,aO,aN),aX) 1000000:=hF
 have dG:ay.rd ((aF,aG,aH,aM,aI,aW,aJ,aV),(aU,aS,aR,aQ,aP,aO,aN),aX).1:=hF.wg.wf.rd
 have cA:bf.ok ((aF,aG,aH,aM,aI,aW,aJ,aV),(aU,aS,aR,aQ,aP,aO,aN),aX).2.1:=hF.ok
 have hp6:path.size≤1000000:=ZB1 hps (by decide)
 have h0:decide (xx ((aF,aG,aH,aM,aI,aW,aJ,aV),(aU,aS,aR,aQ,aP,aO,aN),aX).1 ((aF,aG,aH,aM,aI,aW,aJ,aV),(aU,aS,aR,aQ,aP,aO,aN),aX).2.1<0)=false→0≤xx ((aF,aG,aH,aM,aI,aW,aJ,aV),(aU,aS,aR,aQ,aP,aO,aN),aX).1 ((aF,aG,aH,aM,aI,aW,aJ,aV),(aU,aS,aR,aQ,aP,aO,aN),aX).2.1:=fun h=>ZG9.1 (aA h)
 have xN:decide (xx ((aF,aG,aH,aM,aI,aW,aJ,aV),(aU,aS,aR,aQ,aP,aO,aN),aX).1 ((aF,aG,aH,aM,aI,aW,aJ,aV),(aU,aS,aR,aQ,aP,aO,aN),aX).2.1<0)=false→xx ((aF,aG,aH,aM,aI,aW,aJ,aV),(aU,aS,aR,aQ,aP,aO,aN),aX).1 ((aF,aG,aH,aM,aI,aW,aJ,aV),(aU,aS,aR,aQ,aP,aO,aN),aX).2.1≤15:=fun h=>hF.free hfu (h0 h)
 have kg:decide ((dy ((aF,aG,aH,aM,aI,aW,aJ,aV),(aU,aS,aR,aQ,aP,aO,aN),aX) path).2>0)=false→1≤(bE path).length∧0≤(dy ((aF,aG,aH,aM,aI,aW,aJ,aV),(aU,aS,aR,aQ,aP,aO,aN),aX) path).1∧(dy ((aF,aG,aH,aM,aI,aW,aJ,aV),(aU,aS,aR,aQ,aP,aO,aN),aX) path).1≤15:=M4
 have hen:∀nd,(bL ((aF,aG,aH,aM,aI,aW,aJ,aV),(aU,aS,aR,aQ,aP,aO,aN),aX).1 nd).1.length≤1000:=fun nd=>ZB1 (qA _ nd).len (by decide)
 have hmk:decide (xx ((aF,aG,aH,aM,aI,aW,aJ,aV),(aU,aS,aR,aQ,aP,aO,aN),aX).1 ((aF,aG,aH,aM,aI,aW,aJ,aV),(aU,aS,aR,aQ,aP,aO,aN),aX).2.1<0)=false→cZ (nj ((aF,aG,aH,aM,aI,aW,aJ,aV),(aU,aS,aR,aQ,aP,aO,aN),aX) (xx ((aF,aG,aH,aM,aI,aW,aJ,aV),(aU,aS,aR,aQ,aP,aO,aN),aX).1 ((aF,aG,aH,aM,aI,aW,aJ,aV),(aU,aS,aR,aQ,aP,aO,aN),aX).2.1) (kind,1,0,nF)) 1000006:=fun h=>hF.make hfu (h0 h)
 have hew:decide ((dy ((aF,aG,aH,aM,aI,aW,aJ,aV),(aU,aS,aR,aQ,aP,aO,aN),aX) path).2>0)=false→decide (xx ((aF,aG,aH,aM,aI,aW,aJ,aV),(aU,aS,aR,aQ,aP,aO,aN),aX).1 ((aF,aG,aH,aM,aI,aW,aJ,aV),(aU,aS,aR,aQ,aP,aO,aN),aX).2.1<0)=false→KY (qW (bL ((aF,aG,aH,aM,aI,aW,aJ,aV),(aU,aS,aR,aQ,aP,aO,aN),aX).1 (a7 ((aF,aG,aH,aM,aI,aW,aJ,aV),(aU,aS,aR,aQ,aP,aO,aN),aX) (dy ((aF,aG,aH,aM,aI,aW,aJ,aV),(aU,aS,aR,aQ,aP,aO,aN),aX) path).1)).1 (dL path,xx ((aF,aG,aH,aM,aI,aW,aJ,aV),(aU,aS,aR,aQ,aP,aO,aN),aX).1 ((aF,aG,aH,aM,aI,aW,aJ,aV),(aU,aS,aR,aQ,aP,aO,aN),aX).2.1)):=fun h h2=>(qA _ _).add (ZB1 (KO (kg h).1) hps) ⟨h0 h2,ZE1 (xN h2) (by decide)⟩
 refine⟨⟨⟨⟨aa,aa,aa⟩,⟨?_,?_,?_,?_,?_⟩,?_,?_,?_⟩,fun x1 w2=>?_⟩,fun x3 w4=>⟨fun w5=>?_,fun w6=>⟨[.s 0],[.s 20],rfl,[.s 20],[.s 21],rfl,[.s 21],[.s 22],rfl,[.s 22,.b 0],[.s 23],rfl,[.s 0],[.s 24],rfl,[.s 24],[.s 25],rfl,[.s 25],[.s 26],rfl,[.s 26,.b 0],[.s 27],rfl,[.s 23,.s 27,.b 1,.b 2,.b 3,.b 4,.b 5],[.s 28],rfl,⟨⟨⟨⟨?_,?_⟩,⟨?_,?_⟩,⟨?_,?_⟩,aa,⟨?_,?_⟩,aa,⟨?_,?_⟩,aa,aa⟩,⟨aa,aa,aa,aa,aa,aa,aa,aa⟩,aa⟩,?_,?_⟩,?_,fun x7 w8=>⟨[.s 28],[.s 9],rfl,⟨⟨⟨aa,aa,aa⟩,⟨?_,?_,?_,?_,?_⟩,?_,?_⟩,fun x9 dq=>?_⟩,fun kE dI=>⟨aa,fun iJ=>?_,fun gI=>⟨fun pe=>?_,fun kj=>⟨⟨⟨aa,aa,⟨aa,aa,aa,aa,aa,aa,aa,aa,aa,aa,aa⟩,aa⟩,⟨?_,?_,?_,?_,?_⟩,?_,?_,?_,?_⟩,fun x17 qX=>⟨⟨⟨aa,aa⟩,?_,?_⟩,fun x19 uw=>⟨⟨⟨aa,⟨aa,aa,aa⟩,aa⟩,?_⟩,fun x21 zl=>⟨⟨⟨aa,aa,⟨?_,?_⟩,aa⟩,⟨?_,?_,?_,?_,?_⟩,?_,?_,⟨?_,?_⟩,?_⟩,fun x23 rG=>?_⟩⟩⟩⟩⟩⟩⟩⟩⟩⟩
 all_goals first|refine aw ?_|refine ax ?_|exact ba|(dsimp only [kx,kF];omega)|(dsimp only [DK,vk];omega)|(dsimp only [dU,fo];omega)|(dsimp only [fl,gL];omega)|(dsimp only [j7,lk];omega)|(dsimp only [qF,qe];omega)|(dsimp only [fb,gn];omega)|exact a8|exact dG|exact cA|exact hp6|exact⟨dG,cA⟩|exact⟨dG,cA,hp6⟩|exact fun _ _=>rfl|exact hF.wg.mono (by decide)|exact h0 gI|exact xN gI|exact (kg w6).1|exact (kg w6).2.1|exact (kg w6).2.2|exact hen _|exact (hmk gI).wg.mono (by decide)|exact (hmk gI).ok|exact hew w6 gI|skip
 ·refine⟨[4,5],[],_,_,_,rfl,ch,(((aF,aG,aH,aM,aI,aW,aJ,aV),(aU,aS,aR,aQ,aP,aO,aN),aX),(dy ((aF,aG,aH,aM,aI,aW,aJ,aV),(aU,aS,aR,aQ,aP,aO,aN),aX) path).2),0,fun n h=>h.mono (by omega),rfl,rfl,rfl⟩
 ·refine⟨[4,5],[],_,_,_,rfl,ch,(((aF,aG,aH,aM,aI,aW,aJ,aV),(aU,aS,aR,aQ,aP,aO,aN),aX),6),0,fun n h=>h.mono (by omega),rfl,rfl,rfl⟩
 ·refine⟨[4,5],[],_,_,_,rfl,ch,(((aF,aG,aH,aM,aI,aW,aJ,aV),(aU,aS,aR,aQ,aP,aO,aN),aX),6),0,fun n h=>h.mono (by omega),rfl,rfl,rfl⟩
 ·refine⟨[1000530000,1000530001],[],_,_,_,rfl,ch,(cl (nj ((aF,aG,aH,aM,aI,aW,aJ,aV),(aU,aS,aR,aQ,aP,aO,aN),aX) (xx ((aF,aG,aH,aM,aI,aW,aJ,aV),(aU,aS,aR,aQ,aP,aO,aN),aX).1 ((aF,aG,aH,aM,aI,aW,aJ,aV),(aU,aS,aR,aQ,aP,aO,aN),aX).2.1) (kind,1,0,nF)) (dy ((aF,aG,aH,aM,aI,aW,aJ,aV),(aU,aS,aR,aQ,aP,aO,aN),aX) path).1 (qW (bL ((aF,aG,aH,aM,aI,aW,aJ,aV),(aU,aS,aR,aQ,aP,aO,aN),aX).1 (a7 ((aF,aG,aH,aM,aI,aW,aJ,aV),(aU,aS,aR,aQ,aP,aO,aN),aX) (dy ((aF,aG,aH,aM,aI,aW,aJ,aV),(aU,aS,aR,aQ,aP,aO,aN),aX) path).1)).1 (dL path,xx ((aF,aG,aH,aM,aI,aW,aJ,aV),(aU,aS,aR,aQ,aP,aO,aN),aX).1 ((aF,aG,aH,aM,aI,aW,aJ,aV),(aU,aS,aR,aQ,aP,aO,aN),aX).2.1)),0),0,fun n h=>((h.make (kind:=kind) hfu (h0 gI)).sZ (kg w6).2.1 (kg w6).2.2).1.mono (by omega),rfl,rfl,rfl⟩
end GL
end Go.Proofs.YtbfgjadbfjkcdaaGreatDoor
