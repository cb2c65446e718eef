/- FnTreeOk returns true for every code (its row lists package variables, tied by the card): part 29. -/
import Derived.Test.YtbfgjadbfjkcdaaGreatDoorPav
import Derived.Test.YtbfgjadbfjkcdaaGreatDoorPba
import Derived.Test.YtbfgjadbfjkcdaaGreatDoorPbb
set_option maxHeartbeats 20000000
set_option linter.all false
namespace Go.Proofs.YtbfgjadbfjkcdaaGreatDoor
namespace GL
theorem Q7 {α:Type}(l:List α):(l.drop 0).take l.length=l:=by simp
def bL (s:ay) (n:fu):List eW×Bool:=
 bif !(cy n)||(decide (n.1≠2)|| !(oI s (cU n))) then ([],false) else
 bif !(c8 s (cU n)).2||decide (((c8 s (cU n)).1.size:Int)≠n.2.2.1) then ([],false) else cQ (c8 s (cU n)).1
theorem ae8 {s:ay}{n:fu}(h:(!(cy n))=true):bL s n=([],false):=by unfold bL;rw [h];rfl
theorem ae7 {s:ay}{n:fu}(h:decide (n.1≠2)=true):bL s n=([],false):=by unfold bL;rw [h,Bool.true_or,ZC4];rfl
theorem ae6 {s:ay}{n:fu}(h:(!(oI s (cU n)))=true):bL s n=([],false):=by unfold bL;rw [h,ZC4,ZC4];rfl
theorem ae5 {s:ay}{n:fu}(h:(!(c8 s (cU n)).2)=true):bL s n=([],false):=by
 unfold bL
 cases !(cy n)||(decide (n.1≠2)|| !(oI s (cU n))) with
 |true=>rfl
 |false=>rw [h];rfl
theorem ae4 {s:ay}{n:fu}(h:decide (((c8 s (cU n)).1.size:Int)≠n.2.2.1)=true):bL s n=([],false):=by
 unfold bL
 cases !(cy n)||(decide (n.1≠2)|| !(oI s (cU n))) with
 |true=>rfl
 |false=>rw [h,ZC4];rfl
theorem ae3 {s:ay}{n:fu}(h1:(!(cy n))=false) (h2:decide (n.1≠2)=false) (h3:(!(oI s (cU n)))=false) (h4:(!(c8 s (cU n)).2)=false) (h5:decide (((c8 s (cU n)).1.size:Int)≠n.2.2.1)=false):bL s n=cQ (c8 s (cU n)).1:=by
 unfold bL;rw [h1,h2,h3,h4,h5];rfl
def jn (S:ay) (n:fu):Prop:=S.rd
def cR (S:ay) (n:fu):AV:=.t [.s (.vw aK (bL S n).1),.s (.q (bL S n).2)]
def K6 (S:ay) (n:fu):List AV:=[]
def iF:Con where
 A:=[.a xE,.a [.int,.int,.int,.int,.int,.int,.int,.int,.int,.int]]
 B:=[]
 pre:=fun x b=>jn (x.1) (x.2)
 α:=fun _ _=>Unit
 φ:=fun _ _ _=>True
 r:=fun x b _=>cR (x.1) (x.2)
 o:=fun x b _=>K6 (x.1) (x.2)
 nf:=0
set_option maxRecDepth 100000 in
theorem tL:Has Tryz.prog 128 iF:=by
 refine Has.ofE (fun _=>true) (fun _=>false) (fun _=>false) (l:=[(76,qK),(11,J6),(151,QA),(152,uo)]) ⟨I1,ad8,agf,PX,trivial⟩ (fn:=Tryz.f128) Tryz.func128 rfl (by decide) (aZ rfl) ?_
 rintro⟨⟨(aj:List ByteArray),(ak:List Int),(an:List Int),(ao:Int),(ah:List Pt),(aq:Int),(ai:List Pt),(ar:Bool)⟩,⟨(n1:Int),(n2:Int),(n3:Int),(n4:Int),(n5:Int),(n6:Int),(n7:Int),(n8:Int),(n9:Int),(cx:Int)⟩⟩ _ (hp:jn (aj,ak,an,ao,ah,aq,ai,ar) (n1,n2,n3,n4,n5,n6,n7,n8,n9,cx))
 show vc _ _ _ _ (entry [.a [.vz ab aj,.vz ag ak,.vz ag an,.int ao,.vz ae ah,.int aq,.vz ae ai,.q ar],.a [.int n1,.int n2,.int n3,.int n4,.int n5,.int n6,.int n7,.int n8,.int n9,.int cx]] []) _
 have dG:ay.rd (aj,ak,an,ao,ah,aq,ai,ar):=hp
 have sX:(!(cy (n1,n2,n3,n4,n5,n6,n7,n8,n9,cx)))=false→bf.ok (cU (n1,n2,n3,n4,n5,n6,n7,n8,n9,cx)):=fun h=>oc (cI h)
 have dk:(!(cy (n1,n2,n3,n4,n5,n6,n7,n8,n9,cx)))=false→n3≤2048:=fun h=>(ly (cI h)).2.2.1.2
 refine⟨⟨⟨⟨aa,aa,aa,aa,aa,aa,aa,aa,aa,aa,aa⟩,aa⟩,aa⟩,fun x1 w2=>⟨aa,fun w3=>⟨aa,?_⟩,fun w4=>⟨aa,fun w5=>⟨aa,?_⟩,fun w6=>⟨⟨⟨⟨aa,aa,aa,aa,aa,aa,aa,aa,aa⟩,⟨aa,aa,aa,aa,aa,aa,aa,aa⟩,aa⟩,?_⟩,fun x7 w8=>⟨fun w9=>⟨aa,?_⟩,fun dq=>⟨⟨⟨⟨aa,aa,aa,aa,aa,aa,aa,aa,aa⟩,⟨aa,aa,aa,aa,aa,aa,aa,aa⟩,aa⟩,?_,?_⟩,fun kE dI=>⟨aa,fun iJ=>⟨aa,?_⟩,fun gI=>⟨fun pe=>⟨aa,?_⟩,fun kj=>⟨⟨⟨aa,aa⟩,?_⟩,fun x17 qX=>?_⟩⟩⟩⟩⟩⟩⟩⟩⟩
 all_goals first|refine aw ?_|refine ax ?_|exact ba|(dsimp only [qK,qj];omega)|(dsimp only [J6,zF];omega)|(dsimp only [QA,B7];omega)|(dsimp only [uo,lZ];omega)|exact a8|exact dG|exact sX w4|skip
 ·refine⟨[],[],_,_,_,rfl,ch,(),aa,?_,?_,rfl⟩
  ·(show _=cR (aj,ak,an,ao,ah,aq,ai,ar) (n1,n2,n3,n4,n5,n6,n7,n8,n9,cx));unfold cR;first|(rw [ae8 (s:=(aj,ak,an,ao,ah,aq,ai,ar)) (n:=(n1,n2,n3,n4,n5,n6,n7,n8,n9,cx)) w3];rfl)|rfl
  ·rfl
 ·refine⟨[],[],_,_,_,rfl,ch,(),aa,?_,?_,rfl⟩
  ·(show _=cR (aj,ak,an,ao,ah,aq,ai,ar) (n1,n2,n3,n4,n5,n6,n7,n8,n9,cx));unfold cR;first|(rw [ae7 (s:=(aj,ak,an,ao,ah,aq,ai,ar)) (n:=(n1,n2,n3,n4,n5,n6,n7,n8,n9,cx)) w5];rfl)|rfl
  ·rfl
 ·refine⟨[],[],_,_,_,rfl,ch,(),aa,?_,?_,rfl⟩
  ·(show _=cR (aj,ak,an,ao,ah,aq,ai,ar) (n1,n2,n3,n4,n5,n6,n7,n8,n9,cx));unfold cR;first|(rw [ae6 (s:=(aj,ak,an,ao,ah,aq,ai,ar)) (n:=(n1,n2,n3,n4,n5,n6,n7,n8,n9,cx)) w9];rfl)|rfl
  ·rfl
 ·refine⟨[],[],_,_,_,rfl,ch,(),aa,?_,?_,rfl⟩
  ·(show _=cR (aj,ak,an,ao,ah,aq,ai,ar) (n1,n2,n3,n4,n5,n6,n7,n8,n9,cx));unfold cR;first|(rw [ae5 (s:=(aj,ak,an,ao,ah,aq,ai,ar)) (n:=(n1,n2,n3,n4,n5,n6,n7,n8,n9,cx)) iJ];rfl)|rfl
  ·rfl
 ·refine⟨[],[],_,_,_,rfl,ch,(),aa,?_,?_,rfl⟩
  ·(show _=cR (aj,ak,an,ao,ah,aq,ai,ar) (n1,n2,n3,n4,n5,n6,n7,n8,n9,cx));unfold cR;first|(rw [ae4 (s:=(aj,ak,an,ao,ah,aq,ai,ar)) (n:=(n1,n2,n3,n4,n5,n6,n7,n8,n9,cx)) pe];rfl)|rfl
  ·rfl
 ·have h5:=aA (p:=((c8 (aj,ak,an,ao,ah,aq,ai,ar) (cU (n1,n2,n3,n4,n5,n6,n7,n8,n9,cx))).1.size:Int)≠n3) kj
  have:=dk w4
  show (c8 (aj,ak,an,ao,ah,aq,ai,ar) (cU (n1,n2,n3,n4,n5,n6,n7,n8,n9,cx))).1.size≤1000000;omega
 ·have e:=ae3 (s:=(aj,ak,an,ao,ah,aq,ai,ar)) (n:=(n1,n2,n3,n4,n5,n6,n7,n8,n9,cx)) w4 w6 dq gI kj
  refine⟨[],[],_,_,_,rfl,ch,(),aa,?_,?_,rfl⟩
  ·(show _=cR (aj,ak,an,ao,ah,aq,ai,ar) (n1,n2,n3,n4,n5,n6,n7,n8,n9,cx));unfold cR;first|(rw [e];exact congrArg (fun x=>AV.t [A0.s (SV.vw aK x),A0.s (SV.q (cQ (c8 (aj,ak,an,ao,ah,aq,ai,ar) (cU (n1,n2,n3,n4,n5,n6,n7,n8,n9,cx))).1).2)]) (Q7 (cQ (c8 (aj,ak,an,ao,ah,aq,ai,ar) (cU (n1,n2,n3,n4,n5,n6,n7,n8,n9,cx))).1).1))|rfl
  ·rfl
def oL (s:ay) (t:bf):List fu:=(bw s t).map fun x=>(bB x).1
def lU (S:ay) (t:bf):Prop:=S.rd∧t.ok
def s8 (S:ay) (t:bf):AV:=.s (.vw pc (oL S t))
def SE (S:ay) (t:bf):List AV:=[]
def kX:Con where
 A:=[.a xE,.a [.int,.int,.int,.int,.int,.int,.int]]
 B:=[]
 pre:=fun x b=>lU (x.1) (x.2)
 α:=fun _ _=>Unit
 φ:=fun _ _ _=>True
 r:=fun x b _=>s8 (x.1) (x.2)
 o:=fun x b _=>SE (x.1) (x.2)
 nf:=0
set_option maxRecDepth 100000 in
theorem yP:Has Tryz.prog 17 kX:=by
 refine Has.ofE (fun _=>true) (fun _=>false) (fun _=>false) (l:=[(45,df),(46,ns)]) ⟨iT,CZ,trivial⟩ (fn:=Tryz.f17) Tryz.func17 rfl (by decide) (aZ rfl) ?_
 rintro⟨⟨(aj:List ByteArray),(ak:List Int),(an:List Int),(ao:Int),(ah:List Pt),(aq:Int),(ai:List Pt),(ar:Bool)⟩,⟨(t1:Int),(t2:Int),(t3:Int),(t4:Int),(t5:Int),(t6:Int),(t7:Int)⟩⟩ _ (hp:lU (aj,ak,an,ao,ah,aq,ai,ar) (t1,t2,t3,t4,t5,t6,t7))
 show vc _ _ _ _ (entry [.a [.vz ab aj,.vz ag ak,.vz ag an,.int ao,.vz ae ah,.int aq,.vz ae ai,.q ar],.a [.int t1,.int t2,.int t3,.int t4,.int t5,.int t6,.int t7]] []) _
 obtain⟨dG,cA⟩:=hp
 have dG:ay.rd (aj,ak,an,ao,ah,aq,ai,ar):=dG
 have cA:bf.ok (t1,t2,t3,t4,t5,t6,t7):=cA
 have h1:t7≤16:=cA.m1
 have hl:(bw (aj,ak,an,ao,ah,aq,ai,ar) (t1,t2,t3,t4,t5,t6,t7)).length=t7.toNat:=fq cA
 refine⟨aa,⟨⟨⟨aa,aa,aa,aa,aa,aa,aa,aa,aa⟩,⟨aa,aa,aa,aa,aa,aa,aa,aa⟩,aa⟩,?_,?_,?_,?_⟩,fun x1 w2=>?_⟩
 all_goals first|refine aw ?_|refine ax ?_|exact ba|(dsimp only [df,eH];omega)|(dsimp only [ns,lr];omega)|exact a8|exact dG|exact cA.rd|exact cA.m0|exact cA.m1|skip
 refine cO (l:=[(45,df),(46,ns)]) (ex:=fun _=>true) (wr:=fun _=>false) (pt:=fun _=>false) ⟨iT,CZ,aa⟩ [.s 2,.s 3,.b 1002,.b 1003,.s 6,.b 140000] (fun y:Nat×List fu=>[(.s 5,.s (.xs 1010 10 0 y.2.length)),(.s 7,.int y.1),(.b 1010,.rs pc y.2)]) (fun y=>y.1≤(bw (aj,ak,an,ao,ah,aq,ai,ar) (t1,t2,t3,t4,t5,t6,t7)).length∧y.2=((bw (aj,ak,an,ao,ah,aq,ai,ar) (t1,t2,t3,t4,t5,t6,t7)).take y.1).map fun x=>(bB x).1) (fun y=>(bw (aj,ak,an,ao,ah,aq,ai,ar) (t1,t2,t3,t4,t5,t6,t7)).length-y.1) (0,[]) [] ⟨ZA8 _,rfl⟩ dN ?_
 rintro⟨i,out⟩ ⟨(hi:i≤(bw (aj,ak,an,ao,ah,aq,ai,ar) (t1,t2,t3,t4,t5,t6,t7)).length),(he:out=((bw (aj,ak,an,ao,ah,aq,ai,ar) (t1,t2,t3,t4,t5,t6,t7)).take i).map fun x=>(bB x).1)⟩
 have bU:decide ((i:Int)<((bw (aj,ak,an,ao,ah,aq,ai,ar) (t1,t2,t3,t4,t5,t6,t7)).length:Int))=true→i<(bw (aj,ak,an,ao,ah,aq,ai,ar) (t1,t2,t3,t4,t5,t6,t7)).length:=fun h=>by have:=aE h;omega
 have dk:=W9 (wE (s:=(aj,ak,an,ao,ah,aq,ai,ar)) (t:=(t1,t2,t3,t4,t5,t6,t7)) dG) i
 have hlo:out.length=i:=by rw [he,ZG3,ZB8];omega
 refine⟨fun w1=>⟨⟨?_,?_⟩,?_,⟨⟨aa,aa⟩,?_⟩,fun x2 w3=>⟨aa,⟨⟨?_,?_⟩,?_,?_⟩,⟨?_,?_⟩,?_⟩⟩,fun w4=>?_⟩
 all_goals first|refine aw ?_|refine ax ?_|exact ba|(dsimp only [df,eH];omega)|(dsimp only [ns,lr];omega)|exact a8|exact bU w1|exact dk|(show (i:Int)<((bw (aj,ak,an,ao,ah,aq,ai,ar) (t1,t2,t3,t4,t5,t6,t7)).length:Int);have:=bU w1;omega)|skip
 ·have mz:=bU w1
  refine⟨(i+1,out++[(bB (nth ab (bw (aj,ak,an,ao,ah,aq,ai,ar) (t1,t2,t3,t4,t5,t6,t7)) i)).1]),[(1010,1031)],?_,?_,?_⟩
  rotate_right
  ·exact bX
  ·refine⟨mz,?_⟩
   show out++[_]=((bw (aj,ak,an,ao,ah,aq,ai,ar) (t1,t2,t3,t4,t5,t6,t7)).take (i+1)).map fun x=>(bB x).1
   rw [List.take_add_one,show (bw (aj,ak,an,ao,ah,aq,ai,ar) (t1,t2,t3,t4,t5,t6,t7))[i]?=some (nth ab (bw (aj,ak,an,ao,ah,aq,ai,ar) (t1,t2,t3,t4,t5,t6,t7)) i) from oK (ek:=ab) mz,he]
   simp
  ·show (bw (aj,ak,an,ao,ah,aq,ai,ar) (t1,t2,t3,t4,t5,t6,t7)).length-(i+1)<(bw (aj,ak,an,ao,ah,aq,ai,ar) (t1,t2,t3,t4,t5,t6,t7)).length-i;omega
 ·have e:oL (aj,ak,an,ao,ah,aq,ai,ar) (t1,t2,t3,t4,t5,t6,t7)=out:=by rw [he,ZD1 (by have:=aA (p:=(i:Int)<((bw (aj,ak,an,ao,ah,aq,ai,ar) (t1,t2,t3,t4,t5,t6,t7)).length:Int)) (by assumption);omega)];rfl
  refine⟨[],[],_,_,_,rfl,ch,(),aa,?_,?_,rfl⟩
  ·(show _=s8 (aj,ak,an,ao,ah,aq,ai,ar) (t1,t2,t3,t4,t5,t6,t7));unfold s8;first|(rw [e];exact congrArg (fun x=>AV.s (SV.vw pc x)) (Q7 out))|rfl
  ·rfl
def FA (s:ay) (t:bf):List ByteArray→Int→Int
 |[],k=>k
 |x::l,k=>bif !(bL s (cM s t k).1).2||decide (lE (bL s (cM s t k).1).1 x<0) then -1 else FA s t l (nth aK (bL s (cM s t k).1).1 (lE (bL s (cM s t k).1).1 x).toNat).2
theorem aai {s:ay}{t:bf}{x:ByteArray}{l:List ByteArray}{k:Int}(h:(!(bL s (cM s t k).1).2)=true):FA s t (x::l) k= -1:=by rw [FA,h];rfl
theorem aah {s:ay}{t:bf}{x:ByteArray}{l:List ByteArray}{k:Int}(h:decide (lE (bL s (cM s t k).1).1 x<0)=true):FA s t (x::l) k= -1:=by rw [FA,h,ZC4];rfl
theorem M0 {s:ay}{t:bf}{x:ByteArray}{l:List ByteArray}{k:Int}(h:(!(bL s (cM s t k).1).2)=false) (h2:decide (lE (bL s (cM s t k).1).1 x<0)=false):FA s t (x::l) k=FA s t l (nth aK (bL s (cM s t k).1).1 (lE (bL s (cM s t k).1).1 x).toNat).2:=by rw [FA,h,h2];rfl
def uR (s:ay) (t:bf) (l:List ByteArray):Int:=FA s t l 0
theorem afJ:∀{f:Nat}{l:List eW}{i:Nat}{name:ByteArray},i+f=l.length→0≤atF f l i name→(i:Int)≤atF f l i name∧atF f l i name<l.length∧(nth aK l (atF f l i name).toNat).1=name
 |0,l,i,name,_,h=>absurd (show (0:Int)≤-1 from h) (by decide)
 |f+1,l,i,name,hf,h=>by
  cases hd:decide ((nth aK l i).1=name) with
  |true=>rw [ahq hd];exact⟨ZC1 _,by omega,by rw [ZA5];exact aE hd⟩
  |false=>
   rw [ahr hd] at h ⊢
   have:=afJ (f:=f) (i:=i+1) (by omega) h
   exact⟨by omega,this.2⟩
theorem zi {l:List eW}{name:ByteArray}(h:0≤lE l name):lE l name<l.length∧(nth aK l (lE l name).toNat).1=name:=(afJ (ZA7 _) h).2
theorem F0 (s:ay) (n:fu):(bL s n).1.length≤12∧∀e∈(bL s n).1,fD e.1=true∧1≤e.2∧e.2≤15:=by
 have h0:([]:List eW).length≤12∧∀e∈([]:List eW),fD e.1=true∧1≤e.2∧e.2≤15:=⟨ZA8 _,fun e h=>absurd h ZF3⟩
 unfold bL
 cases !(cy n)||(decide (n.1≠2)|| !(oI s (cU n))) with
 |true=>exact h0
 |false=>cases !(c8 s (cU n)).2||decide (((c8 s (cU n)).1.size:Int)≠n.2.2.1) with
  |true=>exact h0
  |false=>
   show (cQ _).1.length≤12∧∀e∈(cQ _).1,_
   generalize (c8 s (cU n)).1=x
   cases he:egF ((bo x 59).length) (bo x 59) 0 [] with
   |none=>rw [xP he];exact h0
   |some o=>
    rw [nE he]
    cases h1: !(eG o) with
    |true=>rw [aaC h1];exact h0
    |false=>cases h2:decide (en o≠x) with
     |true=>rw [aaB h2];exact h0
     |false=>rw [aaD h1 h2];exact xO (cI h1)
def q9 (S:ay) (t:bf) (l:List ByteArray):Prop:=S.rd∧t.ok∧l.length≤1000000
def jg (S:ay) (t:bf) (l:List ByteArray):AV:=.s (.int (uR S t l))
def WM (S:ay) (t:bf) (l:List ByteArray):List AV:=[]
def sM:Con where
 A:=[.a xE,.a [.int,.int,.int,.int,.int,.int,.int],.s (.vz ab)]
 B:=[]
 pre:=fun x b=>q9 (x.1) (x.2.1) (x.2.2)
 α:=fun _ _=>Unit
 φ:=fun _ _ _=>True
 r:=fun x b _=>jg (x.1) (x.2.1) (x.2.2)
 o:=fun x b _=>WM (x.1) (x.2.1) (x.2.2)
 nf:=0
set_option maxRecDepth 100000 in
theorem ML:Has Tryz.prog 131 sM:=by
 refine Has.ofE (fun _=>true) (fun _=>false) (fun _=>false) (l:=[(132,jG),(128,iF),(106,o8)]) ⟨vG,tL,FT,trivial⟩ (fn:=Tryz.f131) Tryz.func131 rfl (by decide) (aZ rfl) ?_
 rintro⟨⟨(aj:List ByteArray),(ak:List Int),(an:List Int),(ao:Int),(ah:List Pt),(aq:Int),(ai:List Pt),(ar:Bool)⟩,⟨(t1:Int),(t2:Int),(t3:Int),(t4:Int),(t5:Int),(t6:Int),(t7:Int)⟩,(l:List ByteArray)⟩ _ (hp:q9 (aj,ak,an,ao,ah,aq,ai,ar) (t1,t2,t3,t4,t5,t6,t7) l)
 show vc _ _ _ _ (entry [.a [.vz ab aj,.vz ag ak,.vz ag an,.int ao,.vz ae ah,.int aq,.vz ae ai,.q ar],.a [.int t1,.int t2,.int t3,.int t4,.int t5,.int t6,.int t7],.s (.vz ab l)] []) _
 obtain⟨dG,cA,hlen⟩:=hp
 have dG:ay.rd (aj,ak,an,ao,ah,aq,ai,ar):=dG
 have cA:bf.ok (t1,t2,t3,t4,t5,t6,t7):=cA
 refine ?_
 all_goals first|refine aw ?_|refine ax ?_|exact ba|(dsimp only [jG,kP];omega)|(dsimp only [iF,jn];omega)|(dsimp only [o8,ph];omega)|exact a8|skip
 refine cO (l:=[(132,jG),(128,iF),(106,o8)]) (ex:=fun _=>true) (wr:=fun _=>false) (pt:=fun _=>false) ⟨vG,tL,FT,aa⟩ [.s 2,.s 3,.s 4,.b 1003,.b 1004] (fun y:Nat×Int=>[(.s 7,.int y.2),(.s 8,.int y.1)]) (fun y=>y.1≤l.length∧FA (aj,ak,an,ao,ah,aq,ai,ar) (t1,t2,t3,t4,t5,t6,t7) (l.drop y.1) y.2=uR (aj,ak,an,ao,ah,aq,ai,ar) (t1,t2,t3,t4,t5,t6,t7) l) (fun y=>l.length-y.1) (0,0) [] ⟨ZA8 _,rfl⟩ dN ?_
 rintro⟨i,k⟩ ⟨(hi:i≤l.length),(hr:FA (aj,ak,an,ao,ah,aq,ai,ar) (t1,t2,t3,t4,t5,t6,t7) (l.drop i) k=uR (aj,ak,an,ao,ah,aq,ai,ar) (t1,t2,t3,t4,t5,t6,t7) l)⟩
 have bU:decide ((i:Int)<(l.length:Int))=true→i<l.length:=fun h=>by have:=aE h;omega
 have heb:=F0 (aj,ak,an,ao,ah,aq,ai,ar) (cM (aj,ak,an,ao,ah,aq,ai,ar) (t1,t2,t3,t4,t5,t6,t7) k).1
 refine⟨fun w1=>⟨⟨⟨⟨aa,aa,aa,aa,aa,aa,aa,aa,aa⟩,⟨aa,aa,aa,aa,aa,aa,aa,aa⟩,aa,aa⟩,?_,?_⟩,fun x2 w3=>⟨⟨⟨⟨aa,aa,aa,aa,aa,aa,aa,aa,aa⟩,⟨aa,aa,aa,aa,aa,aa,aa,aa,aa,aa,aa⟩,aa⟩,?_⟩,fun x4 w5=>⟨⟨?_,?_⟩,⟨⟨aa,aa,aa⟩,?_⟩,fun x6 w7=>⟨aa,fun w8=>?_,fun w9=>⟨fun dq=>?_,fun kk=>⟨⟨?_,?_⟩,⟨?_,?_⟩,?_⟩⟩⟩⟩⟩⟩,fun dI=>?_⟩
 all_goals first|refine aw ?_|refine ax ?_|exact ba|(dsimp only [jG,kP];omega)|(dsimp only [iF,jn];omega)|(dsimp only [o8,ph];omega)|exact a8|exact bU w1|exact dG|exact cA|exact ZB1 heb.1 (by decide)|skip
 ·have mz:=bU w1
  have e:uR (aj,ak,an,ao,ah,aq,ai,ar) (t1,t2,t3,t4,t5,t6,t7) l= -1:=by rw [←hr,bZ (ek:=ab) mz,aai (show (!(bL (aj,ak,an,ao,ah,aq,ai,ar) (cM (aj,ak,an,ao,ah,aq,ai,ar) (t1,t2,t3,t4,t5,t6,t7) k).1).2)=true from w8)]
  refine⟨[],[],_,_,_,rfl,az,(),aa,?_,?_,rfl⟩
  ·(show _=jg (aj,ak,an,ao,ah,aq,ai,ar) (t1,t2,t3,t4,t5,t6,t7) l);unfold jg;first|(rw [e];rfl)|rfl
  ·rfl
 ·have mz:=bU w1
  have e:uR (aj,ak,an,ao,ah,aq,ai,ar) (t1,t2,t3,t4,t5,t6,t7) l= -1:=by rw [←hr,bZ (ek:=ab) mz,aah (show decide (lE (bL (aj,ak,an,ao,ah,aq,ai,ar) (cM (aj,ak,an,ao,ah,aq,ai,ar) (t1,t2,t3,t4,t5,t6,t7) k).1).1 (nth ab l i)<0)=true from dq)]
  refine⟨[],[],_,_,_,rfl,az,(),aa,?_,?_,rfl⟩
  ·(show _=jg (aj,ak,an,ao,ah,aq,ai,ar) (t1,t2,t3,t4,t5,t6,t7) l);unfold jg;first|(rw [e];rfl)|rfl
  ·rfl
 ·have h0:=aA (show decide (lE (bL (aj,ak,an,ao,ah,aq,ai,ar) (cM (aj,ak,an,ao,ah,aq,ai,ar) (t1,t2,t3,t4,t5,t6,t7) k).1).1 (nth ab l i)<0)=false from kk)
  show 0≤lE (bL (aj,ak,an,ao,ah,aq,ai,ar) (cM (aj,ak,an,ao,ah,aq,ai,ar) (t1,t2,t3,t4,t5,t6,t7) k).1).1 (nth ab l i);omega
 ·have h0:=aA (show decide (lE (bL (aj,ak,an,ao,ah,aq,ai,ar) (cM (aj,ak,an,ao,ah,aq,ai,ar) (t1,t2,t3,t4,t5,t6,t7) k).1).1 (nth ab l i)<0)=false from kk)
  exact (zi (l:=(bL (aj,ak,an,ao,ah,aq,ai,ar) (cM (aj,ak,an,ao,ah,aq,ai,ar) (t1,t2,t3,t4,t5,t6,t7) k).1).1) (name:=nth ab l i) (by omega)).1
 ·have mz:=bU w1
  refine⟨(i+1,(nth aK (bL (aj,ak,an,ao,ah,aq,ai,ar) (cM (aj,ak,an,ao,ah,aq,ai,ar) (t1,t2,t3,t4,t5,t6,t7) k).1).1 (lE (bL (aj,ak,an,ao,ah,aq,ai,ar) (cM (aj,ak,an,ao,ah,aq,ai,ar) (t1,t2,t3,t4,t5,t6,t7) k).1).1 (nth ab l i)).toNat).2),[],?_,?_,?_⟩
  rotate_right
  ·exact bX
  ·refine⟨mz,?_⟩
   rw [←hr,bZ (ek:=ab) mz,M0 (show (!(bL (aj,ak,an,ao,ah,aq,ai,ar) (cM (aj,ak,an,ao,ah,aq,ai,ar) (t1,t2,t3,t4,t5,t6,t7) k).1).2)=false from w9) (show decide (lE (bL (aj,ak,an,ao,ah,aq,ai,ar) (cM (aj,ak,an,ao,ah,aq,ai,ar) (t1,t2,t3,t4,t5,t6,t7) k).1).1 (nth ab l i)<0)=false from kk)]
  ·show l.length-(i+1)<l.length-i;omega
 ·have e:uR (aj,ak,an,ao,ah,aq,ai,ar) (t1,t2,t3,t4,t5,t6,t7) l=k:=by rw [←hr,ZB4 (by have:=aA (p:=(i:Int)<(l.length:Int)) dI;omega)];rfl
  refine⟨[],[],_,_,_,rfl,az,(),aa,?_,?_,rfl⟩
  ·(show _=jg (aj,ak,an,ao,ah,aq,ai,ar) (t1,t2,t3,t4,t5,t6,t7) l);unfold jg;first|(rw [e];rfl)|rfl
  ·rfl
end GL
namespace GL
abbrev r5 (s:ay) (n:fu) (a:Int):ByteArray:=jf s n++kM (a-(jf s n).size)
abbrev U9 (s:ay) (n:fu) (a:Int) (text:ByteArray):ByteArray:=(r5 s n a).extract 0 a.toNat++text++(r5 s n a).extract (min ((r5 s n a).size:Int) (a+text.size)).toNat (r5 s n a).size
theorem LI {s:ay}{n:fu}{a:Int}:(r5 s n a).size=(jf s n).size+(max 0 (a-(jf s n).size)).toNat:=by rw [ZB3,k8]
theorem aaU {s:ay}{n:fu}{a:Int}{text:ByteArray}(h:0≤a):a.toNat+text.size≤(U9 s n a text).size∧(U9 s n a text).size≤(r5 s n a).size+text.size:=by
 have h1:=LI (s:=s) (n:=n) (a:=a)
 show _≤((r5 s n a).extract 0 a.toNat++text++(r5 s n a).extract (min ((r5 s n a).size:Int) (a+text.size)).toNat (r5 s n a).size).size∧((r5 s n a).extract 0 a.toNat++text++(r5 s n a).extract (min ((r5 s n a).size:Int) (a+text.size)).toNat (r5 s n a).size).size≤_
 rw [ZB3,ZB3,ZC5,ZC5]
 omega
def nI (s:ay) (n:fu) (a:Int) (text:ByteArray):ay×fu×Bool:=bif decide (text=⟨#[]⟩) then (s,n,true) else zJ s n (U9 s n a text) (a / 12) ((a+text.size-1) / 12)
theorem N3 {s:ay}{n:fu}{a:Int}{text:ByteArray}(h:decide (text=⟨#[]⟩)=true):nI s n a text=(s,n,true):=by unfold nI;rw [h];rfl
theorem N2 {s:ay}{n:fu}{a:Int}{text:ByteArray}(h:decide (text=⟨#[]⟩)=false):nI s n a text=zJ s n (U9 s n a text) (a / 12) ((a+text.size-1) / 12):=by unfold nI;rw [h];rfl
def tl (S:ay) (n:fu) (at':Int) (text:ByteArray):Prop:=S.wg 1045000∧n.fok∧0≤at'∧at'+text.size≤192
def lN (S:ay) (n:fu) (at':Int) (text:ByteArray):AV:=.t [.a (k9 0 1 2 5 6 (nI S n at' text).1),ndA (nI S n at' text).2.1,.s (.q (nI S n at' text).2.2)]
def nZ (S:ay) (n:fu) (at':Int) (text:ByteArray):List AV:=[.rs ab (nI S n at' text).1.rows,.rs ag (nI S n at' text).1.refs,.rs ag (nI S n at' text).1.last,.zz,.zz,.rs ae (nI S n at' text).1.gone,.rs ae (nI S n at' text).1.dead]
def za:Con where
 A:=[.a (stB 0 1 2 3 4),.a [.int,.int,.int,.int,.int,.int,.int,.int,.int,.int],.s .int,.s .str]
 B:=[.r ab,.r ag,.r ag,.r ae,.r ae]
 pre:=fun x b=>whole x.1.1 x.1.2.1 x.1.2.2.1 x.1.2.2.2.2.1 x.1.2.2.2.2.2.2.1 (b.1) (b.2.1) (b.2.2.1) (b.2.2.2.1) (b.2.2.2.2)∧tl ((b.1,b.2.1,b.2.2.1,x.1.2.2.2.1,b.2.2.2.1,x.1.2.2.2.2.2.1,b.2.2.2.2,x.1.2.2.2.2.2.2.2)) (x.2.1) (x.2.2.1) (x.2.2.2)
 α:=fun _ _=>Unit
 φ:=fun _ _ _=>True
 r:=fun x b _=>lN ((b.1,b.2.1,b.2.2.1,x.1.2.2.2.1,b.2.2.2.1,x.1.2.2.2.2.2.1,b.2.2.2.2,x.1.2.2.2.2.2.2.2)) (x.2.1) (x.2.2.1) (x.2.2.2)
 o:=fun x b _=>nZ ((b.1,b.2.1,b.2.2.1,x.1.2.2.2.1,b.2.2.2.1,x.1.2.2.2.2.2.1,b.2.2.2.2,x.1.2.2.2.2.2.2.2)) (x.2.1) (x.2.2.1) (x.2.2.2)
 nf:=2
 mv:=true
set_option maxRecDepth 100000 in
theorem XM:Has Tryz.prog 109 za:=by
 refine Has.ofZ (fun _=>true) (fun _=>false) (fun _=>false) (l:=[(138,sN),(139,iG),(140,vZ)]) ⟨MM,tM,TS,trivial⟩ (fn:=Tryz.f109) Tryz.func109 rfl (by decide) (aZ rfl) ?_
 rintro⟨⟨(A3:Nat),(A2:Nat),(A1:Nat),(ao:Int),(AZ:Nat),(aq:Int),(AY:Nat),(ar:Bool)⟩,⟨(n1:Int),(n2:Int),(n3:Int),(n4:Int),(n5:Int),(n6:Int),(n7:Int),(n8:Int),(n9:Int),(cx:Int)⟩,(at':Int),(text:ByteArray)⟩ ⟨(aj:List ByteArray),(ak:List Int),(an:List Int),(ah:List Pt),(ai:List Pt)⟩ ⟨⟨(gE:A3=List.length aj),(gD:A2=List.length ak),(gC:A1=List.length an),(gB:AZ=List.length ah),(gA:AY=List.length ai)⟩,(hp:tl (aj,ak,an,ao,ah,aq,ai,ar) (n1,n2,n3,n4,n5,n6,n7,n8,n9,cx) at' text)⟩
 subst gE gD gC gB gA
 show vc _ _ _ _ (entry [.a [.xs 0 1 0 aj.length,.xs 1 1 0 ak.length,.xs 2 1 0 an.length,.int ao,.xs 3 5 0 ah.length,.int aq,.xs 4 5 0 ai.length,.q ar],.a [.int n1,.int n2,.int n3,.int n4,.int n5,.int n6,.int n7,.int n8,.int n9,.int cx],.int at',.str text] [.rs ab aj,.rs ag ak,.rs ag an,.rs ae ah,.rs ae ai]) _
 obtain⟨lB,hf,ha0,ha1⟩:=hp
 have lB:ay.wg (aj,ak,an,ao,ah,aq,ai,ar) 1045000:=lB
 have hf:fu.fok (n1,n2,n3,n4,n5,n6,n7,n8,n9,cx):=hf
 have hts:=GN lB.wf.rd hf
 have h1:=LI (s:=(aj,ak,an,ao,ah,aq,ai,ar)) (n:=(n1,n2,n3,n4,n5,n6,n7,n8,n9,cx)) (a:=at')
 have h2:=aaU (s:=(aj,ak,an,ao,ah,aq,ai,ar)) (n:=(n1,n2,n3,n4,n5,n6,n7,n8,n9,cx)) (a:=at') (text:=text) ha0
 have nc:decide (text=⟨#[]⟩)=false→1≤text.size:=fun h=>size_pos (aA h)
 refine⟨fun w1=>⟨[.s 4,.b 1004],[.s 15],rfl,[.s 5,.b 1005],[.s 16],rfl,[.s 8,.s 15,.b 1008],[.b 1008],rfl,[.s 9,.s 16,.b 1009],[.b 1009],rfl,[],[.s 10],rfl,?_⟩,fun w2=>⟨⟨⟨⟨⟨?_,?_⟩,⟨?_,?_⟩,⟨?_,?_⟩,aa,⟨?_,?_⟩,aa,⟨?_,?_⟩,aa,aa⟩,⟨aa,aa,aa,aa,aa,aa,aa,aa,aa,aa,aa⟩,aa⟩,?_,?_⟩,fun x3 w4=>⟨⟨?_,?_⟩,⟨⟨aa,aa⟩,?_⟩,fun x5 w6=>⟨?_,⟨?_,?_⟩,[.s 11],[.s 34],rfl,[.s 2],[.s 35],rfl,[.s 34,.s 35],[.s 36],rfl,⟨?_,?_,?_⟩,[.s 3],[.s 37],rfl,[.s 36,.s 37],[.s 38],rfl,?_,[.s 11],[.s 39],rfl,[.s 12],[.s 40],rfl,[.s 39,.s 40],[.s 41],rfl,⟨?_,?_,?_⟩,[.s 38,.s 41],[.s 42],rfl,?_,[.s 42],[.s 11],rfl,⟨?_,?_,?_⟩,⟨?_,?_⟩,⟨?_,?_⟩,⟨?_,?_,?_⟩,⟨⟨⟨aa,aa,aa,aa,aa,aa,aa,aa,aa⟩,⟨aa,aa,aa,aa,aa,aa,aa,aa,aa,aa,aa⟩,aa,aa,aa,aa⟩,⟨?_,?_,?_,?_,?_⟩,?_,?_,?_,?_,?_,?_,?_⟩,fun x7 w8=>?_⟩⟩⟩⟩
 all_goals first|refine aw ?_|refine ax ?_|exact ba|(dsimp only [sN,ra];omega)|(dsimp only [iG,jP];omega)|(dsimp only [vZ,tm];omega)|exact a8|exact lB.wf.rd|exact hf|exact lB|exact hf.ok|(have:=nc w2;omega)|skip
 ·refine⟨[3,4],[],_,_,_,rfl,az,(),0,aa,?_,?_,rfl⟩
  ·(show _=lN (aj,ak,an,ao,ah,aq,ai,ar) (n1,n2,n3,n4,n5,n6,n7,n8,n9,cx) at' text);unfold lN;first|(rw [N3 (s:=(aj,ak,an,ao,ah,aq,ai,ar)) (n:=(n1,n2,n3,n4,n5,n6,n7,n8,n9,cx)) (a:=at') w1];rfl)|rfl
  ·(show _=nZ (aj,ak,an,ao,ah,aq,ai,ar) (n1,n2,n3,n4,n5,n6,n7,n8,n9,cx) at' text);unfold nZ;first|(rw [N3 (s:=(aj,ak,an,ao,ah,aq,ai,ar)) (n:=(n1,n2,n3,n4,n5,n6,n7,n8,n9,cx)) (a:=at') w1];rfl)|rfl
 ·show (((jf (aj,ak,an,ao,ah,aq,ai,ar) (n1,n2,n3,n4,n5,n6,n7,n8,n9,cx)).size+(kM (at'-(jf (aj,ak,an,ao,ah,aq,ai,ar) (n1,n2,n3,n4,n5,n6,n7,n8,n9,cx)).size)).size:Nat):Int)≤imax
  rw [k8];unfold imax;omega
 ·show at'≤((r5 (aj,ak,an,ao,ah,aq,ai,ar) (n1,n2,n3,n4,n5,n6,n7,n8,n9,cx) at').size:Int);omega
 ·show ((((r5 (aj,ak,an,ao,ah,aq,ai,ar) (n1,n2,n3,n4,n5,n6,n7,n8,n9,cx) at').extract 0 at'.toNat).size+text.size:Nat):Int)≤imax
  rw [ZC5];unfold imax;omega
 ·show ((((r5 (aj,ak,an,ao,ah,aq,ai,ar) (n1,n2,n3,n4,n5,n6,n7,n8,n9,cx) at').extract 0 at'.toNat++text).size+((r5 (aj,ak,an,ao,ah,aq,ai,ar) (n1,n2,n3,n4,n5,n6,n7,n8,n9,cx) at').extract (min ((r5 (aj,ak,an,ao,ah,aq,ai,ar) (n1,n2,n3,n4,n5,n6,n7,n8,n9,cx) at').size:Int) (at'+text.size)).toNat (r5 (aj,ak,an,ao,ah,aq,ai,ar) (n1,n2,n3,n4,n5,n6,n7,n8,n9,cx) at').size).size:Nat):Int)≤imax
  rw [ZB3,ZC5,ZC5];unfold imax;omega
 ·have:=nc w2
  show (at'+text.size-1) / 12*12≤((U9 (aj,ak,an,ao,ah,aq,ai,ar) (n1,n2,n3,n4,n5,n6,n7,n8,n9,cx) at' text).size:Int);omega
 ·show (U9 (aj,ak,an,ao,ah,aq,ai,ar) (n1,n2,n3,n4,n5,n6,n7,n8,n9,cx) at' text).size≤100000000;omega
 ·refine⟨[1000550000,1000550001],[],_,_,_,rfl,az,(),0,aa,?_,?_,rfl⟩
  ·(show _=lN (aj,ak,an,ao,ah,aq,ai,ar) (n1,n2,n3,n4,n5,n6,n7,n8,n9,cx) at' text);unfold lN;first|(rw [N2 (s:=(aj,ak,an,ao,ah,aq,ai,ar)) (n:=(n1,n2,n3,n4,n5,n6,n7,n8,n9,cx)) (a:=at') w2];rfl)|rfl
  ·(show _=nZ (aj,ak,an,ao,ah,aq,ai,ar) (n1,n2,n3,n4,n5,n6,n7,n8,n9,cx) at' text);unfold nZ;first|(rw [N2 (s:=(aj,ak,an,ao,ah,aq,ai,ar)) (n:=(n1,n2,n3,n4,n5,n6,n7,n8,n9,cx)) (a:=at') w2];rfl)|rfl
theorem QS {size:Int}:∀{l:List ByteArray}{k:Nat}{out:ByteArray},out.size≤(txF size l k out).size
 |[],k,out=>ZB6 _
 |x::l,k,out=>by
  have h:=QS (size:=size) (l:=l) (k:=k+1) (out:=out++x++kM (mC size k-x.size))
  rw [ZB3,ZB3] at h
  rw [txF];omega
theorem acJ {size:Int}:∀{l:List ByteArray}{k:Nat}{out:ByteArray},size≤12*((k+l.length:Nat):Int)→(out.size:Int)+(size-12*k)≤((txF size l k out).size:Int)
 |[],k,out,h=>by rw [ZA4] at h;show _≤(out.size:Int);omega
 |x::l,k,out,h=>by
  rw [ZA1] at h
  have h1:=acJ (size:=size) (l:=l) (k:=k+1) (out:=out++x++kM (mC size k-x.size)) (by omega)
  have h2:=QS (size:=size) (l:=l) (k:=k+1) (out:=out++x++kM (mC size k-x.size))
  have h3:mC size k=min 12 (size-(k:Int)*12):=rfl
  rw [ZB3,ZB3,k8] at h1 h2
  rw [txF];omega
theorem node1 {n:fu}(h:cy n=true) (h1:n.1=1):(cU n).many=bj n.2.2.1 12∧0≤n.2.2.1∧n.2.2.1≤192:=by
 obtain⟨b1,b2,b3,b4,b5,b6,b7,b8,b9⟩:=ly h
 have e:ku n.1=12:=by rw [h1];rfl
 unfold bJ at b7
 rw [e] at b7
 cases hi:iC n.2.2.1 0 (16*12) with
 |true=>
  rw [hi] at b7
  exact⟨b7,(cz.1 hi).1,(cz.1 hi).2⟩
 |false=>
  rw [hi] at b7
  have b7:n.2.2.2.2.2.2.2.2.2= -1:=b7
  omega
theorem acL {s:ay}{n:fu}(h:cy n=true) (h1:n.1=1):n.2.2.1≤((jf s n).size:Int):=by
 obtain⟨e,e0,e1⟩:=node1 h h1
 have cA:=oc h
 have hl:=fq (s:=s) cA
 have h2:=acJ (size:=n.2.2.1) (l:=bw s (cU n)) (k:=0) (out:=⟨#[]⟩) (by
  rw [hl,e];unfold bj;omega)
 have h3:(((⟨#[]⟩:ByteArray).size:Nat):Int)=0:=rfl
 rw [h3] at h2
 show _≤((txF _ _ _ _).size:Int);omega
theorem H3 {n:fu}(h:cy n=true):n.fok:=by
 have:=(ly h).2.2.1
 exact⟨oc h,by omega,by omega⟩
def KJ (c:ay×bf×Bool) (n:fu) (all:ByteArray) (size many:Int):ay×fu×Bool:=
 bif !c.2.2 then (c.1,n,false) else bif decide (many=0) then (c.1,ke n size c.2.1,true) else zJ c.1 (ke n size c.2.1) (all.extract 0 size.toNat) (many-1) (many-1)
def jc (s:ay) (n:fu) (size:Int):ay×fu×Bool:=
 bif decide (size≥n.2.2.1) then
  (bif decide (bj size 12=(cU n).many) then (s,ke n size (cU n),true) else
   ((aY s (cU n) (bj size 12-1) ⟨#[]⟩).1,ke n size (aY s (cU n) (bj size 12-1) ⟨#[]⟩).2.1,(aY s (cU n) (bj size 12-1) ⟨#[]⟩).2.2))
 else KJ (cH s (cU n) (bj size 12)) n (jf s n) size (bj size 12)
def yt (S:ay) (n:fu) (size:Int):Prop:=S.wg 1044000∧cy n=true∧n.1=1∧0≤size∧size≤192
def eN (S:ay) (n:fu) (size:Int):AV:=.t [.a (k9 0 1 2 5 6 (jc S n size).1),ndA (jc S n size).2.1,.s (.q (jc S n size).2.2)]
def fM (S:ay) (n:fu) (size:Int):List AV:=[.rs ab (jc S n size).1.rows,.rs ag (jc S n size).1.refs,.rs ag (jc S n size).1.last,.zz,.zz,.rs ae (jc S n size).1.gone,.rs ae (jc S n size).1.dead]
def KD:Con where
 A:=[.a (stB 0 1 2 3 4),.a [.int,.int,.int,.int,.int,.int,.int,.int,.int,.int],.s .int]
 B:=[.r ab,.r ag,.r ag,.r ae,.r ae]
 pre:=fun x b=>whole x.1.1 x.1.2.1 x.1.2.2.1 x.1.2.2.2.2.1 x.1.2.2.2.2.2.2.1 (b.1) (b.2.1) (b.2.2.1) (b.2.2.2.1) (b.2.2.2.2)∧yt ((b.1,b.2.1,b.2.2.1,x.1.2.2.2.1,b.2.2.2.1,x.1.2.2.2.2.2.1,b.2.2.2.2,x.1.2.2.2.2.2.2.2)) (x.2.1) (x.2.2)
 α:=fun _ _=>Unit
 φ:=fun _ _ _=>True
 r:=fun x b _=>eN ((b.1,b.2.1,b.2.2.1,x.1.2.2.2.1,b.2.2.2.1,x.1.2.2.2.2.2.1,b.2.2.2.2,x.1.2.2.2.2.2.2.2)) (x.2.1) (x.2.2)
 o:=fun x b _=>fM ((b.1,b.2.1,b.2.2.1,x.1.2.2.2.1,b.2.2.2.1,x.1.2.2.2.2.2.1,b.2.2.2.2,x.1.2.2.2.2.2.2.2)) (x.2.1) (x.2.2)
 nf:=2
 mv:=true
set_option maxRecDepth 100000 in
theorem aeh:Has Tryz.prog 110 KD:=by
 refine Has.ofZ (fun _=>true) (fun _=>false) (fun _=>false) (l:=[(138,sN),(141,lC),(139,iG),(18,eB),(135,ml),(140,vZ)]) ⟨MM,EC,tM,mb,zR,TS,trivial⟩ (fn:=Tryz.f110) Tryz.func110 rfl (by decide) (aZ rfl) ?_
 rintro⟨⟨(A3:Nat),(A2:Nat),(A1:Nat),(ao:Int),(AZ:Nat),(aq:Int),(AY:Nat),(ar:Bool)⟩,⟨(n1:Int),(n2:Int),(n3:Int),(n4:Int),(n5:Int),(n6:Int),(n7:Int),(n8:Int),(n9:Int),(cx:Int)⟩,(size:Int)⟩ ⟨(aj:List ByteArray),(ak:List Int),(an:List Int),(ah:List Pt),(ai:List Pt)⟩ ⟨⟨(gE:A3=List.length aj),(gD:A2=List.length ak),(gC:A1=List.length an),(gB:AZ=List.length ah),(gA:AY=List.length ai)⟩,(hp:yt (aj,ak,an,ao,ah,aq,ai,ar) (n1,n2,n3,n4,n5,n6,n7,n8,n9,cx) size)⟩
 subst gE gD gC gB gA
 show vc _ _ _ _ (entry [.a [.xs 0 1 0 aj.length,.xs 1 1 0 ak.length,.xs 2 1 0 an.length,.int ao,.xs 3 5 0 ah.length,.int aq,.xs 4 5 0 ai.length,.q ar],.a [.int n1,.int n2,.int n3,.int n4,.int n5,.int n6,.int n7,.int n8,.int n9,.int cx],.int size] [.rs ab aj,.rs ag ak,.rs ag an,.rs ae ah,.rs ae ai]) _
 obtain⟨lB,uD,(hn1:n1=1),hs0,hs1⟩:=hp
 have lB:ay.wg (aj,ak,an,ao,ah,aq,ai,ar) 1044000:=lB
 have uD:cy (n1,n2,n3,n4,n5,n6,n7,n8,n9,cx)=true:=uD
 have hf:=H3 uD
 have cA:=hf.ok
 have hts:=GN lB.wf.rd hf
 have FX:n3≤((jf (aj,ak,an,ao,ah,aq,ai,ar) (n1,n2,n3,n4,n5,n6,n7,n8,n9,cx)).size:Int):=acL (s:=(aj,ak,an,ao,ah,aq,ai,ar)) uD hn1
 obtain⟨(hm:cx=bj n3 12),(C1:0≤n3),(hm1:n3≤192)⟩:=node1 uD hn1
 have hpm:bj size 12=(size+12-1) / 12:=rfl
 have hpn:bj n3 12=(n3+12-1) / 12:=rfl
 have hcu:=F3 (many:=bj size 12) lB cA (by omega) (by omega)
 refine⟨⟨⟨⟨⟨?_,?_⟩,⟨?_,?_⟩,⟨?_,?_⟩,aa,⟨?_,?_⟩,aa,⟨?_,?_⟩,aa,aa⟩,⟨aa,aa,aa,aa,aa,aa,aa,aa,aa,aa,aa⟩,aa⟩,?_,?_⟩,fun x1 w2=>⟨⟨⟨aa,aa,aa⟩,?_,?_,?_,?_⟩,fun x3 w4=>⟨fun w5=>⟨⟨?_,?_⟩,⟨⟨aa,aa⟩,?_⟩,fun x6 w7=>⟨?_,fun w8=>⟨[.s 3,.b 1003],[.s 40],rfl,[.s 4,.b 1004],[.s 41],rfl,[.s 6,.s 40,.b 1006],[.b 1006],rfl,[.s 7,.s 41,.b 1007],[.b 1007],rfl,[],[.s 8],rfl,?_⟩,fun w9=>⟨⟨?_,?_⟩,⟨⟨⟨aa,aa,aa,aa,aa,aa,aa,aa,aa⟩,⟨aa,aa,aa,aa,aa,aa,aa,aa⟩,aa,aa,aa⟩,⟨?_,?_,?_,?_,?_⟩,?_,?_,?_,?_,?_,?_,?_,?_⟩,fun |false=>fun dq=>⟨[.s 11,.b 1011],[.s 54],rfl,[.s 4,.b 1004],[.s 55],rfl,[.s 13],[.s 56],rfl,[.s 6,.s 54,.b 1006],[.b 1006],rfl,[.s 7,.s 55,.b 1007],[.b 1007],rfl,[.s 56],[.s 8],rfl,?_⟩ |true=>fun kk=>⟨[.s 11,.b 1011],[.s 54],rfl,[.s 4,.b 1004],[.s 55],rfl,[.s 13],[.s 56],rfl,[.s 6,.s 54,.b 1006],[.b 1006],rfl,[.s 7,.s 55,.b 1007],[.b 1007],rfl,[.s 56],[.s 8],rfl,?_⟩⟩⟩⟩,fun dI=>⟨⟨⟨⟨aa,aa,aa,aa,aa,aa,aa,aa,aa⟩,⟨aa,aa,aa,aa,aa,aa,aa,aa⟩,aa,aa⟩,⟨?_,?_,?_,?_,?_⟩,?_,?_,?_,?_,?_,?_⟩,fun |false=>fun iJ=>⟨fun gI=>⟨[.s 3,.b 1003],[.s 68],rfl,[.s 4,.b 1004],[.s 69],rfl,[.s 6,.s 68,.b 1006],[.b 1006],rfl,[.s 7,.s 69,.b 1007],[.b 1007],rfl,[],[.s 8],rfl,?_⟩,fun pe=>⟨fun kj=>⟨[.s 14,.b 1014],[.s 76],rfl,[.s 4,.b 1004],[.s 77],rfl,[.s 6,.s 76,.b 1006],[.b 1006],rfl,[.s 7,.s 77,.b 1007],[.b 1007],rfl,[],[.s 8],rfl,?_⟩,fun wC=>⟨[.s 14,.b 1014],[.s 78],rfl,[.s 4,.b 1004],[.s 79],rfl,[.s 9],[.s 80],rfl,[.s 2],[.s 81],rfl,[.s 80,.s 81],[.s 82],rfl,⟨?_,?_,?_⟩,[.s 10],[.s 83],rfl,[.s 83],[.s 84],rfl,⟨?_,?_⟩,[.s 10],[.s 85],rfl,[.s 85],[.s 86],rfl,⟨?_,?_⟩,[.s 78,.s 79,.s 82,.s 84,.s 86,.b 0,.b 1,.b 2,.b 3,.b 4,.b 1000880001,.b 1000880000],[.s 87,.b 0,.b 1,.b 2,.b 3,.b 4,.b 1000880000,.b 1000880001],rfl,⟨⟨⟨aa,aa,aa,aa,aa,aa,aa,aa,aa⟩,⟨aa,aa,aa,aa,aa,aa,aa,aa,aa,aa,aa⟩,aa,aa,aa,aa⟩,⟨?_,?_,?_,?_,?_⟩,?_,?_,?_,?_,?_,?_,?_⟩,?_,fun qN oB=>⟨[.s 87],[.s 88],rfl,[.s 87],[.s 89],rfl,[.s 87],[.s 90],rfl,[.s 6,.s 88,.b 1006],[.b 1006],rfl,[.s 7,.s 89,.b 1007],[.b 1007],rfl,[.s 90],[.s 8],rfl,?_⟩⟩⟩⟩ |true=>fun uw=>⟨fun zm=>⟨[.s 3,.b 1003],[.s 68],rfl,[.s 4,.b 1004],[.s 69],rfl,[.s 6,.s 68,.b 1006],[.b 1006],rfl,[.s 7,.s 69,.b 1007],[.b 1007],rfl,[],[.s 8],rfl,?_⟩,fun zl=>⟨fun xD=>⟨[.s 14,.b 1014],[.s 76],rfl,[.s 4,.b 1004],[.s 77],rfl,[.s 6,.s 76,.b 1006],[.b 1006],rfl,[.s 7,.s 77,.b 1007],[.b 1007],rfl,[],[.s 8],rfl,?_⟩,fun rG=>⟨[.s 14,.b 1014],[.s 78],rfl,[.s 4,.b 1004],[.s 79],rfl,[.s 9],[.s 80],rfl,[.s 2],[.s 81],rfl,[.s 80,.s 81],[.s 82],rfl,⟨?_,?_,?_⟩,[.s 10],[.s 83],rfl,[.s 83],[.s 84],rfl,⟨?_,?_⟩,[.s 10],[.s 85],rfl,[.s 85],[.s 86],rfl,⟨?_,?_⟩,[.s 78,.s 79,.s 82,.s 84,.s 86,.b 0,.b 1,.b 2,.b 1000630000,.b 1000630001,.b 1000880001,.b 1000880000],[.s 87,.b 0,.b 1,.b 2,.b 1000630000,.b 1000630001,.b 1000880000,.b 1000880001],rfl,⟨⟨⟨aa,aa,aa,aa,aa,aa,aa,aa,aa⟩,⟨aa,aa,aa,aa,aa,aa,aa,aa,aa,aa,aa⟩,aa,aa,aa,aa⟩,⟨?_,?_,?_,?_,?_⟩,?_,?_,?_,?_,?_,?_,?_⟩,?_,fun x25 E1=>⟨[.s 87],[.s 88],rfl,[.s 87],[.s 89],rfl,[.s 87],[.s 90],rfl,[.s 6,.s 88,.b 1006],[.b 1006],rfl,[.s 7,.s 89,.b 1007],[.b 1007],rfl,[.s 90],[.s 8],rfl,?_⟩⟩⟩⟩⟩⟩⟩⟩
 all_goals first|refine aw ?_|refine ax ?_|exact ba|(dsimp only [sN,ra];omega)|(dsimp only [lC,kn];omega)|(dsimp only [iG,jP];omega)|(dsimp only [eB,fL];omega)|(dsimp only [ml,mP];omega)|(dsimp only [vZ,tm];omega)|exact a8|exact lB.wf.rd|exact hf|exact lB.wf|exact cA.rd|exact cA.m1|exact⟨_,rfl⟩|exact ZB1 lB.g (by decide)|exact ZB1 lB.d (by decide)|exact hcu.1.mono (by decide)|exact hcu.2.1|exact ZA8 _|skip
 all_goals first|exact absurd (show true=false from pe) Bool.noConfusion|exact absurd (show false=true from zm) Bool.noConfusion|skip
 ·show (((jf (aj,ak,an,ao,ah,aq,ai,ar) (n1,n2,n3,n4,n5,n6,n7,n8,n9,cx)).size+(kM (size-(jf (aj,ak,an,ao,ah,aq,ai,ar) (n1,n2,n3,n4,n5,n6,n7,n8,n9,cx)).size)).size:Nat):Int)≤imax
  rw [k8];unfold imax;omega
 ·have e:jc (aj,ak,an,ao,ah,aq,ai,ar) (n1,n2,n3,n4,n5,n6,n7,n8,n9,cx) size=((aj,ak,an,ao,ah,aq,ai,ar),ke (n1,n2,n3,n4,n5,n6,n7,n8,n9,cx) size (cU (n1,n2,n3,n4,n5,n6,n7,n8,n9,cx)),true):=by unfold jc;rw [show decide (size≥n3)=true from w5,show decide (bj size 12=cx)=true from w8];rfl
  refine⟨[3,4],[],_,_,_,rfl,az,(),0,aa,?_,?_,rfl⟩
  ·(show _=eN (aj,ak,an,ao,ah,aq,ai,ar) (n1,n2,n3,n4,n5,n6,n7,n8,n9,cx) size);unfold eN;first|(rw [e];rfl)|rfl
  ·(show _=fM (aj,ak,an,ao,ah,aq,ai,ar) (n1,n2,n3,n4,n5,n6,n7,n8,n9,cx) size);unfold fM;first|(rw [e];rfl)|rfl
 ·have hz:(aY (aj,ak,an,ao,ah,aq,ai,ar) (cU (n1,n2,n3,n4,n5,n6,n7,n8,n9,cx)) (bj size 12-1) ⟨#[]⟩).2.2=false:=(show false=(aY (aj,ak,an,ao,ah,aq,ai,ar) (cU (n1,n2,n3,n4,n5,n6,n7,n8,n9,cx)) (bj size 12-1) ⟨#[]⟩).2.2 from dq).symm
  have e:jc (aj,ak,an,ao,ah,aq,ai,ar) (n1,n2,n3,n4,n5,n6,n7,n8,n9,cx) size=((aY (aj,ak,an,ao,ah,aq,ai,ar) (cU (n1,n2,n3,n4,n5,n6,n7,n8,n9,cx)) (bj size 12-1) ⟨#[]⟩).1,ke (n1,n2,n3,n4,n5,n6,n7,n8,n9,cx) size (aY (aj,ak,an,ao,ah,aq,ai,ar) (cU (n1,n2,n3,n4,n5,n6,n7,n8,n9,cx)) (bj size 12-1) ⟨#[]⟩).2.1,(aY (aj,ak,an,ao,ah,aq,ai,ar) (cU (n1,n2,n3,n4,n5,n6,n7,n8,n9,cx)) (bj size 12-1) ⟨#[]⟩).2.2):=by unfold jc;rw [show decide (size≥n3)=true from w5,show decide (bj size 12=cx)=false from w9];rfl
  refine⟨[3,4],[],_,_,_,rfl,az,(),0,aa,?_,?_,rfl⟩
  ·(show _=eN (aj,ak,an,ao,ah,aq,ai,ar) (n1,n2,n3,n4,n5,n6,n7,n8,n9,cx) size);unfold eN;first|(rw [e,hz];rfl)|(rw [e];rfl)|rfl
  ·(show _=fM (aj,ak,an,ao,ah,aq,ai,ar) (n1,n2,n3,n4,n5,n6,n7,n8,n9,cx) size);unfold fM;first|(rw [e,hz];rfl)|(rw [e];rfl)|rfl
 ·have hz:(aY (aj,ak,an,ao,ah,aq,ai,ar) (cU (n1,n2,n3,n4,n5,n6,n7,n8,n9,cx)) (bj size 12-1) ⟨#[]⟩).2.2=true:=(show true=(aY (aj,ak,an,ao,ah,aq,ai,ar) (cU (n1,n2,n3,n4,n5,n6,n7,n8,n9,cx)) (bj size 12-1) ⟨#[]⟩).2.2 from kk).symm
  have e:jc (aj,ak,an,ao,ah,aq,ai,ar) (n1,n2,n3,n4,n5,n6,n7,n8,n9,cx) size=((aY (aj,ak,an,ao,ah,aq,ai,ar) (cU (n1,n2,n3,n4,n5,n6,n7,n8,n9,cx)) (bj size 12-1) ⟨#[]⟩).1,ke (n1,n2,n3,n4,n5,n6,n7,n8,n9,cx) size (aY (aj,ak,an,ao,ah,aq,ai,ar) (cU (n1,n2,n3,n4,n5,n6,n7,n8,n9,cx)) (bj size 12-1) ⟨#[]⟩).2.1,(aY (aj,ak,an,ao,ah,aq,ai,ar) (cU (n1,n2,n3,n4,n5,n6,n7,n8,n9,cx)) (bj size 12-1) ⟨#[]⟩).2.2):=by unfold jc;rw [show decide (size≥n3)=true from w5,show decide (bj size 12=cx)=false from w9];rfl
  refine⟨[1000490000,1000490001],[],_,_,_,rfl,az,(),0,aa,?_,?_,rfl⟩
  ·(show _=eN (aj,ak,an,ao,ah,aq,ai,ar) (n1,n2,n3,n4,n5,n6,n7,n8,n9,cx) size);unfold eN;first|(rw [e,hz];rfl)|(rw [e];rfl)|rfl
  ·(show _=fM (aj,ak,an,ao,ah,aq,ai,ar) (n1,n2,n3,n4,n5,n6,n7,n8,n9,cx) size);unfold fM;first|(rw [e,hz];rfl)|(rw [e];rfl)|rfl
 ·have hz:(cH (aj,ak,an,ao,ah,aq,ai,ar) (cU (n1,n2,n3,n4,n5,n6,n7,n8,n9,cx)) (bj size 12)).2.2=false:=(show false=(cH (aj,ak,an,ao,ah,aq,ai,ar) (cU (n1,n2,n3,n4,n5,n6,n7,n8,n9,cx)) (bj size 12)).2.2 from iJ).symm
  have xw:=hcu.2.2 hz
  have e:jc (aj,ak,an,ao,ah,aq,ai,ar) (n1,n2,n3,n4,n5,n6,n7,n8,n9,cx) size=((cH (aj,ak,an,ao,ah,aq,ai,ar) (cU (n1,n2,n3,n4,n5,n6,n7,n8,n9,cx)) (bj size 12)).1,(n1,n2,n3,n4,n5,n6,n7,n8,n9,cx),false):=by unfold jc KJ;rw [show decide (size≥n3)=false from dI,hz];rfl
  refine⟨[3,4],[],_,_,_,rfl,az,(),0,aa,?_,?_,rfl⟩
  ·(show _=eN (aj,ak,an,ao,ah,aq,ai,ar) (n1,n2,n3,n4,n5,n6,n7,n8,n9,cx) size);unfold eN;first|(rw [e];rfl)|(rw [e];exact congrArg (fun x=>AV.t [A0.a x,ndA (n1,n2,n3,n4,n5,n6,n7,n8,n9,cx),A0.s (SV.q false)]) (nK (b0:=0) (b1:=1) (b2:=2) (b3:=5) (b4:=6) xw lB.wf))|(rw [e];have h3:=xw.gone;have h4:=xw.dead;exact congr (congrArg (fun (a b:List Pt)=>[AV.rs ab (cH (aj,ak,an,ao,ah,aq,ai,ar) (cU (n1,n2,n3,n4,n5,n6,n7,n8,n9,cx)) (bj size 12)).1.rows,AV.rs ag (cH (aj,ak,an,ao,ah,aq,ai,ar) (cU (n1,n2,n3,n4,n5,n6,n7,n8,n9,cx)) (bj size 12)).1.refs,AV.rs ag (cH (aj,ak,an,ao,ah,aq,ai,ar) (cU (n1,n2,n3,n4,n5,n6,n7,n8,n9,cx)) (bj size 12)).1.last,AV.zz,AV.zz,AV.rs ae a,AV.rs ae b]) h3.symm) h4.symm)|rfl
  ·(show _=fM (aj,ak,an,ao,ah,aq,ai,ar) (n1,n2,n3,n4,n5,n6,n7,n8,n9,cx) size);unfold fM;first|(rw [e];rfl)|(rw [e];exact congrArg (fun x=>AV.t [A0.a x,ndA (n1,n2,n3,n4,n5,n6,n7,n8,n9,cx),A0.s (SV.q false)]) (nK (b0:=0) (b1:=1) (b2:=2) (b3:=5) (b4:=6) xw lB.wf))|(rw [e];have h3:=xw.gone;have h4:=xw.dead;exact congr (congrArg (fun (a b:List Pt)=>[AV.rs ab (cH (aj,ak,an,ao,ah,aq,ai,ar) (cU (n1,n2,n3,n4,n5,n6,n7,n8,n9,cx)) (bj size 12)).1.rows,AV.rs ag (cH (aj,ak,an,ao,ah,aq,ai,ar) (cU (n1,n2,n3,n4,n5,n6,n7,n8,n9,cx)) (bj size 12)).1.refs,AV.rs ag (cH (aj,ak,an,ao,ah,aq,ai,ar) (cU (n1,n2,n3,n4,n5,n6,n7,n8,n9,cx)) (bj size 12)).1.last,AV.zz,AV.zz,AV.rs ae a,AV.rs ae b]) h3.symm) h4.symm)|rfl
 ·have hz:(cH (aj,ak,an,ao,ah,aq,ai,ar) (cU (n1,n2,n3,n4,n5,n6,n7,n8,n9,cx)) (bj size 12)).2.2=true:=(show true=(cH (aj,ak,an,ao,ah,aq,ai,ar) (cU (n1,n2,n3,n4,n5,n6,n7,n8,n9,cx)) (bj size 12)).2.2 from uw).symm
  have e:jc (aj,ak,an,ao,ah,aq,ai,ar) (n1,n2,n3,n4,n5,n6,n7,n8,n9,cx) size=((cH (aj,ak,an,ao,ah,aq,ai,ar) (cU (n1,n2,n3,n4,n5,n6,n7,n8,n9,cx)) (bj size 12)).1,ke (n1,n2,n3,n4,n5,n6,n7,n8,n9,cx) size (cH (aj,ak,an,ao,ah,aq,ai,ar) (cU (n1,n2,n3,n4,n5,n6,n7,n8,n9,cx)) (bj size 12)).2.1,true):=by unfold jc KJ;rw [show decide (size≥n3)=false from dI,hz,show decide (bj size 12=0)=true from xD];rfl
  refine⟨[1000630000,1000630001],[],_,_,_,rfl,az,(),0,aa,?_,?_,rfl⟩
  ·(show _=eN (aj,ak,an,ao,ah,aq,ai,ar) (n1,n2,n3,n4,n5,n6,n7,n8,n9,cx) size);unfold eN;first|(rw [e];rfl)|rfl
  ·(show _=fM (aj,ak,an,ao,ah,aq,ai,ar) (n1,n2,n3,n4,n5,n6,n7,n8,n9,cx) size);unfold fM;first|(rw [e];rfl)|rfl
 ·have h1:=aA (p:=size≥n3) dI
  have h2:=aA (p:=bj size 12=0) rG
  show (bj size 12-1)*12≤(((jf (aj,ak,an,ao,ah,aq,ai,ar) (n1,n2,n3,n4,n5,n6,n7,n8,n9,cx)).extract 0 size.toNat).size:Int)
  rw [ZC5];omega
 ·show ((jf (aj,ak,an,ao,ah,aq,ai,ar) (n1,n2,n3,n4,n5,n6,n7,n8,n9,cx)).extract 0 size.toNat).size≤100000000
  rw [ZC5];omega
 ·have hz:(cH (aj,ak,an,ao,ah,aq,ai,ar) (cU (n1,n2,n3,n4,n5,n6,n7,n8,n9,cx)) (bj size 12)).2.2=true:=(show true=(cH (aj,ak,an,ao,ah,aq,ai,ar) (cU (n1,n2,n3,n4,n5,n6,n7,n8,n9,cx)) (bj size 12)).2.2 from uw).symm
  have e:jc (aj,ak,an,ao,ah,aq,ai,ar) (n1,n2,n3,n4,n5,n6,n7,n8,n9,cx) size=zJ (cH (aj,ak,an,ao,ah,aq,ai,ar) (cU (n1,n2,n3,n4,n5,n6,n7,n8,n9,cx)) (bj size 12)).1 (ke (n1,n2,n3,n4,n5,n6,n7,n8,n9,cx) size (cH (aj,ak,an,ao,ah,aq,ai,ar) (cU (n1,n2,n3,n4,n5,n6,n7,n8,n9,cx)) (bj size 12)).2.1) ((jf (aj,ak,an,ao,ah,aq,ai,ar) (n1,n2,n3,n4,n5,n6,n7,n8,n9,cx)).extract 0 size.toNat) (bj size 12-1) (bj size 12-1):=by unfold jc KJ;rw [show decide (size≥n3)=false from dI,hz,show decide (bj size 12=0)=false from rG];rfl
  refine⟨[1000880000,1000880001],[],_,_,_,rfl,az,(),0,aa,?_,?_,rfl⟩
  ·(show _=eN (aj,ak,an,ao,ah,aq,ai,ar) (n1,n2,n3,n4,n5,n6,n7,n8,n9,cx) size);unfold eN;first|(rw [e];rfl)|rfl
  ·(show _=fM (aj,ak,an,ao,ah,aq,ai,ar) (n1,n2,n3,n4,n5,n6,n7,n8,n9,cx) size);unfold fM;first|(rw [e];rfl)|rfl
end GL
end Go.Proofs.YtbfgjadbfjkcdaaGreatDoor
