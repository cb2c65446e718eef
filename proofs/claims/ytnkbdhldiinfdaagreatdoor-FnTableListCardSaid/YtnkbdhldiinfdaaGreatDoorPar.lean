/- Part 18 of the proof of a drawn law. -/
import Derived.Test.YtnkbdhldiinfdaaGreatDoorPam
import Derived.Test.YtnkbdhldiinfdaaGreatDoorPan
import Derived.Test.YtnkbdhldiinfdaaGreatDoorPaq
set_option maxHeartbeats 20000000
set_option maxRecDepth 100000
set_option linter.all false
namespace Go.Proofs.YtnkbdhldiinfdaaGreatDoor
namespace GL
theorem QR {α:Type}(l:List α):(l.drop 0).take l.length=l:=by simp
def bJ (s:ay) (n:fu):List eU×Bool:=
 bif !(cy n)||(decide (n.1≠2)|| !(qJ s (cT n))) then ([],false) else
 bif !(c7 s (cT n)).2||decide (((c7 s (cT n)).1.size:Int)≠n.2.2.1) then ([],false) else cP (c7 s (cT n)).1
theorem aeN {s:ay}{n:fu}(h:(!(cy n))=true):bJ s n=([],false):=by unfold bJ;rw [h];rfl
theorem aeM {s:ay}{n:fu}(h:decide (n.1≠2)=true):bJ s n=([],false):=by unfold bJ;rw [h,Bool.true_or,ZC4];rfl
theorem aeL {s:ay}{n:fu}(h:(!(qJ s (cT n)))=true):bJ s n=([],false):=by unfold bJ;rw [h,ZC4,ZC4];rfl
theorem aeK {s:ay}{n:fu}(h:(!(c7 s (cT n)).2)=true):bJ s n=([],false):=by
 unfold bJ
 cases !(cy n)||(decide (n.1≠2)|| !(qJ s (cT n))) with
 |true=>rfl
 |false=>rw [h];rfl
theorem aeJ {s:ay}{n:fu}(h:decide (((c7 s (cT n)).1.size:Int)≠n.2.2.1)=true):bJ s n=([],false):=by
 unfold bJ
 cases !(cy n)||(decide (n.1≠2)|| !(qJ s (cT n))) with
 |true=>rfl
 |false=>rw [h,ZC4];rfl
theorem aeI {s:ay}{n:fu}(h1:(!(cy n))=false) (h2:decide (n.1≠2)=false) (h3:(!(qJ s (cT n)))=false) (h4:(!(c7 s (cT n)).2)=false) (h5:decide (((c7 s (cT n)).1.size:Int)≠n.2.2.1)=false):bJ s n=cP (c7 s (cT n)).1:=by
 unfold bJ;rw [h1,h2,h3,h4,h5];rfl
def jl (S:ay) (n:fu):Prop:=S.rd
def cQ (S:ay) (n:fu):AV:=.t [.s (.vw aK (bJ S n).1),.s (.q (bJ S n).2)]
def KV (S:ay) (n:fu):List AV:=[]
def iE:cn where
 A:=[.a xv,.a [.int,.int,.int,.int,.int,.int,.int,.int,.int,.int]]
 B:=[]
 pre:=λx b=>jl (x.1) (x.2)
 r:=λx b _=>cQ (x.1) (x.2)
 o:=λx b _=>KV (x.1) (x.2)
theorem tH:Has Tryz.prog 204 iE:=by
 refine Has.fm zT zF zF (l:=[(124,qF),(69,JW),(226,PW),(227,ui)]) ⟨IQ,adR,afX,PK,aa⟩ Tryz.func204 ?_
 rintro⟨⟨(aj:List ByteArray),(ak:List Int),(an:List Int),(ao:Int),(ah:List Pt),(aq:Int),(ai:List Pt),(ar:Bool)⟩,⟨(n1:Int),(n2:Int),(n3:Int),(n4:Int),(n5:Int),(n6:Int),(n7:Int),(n8:Int),(n9:Int),(cw:Int)⟩⟩ _ (hp:jl (aj,ak,an,ao,ah,aq,ai,ar) (n1,n2,n3,n4,n5,n6,n7,n8,n9,cw))
 show vc _ _ _ _ (entry [.a [.vz ab aj,.vz ag ak,.vz ag an,.int ao,.vz ae ah,.int aq,.vz ae ai,.q ar],.a [.int n1,.int n2,.int n3,.int n4,.int n5,.int n6,.int n7,.int n8,.int n9,.int cw]] []) _
 let g':=(n1,n2,n3,n4,n5,n6,n7,n8,n9,cw)
 let A':=(aj,ak,an,ao,ah,aq,ai,ar)
 have dF:ay.rd A':=hp
 have sS:(!(cy g'))=false→bf.ok (cT g'):=λh=>nW (cL h)
 have dj:(!(cy g'))=false→n3≤2048:=λh=>(lh (cL h)).2.2.1.2
 refine⟨⟨⟨tv11,aa⟩,aa⟩,λx1 w2=>⟨aa,λw3=>⟨aa,?_⟩,λw4=>⟨aa,λw5=>⟨aa,?_⟩,λw6=>⟨⟨⟨tv9,tv8,aa⟩,?_⟩,λx7 w8=>⟨λw9=>⟨aa,?_⟩,λdy=>⟨⟨⟨tv9,tv8,aa⟩,?_,?_⟩,λkz dJ=>⟨aa,λiU=>⟨aa,?_⟩,λgO=>⟨λqK=>⟨aa,?_⟩,λkg=>⟨⟨tv2,?_⟩,λx17 rS=>?_⟩⟩⟩⟩⟩⟩⟩⟩⟩
 all_goals first|refine aw ?_|refine ax ?_|exact a8|(dsimp only [qF,qf,JW,zr,PW,B2,ui,lR];omega)|exact a7|exact dF|exact sS w4|skip
 ·refine⟨[],[],_,_,_,ζ,cf,(),aa,?_,?_,ζ⟩
  ·(show _=cQ A' g');unfold cQ;first|(rw [aeN (s:=A') (n:=g') w3];rfl)|rfl
  ·rfl
 ·refine⟨[],[],_,_,_,ζ,cf,(),aa,?_,?_,ζ⟩
  ·(show _=cQ A' g');unfold cQ;first|(rw [aeM (s:=A') (n:=g') w5];rfl)|rfl
  ·rfl
 ·refine⟨[],[],_,_,_,ζ,cf,(),aa,?_,?_,ζ⟩
  ·(show _=cQ A' g');unfold cQ;first|(rw [aeL (s:=A') (n:=g') w9];rfl)|rfl
  ·rfl
 ·refine⟨[],[],_,_,_,ζ,cf,(),aa,?_,?_,ζ⟩
  ·(show _=cQ A' g');unfold cQ;first|(rw [aeK (s:=A') (n:=g') iU];rfl)|rfl
  ·rfl
 ·refine⟨[],[],_,_,_,ζ,cf,(),aa,?_,?_,ζ⟩
  ·(show _=cQ A' g');unfold cQ;first|(rw [aeJ (s:=A') (n:=g') qK];rfl)|rfl
  ·rfl
 ·have h5:=aA (p:=((c7 A' (cT g')).1.size:Int)≠n3) kg
  have:=dj w4
  show (c7 A' (cT g')).1.size≤1000000;omega
 ·have e:=aeI (s:=A') (n:=g') w4 w6 dy gO kg
  refine⟨[],[],_,_,_,ζ,cf,(),aa,?_,?_,ζ⟩
  ·(show _=cQ A' g');unfold cQ;first|(rw [e];exact congrArg (λx=>AV.t [A0.s (SV.vw aK x),A0.s (SV.q (cP (c7 A' (cT g')).1).2)]) (QR (cP (c7 A' (cT g')).1).1))|rfl
  ·rfl
def oE (s:ay) (t:bf):List fu:=(bo s t).map λx=>(bz x).1
def lN (S:ay) (t:bf):Prop:=S.rd∧t.ok
def s3 (S:ay) (t:bf):AV:=.s (.vw o7 (oE S t))
def RZ (S:ay) (t:bf):List AV:=[]
def kR:cn where
 A:=[.a xv,.a [.int,.int,.int,.int,.int,.int,.int]]
 B:=[]
 pre:=λx b=>lN (x.1) (x.2)
 r:=λx b _=>s3 (x.1) (x.2)
 o:=λx b _=>RZ (x.1) (x.2)
theorem yF:Has Tryz.prog 59 kR:=by
 refine Has.fm zT zF zF (l:=[(50,dc),(82,ng)]) ⟨iR,CT,aa⟩ Tryz.func59 ?_
 rintro⟨⟨(aj:List ByteArray),(ak:List Int),(an:List Int),(ao:Int),(ah:List Pt),(aq:Int),(ai:List Pt),(ar:Bool)⟩,⟨(t1:Int),(t2:Int),(t3:Int),(t4:Int),(t5:Int),(t6:Int),(t7:Int)⟩⟩ _ (hp:lN (aj,ak,an,ao,ah,aq,ai,ar) (t1,t2,t3,t4,t5,t6,t7))
 show vc _ _ _ _ (entry [.a [.vz ab aj,.vz ag ak,.vz ag an,.int ao,.vz ae ah,.int aq,.vz ae ai,.q ar],.a [.int t1,.int t2,.int t3,.int t4,.int t5,.int t6,.int t7]] []) _
 let g':=(aj,ak,an,ao,ah,aq,ai,ar)
 let A':=(t1,t2,t3,t4,t5,t6,t7)
 obtain⟨dF,cG⟩:=hp
 have dF:ay.rd g':=dF
 have cG:bf.ok A':=cG
 have h1:t7≤16:=cG.m1
 have hl:(bo g' A').length=t7.toNat:=fq cG
 refine⟨aa,⟨⟨tv9,tv8,aa⟩,?_,?_,?_,?_⟩,λx1 w2=>?_⟩
 all_goals first|refine aw ?_|refine ax ?_|exact a8|(dsimp only [dc,eF,ng,lf];omega)|exact a7|exact dF|exact cG.rd|exact cG.m0|exact cG.m1|skip
 refine cN (l:=[(50,dc),(82,ng)]) (ex:=zT) (wr:=zF) (pt:=zF) ⟨iR,CT,aa⟩ [.s 2,.s 3,.b 1002,.b 1003,.s 6,.b 140000] (λy:Nat×List fu=>[(.s 5,.s (.xs 1010 10 0 y.2.length)),(.s 7,.int y.1),(.b 1010,.rs o7 y.2)]) (λy=>y.1≤(bo g' A').length∧y.2=((bo g' A').take y.1).map λx=>(bz x).1) (λy=>(bo g' A').length-y.1) (0,[]) [] ⟨ZA7 _,rfl⟩ dM ?_
 rintro⟨i,out⟩ ⟨(hi:i≤(bo g' A').length),(he:out=((bo g' A').take i).map λx=>(bz x).1)⟩
 have bU:decide ((i:Int)<((bo g' A').length:Int))=true→i<(bo g' A').length:=λh=>by have:=aJ h;omega
 have dj:=WS (wv (s:=g') (t:=A') dF) i
 have hlo:out.length=i:=by rw [he,ZG5,ZB9];omega
 refine⟨λw1=>⟨⟨?_,?_⟩,?_,⟨tv2,?_⟩,λx2 w3=>⟨aa,⟨⟨?_,?_⟩,?_,?_⟩,⟨?_,?_⟩,?_⟩⟩,λw4=>?_⟩
 all_goals first|refine aw ?_|refine ax ?_|exact a8|(dsimp only [dc,eF,ng,lf];omega)|exact a7|exact bU w1|exact dj|(show (i:Int)<((bo g' A').length:Int);have:=bU w1;omega)|skip
 ·have mo:=bU w1
  refine⟨(i+1,out++[(bz (nth ab (bo g' A') i)).1]),[(1010,1031)],?_,?_,?_⟩
  rotate_right
  ·exact bV
  ·refine⟨mo,?_⟩
   show out++[_]=((bo g' A').take (i+1)).map λx=>(bz x).1
   rw [List.take_add_one,show (bo g' A')[i]?=some (nth ab (bo g' A') i) from oD (ek:=ab) mo,he]
   simp
  ·show (bo g' A').length-(i+1)<(bo g' A').length-i;omega
 ·have e:oE g' A'=out:=by rw [he,ZD1 (by have:=aA (p:=(i:Int)<((bo g' A').length:Int)) (by assumption);omega)];rfl
  refine⟨[],[],_,_,_,ζ,cf,(),aa,?_,?_,ζ⟩
  ·(show _=s3 g' A');unfold s3;first|(rw [e];exact congrArg (λx=>AV.s (SV.vw o7 x)) (QR out))|rfl
  ·rfl
def EZ (s:ay) (t:bf):List ByteArray→Int→Int
 |[],k=>k
 |x::l,k=>bif !(bJ s (cK s t k).1).2||decide (lu (bJ s (cK s t k).1).1 x<0) then -1 else EZ s t l (nth aK (bJ s (cK s t k).1).1 (lu (bJ s (cK s t k).1).1 x).toNat).2
theorem Z0 {s:ay}{t:bf}{x:ByteArray}{l:List ByteArray}{k:Int}(h:(!(bJ s (cK s t k).1).2)=true):EZ s t (x::l) k= -1:=by rw [EZ,h];rfl
theorem ZZ {s:ay}{t:bf}{x:ByteArray}{l:List ByteArray}{k:Int}(h:decide (lu (bJ s (cK s t k).1).1 x<0)=true):EZ s t (x::l) k= -1:=by rw [EZ,h,ZC4];rfl
theorem MP {s:ay}{t:bf}{x:ByteArray}{l:List ByteArray}{k:Int}(h:(!(bJ s (cK s t k).1).2)=false) (h2:decide (lu (bJ s (cK s t k).1).1 x<0)=false):EZ s t (x::l) k=EZ s t l (nth aK (bJ s (cK s t k).1).1 (lu (bJ s (cK s t k).1).1 x).toNat).2:=by rw [EZ,h,h2];rfl
def uM (s:ay) (t:bf) (l:List ByteArray):Int:=EZ s t l 0
theorem afs:∀{f:Nat}{l:List eU}{i:Nat}{name:ByteArray},i+f=l.length→0≤atF f l i name→(i:Int)≤atF f l i name∧atF f l i name<l.length∧(nth aK l (atF f l i name).toNat).1=name
 |0,l,i,name,_,h=>absurd (show (0:Int)≤-1 from h) (by decide)
 |f+1,l,i,name,hf,h=>by
  cases hd:decide ((nth aK l i).1=name) with
  |true=>rw [ag6 hd];exact⟨ZC1 _,by omega,by rw [ZA5];exact aJ hd⟩
  |false=>
   rw [ag7 hd] at h ⊢
   have:=afs (f:=f) (i:=i+1) (by omega) h
   exact⟨by omega,this.2⟩
theorem y8 {l:List eU}{name:ByteArray}(h:0≤lu l name):lu l name<l.length∧(nth aK l (lu l name).toNat).1=name:=(afs (ZA6 _) h).2
theorem FO (s:ay) (n:fu):(bJ s n).1.length≤12∧∀e∈(bJ s n).1,fC e.1=true∧1≤e.2∧e.2≤15:=by
 have h0:([]:List eU).length≤12∧∀e∈([]:List eU),fC e.1=true∧1≤e.2∧e.2≤15:=⟨ZA7 _,λe h=>absurd h ZF6⟩
 unfold bJ
 cases !(cy n)||(decide (n.1≠2)|| !(qJ s (cT n))) with
 |true=>exact h0
 |false=>cases !(c7 s (cT n)).2||decide (((c7 s (cT n)).1.size:Int)≠n.2.2.1) with
  |true=>exact h0
  |false=>
   show (cP _).1.length≤12∧∀e∈(cP _).1,_
   generalize (c7 s (cT n)).1=x
   cases he:egF ((bm x 59).length) (bm x 59) 0 [] with
   |none=>rw [xG he];exact h0
   |some o=>
    rw [nw he]
    cases h1: !(eE o) with
    |true=>rw [aal h1];exact h0
    |false=>cases h2:decide (eh o≠x) with
     |true=>rw [aak h2];exact h0
     |false=>rw [aam h1 h2];exact xF (cL h1)
def qX (S:ay) (t:bf) (l:List ByteArray):Prop:=S.rd∧t.ok∧l.length≤1000000
def je (S:ay) (t:bf) (l:List ByteArray):AV:=.s (.int (uM S t l))
def V4 (S:ay) (t:bf) (l:List ByteArray):List AV:=[]
def sH:cn where
 A:=[.a xv,.a [.int,.int,.int,.int,.int,.int,.int],.s (.vz ab)]
 B:=[]
 pre:=λx b=>qX (x.1) (x.2.1) (x.2.2)
 r:=λx b _=>je (x.1) (x.2.1) (x.2.2)
 o:=λx b _=>V4 (x.1) (x.2.1) (x.2.2)
theorem MA:Has Tryz.prog 207 sH:=by
 refine Has.fm zT zF zF (l:=[(51,jE),(204,iE),(182,oZ)]) ⟨vy,tH,FG,aa⟩ Tryz.func207 ?_
 rintro⟨⟨(aj:List ByteArray),(ak:List Int),(an:List Int),(ao:Int),(ah:List Pt),(aq:Int),(ai:List Pt),(ar:Bool)⟩,⟨(t1:Int),(t2:Int),(t3:Int),(t4:Int),(t5:Int),(t6:Int),(t7:Int)⟩,(l:List ByteArray)⟩ _ (hp:qX (aj,ak,an,ao,ah,aq,ai,ar) (t1,t2,t3,t4,t5,t6,t7) l)
 show vc _ _ _ _ (entry [.a [.vz ab aj,.vz ag ak,.vz ag an,.int ao,.vz ae ah,.int aq,.vz ae ai,.q ar],.a [.int t1,.int t2,.int t3,.int t4,.int t5,.int t6,.int t7],.s (.vz ab l)] []) _
 let g':=(aj,ak,an,ao,ah,aq,ai,ar)
 let A':=(t1,t2,t3,t4,t5,t6,t7)
 obtain⟨dF,cG,hlen⟩:=hp
 have dF:ay.rd g':=dF
 have cG:bf.ok A':=cG
 refine ?_
 all_goals first|refine aw ?_|refine ax ?_|exact a8|(dsimp only [jE,kJ,iE,jl,oZ,o9];omega)|exact a7|skip
 refine cN (l:=[(51,jE),(204,iE),(182,oZ)]) (ex:=zT) (wr:=zF) (pt:=zF) ⟨vy,tH,FG,aa⟩ [.s 2,.s 3,.s 4,.b 1003,.b 1004] (λy:Nat×Int=>[(.s 7,.int y.2),(.s 8,.int y.1)]) (λy=>y.1≤l.length∧EZ g' A' (l.drop y.1) y.2=uM g' A' l) (λy=>l.length-y.1) (0,0) [] ⟨ZA7 _,rfl⟩ dM ?_
 rintro⟨i,k⟩ ⟨(hi:i≤l.length),(hr:EZ g' A' (l.drop i) k=uM g' A' l)⟩
 have bU:decide ((i:Int)<(l.length:Int))=true→i<l.length:=λh=>by have:=aJ h;omega
 have heb:=FO g' (cK g' A' k).1
 refine⟨λw1=>⟨⟨⟨tv9,tv8,tv2⟩,?_,?_⟩,λx2 w3=>⟨⟨⟨tv9,tv11,aa⟩,?_⟩,λx4 w5=>⟨⟨?_,?_⟩,⟨tv3,?_⟩,λx6 w7=>⟨aa,λw8=>?_,λw9=>⟨λdy=>?_,λkA=>⟨⟨?_,?_⟩,⟨?_,?_⟩,?_⟩⟩⟩⟩⟩⟩,λdJ=>?_⟩
 all_goals first|refine aw ?_|refine ax ?_|exact a8|(dsimp only [jE,kJ,iE,jl,oZ,o9];omega)|exact a7|exact bU w1|exact dF|exact cG|exact ZB0 heb.1 (by decide)|skip
 ·have mo:=bU w1
  have e:uM g' A' l= -1:=by rw [←hr,bW (ek:=ab) mo,Z0 (show (!(bJ g' (cK g' A' k).1).2)=true from w8)]
  refine⟨[],[],_,_,_,ζ,az,(),aa,?_,?_,ζ⟩
  ·(show _=je g' A' l);unfold je;first|(rw [e];rfl)|rfl
  ·rfl
 ·have mo:=bU w1
  have e:uM g' A' l= -1:=by rw [←hr,bW (ek:=ab) mo,ZZ (show decide (lu (bJ g' (cK g' A' k).1).1 (nth ab l i)<0)=true from dy)]
  refine⟨[],[],_,_,_,ζ,az,(),aa,?_,?_,ζ⟩
  ·(show _=je g' A' l);unfold je;first|(rw [e];rfl)|rfl
  ·rfl
 ·have h0:=aA (show decide (lu (bJ g' (cK g' A' k).1).1 (nth ab l i)<0)=false from kA)
  show 0≤lu (bJ g' (cK g' A' k).1).1 (nth ab l i);omega
 ·have h0:=aA (show decide (lu (bJ g' (cK g' A' k).1).1 (nth ab l i)<0)=false from kA)
  exact (y8 (l:=(bJ g' (cK g' A' k).1).1) (name:=nth ab l i) (by omega)).1
 ·have mo:=bU w1
  refine⟨(i+1,(nth aK (bJ g' (cK g' A' k).1).1 (lu (bJ g' (cK g' A' k).1).1 (nth ab l i)).toNat).2),[],?_,?_,?_⟩
  rotate_right
  ·exact bV
  ·refine⟨mo,?_⟩
   rw [←hr,bW (ek:=ab) mo,MP (show (!(bJ g' (cK g' A' k).1).2)=false from w9) (show decide (lu (bJ g' (cK g' A' k).1).1 (nth ab l i)<0)=false from kA)]
  ·show l.length-(i+1)<l.length-i;omega
 ·have e:uM g' A' l=k:=by rw [←hr,ZB3 (by have:=aA (p:=(i:Int)<(l.length:Int)) dJ;omega)];rfl
  refine⟨[],[],_,_,_,ζ,az,(),aa,?_,?_,ζ⟩
  ·(show _=je g' A' l);unfold je;first|(rw [e];rfl)|rfl
  ·rfl
end GL
namespace GL
abbrev rX (s:ay) (n:fu) (a:Int):ByteArray:=jd s n++kG (a-(jd s n).size)
abbrev UT (s:ay) (n:fu) (a:Int) (text:ByteArray):ByteArray:=(rX s n a).extract 0 a.toNat++text++(rX s n a).extract (min ((rX s n a).size:Int) (a+text.size)).toNat (rX s n a).size
theorem K6 {s:ay}{n:fu}{a:Int}:(rX s n a).size=(jd s n).size+(max 0 (a-(jd s n).size)).toNat:=by rw [ZB2,kV]
theorem aaD {s:ay}{n:fu}{a:Int}{text:ByteArray}(h:0≤a):a.toNat+text.size≤(UT s n a text).size∧(UT s n a text).size≤(rX s n a).size+text.size:=by
 have h1:=K6 (s:=s) (n:=n) (a:=a)
 show _≤((rX s n a).extract 0 a.toNat++text++(rX s n a).extract (min ((rX s n a).size:Int) (a+text.size)).toNat (rX s n a).size).size∧((rX s n a).extract 0 a.toNat++text++(rX s n a).extract (min ((rX s n a).size:Int) (a+text.size)).toNat (rX s n a).size).size≤_
 rw [ZB2,ZB2,ZC5,ZC5]
 omega
def nB (s:ay) (n:fu) (a:Int) (text:ByteArray):ay×fu×Bool:=bif decide (text=⟨#[]⟩) then (s,n,true) else zw s n (UT s n a text) (a / 12) ((a+text.size-1) / 12)
theorem NS {s:ay}{n:fu}{a:Int}{text:ByteArray}(h:decide (text=⟨#[]⟩)=true):nB s n a text=(s,n,true):=by unfold nB;rw [h];rfl
theorem NR {s:ay}{n:fu}{a:Int}{text:ByteArray}(h:decide (text=⟨#[]⟩)=false):nB s n a text=zw s n (UT s n a text) (a / 12) ((a+text.size-1) / 12):=by unfold nB;rw [h];rfl
def th (S:ay) (n:fu) (at':Int) (text:ByteArray):Prop:=S.wg 1045000∧n.fok∧0≤at'∧at'+text.size≤192
def lG (S:ay) (n:fu) (at':Int) (text:ByteArray):AV:=.t [.a (kW 0 1 2 5 6 (nB S n at' text).1),ndA (nB S n at' text).2.1,.s (.q (nB S n at' text).2.2)]
def nS (S:ay) (n:fu) (at':Int) (text:ByteArray):List AV:=[.rs ab (nB S n at' text).1.rows,.rs ag (nB S n at' text).1.refs,.rs ag (nB S n at' text).1.last,.zz,.zz,.rs ae (nB S n at' text).1.gone,.rs ae (nB S n at' text).1.dead]
def yW:cn where
 A:=[.a (stB 0 1 2 3 4),.a [.int,.int,.int,.int,.int,.int,.int,.int,.int,.int],.s .int,.s .str]
 B:=[.r ab,.r ag,.r ag,.r ae,.r ae]
 pre:=λx b=>stW x.1 b∧th (gP x.1 b) (x.2.1) (x.2.2.1) (x.2.2.2)
 r:=λx b _=>lG (gP x.1 b) (x.2.1) (x.2.2.1) (x.2.2.2)
 o:=λx b _=>nS (gP x.1 b) (x.2.1) (x.2.2.1) (x.2.2.2)
 nf:=2
 mv:=true
theorem W6:Has Tryz.prog 185 yW:=by
 refine Has.ofZ zT zF zF (l:=[(213,sI),(214,iF),(215,vS)]) ⟨MB,tI,S9,aa⟩ Tryz.func185 ?_
 rintro⟨⟨(AU:Nat),(AT:Nat),(AS:Nat),(ao:Int),(AR:Nat),(aq:Int),(AQ:Nat),(ar:Bool)⟩,⟨(n1:Int),(n2:Int),(n3:Int),(n4:Int),(n5:Int),(n6:Int),(n7:Int),(n8:Int),(n9:Int),(cw:Int)⟩,(at':Int),(text:ByteArray)⟩ ⟨(aj:List ByteArray),(ak:List Int),(an:List Int),(ah:List Pt),(ai:List Pt)⟩ ⟨⟨(gC:AU=List.length aj),(gB:AT=List.length ak),(gA:AS=List.length an),(gz:AR=List.length ah),(gy:AQ=List.length ai)⟩,(hp:th (aj,ak,an,ao,ah,aq,ai,ar) (n1,n2,n3,n4,n5,n6,n7,n8,n9,cw) at' text)⟩
 subst gC gB gA gz gy
 show vc _ _ _ _ (entry [.a [.xs 0 1 0 aj.length,.xs 1 1 0 ak.length,.xs 2 1 0 an.length,.int ao,.xs 3 5 0 ah.length,.int aq,.xs 4 5 0 ai.length,.q ar],.a [.int n1,.int n2,.int n3,.int n4,.int n5,.int n6,.int n7,.int n8,.int n9,.int cw],.int at',.str text] [.rs ab aj,.rs ag ak,.rs ag an,.rs ae ah,.rs ae ai]) _
 obtain⟨ll,hf,ha0,ha1⟩:=hp
 have ll:ay.wg (aj,ak,an,ao,ah,aq,ai,ar) 1045000:=ll
 have hf:fu.fok (n1,n2,n3,n4,n5,n6,n7,n8,n9,cw):=hf
 have hts:=GA ll.wf.rd hf
 have h1:=K6 (s:=(aj,ak,an,ao,ah,aq,ai,ar)) (n:=(n1,n2,n3,n4,n5,n6,n7,n8,n9,cw)) (a:=at')
 have h2:=aaD (s:=(aj,ak,an,ao,ah,aq,ai,ar)) (n:=(n1,n2,n3,n4,n5,n6,n7,n8,n9,cw)) (a:=at') (text:=text) ha0
 have oU:decide (text=⟨#[]⟩)=false→1≤text.size:=λh=>size_pos (aA h)
 refine⟨λw1=>⟨[.s 4,.b 1004],Sq15,ζ,[.s 5,.b 1005],Sq16,ζ,[.s 8,.s 15,.b 1008],[.b 1008],ζ,[.s 9,.s 16,.b 1009],[.b 1009],ζ,[],Sq10,ζ,?_⟩,λw2=>⟨⟨⟨⟨⟨?_,?_⟩,⟨?_,?_⟩,⟨?_,?_⟩,aa,⟨?_,?_⟩,aa,⟨?_,?_⟩,tv2⟩,tv11,aa⟩,?_,?_⟩,λx3 w4=>⟨⟨?_,?_⟩,⟨tv2,?_⟩,λx5 w6=>⟨?_,⟨?_,?_⟩,Sq11,Sq34,ζ,Sq2,Sq35,ζ,[.s 34,.s 35],Sq36,ζ,⟨?_,?_,?_⟩,Sq3,Sq37,ζ,[.s 36,.s 37],Sq38,ζ,?_,Sq11,Sq39,ζ,Sq12,Sq40,ζ,[.s 39,.s 40],Sq41,ζ,⟨?_,?_,?_⟩,[.s 38,.s 41],Sq42,ζ,?_,Sq42,Sq11,ζ,⟨?_,?_,?_⟩,⟨?_,?_⟩,⟨?_,?_⟩,⟨?_,?_,?_⟩,⟨⟨tv9,tv11,tv4⟩,⟨?_,?_,?_,?_,?_⟩,?_,?_,?_,?_,?_,?_,?_⟩,λx7 w8=>?_⟩⟩⟩⟩
 all_goals first|refine aw ?_|refine ax ?_|exact a8|(dsimp only [sI,qY,iF,jP,vS,ti,gP];omega)|exact a7|exact ll.wf.rd|exact hf|exact ll|exact hf.ok|(have:=oU w2;omega)|skip
 ·refine⟨[3,4],[],_,_,_,ζ,az,(),0,aa,?_,?_,ζ⟩
  ·(show _=lG (aj,ak,an,ao,ah,aq,ai,ar) (n1,n2,n3,n4,n5,n6,n7,n8,n9,cw) at' text);unfold lG;first|(rw [NS (s:=(aj,ak,an,ao,ah,aq,ai,ar)) (n:=(n1,n2,n3,n4,n5,n6,n7,n8,n9,cw)) (a:=at') w1];rfl)|rfl
  ·(show _=nS (aj,ak,an,ao,ah,aq,ai,ar) (n1,n2,n3,n4,n5,n6,n7,n8,n9,cw) at' text);unfold nS;first|(rw [NS (s:=(aj,ak,an,ao,ah,aq,ai,ar)) (n:=(n1,n2,n3,n4,n5,n6,n7,n8,n9,cw)) (a:=at') w1];rfl)|rfl
 ·show (((jd (aj,ak,an,ao,ah,aq,ai,ar) (n1,n2,n3,n4,n5,n6,n7,n8,n9,cw)).size+(kG (at'-(jd (aj,ak,an,ao,ah,aq,ai,ar) (n1,n2,n3,n4,n5,n6,n7,n8,n9,cw)).size)).size:Nat):Int)≤imax
  rw [kV];unfold imax;omega
 ·show at'≤((rX (aj,ak,an,ao,ah,aq,ai,ar) (n1,n2,n3,n4,n5,n6,n7,n8,n9,cw) at').size:Int);omega
 ·show ((((rX (aj,ak,an,ao,ah,aq,ai,ar) (n1,n2,n3,n4,n5,n6,n7,n8,n9,cw) at').extract 0 at'.toNat).size+text.size:Nat):Int)≤imax
  rw [ZC5];unfold imax;omega
 ·show ((((rX (aj,ak,an,ao,ah,aq,ai,ar) (n1,n2,n3,n4,n5,n6,n7,n8,n9,cw) at').extract 0 at'.toNat++text).size+((rX (aj,ak,an,ao,ah,aq,ai,ar) (n1,n2,n3,n4,n5,n6,n7,n8,n9,cw) at').extract (min ((rX (aj,ak,an,ao,ah,aq,ai,ar) (n1,n2,n3,n4,n5,n6,n7,n8,n9,cw) at').size:Int) (at'+text.size)).toNat (rX (aj,ak,an,ao,ah,aq,ai,ar) (n1,n2,n3,n4,n5,n6,n7,n8,n9,cw) at').size).size:Nat):Int)≤imax
  rw [ZB2,ZC5,ZC5];unfold imax;omega
 ·have:=oU w2
  show (at'+text.size-1) / 12*12≤((UT (aj,ak,an,ao,ah,aq,ai,ar) (n1,n2,n3,n4,n5,n6,n7,n8,n9,cw) at' text).size:Int);omega
 ·show (UT (aj,ak,an,ao,ah,aq,ai,ar) (n1,n2,n3,n4,n5,n6,n7,n8,n9,cw) at' text).size≤100000000;omega
 ·refine⟨[1000550000,1000550001],[],_,_,_,ζ,az,(),0,aa,?_,?_,ζ⟩
  ·(show _=lG (aj,ak,an,ao,ah,aq,ai,ar) (n1,n2,n3,n4,n5,n6,n7,n8,n9,cw) at' text);unfold lG;first|(rw [NR (s:=(aj,ak,an,ao,ah,aq,ai,ar)) (n:=(n1,n2,n3,n4,n5,n6,n7,n8,n9,cw)) (a:=at') w2];rfl)|rfl
  ·(show _=nS (aj,ak,an,ao,ah,aq,ai,ar) (n1,n2,n3,n4,n5,n6,n7,n8,n9,cw) at' text);unfold nS;first|(rw [NR (s:=(aj,ak,an,ao,ah,aq,ai,ar)) (n:=(n1,n2,n3,n4,n5,n6,n7,n8,n9,cw)) (a:=at') w2];rfl)|rfl
theorem QD {size:Int}:∀{l:List ByteArray}{k:Nat}{out:ByteArray},out.size≤(txF size l k out).size
 |[],k,out=>ZB5 _
 |x::l,k,out=>by
  have h:=QD (size:=size) (l:=l) (k:=k+1) (out:=out++x++kG (mw size k-x.size))
  rw [ZB2,ZB2] at h
  rw [txF];omega
theorem acp {size:Int}:∀{l:List ByteArray}{k:Nat}{out:ByteArray},size≤12*((k+l.length:Nat):Int)→(out.size:Int)+(size-12*k)≤((txF size l k out).size:Int)
 |[],k,out,h=>by rw [ZA4] at h;show _≤(out.size:Int);omega
 |x::l,k,out,h=>by
  rw [ZA1] at h
  have h1:=acp (size:=size) (l:=l) (k:=k+1) (out:=out++x++kG (mw size k-x.size)) (by omega)
  have h2:=QD (size:=size) (l:=l) (k:=k+1) (out:=out++x++kG (mw size k-x.size))
  have h3:mw size k=min 12 (size-(k:Int)*12):=rfl
  rw [ZB2,ZB2,kV] at h1 h2
  rw [txF];omega
theorem node1 {n:fu}(h:cy n=true) (h1:n.1=1):(cT n).many=bh n.2.2.1 12∧0≤n.2.2.1∧n.2.2.1≤192:=by
 obtain⟨b1,b2,b3,b4,b5,b6,b7,b8,b9⟩:=lh h
 have e:ko n.1=12:=by rw [h1];rfl
 unfold bH at b7
 rw [e] at b7
 cases hi:ik n.2.2.1 0 (16*12) with
 |true=>
  rw [hi] at b7
  exact⟨b7,(cC.1 hi).1,(cC.1 hi).2⟩
 |false=>
  rw [hi] at b7
  have b7:n.2.2.2.2.2.2.2.2.2= -1:=b7
  omega
theorem acs {s:ay}{n:fu}(h:cy n=true) (h1:n.1=1):n.2.2.1≤((jd s n).size:Int):=by
 obtain⟨e,e0,e1⟩:=node1 h h1
 have cG:=nW h
 have hl:=fq (s:=s) cG
 have h2:=acp (size:=n.2.2.1) (l:=bo s (cT n)) (k:=0) (out:=⟨#[]⟩) (by
  rw [hl,e];unfold bh;omega)
 have h3:(((⟨#[]⟩:ByteArray).size:Nat):Int)=0:=rfl
 rw [h3] at h2
 show _≤((txF _ _ _ _).size:Int);omega
theorem HS {n:fu}(h:cy n=true):n.fok:=by
 have:=(lh h).2.2.1
 exact⟨nW h,by omega,by omega⟩
def J8 (c:ay×bf×Bool) (n:fu) (all:ByteArray) (size many:Int):ay×fu×Bool:=
 bif !c.2.2 then (c.1,n,false) else bif decide (many=0) then (c.1,kb n size c.2.1,true) else zw c.1 (kb n size c.2.1) (all.extract 0 size.toNat) (many-1) (many-1)
def jb (s:ay) (n:fu) (size:Int):ay×fu×Bool:=
 bif decide (size≥n.2.2.1) then
  (bif decide (bh size 12=(cT n).many) then (s,kb n size (cT n),true) else
   ((aY s (cT n) (bh size 12-1) ⟨#[]⟩).1,kb n size (aY s (cT n) (bh size 12-1) ⟨#[]⟩).2.1,(aY s (cT n) (bh size 12-1) ⟨#[]⟩).2.2))
 else J8 (cF s (cT n) (bh size 12)) n (jd s n) size (bh size 12)
def yj (S:ay) (n:fu) (size:Int):Prop:=S.wg 1044000∧cy n=true∧n.1=1∧0≤size∧size≤192
def eL (S:ay) (n:fu) (size:Int):AV:=.t [.a (kW 0 1 2 5 6 (jb S n size).1),ndA (jb S n size).2.1,.s (.q (jb S n size).2.2)]
def fL (S:ay) (n:fu) (size:Int):List AV:=[.rs ab (jb S n size).1.rows,.rs ag (jb S n size).1.refs,.rs ag (jb S n size).1.last,.zz,.zz,.rs ae (jb S n size).1.gone,.rs ae (jb S n size).1.dead]
def J2:cn where
 A:=[.a (stB 0 1 2 3 4),.a [.int,.int,.int,.int,.int,.int,.int,.int,.int,.int],.s .int]
 B:=[.r ab,.r ag,.r ag,.r ae,.r ae]
 pre:=λx b=>stW x.1 b∧yj (gP x.1 b) (x.2.1) (x.2.2)
 r:=λx b _=>eL (gP x.1 b) (x.2.1) (x.2.2)
 o:=λx b _=>fL (gP x.1 b) (x.2.1) (x.2.2)
 nf:=2
 mv:=true
theorem adZ:Has Tryz.prog 186 J2:=by
 refine Has.ofZ zT zF zF (l:=[(213,sI),(201,lq),(214,iF),(60,ez),(210,ma),(215,vS)]) ⟨MB,D2,tI,lY,zH,S9,aa⟩ Tryz.func186 ?_
 rintro⟨⟨(AU:Nat),(AT:Nat),(AS:Nat),(ao:Int),(AR:Nat),(aq:Int),(AQ:Nat),(ar:Bool)⟩,⟨(n1:Int),(n2:Int),(n3:Int),(n4:Int),(n5:Int),(n6:Int),(n7:Int),(n8:Int),(n9:Int),(cw:Int)⟩,(size:Int)⟩ ⟨(aj:List ByteArray),(ak:List Int),(an:List Int),(ah:List Pt),(ai:List Pt)⟩ ⟨⟨(gC:AU=List.length aj),(gB:AT=List.length ak),(gA:AS=List.length an),(gz:AR=List.length ah),(gy:AQ=List.length ai)⟩,(hp:yj (aj,ak,an,ao,ah,aq,ai,ar) (n1,n2,n3,n4,n5,n6,n7,n8,n9,cw) size)⟩
 subst gC gB gA gz gy
 show vc _ _ _ _ (entry [.a [.xs 0 1 0 aj.length,.xs 1 1 0 ak.length,.xs 2 1 0 an.length,.int ao,.xs 3 5 0 ah.length,.int aq,.xs 4 5 0 ai.length,.q ar],.a [.int n1,.int n2,.int n3,.int n4,.int n5,.int n6,.int n7,.int n8,.int n9,.int cw],.int size] [.rs ab aj,.rs ag ak,.rs ag an,.rs ae ah,.rs ae ai]) _
 obtain⟨ll,uy,(hn1:n1=1),hs0,hs1⟩:=hp
 have ll:ay.wg (aj,ak,an,ao,ah,aq,ai,ar) 1044000:=ll
 have uy:cy (n1,n2,n3,n4,n5,n6,n7,n8,n9,cw)=true:=uy
 have hf:=HS uy
 have cG:=hf.ok
 have hts:=GA ll.wf.rd hf
 have FL:n3≤((jd (aj,ak,an,ao,ah,aq,ai,ar) (n1,n2,n3,n4,n5,n6,n7,n8,n9,cw)).size:Int):=acs (s:=(aj,ak,an,ao,ah,aq,ai,ar)) uy hn1
 obtain⟨(hm:cw=bh n3 12),(xB:0≤n3),(EW:n3≤192)⟩:=node1 uy hn1
 have hpm:bh size 12=(size+12-1) / 12:=rfl
 have hpn:bh n3 12=(n3+12-1) / 12:=rfl
 have hcu:=FR (many:=bh size 12) ll cG (by omega) (by omega)
 refine⟨⟨⟨⟨⟨?_,?_⟩,⟨?_,?_⟩,⟨?_,?_⟩,aa,⟨?_,?_⟩,aa,⟨?_,?_⟩,tv2⟩,tv11,aa⟩,?_,?_⟩,λx1 w2=>⟨⟨tv3,?_,?_,?_,?_⟩,λx3 w4=>⟨λw5=>⟨⟨?_,?_⟩,⟨tv2,?_⟩,λx6 w7=>⟨?_,λw8=>⟨[.s 3,.b 1003],Sq40,ζ,[.s 4,.b 1004],Sq41,ζ,[.s 6,.s 40,.b 1006],[.b 1006],ζ,[.s 7,.s 41,.b 1007],[.b 1007],ζ,[],Sq8,ζ,?_⟩,λw9=>⟨⟨?_,?_⟩,⟨⟨tv9,tv8,tv3⟩,⟨?_,?_,?_,?_,?_⟩,?_,?_,?_,?_,?_,?_,?_,?_⟩,λ|false=>λdy=>⟨[.s 11,.b 1011],Sq54,ζ,[.s 4,.b 1004],Sq55,ζ,Sq13,Sq56,ζ,[.s 6,.s 54,.b 1006],[.b 1006],ζ,[.s 7,.s 55,.b 1007],[.b 1007],ζ,Sq56,Sq8,ζ,?_⟩ |true=>λkA=>⟨[.s 11,.b 1011],Sq54,ζ,[.s 4,.b 1004],Sq55,ζ,Sq13,Sq56,ζ,[.s 6,.s 54,.b 1006],[.b 1006],ζ,[.s 7,.s 55,.b 1007],[.b 1007],ζ,Sq56,Sq8,ζ,?_⟩⟩⟩⟩,λdJ=>⟨⟨⟨tv9,tv8,tv2⟩,⟨?_,?_,?_,?_,?_⟩,?_,?_,?_,?_,?_,?_⟩,λ|false=>λiU=>⟨λgO=>⟨[.s 3,.b 1003],Sq68,ζ,[.s 4,.b 1004],Sq69,ζ,[.s 6,.s 68,.b 1006],[.b 1006],ζ,[.s 7,.s 69,.b 1007],[.b 1007],ζ,[],Sq8,ζ,?_⟩,λqK=>⟨λkg=>⟨[.s 14,.b 1014],Sq76,ζ,[.s 4,.b 1004],Sq77,ζ,[.s 6,.s 76,.b 1006],[.b 1006],ζ,[.s 7,.s 77,.b 1007],[.b 1007],ζ,[],Sq8,ζ,?_⟩,λxh=>⟨[.s 14,.b 1014],Sq78,ζ,[.s 4,.b 1004],Sq79,ζ,Sq9,Sq80,ζ,Sq2,Sq81,ζ,[.s 80,.s 81],Sq82,ζ,⟨?_,?_,?_⟩,Sq10,Sq83,ζ,Sq83,Sq84,ζ,⟨?_,?_⟩,Sq10,Sq85,ζ,Sq85,Sq86,ζ,⟨?_,?_⟩,[.s 78,.s 79,.s 82,.s 84,.s 86,.b 0,.b 1,.b 2,.b 3,.b 4,.b 1000880001,.b 1000880000],[.s 87,.b 0,.b 1,.b 2,.b 3,.b 4,.b 1000880000,.b 1000880001],ζ,⟨⟨tv9,tv11,tv4⟩,⟨?_,?_,?_,?_,?_⟩,?_,?_,?_,?_,?_,?_,?_⟩,?_,λqH oL=>⟨Sq87,Sq88,ζ,Sq87,Sq89,ζ,Sq87,Sq90,ζ,[.s 6,.s 88,.b 1006],[.b 1006],ζ,[.s 7,.s 89,.b 1007],[.b 1007],ζ,Sq90,Sq8,ζ,?_⟩⟩⟩⟩ |true=>λuI=>⟨λA4=>⟨[.s 3,.b 1003],Sq68,ζ,[.s 4,.b 1004],Sq69,ζ,[.s 6,.s 68,.b 1006],[.b 1006],ζ,[.s 7,.s 69,.b 1007],[.b 1007],ζ,[],Sq8,ζ,?_⟩,λA3=>⟨λxK=>⟨[.s 14,.b 1014],Sq76,ζ,[.s 4,.b 1004],Sq77,ζ,[.s 6,.s 76,.b 1006],[.b 1006],ζ,[.s 7,.s 77,.b 1007],[.b 1007],ζ,[],Sq8,ζ,?_⟩,λrR=>⟨[.s 14,.b 1014],Sq78,ζ,[.s 4,.b 1004],Sq79,ζ,Sq9,Sq80,ζ,Sq2,Sq81,ζ,[.s 80,.s 81],Sq82,ζ,⟨?_,?_,?_⟩,Sq10,Sq83,ζ,Sq83,Sq84,ζ,⟨?_,?_⟩,Sq10,Sq85,ζ,Sq85,Sq86,ζ,⟨?_,?_⟩,[.s 78,.s 79,.s 82,.s 84,.s 86,.b 0,.b 1,.b 2,.b 1000630000,.b 1000630001,.b 1000880001,.b 1000880000],[.s 87,.b 0,.b 1,.b 2,.b 1000630000,.b 1000630001,.b 1000880000,.b 1000880001],ζ,⟨⟨tv9,tv11,tv4⟩,⟨?_,?_,?_,?_,?_⟩,?_,?_,?_,?_,?_,?_,?_⟩,?_,λx25 w26=>⟨Sq87,Sq88,ζ,Sq87,Sq89,ζ,Sq87,Sq90,ζ,[.s 6,.s 88,.b 1006],[.b 1006],ζ,[.s 7,.s 89,.b 1007],[.b 1007],ζ,Sq90,Sq8,ζ,?_⟩⟩⟩⟩⟩⟩⟩⟩
 all_goals first|refine aw ?_|refine ax ?_|exact a8|(dsimp only [sI,qY,lq,kj,iF,jP,ez,fK,ma,mJ,vS,ti,gP];omega)|exact a7|exact ll.wf.rd|exact hf|exact ll.wf|exact cG.rd|exact cG.m1|exact⟨_,rfl⟩|exact ZB0 ll.g (by decide)|exact ZB0 ll.d (by decide)|exact hcu.1.mono (by decide)|exact hcu.2.1|exact ZA7 _|skip
 all_goals first|exact absurd (show true=false from qK) Bool.noConfusion|exact absurd (show false=true from A4) Bool.noConfusion|skip
 ·show (((jd (aj,ak,an,ao,ah,aq,ai,ar) (n1,n2,n3,n4,n5,n6,n7,n8,n9,cw)).size+(kG (size-(jd (aj,ak,an,ao,ah,aq,ai,ar) (n1,n2,n3,n4,n5,n6,n7,n8,n9,cw)).size)).size:Nat):Int)≤imax
  rw [kV];unfold imax;omega
 ·have e:jb (aj,ak,an,ao,ah,aq,ai,ar) (n1,n2,n3,n4,n5,n6,n7,n8,n9,cw) size=((aj,ak,an,ao,ah,aq,ai,ar),kb (n1,n2,n3,n4,n5,n6,n7,n8,n9,cw) size (cT (n1,n2,n3,n4,n5,n6,n7,n8,n9,cw)),true):=by unfold jb;rw [show decide (size≥n3)=true from w5,show decide (bh size 12=cw)=true from w8];rfl
  refine⟨[3,4],[],_,_,_,ζ,az,(),0,aa,?_,?_,ζ⟩
  ·(show _=eL (aj,ak,an,ao,ah,aq,ai,ar) (n1,n2,n3,n4,n5,n6,n7,n8,n9,cw) size);unfold eL;first|(rw [e];rfl)|rfl
  ·(show _=fL (aj,ak,an,ao,ah,aq,ai,ar) (n1,n2,n3,n4,n5,n6,n7,n8,n9,cw) size);unfold fL;first|(rw [e];rfl)|rfl
 ·have hz:(aY (aj,ak,an,ao,ah,aq,ai,ar) (cT (n1,n2,n3,n4,n5,n6,n7,n8,n9,cw)) (bh size 12-1) ⟨#[]⟩).2.2=false:=(show false=(aY (aj,ak,an,ao,ah,aq,ai,ar) (cT (n1,n2,n3,n4,n5,n6,n7,n8,n9,cw)) (bh size 12-1) ⟨#[]⟩).2.2 from dy).symm
  have e:jb (aj,ak,an,ao,ah,aq,ai,ar) (n1,n2,n3,n4,n5,n6,n7,n8,n9,cw) size=((aY (aj,ak,an,ao,ah,aq,ai,ar) (cT (n1,n2,n3,n4,n5,n6,n7,n8,n9,cw)) (bh size 12-1) ⟨#[]⟩).1,kb (n1,n2,n3,n4,n5,n6,n7,n8,n9,cw) size (aY (aj,ak,an,ao,ah,aq,ai,ar) (cT (n1,n2,n3,n4,n5,n6,n7,n8,n9,cw)) (bh size 12-1) ⟨#[]⟩).2.1,(aY (aj,ak,an,ao,ah,aq,ai,ar) (cT (n1,n2,n3,n4,n5,n6,n7,n8,n9,cw)) (bh size 12-1) ⟨#[]⟩).2.2):=by unfold jb;rw [show decide (size≥n3)=true from w5,show decide (bh size 12=cw)=false from w9];rfl
  refine⟨[3,4],[],_,_,_,ζ,az,(),0,aa,?_,?_,ζ⟩
  ·(show _=eL (aj,ak,an,ao,ah,aq,ai,ar) (n1,n2,n3,n4,n5,n6,n7,n8,n9,cw) size);unfold eL;first|(rw [e,hz];rfl)|(rw [e];rfl)|rfl
  ·(show _=fL (aj,ak,an,ao,ah,aq,ai,ar) (n1,n2,n3,n4,n5,n6,n7,n8,n9,cw) size);unfold fL;first|(rw [e,hz];rfl)|(rw [e];rfl)|rfl
 ·have hz:(aY (aj,ak,an,ao,ah,aq,ai,ar) (cT (n1,n2,n3,n4,n5,n6,n7,n8,n9,cw)) (bh size 12-1) ⟨#[]⟩).2.2=true:=(show true=(aY (aj,ak,an,ao,ah,aq,ai,ar) (cT (n1,n2,n3,n4,n5,n6,n7,n8,n9,cw)) (bh size 12-1) ⟨#[]⟩).2.2 from kA).symm
  have e:jb (aj,ak,an,ao,ah,aq,ai,ar) (n1,n2,n3,n4,n5,n6,n7,n8,n9,cw) size=((aY (aj,ak,an,ao,ah,aq,ai,ar) (cT (n1,n2,n3,n4,n5,n6,n7,n8,n9,cw)) (bh size 12-1) ⟨#[]⟩).1,kb (n1,n2,n3,n4,n5,n6,n7,n8,n9,cw) size (aY (aj,ak,an,ao,ah,aq,ai,ar) (cT (n1,n2,n3,n4,n5,n6,n7,n8,n9,cw)) (bh size 12-1) ⟨#[]⟩).2.1,(aY (aj,ak,an,ao,ah,aq,ai,ar) (cT (n1,n2,n3,n4,n5,n6,n7,n8,n9,cw)) (bh size 12-1) ⟨#[]⟩).2.2):=by unfold jb;rw [show decide (size≥n3)=true from w5,show decide (bh size 12=cw)=false from w9];rfl
  refine⟨[1000490000,1000490001],[],_,_,_,ζ,az,(),0,aa,?_,?_,ζ⟩
  ·(show _=eL (aj,ak,an,ao,ah,aq,ai,ar) (n1,n2,n3,n4,n5,n6,n7,n8,n9,cw) size);unfold eL;first|(rw [e,hz];rfl)|(rw [e];rfl)|rfl
  ·(show _=fL (aj,ak,an,ao,ah,aq,ai,ar) (n1,n2,n3,n4,n5,n6,n7,n8,n9,cw) size);unfold fL;first|(rw [e,hz];rfl)|(rw [e];rfl)|rfl
 ·have hz:(cF (aj,ak,an,ao,ah,aq,ai,ar) (cT (n1,n2,n3,n4,n5,n6,n7,n8,n9,cw)) (bh size 12)).2.2=false:=(show false=(cF (aj,ak,an,ao,ah,aq,ai,ar) (cT (n1,n2,n3,n4,n5,n6,n7,n8,n9,cw)) (bh size 12)).2.2 from iU).symm
  have xn:=hcu.2.2 hz
  have e:jb (aj,ak,an,ao,ah,aq,ai,ar) (n1,n2,n3,n4,n5,n6,n7,n8,n9,cw) size=((cF (aj,ak,an,ao,ah,aq,ai,ar) (cT (n1,n2,n3,n4,n5,n6,n7,n8,n9,cw)) (bh size 12)).1,(n1,n2,n3,n4,n5,n6,n7,n8,n9,cw),false):=by unfold jb J8;rw [show decide (size≥n3)=false from dJ,hz];rfl
  refine⟨[3,4],[],_,_,_,ζ,az,(),0,aa,?_,?_,ζ⟩
  ·(show _=eL (aj,ak,an,ao,ah,aq,ai,ar) (n1,n2,n3,n4,n5,n6,n7,n8,n9,cw) size);unfold eL;first|(rw [e];rfl)|(rw [e];exact congrArg (λx=>AV.t [A0.a x,ndA (n1,n2,n3,n4,n5,n6,n7,n8,n9,cw),A0.s (SV.q false)]) (nD (b0:=0) (b1:=1) (b2:=2) (b3:=5) (b4:=6) xn ll.wf))|(rw [e];have h3:=xn.gone;have h4:=xn.dead;exact congr (congrArg (λ(a b:List Pt)=>[AV.rs ab (cF (aj,ak,an,ao,ah,aq,ai,ar) (cT (n1,n2,n3,n4,n5,n6,n7,n8,n9,cw)) (bh size 12)).1.rows,AV.rs ag (cF (aj,ak,an,ao,ah,aq,ai,ar) (cT (n1,n2,n3,n4,n5,n6,n7,n8,n9,cw)) (bh size 12)).1.refs,AV.rs ag (cF (aj,ak,an,ao,ah,aq,ai,ar) (cT (n1,n2,n3,n4,n5,n6,n7,n8,n9,cw)) (bh size 12)).1.last,AV.zz,AV.zz,AV.rs ae a,AV.rs ae b]) h3.symm) h4.symm)|rfl
  ·(show _=fL (aj,ak,an,ao,ah,aq,ai,ar) (n1,n2,n3,n4,n5,n6,n7,n8,n9,cw) size);unfold fL;first|(rw [e];rfl)|(rw [e];exact congrArg (λx=>AV.t [A0.a x,ndA (n1,n2,n3,n4,n5,n6,n7,n8,n9,cw),A0.s (SV.q false)]) (nD (b0:=0) (b1:=1) (b2:=2) (b3:=5) (b4:=6) xn ll.wf))|(rw [e];have h3:=xn.gone;have h4:=xn.dead;exact congr (congrArg (λ(a b:List Pt)=>[AV.rs ab (cF (aj,ak,an,ao,ah,aq,ai,ar) (cT (n1,n2,n3,n4,n5,n6,n7,n8,n9,cw)) (bh size 12)).1.rows,AV.rs ag (cF (aj,ak,an,ao,ah,aq,ai,ar) (cT (n1,n2,n3,n4,n5,n6,n7,n8,n9,cw)) (bh size 12)).1.refs,AV.rs ag (cF (aj,ak,an,ao,ah,aq,ai,ar) (cT (n1,n2,n3,n4,n5,n6,n7,n8,n9,cw)) (bh size 12)).1.last,AV.zz,AV.zz,AV.rs ae a,AV.rs ae b]) h3.symm) h4.symm)|rfl
 ·have hz:(cF (aj,ak,an,ao,ah,aq,ai,ar) (cT (n1,n2,n3,n4,n5,n6,n7,n8,n9,cw)) (bh size 12)).2.2=true:=(show true=(cF (aj,ak,an,ao,ah,aq,ai,ar) (cT (n1,n2,n3,n4,n5,n6,n7,n8,n9,cw)) (bh size 12)).2.2 from uI).symm
  have e:jb (aj,ak,an,ao,ah,aq,ai,ar) (n1,n2,n3,n4,n5,n6,n7,n8,n9,cw) size=((cF (aj,ak,an,ao,ah,aq,ai,ar) (cT (n1,n2,n3,n4,n5,n6,n7,n8,n9,cw)) (bh size 12)).1,kb (n1,n2,n3,n4,n5,n6,n7,n8,n9,cw) size (cF (aj,ak,an,ao,ah,aq,ai,ar) (cT (n1,n2,n3,n4,n5,n6,n7,n8,n9,cw)) (bh size 12)).2.1,true):=by unfold jb J8;rw [show decide (size≥n3)=false from dJ,hz,show decide (bh size 12=0)=true from xK];rfl
  refine⟨[1000630000,1000630001],[],_,_,_,ζ,az,(),0,aa,?_,?_,ζ⟩
  ·(show _=eL (aj,ak,an,ao,ah,aq,ai,ar) (n1,n2,n3,n4,n5,n6,n7,n8,n9,cw) size);unfold eL;first|(rw [e];rfl)|rfl
  ·(show _=fL (aj,ak,an,ao,ah,aq,ai,ar) (n1,n2,n3,n4,n5,n6,n7,n8,n9,cw) size);unfold fL;first|(rw [e];rfl)|rfl
 ·have h1:=aA (p:=size≥n3) dJ
  have h2:=aA (p:=bh size 12=0) rR
  show (bh size 12-1)*12≤(((jd (aj,ak,an,ao,ah,aq,ai,ar) (n1,n2,n3,n4,n5,n6,n7,n8,n9,cw)).extract 0 size.toNat).size:Int)
  rw [ZC5];omega
 ·show ((jd (aj,ak,an,ao,ah,aq,ai,ar) (n1,n2,n3,n4,n5,n6,n7,n8,n9,cw)).extract 0 size.toNat).size≤100000000
  rw [ZC5];omega
 ·have hz:(cF (aj,ak,an,ao,ah,aq,ai,ar) (cT (n1,n2,n3,n4,n5,n6,n7,n8,n9,cw)) (bh size 12)).2.2=true:=(show true=(cF (aj,ak,an,ao,ah,aq,ai,ar) (cT (n1,n2,n3,n4,n5,n6,n7,n8,n9,cw)) (bh size 12)).2.2 from uI).symm
  have e:jb (aj,ak,an,ao,ah,aq,ai,ar) (n1,n2,n3,n4,n5,n6,n7,n8,n9,cw) size=zw (cF (aj,ak,an,ao,ah,aq,ai,ar) (cT (n1,n2,n3,n4,n5,n6,n7,n8,n9,cw)) (bh size 12)).1 (kb (n1,n2,n3,n4,n5,n6,n7,n8,n9,cw) size (cF (aj,ak,an,ao,ah,aq,ai,ar) (cT (n1,n2,n3,n4,n5,n6,n7,n8,n9,cw)) (bh size 12)).2.1) ((jd (aj,ak,an,ao,ah,aq,ai,ar) (n1,n2,n3,n4,n5,n6,n7,n8,n9,cw)).extract 0 size.toNat) (bh size 12-1) (bh size 12-1):=by unfold jb J8;rw [show decide (size≥n3)=false from dJ,hz,show decide (bh size 12=0)=false from rR];rfl
  refine⟨[1000880000,1000880001],[],_,_,_,ζ,az,(),0,aa,?_,?_,ζ⟩
  ·(show _=eL (aj,ak,an,ao,ah,aq,ai,ar) (n1,n2,n3,n4,n5,n6,n7,n8,n9,cw) size);unfold eL;first|(rw [e];rfl)|rfl
  ·(show _=fL (aj,ak,an,ao,ah,aq,ai,ar) (n1,n2,n3,n4,n5,n6,n7,n8,n9,cw) size);unfold fL;first|(rw [e];rfl)|rfl
end GL
namespace GL
structure Rdr (r:List Int×Int) (n:Int):Prop where
 len:r.1.length≤2000
 jK:∀b∈r.1,0≤b∧b≤255
 p0:0≤r.2
 p1:r.2≤n
abbrev byteOf (l:List Int) (k:Nat):Int:=nth mf l k
def ck (r:List Int×Int) (n:Int):Prop:=Rdr r 1000000∧n≤1000000
def dO (r:List Int×Int) (n:Int) (z:Int×Int):Prop:=(z.1=0∨(0≤z.1∧z.1<n))∧z.2=r.2+1
def KQ (r:List Int×Int) (n:Int) (z:Int×Int):AV:=.s (.int z.1)
def OM (r:List Int×Int) (n:Int) (z:Int×Int):List AV:=[.a [.vw mf r.1,.int z.2]]
def ba:cn where
 A:=[.b 0,.s .int]
 B:=[.a [.vw mf,.int]]
 pre:=λx b=>ck b (x.2)
 α:=λ_ _=>Int×Int
 φ:=λx b z=>dO b (x.2) z
 r:=λx b z=>KQ b (x.2) z
 o:=λx b z=>OM b (x.2) z
theorem dh:Has Tryz.prog 58 ba:=by
 refine Has.fm zT zF zF (l:=[]) trivial Tryz.func58 ?_
 rintro⟨_,(n:Int)⟩ ⟨(rb:List Int),(rp:Int)⟩ (hp:ck (rb,rp) n)
 show vc _ _ _ _ (entry [.s (.bp 0 0),.int n] [.a [.vw mf rb,.int rp]]) _
 obtain⟨hr,(hn:n≤1000000)⟩:=hp
 have hp0:0≤rp:=hr.p0
 have hp1:rp≤1000000:=hr.p1
 have hnb:∀k,0≤byteOf rb k∧byteOf rb k≤255:=λk=>by
  by_cases hk:k<rb.length
  ·exact hr.jK _ (bR (ek:=mf) hk)
  ·show 0≤nth mf rb k∧nth mf rb k≤255;unfold nth;rw [ZD8 (by omega)];exact⟨ZC1 _,by decide⟩
 have hlp:decide ((rb.length:Int)=0)=false→0<(rb.length:Int):=λh=>by have:=aA h;omega
 have hnp:decide (n<1)=false→0<n:=λh=>by have:=aA h;omega
 have hnc:∀k,(0:Int)≤nth mf rb k∧(nth mf rb k:Int)≤(255:Int):=hnb
 have c1:=hnc (rp+1-1).toNat
 have c2:=hnc ((rp+1-1) % (rb.length:Int)).toNat
 have c3:=hnc (((rp+1-1)*7+3) % (rb.length:Int)).toNat
 have a1:=hnb (rp+1-1).toNat
 have a2:=hnb ((rp+1-1) % (rb.length:Int)).toNat
 have a3:=hnb (((rp+1-1)*7+3) % (rb.length:Int)).toNat
 have hl2:rb.length≤2000:=hr.len
 have a4:decide ((rb.length:Int)=0)=false→0≤(rp+1-1) / (rb.length:Int)∧(rp+1-1) / (rb.length:Int)≤rp+1-1:=λh=>⟨Int.ediv_nonneg (by omega) (Int.le_of_lt (hlp h)),Int.ediv_le_self _ (by omega)⟩
 refine⟨⟨?_,?_⟩,aa,λw1=>?_,λw2=>⟨λw3=>?_,λw4=>⟨⟨?_,?_⟩,λw5=>⟨⟨?_,?_⟩,⟨?_,?_⟩,⟨?_,?_⟩,?_⟩,λw6=>⟨Sq0,Sq47,ζ,Sq47,Sq48,ζ,Sq48,Sq49,ζ,[.s 49,.b 0],Sq50,ζ,Sq5,Sq51,ζ,Sq0,Sq52,ζ,Sq52,Sq53,ζ,Sq53,Sq54,ζ,[.s 54,.b 0],Sq55,ζ,Sq55,Sq56,ζ,[.s 51,.s 56],Sq57,ζ,⟨?_,?_⟩,[.s 50,.s 57],Sq58,ζ,⟨?_,?_⟩,Sq58,Sq59,ζ,Sq59,Sq60,ζ,⟨?_,?_⟩,Sq60,Sq61,ζ,⟨?_,?_⟩,Sq0,Sq62,ζ,Sq62,Sq63,ζ,Sq63,Sq64,ζ,[.s 64,.b 0],Sq65,ζ,Sq5,Sq66,ζ,Sq66,Sq67,ζ,⟨?_,?_⟩,Sq67,Sq68,ζ,⟨?_,?_⟩,Sq0,Sq69,ζ,Sq69,Sq70,ζ,Sq70,Sq71,ζ,[.s 71,.b 0],Sq72,ζ,Sq72,Sq73,ζ,[.s 68,.s 73],Sq74,ζ,⟨?_,?_⟩,[.s 65,.s 74],Sq75,ζ,⟨?_,?_⟩,Sq75,Sq76,ζ,Sq76,Sq77,ζ,⟨?_,?_⟩,Sq77,Sq78,ζ,⟨?_,?_⟩,[.s 61,.s 78],Sq79,ζ,⟨?_,?_⟩,Sq5,Sq80,ζ,Sq80,Sq81,ζ,⟨?_,?_⟩,[.s 79,.s 81],Sq82,ζ,⟨?_,?_⟩,Sq5,Sq83,ζ,Sq0,Sq84,ζ,Sq84,Sq85,ζ,Sq85,Sq86,ζ,[.s 86,.b 0],Sq87,ζ,Sq87,Sq88,ζ,[.s 83,.s 88],Sq89,ζ,⟨?_,?_,?_⟩,Sq89,Sq90,ζ,⟨?_,?_⟩,[.s 82,.s 90],Sq91,ζ,⟨?_,?_⟩,Sq91,Sq6,ζ,⟨?_,?_,?_⟩,⟨?_,?_,?_,?_⟩,⟨?_,?_⟩,?_⟩⟩⟩⟩
 all_goals first|refine aw ?_|refine ax ?_|exact a8|exact a7|exact Int.emod_nonneg _ (Int.ne_of_gt (hlp w4))|exact Int.emod_lt_of_pos _ (hlp w4)|(simp only [gK,imax];omega)|(simp only [gK,imax];have:=a4 w4;omega)|exact a1.1|exact aJ w5|exact ZE0 a1.2 (by decide)|exact ZE0 a2.2 (by decide)|exact ZE0 a3.2 (by decide)|(show byteOf rb ((rp+1-1) % (rb.length:Int)).toNat*131≤imax;unfold imax;omega)|(show byteOf rb (((rp+1-1)*7+3) % (rb.length:Int)).toNat*1117≤imax;unfold imax;omega)|(show byteOf rb ((rp+1-1) % (rb.length:Int)).toNat*131+byteOf rb (((rp+1-1)*7+3) % (rb.length:Int)).toNat*1117≤imax;unfold imax;omega)|(have:=a4 w4;show (byteOf rb ((rp+1-1) % (rb.length:Int)).toNat*131+byteOf rb (((rp+1-1)*7+3) % (rb.length:Int)).toNat*1117+(rp+1-1)*29+(rp+1-1) / (rb.length:Int)*53) / 64≤imax;unfold imax;omega)|skip
 ·refine⟨[],[],_,_,_,ζ,cf,(0,rp+1),⟨.inl rfl,ζ⟩,ζ,ζ,ζ⟩
 ·refine⟨[],[],_,_,_,ζ,cf,(0,rp+1),⟨.inl rfl,ζ⟩,ζ,ζ,ζ⟩
 ·refine⟨[],[],_,_,_,ζ,cf,(byteOf rb (rp+1-1).toNat % n,rp+1),⟨.inr ⟨Int.emod_nonneg _ (Int.ne_of_gt (hnp w2)),Int.emod_lt_of_pos _ (hnp w2)⟩,ζ⟩,ζ,ζ,ζ⟩
 all_goals first
  |(have:=a4 w4;have h:(byteOf rb ((rp+1-1) % (rb.length:Int)).toNat*131+byteOf rb (((rp+1-1)*7+3) % (rb.length:Int)).toNat*1117+(rp+1-1)*29+(rp+1-1) / (rb.length:Int)*53)≤imax:=by unfold imax;omega
    exact h)
  |(have:=a4 w4;have h:(byteOf rb ((rp+1-1) % (rb.length:Int)).toNat*131+byteOf rb (((rp+1-1)*7+3) % (rb.length:Int)).toNat*1117+(rp+1-1)*29+(rp+1-1) / (rb.length:Int)*53) / 64≤imax:=by unfold imax;omega
    exact h)
  |(have h:byteOf rb ((rp+1-1) % (rb.length:Int)).toNat*131+byteOf rb (((rp+1-1)*7+3) % (rb.length:Int)).toNat*1117+(rp+1-1)*29≤imax:=by unfold imax;omega
    exact h)
  |skip
 ·have hx:=hnp w2
  refine⟨[],[],_,_,_,ζ,az,(_,rp+1),⟨.inr ⟨?_,?_⟩,ζ⟩,ζ,ζ,ζ⟩
  ·exact Int.emod_nonneg _ (Int.ne_of_gt hx)
  ·exact Int.emod_lt_of_pos _ hx
def ie (r:List Int×Int) (n:Int):Prop:=Rdr r 990000∧0≤n∧n≤100
def fg (r:List Int×Int) (n:Int) (z:ByteArray×Int):Prop:=(z.1.size:Int)≤n∧r.2≤z.2∧z.2≤r.2+1000
def QY (r:List Int×Int) (n:Int) (z:ByteArray×Int):AV:=.s (.str z.1)
def VY (r:List Int×Int) (n:Int) (z:ByteArray×Int):List AV:=[.a [.vw mf r.1,.int z.2]]
def cS:cn where
 A:=[.b 0,.s .int]
 B:=[.a [.vw mf,.int]]
 pre:=λx b=>ie b (x.2)
 α:=λ_ _=>ByteArray×Int
 φ:=λx b z=>fg b (x.2) z
 r:=λx b z=>QY b (x.2) z
 o:=λx b z=>VY b (x.2) z
theorem pc:Has Tryz.prog 61 cS:=by
 refine Has.fm (λd=> !(Nat.beq d 40)) zF zF (l:=[(58,ba)]) ⟨dh,aa⟩ Tryz.func61 ?_
 rintro⟨_,(n:Int)⟩ ⟨(rb:List Int),(rp:Int)⟩ (hp:ie (rb,rp) n)
 show vc _ _ _ _ (entry [.s (.bp 0 0),.int n] [.a [.vw mf rb,.int rp]]) _
 obtain⟨hr,(hn0:0≤n),(hn1:n≤100)⟩:=hp
 have hp0:0≤rp:=hr.p0
 have hp1:rp≤990000:=hr.p1
 have dF:∀p:Int,0≤p→p≤1000000→Rdr (rb,p) 1000000:=λp h0 h1=>⟨hr.len,hr.jK,h0,h1⟩
 refine⟨aa,⟨?_,?_⟩,⟨tv3,?_,?_⟩,λx1 w2=>⟨⟨tv3,?_,?_⟩,λx3 w4=>?_⟩⟩
 all_goals first|refine aw ?_|refine ax ?_|exact a8|(dsimp only [ba,ck];omega)|exact a7|skip
 ·exact dF rp hp0 (by omega)
 ·have e1:x1.2=rp+1:=w2.2
  exact dF x1.2 (by omega) (by omega)
 ·obtain⟨mv,p1⟩:=x1
  obtain⟨kv,p2⟩:=x3
  have e1:p1=rp+1:=w2.2
  have e2:p2=p1+1:=w4.2
  have hm:mv=0∨(0≤mv∧mv<n+1):=w2.1
  refine cN (l:=[(58,ba)]) (ex:=λd=> !(Nat.beq d 40)) (wr:=zF) (pt:=zF) ⟨dh,trivial⟩ [.s 0,.s 1,.s 6,.s 7] (λy:List Int×Int=>[(.s 5,.s (.xs 1010 1 0 y.1.length)),(.b 1010,.rs mf y.1),(.b 0,.a [.vw mf rb,.int y.2])]) (λy=>y.1.length≤mv.toNat∧rp≤y.2∧y.2≤rp+2+3*(y.1.length:Int)) (λy=>mv.toNat-y.1.length) ([],p2) [] ⟨ZA7 _,by show rp≤p2;omega,by show p2≤rp+2+3*((0:Nat):Int);omega⟩ dM ?_
  rintro⟨out,p⟩ ⟨(ho:out.length≤mv.toNat),(hq0:rp≤p),(hq1:p≤rp+2+3*(out.length:Int))⟩
  refine⟨λw1=>⟨λw2=>⟨⟨tv3,?_,?_⟩,λx3 w4=>⟨⟨?_,?_⟩,aa,⟨⟨?_,?_⟩,?_,?_⟩,?_⟩⟩,λw5=>⟨λw6=>⟨⟨aa,⟨?_,?_⟩,⟨?_,?_⟩,⟨?_,?_⟩,⟨?_,?_⟩,⟨?_,?_⟩,⟨?_,?_⟩,⟨?_,?_⟩,aa⟩,?_,⟨tv3,?_,?_⟩,λx7 w8=>⟨⟨?_,?_⟩,aa,λx9 dy=>⟨aa,⟨⟨?_,?_⟩,?_,?_⟩,?_⟩⟩⟩,λkA=>⟨λdJ=>⟨⟨tv3,?_,?_⟩,λrW gO=>⟨⟨?_,?_⟩,⟨?_,?_⟩,⟨tv3,?_,?_⟩,λky kg=>?_⟩⟩,λxh=>⟨⟨tv3,?_,?_⟩,λqH oL=>⟨⟨?_,?_⟩,⟨?_,?_⟩,aa,⟨⟨?_,?_⟩,?_,?_⟩,?_⟩⟩⟩⟩⟩,λuI=>⟨⟨?_,?_⟩,?_⟩⟩
  all_goals first|refine aw ?_|refine ax ?_|exact a8|(dsimp only [ba,ck];omega)|exact a7|exact dF p (by omega) (by omega)|decide|skip
  ·have h:x3.1=0∨(0≤x3.1∧x3.1<256):=w4.1
   show 0≤x3.1;omega
  ·have h:x3.1=0∨(0≤x3.1∧x3.1<256):=w4.1
   show x3.1≤255;omega
  ·have hl:=aJ (p:=(out.length:Int)<mv) w1
   have e3:x3.2=p+1:=w4.2
   have hlen:(out++[x3.1]).length=out.length+1:=by rw [ZA0];rfl
   refine⟨(out++[x3.1],x3.2),[(1010,1036)],?_,?_,?_⟩
   rotate_right
   ·exact bV
   ·exact⟨by show (out++[x3.1]).length≤mv.toNat;omega,by show rp≤x3.2;omega,by show x3.2≤rp+2+3*((out++[x3.1]).length:Int);omega⟩
   ·show mv.toNat-(out++[x3.1]).length<mv.toNat-out.length;omega
  ·have h:x7.1=0∨(0≤x7.1∧x7.1<7):=w8.1
   show 0≤x7.1;omega
  ·have h:x7.1=0∨(0≤x7.1∧x7.1<7):=w8.1
   show x7.1<7;omega
  ·have hl:=aJ (p:=(out.length:Int)<mv) w1
   have e3:x7.2=p+1:=w8.2
   have hlen:(out++[x9]).length=out.length+1:=by rw [ZA0];rfl
   refine⟨(out++[x9],x7.2),[(1010,1047)],?_,?_,?_⟩
   rotate_right
   ·exact bV
   ·exact⟨by show (out++[x9]).length≤mv.toNat;omega,by show rp≤x7.2;omega,by show x7.2≤rp+2+3*((out++[x9]).length:Int);omega⟩
   ·show mv.toNat-(out++[x9]).length<mv.toNat-out.length;omega
  ·have h:rW.1=0∨(0≤rW.1∧rW.1<3):=gO.1
   show gK≤97+rW.1;unfold gK;omega
  ·have h:rW.1=0∨(0≤rW.1∧rW.1<3):=gO.1
   show 97+rW.1≤imax;unfold imax;omega
  ·have h:rW.1=0∨(0≤rW.1∧rW.1<3):=gO.1
   show 0≤97+rW.1;omega
  ·have h:rW.1=0∨(0≤rW.1∧rW.1<3):=gO.1
   show 97+rW.1≤255;omega
  ·have e3:rW.2=p+1:=gO.2
   exact dF rW.2 (by omega) (by omega)
  ·have hl:=aJ (p:=(out.length:Int)<mv) w1
   have e3:rW.2=p+1:=gO.2
   have e4:ky.2=rW.2+1:=kg.2
   have h5:ky.1=0∨(0≤ky.1∧ky.1<6):=kg.1
   refine cN (l:=[(58,ba)]) (ex:=λd=> !(Nat.beq d 40)) (wr:=zF) (pt:=zF) ⟨dh,trivial⟩ [.s 0,.s 1,.s 6,.s 7,.s 8,.b 0] (λy:List Int×Int=>[(.s 5,.s (.xs 1010 1 0 y.1.length)),(.s 9,.int y.2),(.b 1010,.rs mf y.1)]) (λy=>y.1.length≤mv.toNat∧(out.length+1≤y.1.length∨(y.1.length=out.length∧0≤y.2))∧-1≤y.2∧y.2≤6) (λy=>(y.2+1).toNat) (out,ky.1) [] ⟨ho,.inr ⟨rfl,by show 0≤ky.1;omega⟩,by show -1≤ky.1;omega,by show ky.1≤6;omega⟩ dM ?_
   rintro⟨o2,k⟩ ⟨(g1:o2.length≤mv.toNat),(g2:out.length+1≤o2.length∨(o2.length=out.length∧0≤k)),(g3: -1≤k),(g4:k≤6)⟩
   have hlen:∀z:Int,(o2++[z]).length=o2.length+1:=λz=>by rw [ZA0];rfl
   refine⟨aa,λw1=>⟨λw2=>⟨aa,⟨⟨?_,?_⟩,?_,?_⟩,⟨?_,?_⟩,?_⟩,λw3=>?_⟩,λw4=>?_⟩
   all_goals first|refine aw ?_|refine ax ?_|exact a8|(dsimp only [ba,ck];omega)|exact a7|skip
   ·have hm2:=aJ (p:=(o2.length:Int)<mv) w2
    have hk2:=aJ (p:=k≥0) w1
    have hle:=hlen (97+rW.1)
    refine⟨(o2++[97+rW.1],k-1),[(1010,1069)],?_,?_,?_⟩
    rotate_right
    ·exact bV
    ·exact⟨by show (o2++[97+rW.1]).length≤mv.toNat;omega,.inl (by show out.length+1≤(o2++[97+rW.1]).length;omega),by show -1≤k-1;omega,by show k-1≤6;omega⟩
    ·show (k-1+1).toNat<(k+1).toNat;omega
   ·have hm2:=aA (p:=(o2.length:Int)<mv) w3
    have hg:out.length+1≤o2.length:=by omega
    refine⟨(o2,ky.2),[],?_,?_,?_⟩
    rotate_right
    ·exact bV
    ·exact⟨by show (o2).length≤mv.toNat;omega,by show rp≤ky.2;omega,by show ky.2≤rp+2+3*((o2).length:Int);omega⟩
    ·show mv.toNat-(o2).length<mv.toNat-out.length;omega
   ·have hk2:=aA (p:=k≥0) w4
    have hg:out.length+1≤o2.length:=by omega
    refine⟨(o2,ky.2),[],?_,?_,?_⟩
    rotate_right
    ·exact bV
    ·exact⟨by show (o2).length≤mv.toNat;omega,by show rp≤ky.2;omega,by show ky.2≤rp+2+3*((o2).length:Int);omega⟩
    ·show mv.toNat-(o2).length<mv.toNat-out.length;omega
  ·have h:qH.1=0∨(0≤qH.1∧qH.1<2):=oL.1
   show gK≤qH.1*97;unfold gK;omega
  ·have h:qH.1=0∨(0≤qH.1∧qH.1<2):=oL.1
   show qH.1*97≤imax;unfold imax;omega
  ·have h:qH.1=0∨(0≤qH.1∧qH.1<2):=oL.1
   show 0≤qH.1*97;omega
  ·have h:qH.1=0∨(0≤qH.1∧qH.1<2):=oL.1
   show qH.1*97≤255;omega
  ·have hl:=aJ (p:=(out.length:Int)<mv) w1
   have e3:qH.2=p+1:=oL.2
   have hlen:(out++[qH.1*97]).length=out.length+1:=by rw [ZA0];rfl
   refine⟨(out++[qH.1*97],qH.2),[(1010,1028)],?_,?_,?_⟩
   rotate_right
   ·exact bV
   ·exact⟨by show (out++[qH.1*97]).length≤mv.toNat;omega,by show rp≤qH.2;omega,by show qH.2≤rp+2+3*((out++[qH.1*97]).length:Int);omega⟩
   ·show mv.toNat-(out++[qH.1*97]).length<mv.toNat-out.length;omega
  ·have hl:=aA (p:=(out.length:Int)<mv) (by assumption)
   have hs:(fa out).size=out.length:=by rw [fa,nC];simp
   refine⟨[],[],_,_,_,ζ,cf,(fa out,p),⟨by show ((fa out).size:Int)≤n;omega,hq0,by show p≤rp+1000;omega⟩,ζ,ζ,ζ⟩
end GL
namespace GL
theorem Rdr.at {r:List Int×Int}{n m p:Int}(h:Rdr r n) (h0:0≤p) (h1:p≤m):Rdr (r.1,p) m:=⟨h.len,h.jK,h0,h1⟩
theorem pk {z:Int×Int}{n p:Int}(hn:0<n) (h:(z.1=0∨(0≤z.1∧z.1<n))∧z.2=p+1):0≤z.1∧z.1<n:=by
 rcases h.1 with h |h
 ·rw [h];exact⟨ZC1 _,hn⟩
 ·exact h
theorem FC {ek:EK}{l:List (EK.Ty ek)}{P:EK.Ty ek→Prop}(h0:P (EK.zero ek)) (h:∀x∈l,P x) (k:Nat):P (nth ek l k):=by
 by_cases hk:k<l.length
 ·exact h _ (bR hk)
 ·unfold nth;rw [ZD8 (by omega)];exact h0
def yd (r:List Int×Int):Prop:=Rdr r 990000
def VP (r:List Int×Int) (z:Int×Int):Prop:=(-1≤z.1∧z.1≤64)∧r.2≤z.2∧z.2≤r.2+2
def U8 (r:List Int×Int) (z:Int×Int):AV:=.s (.int z.1)
def aa5 (r:List Int×Int) (z:Int×Int):List AV:=[.a [.vw mf r.1,.int z.2]]
def JV:cn where
 A:=[.b 0]
 B:=[.a [.vw mf,.int]]
 pre:=λx b=>yd b
 α:=λ_ _=>Int×Int
 φ:=λx b z=>VP b z
 r:=λx b z=>U8 b z
 o:=λx b z=>aa5 b z
theorem adQ:Has Tryz.prog 147 JV:=by
 refine Has.fm zT zF zF (l:=[(58,ba)]) ⟨dh,aa⟩ Tryz.func147 ?_
 rintro _ ⟨(rb:List Int),(rp:Int)⟩ (hp:yd (rb,rp))
 show vc _ _ _ _ (entry [.s (.bp 0 0)] [.a [.vw mf rb,.int rp]]) _
 have hr:Rdr (rb,rp) 990000:=hp
 have hp0:0≤rp:=hr.p0
 have hp1:rp≤990000:=hr.p1
 refine⟨⟨tv3,?_,?_⟩,λx1 w2=>⟨λw3=>⟨aa,⟨tv3,?_,?_⟩,λx4 w5=>⟨⟨?_,?_⟩,?_,?_⟩⟩,λw6=>⟨⟨tv3,?_,?_⟩,λx7 w8=>⟨⟨?_,?_⟩,?_⟩⟩⟩⟩
 all_goals first|refine aw ?_|refine ax ?_|exact a8|(dsimp only [ba,ck];omega)|exact a7|(have e:x1.2=rp+1:=w2.2;exact hr.at (by omega) (by omega))|exact hr.at hp0 (by omega)|exact (pk (by decide) w5).1|exact (pk (by decide) w5).2|(show x4.1.toNat<6;have h:=pk (n:=6) (by decide) w5;omega)|(show (-9223372036854775808:Int)≤8+x7.1;have h:=pk (n:=12) (by decide) w8;omega)|(show 8+x7.1≤(9223372036854775807:Int);have h:=pk (n:=12) (by decide) w8;omega)|skip
 ·have e1:x1.2=rp+1:=w2.2
  have e2:x4.2=x1.2+1:=w5.2
  refine⟨[],[],_,_,_,ζ,cf,(nth ag [-1,0,3,7,64,63] x4.1.toNat,x4.2),⟨FC (ek:=ag) (P:=λx:Int=> -1≤x∧x≤64) (by decide) (by decide) _,by show rp≤x4.2;omega,by show x4.2≤rp+2;omega⟩,ζ,ζ,ζ⟩
 ·have e1:x1.2=rp+1:=w2.2
  have e2:x7.2=x1.2+1:=w8.2
  have h:=pk (n:=12) (by decide) w8
  refine⟨[],[],_,_,_,ζ,cf,(8+x7.1,x7.2),⟨⟨by show -1≤8+x7.1;omega,by show 8+x7.1≤64;omega⟩,by show rp≤x7.2;omega,by show x7.2≤rp+2;omega⟩,ζ,ζ,ζ⟩
def ahm:List ByteArray:=[⟨#[]⟩,⟨#[97]⟩,⟨#[47,47]⟩,⟨#[47,97,47]⟩,⟨#[47,65]⟩,⟨#[47,97,47,98,47,99,47,97,47,98]⟩,⟨#[47,97,98,99,100,101]⟩,⟨#[47,97,47,47,98]⟩]
def ahl:List ByteArray:=[⟨#[47,97]⟩,⟨#[47,98]⟩,⟨#[47,97,47,98]⟩,⟨#[47,97,47,99]⟩,⟨#[47,98,47,97]⟩,⟨#[47,99]⟩,⟨#[47,97,47,98,47,99]⟩,⟨#[47,99,47,97]⟩,⟨#[47,97,98]⟩,⟨#[47]⟩]
def vb (r:List Int×Int):Prop:=Rdr r 990000
def jm (r:List Int×Int) (z:ByteArray×Int):Prop:=z.1.size≤12∧r.2≤z.2∧z.2≤r.2+2
def QX (r:List Int×Int) (z:ByteArray×Int):AV:=.s (.str z.1)
def VW (r:List Int×Int) (z:ByteArray×Int):List AV:=[.a [.vw mf r.1,.int z.2]]
def jZ:cn where
 A:=[.b 0]
 B:=[.a [.vw mf,.int]]
 pre:=λx b=>vb b
 α:=λ_ _=>ByteArray×Int
 φ:=λx b z=>jm b z
 r:=λx b z=>QX b z
 o:=λx b z=>VW b z
theorem abH:Has Tryz.prog 138 jZ:=by
 refine Has.fm zT zF zF (l:=[(58,ba)]) ⟨dh,aa⟩ Tryz.func138 ?_
 rintro _ ⟨(rb:List Int),(rp:Int)⟩ (hp:vb (rb,rp))
 show vc _ _ _ _ (entry [.s (.bp 0 0)] [.a [.vw mf rb,.int rp]]) _
 have hr:Rdr (rb,rp) 990000:=hp
 have hp0:0≤rp:=hr.p0
 have hp1:rp≤990000:=hr.p1
 refine⟨⟨tv3,?_,?_⟩,λx1 w2=>⟨λw3=>⟨aa,⟨tv3,?_,?_⟩,λx4 w5=>⟨⟨?_,?_⟩,?_,?_⟩⟩,λw6=>⟨aa,⟨tv3,?_,?_⟩,λx7 w8=>⟨⟨?_,?_⟩,?_,?_⟩⟩⟩⟩
 all_goals first|refine aw ?_|refine ax ?_|exact a8|(dsimp only [ba,ck];omega)|exact a7|(have e:x1.2=rp+1:=w2.2;exact hr.at (by omega) (by omega))|exact hr.at hp0 (by omega)|exact (pk (by decide) w5).1|exact (pk (by decide) w5).2|exact (pk (by decide) w8).1|exact (pk (by decide) w8).2|(show x4.1.toNat<8;have h:=pk (n:=8) (by decide) w5;omega)|(show x7.1.toNat<10;have h:=pk (n:=10) (by decide) w8;omega)|skip
 ·have e1:x1.2=rp+1:=w2.2
  have e2:x4.2=x1.2+1:=w5.2
  refine⟨[],[],_,_,_,ζ,cf,(nth ab ahm x4.1.toNat,x4.2),⟨FC (ek:=ab) (P:=λx:ByteArray=>x.size≤12) (by decide) (by decide) _,by show rp≤x4.2;omega,by show x4.2≤rp+2;omega⟩,ζ,ζ,ζ⟩
 ·have e1:x1.2=rp+1:=w2.2
  have e2:x7.2=x1.2+1:=w8.2
  refine⟨[],[],_,_,_,ζ,cf,(nth ab ahl x7.1.toNat,x7.2),⟨FC (ek:=ab) (P:=λx:ByteArray=>x.size≤12) (by decide) (by decide) _,by show rp≤x7.2;omega,by show x7.2≤rp+2;omega⟩,ζ,ζ,ζ⟩
def yf (s:ByteArray) (n:Int):Prop:=s.size≤1000∧0≤n∧n≤1000
def kL (s:ByteArray) (n:Int) (z:ByteArray):Prop:=z.size=s.size*n.toNat
def VG (s:ByteArray) (n:Int) (z:ByteArray):AV:=.s (.str z)
def abd (s:ByteArray) (n:Int) (z:ByteArray):List AV:=[]
def mb:cn where
 A:=[.s .str,.s .int]
 B:=[]
 pre:=λx b=>yf (x.1) (x.2)
 α:=λ_ _=>ByteArray
 φ:=λx b z=>kL (x.1) (x.2) z
 r:=λx b z=>VG (x.1) (x.2) z
 o:=λx b z=>abd (x.1) (x.2) z
theorem adU:Has Tryz.prog 139 mb:=by
 refine Has.fm zT zF zF (l:=[]) trivial Tryz.func139 ?_
 rintro⟨(s:ByteArray),(n:Int)⟩ _ (hp:yf s n)
 show vc _ _ _ _ (entry [.str s,.int n] []) _
 obtain⟨hs,(h0:0≤n),(h1:n≤1000)⟩:=hp
 have hb:s.size*n.toNat≤1000000:=ZB0 (Nat.mul_le_mul hs (show n.toNat≤1000 by omega)) (by decide)
 refine ?_
 all_goals first|refine aw ?_|refine ax ?_|exact a8|exact a7|skip
 refine cN (l:=[]) (ex:=zT) (wr:=zF) (pt:=zF) trivial [] (λy:ByteArray×Int×ByteArray=>[(.s 0,.str y.1),(.s 1,.int y.2.1),(.s 5,.str y.2.2)]) (λy=>0≤y.2.1∧y.2.1≤1000∧y.2.2.size+y.1.size*y.2.1.toNat=s.size*n.toNat) (λy=>y.2.1.toNat) (s,n,⟨#[]⟩) [] ⟨h0,h1,by show 0+s.size*n.toNat=s.size*n.toNat;omega⟩ dM ?_
 rintro⟨t,m,out⟩ ⟨(g0:0≤m),(g1:m≤1000),(g2:out.size+t.size*m.toNat=s.size*n.toNat)⟩
 have hm:decide (m>0)=true→t.size≤1000000:=λh=>by
  have h3:=aJ h
  have:t.size*1≤t.size*m.toNat:=Nat.mul_le_mul_left _ (by omega)
  omega
 have ho:out.size≤1000000:=by omega
 have e2:∀q:Nat,t.size*(2*q)=(t.size+t.size)*q:=λq=>by rw [Nat.mul_comm 2 q,←Nat.mul_assoc,ZE3];omega
 refine⟨λw1=>⟨⟨?_,?_⟩,⟨λw2=>⟨?_,⟨?_,⟨⟨?_,⟨?_,?_⟩⟩,?_⟩⟩⟩,λw3=>⟨?_,⟨⟨?_,⟨?_,?_⟩⟩,?_⟩⟩⟩⟩,λw4=>?_⟩
 all_goals first|refine aw ?_|refine ax ?_|exact a8|exact a7|(show ((out.size+t.size:Nat):Int)≤9223372036854775807;have:=hm w1;omega)|(show ((t.size+t.size:Nat):Int)≤9223372036854775807;have:=hm w1;omega)|skip
 ·have h1:=aJ (p:=m>0) w1
  have h2:=aJ (p:=m % 2=1) w2
  have e:m.tdiv 2=m / 2:=Int.tdiv_eq_ediv_of_nonneg g0
  refine⟨(t++t,m / 2,out++t),[],?_,?_,?_⟩
  rotate_right
  ·exact bV
  ·refine⟨by show 0≤m / 2;omega,by show m / 2≤1000;omega,?_⟩
   show (out++t).size+(t++t).size*(m / 2).toNat=_
   rw [ZB2,ZB2,←g2,←e2,show m.toNat=2*(m / 2).toNat+1 by omega,Nat.mul_add];omega
  ·show (m / 2).toNat<m.toNat;omega
 ·have h1:=aJ (p:=m>0) w1
  have h2:=aA (p:=m % 2=1) w3
  refine⟨(t++t,m / 2,out),[],?_,?_,?_⟩
  rotate_right
  ·exact bV
  ·refine⟨by show 0≤m / 2;omega,by show m / 2≤1000;omega,?_⟩
   show out.size+(t++t).size*(m / 2).toNat=_
   rw [ZB2,←g2,←e2,show m.toNat=2*(m / 2).toNat by omega]
  ·show (m / 2).toNat<m.toNat;omega
 ·have h1:=aA (p:=m>0) w4
  refine⟨[],[],_,_,_,ζ,cf,out,show out.size=s.size*n.toNat by rw [←g2,show m.toNat=0 by omega];omega,ζ,ζ,ζ⟩
