/- A drawn law returns true for every code (its row lists package variables, tied by the card): part 32. -/
import Derived.Test.YtclcgjhhehbdeaaGreatDoorPay
import Derived.Test.YtclcgjhhehbdeaaGreatDoorPbd
import Derived.Test.YtclcgjhhehbdeaaGreatDoorPbe
set_option maxHeartbeats 20000000
set_option maxRecDepth 100000
set_option linter.all false
namespace Go.Proofs.YtclcgjhhehbdeaaGreatDoor
namespace GL
theorem QL {α:Type}(l:List α):(l.drop 0).take l.length=l:=by simp
def bJ (s:ay) (n:ft):List eS×Bool:=
 bif !(cy n)||(decide (n.1≠2)|| !(qF s (cT n))) then ([],false) else
 bif !(c7 s (cT n)).2||decide (((c7 s (cT n)).1.size:Int)≠n.2.2.1) then ([],false) else cP (c7 s (cT n)).1
theorem aeF {s:ay}{n:ft}(h:(!(cy n))=true):bJ s n=([],false):=by unfold bJ;rw [h];rfl
theorem aeE {s:ay}{n:ft}(h:decide (n.1≠2)=true):bJ s n=([],false):=by unfold bJ;rw [h,Bool.true_or,ZC4];rfl
theorem aeD {s:ay}{n:ft}(h:(!(qF s (cT n)))=true):bJ s n=([],false):=by unfold bJ;rw [h,ZC4,ZC4];rfl
theorem aeC {s:ay}{n:ft}(h:(!(c7 s (cT n)).2)=true):bJ s n=([],false):=by
 unfold bJ
 cases !(cy n)||(decide (n.1≠2)|| !(qF s (cT n))) with
 |true=>rfl
 |false=>rw [h];rfl
theorem aeB {s:ay}{n:ft}(h:decide (((c7 s (cT n)).1.size:Int)≠n.2.2.1)=true):bJ s n=([],false):=by
 unfold bJ
 cases !(cy n)||(decide (n.1≠2)|| !(qF s (cT n))) with
 |true=>rfl
 |false=>rw [h,ZC4];rfl
theorem aeA {s:ay}{n:ft}(h1:(!(cy n))=false) (h2:decide (n.1≠2)=false) (h3:(!(qF s (cT n)))=false) (h4:(!(c7 s (cT n)).2)=false) (h5:decide (((c7 s (cT n)).1.size:Int)≠n.2.2.1)=false):bJ s n=cP (c7 s (cT n)).1:=by
 unfold bJ;rw [h1,h2,h3,h4,h5];rfl
def jj (S:ay) (n:ft):Prop:=S.rd
def cQ (S:ay) (n:ft):AV:=.t [.s (.vw aK (bJ S n).1),.s (.q (bJ S n).2)]
def KP (S:ay) (n:ft):List AV:=[]
def iC:cn where
 A:=[.a xq,.a [.int,.int,.int,.int,.int,.int,.int,.int,.int,.int]]
 B:=[]
 pre:=fun x b=>jj (x.1) (x.2)
 r:=fun x b _=>cQ (x.1) (x.2)
 o:=fun x b _=>KP (x.1) (x.2)
theorem tD:Has Tryz.prog 176 iC:=by
 refine Has.fl zT zF zF (l:=[(127,qA),(23,JQ),(71,PQ),(193,ue)]) ⟨IJ,adJ,afP,PE,aa⟩ Tryz.func176 ?_
 rintro⟨⟨(aj:List ByteArray),(ak:List Int),(an:List Int),(ao:Int),(ah:List Pt),(aq:Int),(ai:List Pt),(ar:Bool)⟩,⟨(n1:Int),(n2:Int),(n3:Int),(n4:Int),(n5:Int),(n6:Int),(n7:Int),(n8:Int),(n9:Int),(cw:Int)⟩⟩ _ (hp:jj (aj,ak,an,ao,ah,aq,ai,ar) (n1,n2,n3,n4,n5,n6,n7,n8,n9,cw))
 show vc _ _ _ _ (entry [.a [.vz ab aj,.vz ag ak,.vz ag an,.int ao,.vz ae ah,.int aq,.vz ae ai,.q ar],.a [.int n1,.int n2,.int n3,.int n4,.int n5,.int n6,.int n7,.int n8,.int n9,.int cw]] []) _
 let g':=(n1,n2,n3,n4,n5,n6,n7,n8,n9,cw)
 let A':=(aj,ak,an,ao,ah,aq,ai,ar)
 have dE:ay.rd A':=hp
 have sO:(!(cy g'))=false→bf.ok (cT g'):=fun h=>nS (cL h)
 have dj:(!(cy g'))=false→n3≤2048:=fun h=>(ld (cL h)).2.2.1.2
 refine⟨⟨⟨tv11,aa⟩,aa⟩,fun x1 w2=>⟨aa,fun w3=>⟨aa,?_⟩,fun w4=>⟨aa,fun w5=>⟨aa,?_⟩,fun w6=>⟨⟨⟨tv9,tv8,aa⟩,?_⟩,fun x7 w8=>⟨fun w9=>⟨aa,?_⟩,fun dx=>⟨⟨⟨tv9,tv8,aa⟩,?_,?_⟩,fun ku dI=>⟨aa,fun iS=>⟨aa,?_⟩,fun gN=>⟨fun qG=>⟨aa,?_⟩,fun kc=>⟨⟨tv2,?_⟩,fun x17 rO=>?_⟩⟩⟩⟩⟩⟩⟩⟩⟩
 all_goals first|refine aw ?_|refine ax ?_|exact a8|(dsimp only [qA,qa,JQ,zm,PQ,BX,ue,lO];omega)|exact a7|exact dE|exact sO w4|skip
 ·refine⟨[],[],_,_,_,rfl,cf,(),aa,?_,?_,rfl⟩
  ·(show _=cQ A' g');unfold cQ;first|(rw [aeF (s:=A') (n:=g') w3];rfl)|rfl
  ·rfl
 ·refine⟨[],[],_,_,_,rfl,cf,(),aa,?_,?_,rfl⟩
  ·(show _=cQ A' g');unfold cQ;first|(rw [aeE (s:=A') (n:=g') w5];rfl)|rfl
  ·rfl
 ·refine⟨[],[],_,_,_,rfl,cf,(),aa,?_,?_,rfl⟩
  ·(show _=cQ A' g');unfold cQ;first|(rw [aeD (s:=A') (n:=g') w9];rfl)|rfl
  ·rfl
 ·refine⟨[],[],_,_,_,rfl,cf,(),aa,?_,?_,rfl⟩
  ·(show _=cQ A' g');unfold cQ;first|(rw [aeC (s:=A') (n:=g') iS];rfl)|rfl
  ·rfl
 ·refine⟨[],[],_,_,_,rfl,cf,(),aa,?_,?_,rfl⟩
  ·(show _=cQ A' g');unfold cQ;first|(rw [aeB (s:=A') (n:=g') qG];rfl)|rfl
  ·rfl
 ·have h5:=aA (p:=((c7 A' (cT g')).1.size:Int)≠n3) kc
  have:=dj w4
  show (c7 A' (cT g')).1.size≤1000000;omega
 ·have e:=aeA (s:=A') (n:=g') w4 w6 dx gN kc
  refine⟨[],[],_,_,_,rfl,cf,(),aa,?_,?_,rfl⟩
  ·(show _=cQ A' g');unfold cQ;first|(rw [e];exact congrArg (fun x=>AV.t [A0.s (SV.vw aK x),A0.s (SV.q (cP (c7 A' (cT g')).1).2)]) (QL (cP (c7 A' (cT g')).1).1))|rfl
  ·rfl
def oA (s:ay) (t:bf):List ft:=(bo s t).map fun x=>(bz x).1
def lK (S:ay) (t:bf):Prop:=S.rd∧t.ok
def sW (S:ay) (t:bf):AV:=.s (.vw oY (oA S t))
def RT (S:ay) (t:bf):List AV:=[]
def kO:cn where
 A:=[.a xq,.a [.int,.int,.int,.int,.int,.int,.int]]
 B:=[]
 pre:=fun x b=>lK (x.1) (x.2)
 r:=fun x b _=>sW (x.1) (x.2)
 o:=fun x b _=>RT (x.1) (x.2)
theorem yA:Has Tryz.prog 49 kO:=by
 refine Has.fl zT zF zF (l:=[(84,dc),(85,mZ)]) ⟨iP,CN,aa⟩ Tryz.func49 ?_
 rintro⟨⟨(aj:List ByteArray),(ak:List Int),(an:List Int),(ao:Int),(ah:List Pt),(aq:Int),(ai:List Pt),(ar:Bool)⟩,⟨(t1:Int),(t2:Int),(t3:Int),(t4:Int),(t5:Int),(t6:Int),(t7:Int)⟩⟩ _ (hp:lK (aj,ak,an,ao,ah,aq,ai,ar) (t1,t2,t3,t4,t5,t6,t7))
 show vc _ _ _ _ (entry [.a [.vz ab aj,.vz ag ak,.vz ag an,.int ao,.vz ae ah,.int aq,.vz ae ai,.q ar],.a [.int t1,.int t2,.int t3,.int t4,.int t5,.int t6,.int t7]] []) _
 let g':=(aj,ak,an,ao,ah,aq,ai,ar)
 let A':=(t1,t2,t3,t4,t5,t6,t7)
 obtain⟨dE,cG⟩:=hp
 have dE:ay.rd g':=dE
 have cG:bf.ok A':=cG
 have h1:t7≤16:=cG.m1
 have hl:(bo g' A').length=t7.toNat:=fp cG
 refine⟨aa,⟨⟨tv9,tv8,aa⟩,?_,?_,?_,?_⟩,fun x1 w2=>?_⟩
 all_goals first|refine aw ?_|refine ax ?_|exact a8|(dsimp only [dc,eE,mZ,k8];omega)|exact a7|exact dE|exact cG.rd|exact cG.m0|exact cG.m1|skip
 refine cN (l:=[(84,dc),(85,mZ)]) (ex:=zT) (wr:=zF) (pt:=zF) ⟨iP,CN,aa⟩ [.s 2,.s 3,.b 1002,.b 1003,.s 6,.b 140000] (fun y:Nat×List ft=>[(.s 5,.s (.xs 1010 10 0 y.2.length)),(.s 7,.int y.1),(.b 1010,.rs oY y.2)]) (fun y=>y.1≤(bo g' A').length∧y.2=((bo g' A').take y.1).map fun x=>(bz x).1) (fun y=>(bo g' A').length-y.1) (0,[]) [] ⟨ZA7 _,rfl⟩ dL ?_
 rintro⟨i,out⟩ ⟨(hi:i≤(bo g' A').length),(he:out=((bo g' A').take i).map fun x=>(bz x).1)⟩
 have bU:decide ((i:Int)<((bo g' A').length:Int))=true→i<(bo g' A').length:=fun h=>by have:=aJ h;omega
 have dj:=WL (wm (s:=g') (t:=A') dE) i
 have hlo:out.length=i:=by rw [he,ZG2,ZC0];omega
 refine⟨fun w1=>⟨⟨?_,?_⟩,?_,⟨tv2,?_⟩,fun x2 w3=>⟨aa,⟨⟨?_,?_⟩,?_,?_⟩,⟨?_,?_⟩,?_⟩⟩,fun w4=>?_⟩
 all_goals first|refine aw ?_|refine ax ?_|exact a8|(dsimp only [dc,eE,mZ,k8];omega)|exact a7|exact bU w1|exact dj|(show (i:Int)<((bo g' A').length:Int);have:=bU w1;omega)|skip
 ·have mh:=bU w1
  refine⟨(i+1,out++[(bz (nth ab (bo g' A') i)).1]),[(1010,1031)],?_,?_,?_⟩
  rotate_right
  ·exact bV
  ·refine⟨mh,?_⟩
   show out++[_]=((bo g' A').take (i+1)).map fun x=>(bz x).1
   rw [List.take_add_one,show (bo g' A')[i]?=some (nth ab (bo g' A') i) from oz (ek:=ab) mh,he]
   simp
  ·show (bo g' A').length-(i+1)<(bo g' A').length-i;omega
 ·have e:oA g' A'=out:=by rw [he,ZD1 (by have:=aA (p:=(i:Int)<((bo g' A').length:Int)) (by assumption);omega)];rfl
  refine⟨[],[],_,_,_,rfl,cf,(),aa,?_,?_,rfl⟩
  ·(show _=sW g' A');unfold sW;first|(rw [e];exact congrArg (fun x=>AV.s (SV.vw oY x)) (QL out))|rfl
  ·rfl
def EU (s:ay) (t:bf):List ByteArray→Int→Int
 |[],k=>k
 |x::l,k=>bif !(bJ s (cK s t k).1).2||decide (ll (bJ s (cK s t k).1).1 x<0) then -1 else EU s t l (nth aK (bJ s (cK s t k).1).1 (ll (bJ s (cK s t k).1).1 x).toNat).2
theorem ZT {s:ay}{t:bf}{x:ByteArray}{l:List ByteArray}{k:Int}(h:(!(bJ s (cK s t k).1).2)=true):EU s t (x::l) k= -1:=by rw [EU,h];rfl
theorem ZS {s:ay}{t:bf}{x:ByteArray}{l:List ByteArray}{k:Int}(h:decide (ll (bJ s (cK s t k).1).1 x<0)=true):EU s t (x::l) k= -1:=by rw [EU,h,ZC4];rfl
theorem MJ {s:ay}{t:bf}{x:ByteArray}{l:List ByteArray}{k:Int}(h:(!(bJ s (cK s t k).1).2)=false) (h2:decide (ll (bJ s (cK s t k).1).1 x<0)=false):EU s t (x::l) k=EU s t l (nth aK (bJ s (cK s t k).1).1 (ll (bJ s (cK s t k).1).1 x).toNat).2:=by rw [EU,h,h2];rfl
def uI (s:ay) (t:bf) (l:List ByteArray):Int:=EU s t l 0
theorem afk:∀{f:Nat}{l:List eS}{i:Nat}{name:ByteArray},i+f=l.length→0≤atF f l i name→(i:Int)≤atF f l i name∧atF f l i name<l.length∧(nth aK l (atF f l i name).toNat).1=name
 |0,l,i,name,_,h=>absurd (show (0:Int)≤-1 from h) (by decide)
 |f+1,l,i,name,hf,h=>by
  cases hd:decide ((nth aK l i).1=name) with
  |true=>rw [agY hd];exact⟨ZC1 _,by omega,by rw [ZA5];exact aJ hd⟩
  |false=>
   rw [agZ hd] at h ⊢
   have:=afk (f:=f) (i:=i+1) (by omega) h
   exact⟨by omega,this.2⟩
theorem yY {l:List eS}{name:ByteArray}(h:0≤ll l name):ll l name<l.length∧(nth aK l (ll l name).toNat).1=name:=(afk (ZA6 _) h).2
theorem FJ (s:ay) (n:ft):(bJ s n).1.length≤12∧∀e∈(bJ s n).1,fB e.1=true∧1≤e.2∧e.2≤15:=by
 have h0:([]:List eS).length≤12∧∀e∈([]:List eS),fB e.1=true∧1≤e.2∧e.2≤15:=⟨ZA7 _,fun e h=>absurd h ZF6⟩
 unfold bJ
 cases !(cy n)||(decide (n.1≠2)|| !(qF s (cT n))) with
 |true=>exact h0
 |false=>cases !(c7 s (cT n)).2||decide (((c7 s (cT n)).1.size:Int)≠n.2.2.1) with
  |true=>exact h0
  |false=>
   show (cP _).1.length≤12∧∀e∈(cP _).1,_
   generalize (c7 s (cT n)).1=x
   cases he:egF ((bm x 59).length) (bm x 59) 0 [] with
   |none=>rw [xB he];exact h0
   |some o=>
    rw [ns he]
    cases h1: !(eD o) with
    |true=>rw [aae h1];exact h0
    |false=>cases h2:decide (eg o≠x) with
     |true=>rw [aad h2];exact h0
     |false=>rw [aaf h1 h2];exact xA (cL h1)
def qT (S:ay) (t:bf) (l:List ByteArray):Prop:=S.rd∧t.ok∧l.length≤1000000
def jc (S:ay) (t:bf) (l:List ByteArray):AV:=.s (.int (uI S t l))
def VX (S:ay) (t:bf) (l:List ByteArray):List AV:=[]
def sD:cn where
 A:=[.a xq,.a [.int,.int,.int,.int,.int,.int,.int],.s (.vz ab)]
 B:=[]
 pre:=fun x b=>qT (x.1) (x.2.1) (x.2.2)
 r:=fun x b _=>jc (x.1) (x.2.1) (x.2.2)
 o:=fun x b _=>VX (x.1) (x.2.1) (x.2.2)
theorem L4:Has Tryz.prog 178 sD:=by
 refine Has.fl zT zF zF (l:=[(179,jC),(176,iC),(157,oV)]) ⟨vr,tD,FB,aa⟩ Tryz.func178 ?_
 rintro⟨⟨(aj:List ByteArray),(ak:List Int),(an:List Int),(ao:Int),(ah:List Pt),(aq:Int),(ai:List Pt),(ar:Bool)⟩,⟨(t1:Int),(t2:Int),(t3:Int),(t4:Int),(t5:Int),(t6:Int),(t7:Int)⟩,(l:List ByteArray)⟩ _ (hp:qT (aj,ak,an,ao,ah,aq,ai,ar) (t1,t2,t3,t4,t5,t6,t7) l)
 show vc _ _ _ _ (entry [.a [.vz ab aj,.vz ag ak,.vz ag an,.int ao,.vz ae ah,.int aq,.vz ae ai,.q ar],.a [.int t1,.int t2,.int t3,.int t4,.int t5,.int t6,.int t7],.s (.vz ab l)] []) _
 let g':=(aj,ak,an,ao,ah,aq,ai,ar)
 let A':=(t1,t2,t3,t4,t5,t6,t7)
 obtain⟨dE,cG,hlen⟩:=hp
 have dE:ay.rd g':=dE
 have cG:bf.ok A':=cG
 refine ?_
 all_goals first|refine aw ?_|refine ax ?_|exact a8|(dsimp only [jC,kG,iC,jj,oV,o0];omega)|exact a7|skip
 refine cN (l:=[(179,jC),(176,iC),(157,oV)]) (ex:=zT) (wr:=zF) (pt:=zF) ⟨vr,tD,FB,aa⟩ [.s 2,.s 3,.s 4,.b 1003,.b 1004] (fun y:Nat×Int=>[(.s 7,.int y.2),(.s 8,.int y.1)]) (fun y=>y.1≤l.length∧EU g' A' (l.drop y.1) y.2=uI g' A' l) (fun y=>l.length-y.1) (0,0) [] ⟨ZA7 _,rfl⟩ dL ?_
 rintro⟨i,k⟩ ⟨(hi:i≤l.length),(hr:EU g' A' (l.drop i) k=uI g' A' l)⟩
 have bU:decide ((i:Int)<(l.length:Int))=true→i<l.length:=fun h=>by have:=aJ h;omega
 have heb:=FJ g' (cK g' A' k).1
 refine⟨fun w1=>⟨⟨⟨tv9,tv8,tv2⟩,?_,?_⟩,fun x2 w3=>⟨⟨⟨tv9,tv11,aa⟩,?_⟩,fun x4 w5=>⟨⟨?_,?_⟩,⟨tv3,?_⟩,fun x6 w7=>⟨aa,fun w8=>?_,fun w9=>⟨fun dx=>?_,fun kx=>⟨⟨?_,?_⟩,⟨?_,?_⟩,?_⟩⟩⟩⟩⟩⟩,fun dI=>?_⟩
 all_goals first|refine aw ?_|refine ax ?_|exact a8|(dsimp only [jC,kG,iC,jj,oV,o0];omega)|exact a7|exact bU w1|exact dE|exact cG|exact ZB0 heb.1 (by decide)|skip
 ·have mh:=bU w1
  have e:uI g' A' l= -1:=by rw [←hr,bW (ek:=ab) mh,ZT (show (!(bJ g' (cK g' A' k).1).2)=true from w8)]
  refine⟨[],[],_,_,_,rfl,az,(),aa,?_,?_,rfl⟩
  ·(show _=jc g' A' l);unfold jc;first|(rw [e];rfl)|rfl
  ·rfl
 ·have mh:=bU w1
  have e:uI g' A' l= -1:=by rw [←hr,bW (ek:=ab) mh,ZS (show decide (ll (bJ g' (cK g' A' k).1).1 (nth ab l i)<0)=true from dx)]
  refine⟨[],[],_,_,_,rfl,az,(),aa,?_,?_,rfl⟩
  ·(show _=jc g' A' l);unfold jc;first|(rw [e];rfl)|rfl
  ·rfl
 ·have h0:=aA (show decide (ll (bJ g' (cK g' A' k).1).1 (nth ab l i)<0)=false from kx)
  show 0≤ll (bJ g' (cK g' A' k).1).1 (nth ab l i);omega
 ·have h0:=aA (show decide (ll (bJ g' (cK g' A' k).1).1 (nth ab l i)<0)=false from kx)
  exact (yY (l:=(bJ g' (cK g' A' k).1).1) (name:=nth ab l i) (by omega)).1
 ·have mh:=bU w1
  refine⟨(i+1,(nth aK (bJ g' (cK g' A' k).1).1 (ll (bJ g' (cK g' A' k).1).1 (nth ab l i)).toNat).2),[],?_,?_,?_⟩
  rotate_right
  ·exact bV
  ·refine⟨mh,?_⟩
   rw [←hr,bW (ek:=ab) mh,MJ (show (!(bJ g' (cK g' A' k).1).2)=false from w9) (show decide (ll (bJ g' (cK g' A' k).1).1 (nth ab l i)<0)=false from kx)]
  ·show l.length-(i+1)<l.length-i;omega
 ·have e:uI g' A' l=k:=by rw [←hr,ZB3 (by have:=aA (p:=(i:Int)<(l.length:Int)) dI;omega)];rfl
  refine⟨[],[],_,_,_,rfl,az,(),aa,?_,?_,rfl⟩
  ·(show _=jc g' A' l);unfold jc;first|(rw [e];rfl)|rfl
  ·rfl
end GL
namespace GL
abbrev rT (s:ay) (n:ft) (a:Int):ByteArray:=jb s n++kD (a-(jb s n).size)
abbrev UM (s:ay) (n:ft) (a:Int) (text:ByteArray):ByteArray:=(rT s n a).extract 0 a.toNat++text++(rT s n a).extract (min ((rT s n a).size:Int) (a+text.size)).toNat (rT s n a).size
theorem K0 {s:ay}{n:ft}{a:Int}:(rT s n a).size=(jb s n).size+(max 0 (a-(jb s n).size)).toNat:=by rw [ZB2,kS]
theorem aaw {s:ay}{n:ft}{a:Int}{text:ByteArray}(h:0≤a):a.toNat+text.size≤(UM s n a text).size∧(UM s n a text).size≤(rT s n a).size+text.size:=by
 have h1:=K0 (s:=s) (n:=n) (a:=a)
 show _≤((rT s n a).extract 0 a.toNat++text++(rT s n a).extract (min ((rT s n a).size:Int) (a+text.size)).toNat (rT s n a).size).size∧((rT s n a).extract 0 a.toNat++text++(rT s n a).extract (min ((rT s n a).size:Int) (a+text.size)).toNat (rT s n a).size).size≤_
 rw [ZB2,ZB2,ZC5,ZC5]
 omega
def nw (s:ay) (n:ft) (a:Int) (text:ByteArray):ay×ft×Bool:=bif decide (text=⟨#[]⟩) then (s,n,true) else zq s n (UM s n a text) (a / 12) ((a+text.size-1) / 12)
theorem NM {s:ay}{n:ft}{a:Int}{text:ByteArray}(h:decide (text=⟨#[]⟩)=true):nw s n a text=(s,n,true):=by unfold nw;rw [h];rfl
theorem NL {s:ay}{n:ft}{a:Int}{text:ByteArray}(h:decide (text=⟨#[]⟩)=false):nw s n a text=zq s n (UM s n a text) (a / 12) ((a+text.size-1) / 12):=by unfold nw;rw [h];rfl
def tb (S:ay) (n:ft) (at':Int) (text:ByteArray):Prop:=S.wg 1045000∧n.fok∧0≤at'∧at'+text.size≤192
def lD (S:ay) (n:ft) (at':Int) (text:ByteArray):AV:=.t [.a (kT 0 1 2 5 6 (nw S n at' text).1),ndA (nw S n at' text).2.1,.s (.q (nw S n at' text).2.2)]
def nO (S:ay) (n:ft) (at':Int) (text:ByteArray):List AV:=[.rs ab (nw S n at' text).1.rows,.rs ag (nw S n at' text).1.refs,.rs ag (nw S n at' text).1.last,.zz,.zz,.rs ae (nw S n at' text).1.gone,.rs ae (nw S n at' text).1.dead]
def yR:cn where
 A:=[.a (stB 0 1 2 3 4),.a [.int,.int,.int,.int,.int,.int,.int,.int,.int,.int],.s .int,.s .str]
 B:=[.r ab,.r ag,.r ag,.r ae,.r ae]
 pre:=fun x b=>stW x.1 b∧tb (gO x.1 b) (x.2.1) (x.2.2.1) (x.2.2.2)
 r:=fun x b _=>lD (gO x.1 b) (x.2.1) (x.2.2.1) (x.2.2.2)
 o:=fun x b _=>nO (gO x.1 b) (x.2.1) (x.2.2.1) (x.2.2.2)
 nf:=2
 mv:=true
theorem W0:Has Tryz.prog 160 yR:=by
 refine Has.ofZ zT zF zF (l:=[(184,sE),(185,iD),(186,vO)]) ⟨L5,tE,S3,aa⟩ Tryz.func160 ?_
 rintro⟨⟨(AO:Nat),(AN:Nat),(AM:Nat),(ao:Int),(AL:Nat),(aq:Int),(AK:Nat),(ar:Bool)⟩,⟨(n1:Int),(n2:Int),(n3:Int),(n4:Int),(n5:Int),(n6:Int),(n7:Int),(n8:Int),(n9:Int),(cw:Int)⟩,(at':Int),(text:ByteArray)⟩ ⟨(aj:List ByteArray),(ak:List Int),(an:List Int),(ah:List Pt),(ai:List Pt)⟩ ⟨⟨(gB:AO=List.length aj),(gA:AN=List.length ak),(gz:AM=List.length an),(gy:AL=List.length ah),(gx:AK=List.length ai)⟩,(hp:tb (aj,ak,an,ao,ah,aq,ai,ar) (n1,n2,n3,n4,n5,n6,n7,n8,n9,cw) at' text)⟩
 subst gB gA gz gy gx
 show vc _ _ _ _ (entry [.a [.xs 0 1 0 aj.length,.xs 1 1 0 ak.length,.xs 2 1 0 an.length,.int ao,.xs 3 5 0 ah.length,.int aq,.xs 4 5 0 ai.length,.q ar],.a [.int n1,.int n2,.int n3,.int n4,.int n5,.int n6,.int n7,.int n8,.int n9,.int cw],.int at',.str text] [.rs ab aj,.rs ag ak,.rs ag an,.rs ae ah,.rs ae ai]) _
 obtain⟨lh,hf,ha0,ha1⟩:=hp
 have lh:ay.wg (aj,ak,an,ao,ah,aq,ai,ar) 1045000:=lh
 have hf:ft.fok (n1,n2,n3,n4,n5,n6,n7,n8,n9,cw):=hf
 have hts:=F5 lh.wf.rd hf
 have h1:=K0 (s:=(aj,ak,an,ao,ah,aq,ai,ar)) (n:=(n1,n2,n3,n4,n5,n6,n7,n8,n9,cw)) (a:=at')
 have h2:=aaw (s:=(aj,ak,an,ao,ah,aq,ai,ar)) (n:=(n1,n2,n3,n4,n5,n6,n7,n8,n9,cw)) (a:=at') (text:=text) ha0
 have oQ:decide (text=⟨#[]⟩)=false→1≤text.size:=fun h=>size_pos (aA h)
 refine⟨fun w1=>⟨[.s 4,.b 1004],Sq15,rfl,[.s 5,.b 1005],Sq16,rfl,[.s 8,.s 15,.b 1008],[.b 1008],rfl,[.s 9,.s 16,.b 1009],[.b 1009],rfl,[],Sq10,rfl,?_⟩,fun w2=>⟨⟨⟨⟨⟨?_,?_⟩,⟨?_,?_⟩,⟨?_,?_⟩,aa,⟨?_,?_⟩,aa,⟨?_,?_⟩,tv2⟩,tv11,aa⟩,?_,?_⟩,fun x3 w4=>⟨⟨?_,?_⟩,⟨tv2,?_⟩,fun x5 w6=>⟨?_,⟨?_,?_⟩,Sq11,Sq34,rfl,Sq2,Sq35,rfl,[.s 34,.s 35],Sq36,rfl,⟨?_,?_,?_⟩,Sq3,Sq37,rfl,[.s 36,.s 37],Sq38,rfl,?_,Sq11,Sq39,rfl,Sq12,Sq40,rfl,[.s 39,.s 40],Sq41,rfl,⟨?_,?_,?_⟩,[.s 38,.s 41],Sq42,rfl,?_,Sq42,Sq11,rfl,⟨?_,?_,?_⟩,⟨?_,?_⟩,⟨?_,?_⟩,⟨?_,?_,?_⟩,⟨⟨tv9,tv11,tv4⟩,⟨?_,?_,?_,?_,?_⟩,?_,?_,?_,?_,?_,?_,?_⟩,fun x7 w8=>?_⟩⟩⟩⟩
 all_goals first|refine aw ?_|refine ax ?_|exact a8|(dsimp only [sE,qU,iD,jM,vO,tc,gO];omega)|exact a7|exact lh.wf.rd|exact hf|exact lh|exact hf.ok|(have:=oQ w2;omega)|skip
 ·refine⟨[3,4],[],_,_,_,rfl,az,(),0,aa,?_,?_,rfl⟩
  ·(show _=lD (aj,ak,an,ao,ah,aq,ai,ar) (n1,n2,n3,n4,n5,n6,n7,n8,n9,cw) at' text);unfold lD;first|(rw [NM (s:=(aj,ak,an,ao,ah,aq,ai,ar)) (n:=(n1,n2,n3,n4,n5,n6,n7,n8,n9,cw)) (a:=at') w1];rfl)|rfl
  ·(show _=nO (aj,ak,an,ao,ah,aq,ai,ar) (n1,n2,n3,n4,n5,n6,n7,n8,n9,cw) at' text);unfold nO;first|(rw [NM (s:=(aj,ak,an,ao,ah,aq,ai,ar)) (n:=(n1,n2,n3,n4,n5,n6,n7,n8,n9,cw)) (a:=at') w1];rfl)|rfl
 ·show (((jb (aj,ak,an,ao,ah,aq,ai,ar) (n1,n2,n3,n4,n5,n6,n7,n8,n9,cw)).size+(kD (at'-(jb (aj,ak,an,ao,ah,aq,ai,ar) (n1,n2,n3,n4,n5,n6,n7,n8,n9,cw)).size)).size:Nat):Int)≤imax
  rw [kS];unfold imax;omega
 ·show at'≤((rT (aj,ak,an,ao,ah,aq,ai,ar) (n1,n2,n3,n4,n5,n6,n7,n8,n9,cw) at').size:Int);omega
 ·show ((((rT (aj,ak,an,ao,ah,aq,ai,ar) (n1,n2,n3,n4,n5,n6,n7,n8,n9,cw) at').extract 0 at'.toNat).size+text.size:Nat):Int)≤imax
  rw [ZC5];unfold imax;omega
 ·show ((((rT (aj,ak,an,ao,ah,aq,ai,ar) (n1,n2,n3,n4,n5,n6,n7,n8,n9,cw) at').extract 0 at'.toNat++text).size+((rT (aj,ak,an,ao,ah,aq,ai,ar) (n1,n2,n3,n4,n5,n6,n7,n8,n9,cw) at').extract (min ((rT (aj,ak,an,ao,ah,aq,ai,ar) (n1,n2,n3,n4,n5,n6,n7,n8,n9,cw) at').size:Int) (at'+text.size)).toNat (rT (aj,ak,an,ao,ah,aq,ai,ar) (n1,n2,n3,n4,n5,n6,n7,n8,n9,cw) at').size).size:Nat):Int)≤imax
  rw [ZB2,ZC5,ZC5];unfold imax;omega
 ·have:=oQ w2
  show (at'+text.size-1) / 12*12≤((UM (aj,ak,an,ao,ah,aq,ai,ar) (n1,n2,n3,n4,n5,n6,n7,n8,n9,cw) at' text).size:Int);omega
 ·show (UM (aj,ak,an,ao,ah,aq,ai,ar) (n1,n2,n3,n4,n5,n6,n7,n8,n9,cw) at' text).size≤100000000;omega
 ·refine⟨[1000550000,1000550001],[],_,_,_,rfl,az,(),0,aa,?_,?_,rfl⟩
  ·(show _=lD (aj,ak,an,ao,ah,aq,ai,ar) (n1,n2,n3,n4,n5,n6,n7,n8,n9,cw) at' text);unfold lD;first|(rw [NL (s:=(aj,ak,an,ao,ah,aq,ai,ar)) (n:=(n1,n2,n3,n4,n5,n6,n7,n8,n9,cw)) (a:=at') w2];rfl)|rfl
  ·(show _=nO (aj,ak,an,ao,ah,aq,ai,ar) (n1,n2,n3,n4,n5,n6,n7,n8,n9,cw) at' text);unfold nO;first|(rw [NL (s:=(aj,ak,an,ao,ah,aq,ai,ar)) (n:=(n1,n2,n3,n4,n5,n6,n7,n8,n9,cw)) (a:=at') w2];rfl)|rfl
theorem P7 {size:Int}:∀{l:List ByteArray}{k:Nat}{out:ByteArray},out.size≤(txF size l k out).size
 |[],k,out=>ZB5 _
 |x::l,k,out=>by
  have h:=P7 (size:=size) (l:=l) (k:=k+1) (out:=out++x++kD (mo size k-x.size))
  rw [ZB2,ZB2] at h
  rw [txF];omega
theorem ach {size:Int}:∀{l:List ByteArray}{k:Nat}{out:ByteArray},size≤12*((k+l.length:Nat):Int)→(out.size:Int)+(size-12*k)≤((txF size l k out).size:Int)
 |[],k,out,h=>by rw [ZA4] at h;show _≤(out.size:Int);omega
 |x::l,k,out,h=>by
  rw [ZA1] at h
  have h1:=ach (size:=size) (l:=l) (k:=k+1) (out:=out++x++kD (mo size k-x.size)) (by omega)
  have h2:=P7 (size:=size) (l:=l) (k:=k+1) (out:=out++x++kD (mo size k-x.size))
  have h3:mo size k=min 12 (size-(k:Int)*12):=rfl
  rw [ZB2,ZB2,kS] at h1 h2
  rw [txF];omega
theorem node1 {n:ft}(h:cy n=true) (h1:n.1=1):(cT n).many=bh n.2.2.1 12∧0≤n.2.2.1∧n.2.2.1≤192:=by
 obtain⟨b1,b2,b3,b4,b5,b6,b7,b8,b9⟩:=ld h
 have e:kl n.1=12:=by rw [h1];rfl
 unfold bH at b7
 rw [e] at b7
 cases hi:ig n.2.2.1 0 (16*12) with
 |true=>
  rw [hi] at b7
  exact⟨b7,(cC.1 hi).1,(cC.1 hi).2⟩
 |false=>
  rw [hi] at b7
  have b7:n.2.2.2.2.2.2.2.2.2= -1:=b7
  omega
theorem acj {s:ay}{n:ft}(h:cy n=true) (h1:n.1=1):n.2.2.1≤((jb s n).size:Int):=by
 obtain⟨e,e0,e1⟩:=node1 h h1
 have cG:=nS h
 have hl:=fp (s:=s) cG
 have h2:=ach (size:=n.2.2.1) (l:=bo s (cT n)) (k:=0) (out:=⟨#[]⟩) (by
  rw [hl,e];unfold bh;omega)
 have h3:(((⟨#[]⟩:ByteArray).size:Nat):Int)=0:=rfl
 rw [h3] at h2
 show _≤((txF _ _ _ _).size:Int);omega
theorem HM {n:ft}(h:cy n=true):n.fok:=by
 have:=(ld h).2.2.1
 exact⟨nS h,by omega,by omega⟩
def J2 (c:ay×bf×Bool) (n:ft) (all:ByteArray) (size many:Int):ay×ft×Bool:=
 bif !c.2.2 then (c.1,n,false) else bif decide (many=0) then (c.1,j8 n size c.2.1,true) else zq c.1 (j8 n size c.2.1) (all.extract 0 size.toNat) (many-1) (many-1)
def iZ (s:ay) (n:ft) (size:Int):ay×ft×Bool:=
 bif decide (size≥n.2.2.1) then
  (bif decide (bh size 12=(cT n).many) then (s,j8 n size (cT n),true) else
   ((aY s (cT n) (bh size 12-1) ⟨#[]⟩).1,j8 n size (aY s (cT n) (bh size 12-1) ⟨#[]⟩).2.1,(aY s (cT n) (bh size 12-1) ⟨#[]⟩).2.2))
 else J2 (cF s (cT n) (bh size 12)) n (jb s n) size (bh size 12)
def ye (S:ay) (n:ft) (size:Int):Prop:=S.wg 1044000∧cy n=true∧n.1=1∧0≤size∧size≤192
def eK (S:ay) (n:ft) (size:Int):AV:=.t [.a (kT 0 1 2 5 6 (iZ S n size).1),ndA (iZ S n size).2.1,.s (.q (iZ S n size).2.2)]
def fK (S:ay) (n:ft) (size:Int):List AV:=[.rs ab (iZ S n size).1.rows,.rs ag (iZ S n size).1.refs,.rs ag (iZ S n size).1.last,.zz,.zz,.rs ae (iZ S n size).1.gone,.rs ae (iZ S n size).1.dead]
def JW:cn where
 A:=[.a (stB 0 1 2 3 4),.a [.int,.int,.int,.int,.int,.int,.int,.int,.int,.int],.s .int]
 B:=[.r ab,.r ag,.r ag,.r ae,.r ae]
 pre:=fun x b=>stW x.1 b∧ye (gO x.1 b) (x.2.1) (x.2.2)
 r:=fun x b _=>eK (gO x.1 b) (x.2.1) (x.2.2)
 o:=fun x b _=>fK (gO x.1 b) (x.2.1) (x.2.2)
 nf:=2
 mv:=true
theorem adR:Has Tryz.prog 161 JW:=by
 refine Has.ofZ zT zF zF (l:=[(184,sE),(187,lj),(185,iD),(26,ey),(70,l6),(186,vO)]) ⟨L5,DY,tE,lV,zB,S3,aa⟩ Tryz.func161 ?_
 rintro⟨⟨(AO:Nat),(AN:Nat),(AM:Nat),(ao:Int),(AL:Nat),(aq:Int),(AK:Nat),(ar:Bool)⟩,⟨(n1:Int),(n2:Int),(n3:Int),(n4:Int),(n5:Int),(n6:Int),(n7:Int),(n8:Int),(n9:Int),(cw:Int)⟩,(size:Int)⟩ ⟨(aj:List ByteArray),(ak:List Int),(an:List Int),(ah:List Pt),(ai:List Pt)⟩ ⟨⟨(gB:AO=List.length aj),(gA:AN=List.length ak),(gz:AM=List.length an),(gy:AL=List.length ah),(gx:AK=List.length ai)⟩,(hp:ye (aj,ak,an,ao,ah,aq,ai,ar) (n1,n2,n3,n4,n5,n6,n7,n8,n9,cw) size)⟩
 subst gB gA gz gy gx
 show vc _ _ _ _ (entry [.a [.xs 0 1 0 aj.length,.xs 1 1 0 ak.length,.xs 2 1 0 an.length,.int ao,.xs 3 5 0 ah.length,.int aq,.xs 4 5 0 ai.length,.q ar],.a [.int n1,.int n2,.int n3,.int n4,.int n5,.int n6,.int n7,.int n8,.int n9,.int cw],.int size] [.rs ab aj,.rs ag ak,.rs ag an,.rs ae ah,.rs ae ai]) _
 obtain⟨lh,uu,(hn1:n1=1),hs0,hs1⟩:=hp
 have lh:ay.wg (aj,ak,an,ao,ah,aq,ai,ar) 1044000:=lh
 have uu:cy (n1,n2,n3,n4,n5,n6,n7,n8,n9,cw)=true:=uu
 have hf:=HM uu
 have cG:=hf.ok
 have hts:=F5 lh.wf.rd hf
 have FF:n3≤((jb (aj,ak,an,ao,ah,aq,ai,ar) (n1,n2,n3,n4,n5,n6,n7,n8,n9,cw)).size:Int):=acj (s:=(aj,ak,an,ao,ah,aq,ai,ar)) uu hn1
 obtain⟨(hm:cw=bh n3 12),(CQ:0≤n3),(hm1:n3≤192)⟩:=node1 uu hn1
 have hpm:bh size 12=(size+12-1) / 12:=rfl
 have hpn:bh n3 12=(n3+12-1) / 12:=rfl
 have hcu:=FM (many:=bh size 12) lh cG (by omega) (by omega)
 refine⟨⟨⟨⟨⟨?_,?_⟩,⟨?_,?_⟩,⟨?_,?_⟩,aa,⟨?_,?_⟩,aa,⟨?_,?_⟩,tv2⟩,tv11,aa⟩,?_,?_⟩,fun x1 w2=>⟨⟨tv3,?_,?_,?_,?_⟩,fun x3 w4=>⟨fun w5=>⟨⟨?_,?_⟩,⟨tv2,?_⟩,fun x6 w7=>⟨?_,fun w8=>⟨[.s 3,.b 1003],Sq40,rfl,[.s 4,.b 1004],Sq41,rfl,[.s 6,.s 40,.b 1006],[.b 1006],rfl,[.s 7,.s 41,.b 1007],[.b 1007],rfl,[],Sq8,rfl,?_⟩,fun w9=>⟨⟨?_,?_⟩,⟨⟨tv9,tv8,tv3⟩,⟨?_,?_,?_,?_,?_⟩,?_,?_,?_,?_,?_,?_,?_,?_⟩,fun |false=>fun dx=>⟨[.s 11,.b 1011],Sq54,rfl,[.s 4,.b 1004],Sq55,rfl,Sq13,Sq56,rfl,[.s 6,.s 54,.b 1006],[.b 1006],rfl,[.s 7,.s 55,.b 1007],[.b 1007],rfl,Sq56,Sq8,rfl,?_⟩ |true=>fun kx=>⟨[.s 11,.b 1011],Sq54,rfl,[.s 4,.b 1004],Sq55,rfl,Sq13,Sq56,rfl,[.s 6,.s 54,.b 1006],[.b 1006],rfl,[.s 7,.s 55,.b 1007],[.b 1007],rfl,Sq56,Sq8,rfl,?_⟩⟩⟩⟩,fun dI=>⟨⟨⟨tv9,tv8,tv2⟩,⟨?_,?_,?_,?_,?_⟩,?_,?_,?_,?_,?_,?_⟩,fun |false=>fun iS=>⟨fun gN=>⟨[.s 3,.b 1003],Sq68,rfl,[.s 4,.b 1004],Sq69,rfl,[.s 6,.s 68,.b 1006],[.b 1006],rfl,[.s 7,.s 69,.b 1007],[.b 1007],rfl,[],Sq8,rfl,?_⟩,fun qG=>⟨fun kc=>⟨[.s 14,.b 1014],Sq76,rfl,[.s 4,.b 1004],Sq77,rfl,[.s 6,.s 76,.b 1006],[.b 1006],rfl,[.s 7,.s 77,.b 1007],[.b 1007],rfl,[],Sq8,rfl,?_⟩,fun xd=>⟨[.s 14,.b 1014],Sq78,rfl,[.s 4,.b 1004],Sq79,rfl,Sq9,Sq80,rfl,Sq2,Sq81,rfl,[.s 80,.s 81],Sq82,rfl,⟨?_,?_,?_⟩,Sq10,Sq83,rfl,Sq83,Sq84,rfl,⟨?_,?_⟩,Sq10,Sq85,rfl,Sq85,Sq86,rfl,⟨?_,?_⟩,[.s 78,.s 79,.s 82,.s 84,.s 86,.b 0,.b 1,.b 2,.b 3,.b 4,.b 1000880001,.b 1000880000],[.s 87,.b 0,.b 1,.b 2,.b 3,.b 4,.b 1000880000,.b 1000880001],rfl,⟨⟨tv9,tv11,tv4⟩,⟨?_,?_,?_,?_,?_⟩,?_,?_,?_,?_,?_,?_,?_⟩,?_,fun qD oH=>⟨Sq87,Sq88,rfl,Sq87,Sq89,rfl,Sq87,Sq90,rfl,[.s 6,.s 88,.b 1006],[.b 1006],rfl,[.s 7,.s 89,.b 1007],[.b 1007],rfl,Sq90,Sq8,rfl,?_⟩⟩⟩⟩ |true=>fun uE=>⟨fun AY=>⟨[.s 3,.b 1003],Sq68,rfl,[.s 4,.b 1004],Sq69,rfl,[.s 6,.s 68,.b 1006],[.b 1006],rfl,[.s 7,.s 69,.b 1007],[.b 1007],rfl,[],Sq8,rfl,?_⟩,fun AX=>⟨fun xF=>⟨[.s 14,.b 1014],Sq76,rfl,[.s 4,.b 1004],Sq77,rfl,[.s 6,.s 76,.b 1006],[.b 1006],rfl,[.s 7,.s 77,.b 1007],[.b 1007],rfl,[],Sq8,rfl,?_⟩,fun rN=>⟨[.s 14,.b 1014],Sq78,rfl,[.s 4,.b 1004],Sq79,rfl,Sq9,Sq80,rfl,Sq2,Sq81,rfl,[.s 80,.s 81],Sq82,rfl,⟨?_,?_,?_⟩,Sq10,Sq83,rfl,Sq83,Sq84,rfl,⟨?_,?_⟩,Sq10,Sq85,rfl,Sq85,Sq86,rfl,⟨?_,?_⟩,[.s 78,.s 79,.s 82,.s 84,.s 86,.b 0,.b 1,.b 2,.b 1000630000,.b 1000630001,.b 1000880001,.b 1000880000],[.s 87,.b 0,.b 1,.b 2,.b 1000630000,.b 1000630001,.b 1000880000,.b 1000880001],rfl,⟨⟨tv9,tv11,tv4⟩,⟨?_,?_,?_,?_,?_⟩,?_,?_,?_,?_,?_,?_,?_⟩,?_,fun x25 w26=>⟨Sq87,Sq88,rfl,Sq87,Sq89,rfl,Sq87,Sq90,rfl,[.s 6,.s 88,.b 1006],[.b 1006],rfl,[.s 7,.s 89,.b 1007],[.b 1007],rfl,Sq90,Sq8,rfl,?_⟩⟩⟩⟩⟩⟩⟩⟩
 all_goals first|refine aw ?_|refine ax ?_|exact a8|(dsimp only [sE,qU,lj,kg,iD,jM,ey,fJ,l6,mF,vO,tc,gO];omega)|exact a7|exact lh.wf.rd|exact hf|exact lh.wf|exact cG.rd|exact cG.m1|exact⟨_,rfl⟩|exact ZB0 lh.g (by decide)|exact ZB0 lh.d (by decide)|exact hcu.1.mono (by decide)|exact hcu.2.1|exact ZA7 _|skip
 all_goals first|exact absurd (show true=false from qG) Bool.noConfusion|exact absurd (show false=true from AY) Bool.noConfusion|skip
 ·show (((jb (aj,ak,an,ao,ah,aq,ai,ar) (n1,n2,n3,n4,n5,n6,n7,n8,n9,cw)).size+(kD (size-(jb (aj,ak,an,ao,ah,aq,ai,ar) (n1,n2,n3,n4,n5,n6,n7,n8,n9,cw)).size)).size:Nat):Int)≤imax
  rw [kS];unfold imax;omega
 ·have e:iZ (aj,ak,an,ao,ah,aq,ai,ar) (n1,n2,n3,n4,n5,n6,n7,n8,n9,cw) size=((aj,ak,an,ao,ah,aq,ai,ar),j8 (n1,n2,n3,n4,n5,n6,n7,n8,n9,cw) size (cT (n1,n2,n3,n4,n5,n6,n7,n8,n9,cw)),true):=by unfold iZ;rw [show decide (size≥n3)=true from w5,show decide (bh size 12=cw)=true from w8];rfl
  refine⟨[3,4],[],_,_,_,rfl,az,(),0,aa,?_,?_,rfl⟩
  ·(show _=eK (aj,ak,an,ao,ah,aq,ai,ar) (n1,n2,n3,n4,n5,n6,n7,n8,n9,cw) size);unfold eK;first|(rw [e];rfl)|rfl
  ·(show _=fK (aj,ak,an,ao,ah,aq,ai,ar) (n1,n2,n3,n4,n5,n6,n7,n8,n9,cw) size);unfold fK;first|(rw [e];rfl)|rfl
 ·have hz:(aY (aj,ak,an,ao,ah,aq,ai,ar) (cT (n1,n2,n3,n4,n5,n6,n7,n8,n9,cw)) (bh size 12-1) ⟨#[]⟩).2.2=false:=(show false=(aY (aj,ak,an,ao,ah,aq,ai,ar) (cT (n1,n2,n3,n4,n5,n6,n7,n8,n9,cw)) (bh size 12-1) ⟨#[]⟩).2.2 from dx).symm
  have e:iZ (aj,ak,an,ao,ah,aq,ai,ar) (n1,n2,n3,n4,n5,n6,n7,n8,n9,cw) size=((aY (aj,ak,an,ao,ah,aq,ai,ar) (cT (n1,n2,n3,n4,n5,n6,n7,n8,n9,cw)) (bh size 12-1) ⟨#[]⟩).1,j8 (n1,n2,n3,n4,n5,n6,n7,n8,n9,cw) size (aY (aj,ak,an,ao,ah,aq,ai,ar) (cT (n1,n2,n3,n4,n5,n6,n7,n8,n9,cw)) (bh size 12-1) ⟨#[]⟩).2.1,(aY (aj,ak,an,ao,ah,aq,ai,ar) (cT (n1,n2,n3,n4,n5,n6,n7,n8,n9,cw)) (bh size 12-1) ⟨#[]⟩).2.2):=by unfold iZ;rw [show decide (size≥n3)=true from w5,show decide (bh size 12=cw)=false from w9];rfl
  refine⟨[3,4],[],_,_,_,rfl,az,(),0,aa,?_,?_,rfl⟩
  ·(show _=eK (aj,ak,an,ao,ah,aq,ai,ar) (n1,n2,n3,n4,n5,n6,n7,n8,n9,cw) size);unfold eK;first|(rw [e,hz];rfl)|(rw [e];rfl)|rfl
  ·(show _=fK (aj,ak,an,ao,ah,aq,ai,ar) (n1,n2,n3,n4,n5,n6,n7,n8,n9,cw) size);unfold fK;first|(rw [e,hz];rfl)|(rw [e];rfl)|rfl
 ·have hz:(aY (aj,ak,an,ao,ah,aq,ai,ar) (cT (n1,n2,n3,n4,n5,n6,n7,n8,n9,cw)) (bh size 12-1) ⟨#[]⟩).2.2=true:=(show true=(aY (aj,ak,an,ao,ah,aq,ai,ar) (cT (n1,n2,n3,n4,n5,n6,n7,n8,n9,cw)) (bh size 12-1) ⟨#[]⟩).2.2 from kx).symm
  have e:iZ (aj,ak,an,ao,ah,aq,ai,ar) (n1,n2,n3,n4,n5,n6,n7,n8,n9,cw) size=((aY (aj,ak,an,ao,ah,aq,ai,ar) (cT (n1,n2,n3,n4,n5,n6,n7,n8,n9,cw)) (bh size 12-1) ⟨#[]⟩).1,j8 (n1,n2,n3,n4,n5,n6,n7,n8,n9,cw) size (aY (aj,ak,an,ao,ah,aq,ai,ar) (cT (n1,n2,n3,n4,n5,n6,n7,n8,n9,cw)) (bh size 12-1) ⟨#[]⟩).2.1,(aY (aj,ak,an,ao,ah,aq,ai,ar) (cT (n1,n2,n3,n4,n5,n6,n7,n8,n9,cw)) (bh size 12-1) ⟨#[]⟩).2.2):=by unfold iZ;rw [show decide (size≥n3)=true from w5,show decide (bh size 12=cw)=false from w9];rfl
  refine⟨[1000490000,1000490001],[],_,_,_,rfl,az,(),0,aa,?_,?_,rfl⟩
  ·(show _=eK (aj,ak,an,ao,ah,aq,ai,ar) (n1,n2,n3,n4,n5,n6,n7,n8,n9,cw) size);unfold eK;first|(rw [e,hz];rfl)|(rw [e];rfl)|rfl
  ·(show _=fK (aj,ak,an,ao,ah,aq,ai,ar) (n1,n2,n3,n4,n5,n6,n7,n8,n9,cw) size);unfold fK;first|(rw [e,hz];rfl)|(rw [e];rfl)|rfl
 ·have hz:(cF (aj,ak,an,ao,ah,aq,ai,ar) (cT (n1,n2,n3,n4,n5,n6,n7,n8,n9,cw)) (bh size 12)).2.2=false:=(show false=(cF (aj,ak,an,ao,ah,aq,ai,ar) (cT (n1,n2,n3,n4,n5,n6,n7,n8,n9,cw)) (bh size 12)).2.2 from iS).symm
  have xj:=hcu.2.2 hz
  have e:iZ (aj,ak,an,ao,ah,aq,ai,ar) (n1,n2,n3,n4,n5,n6,n7,n8,n9,cw) size=((cF (aj,ak,an,ao,ah,aq,ai,ar) (cT (n1,n2,n3,n4,n5,n6,n7,n8,n9,cw)) (bh size 12)).1,(n1,n2,n3,n4,n5,n6,n7,n8,n9,cw),false):=by unfold iZ J2;rw [show decide (size≥n3)=false from dI,hz];rfl
  refine⟨[3,4],[],_,_,_,rfl,az,(),0,aa,?_,?_,rfl⟩
  ·(show _=eK (aj,ak,an,ao,ah,aq,ai,ar) (n1,n2,n3,n4,n5,n6,n7,n8,n9,cw) size);unfold eK;first|(rw [e];rfl)|(rw [e];exact congrArg (fun x=>AV.t [A0.a x,ndA (n1,n2,n3,n4,n5,n6,n7,n8,n9,cw),A0.s (SV.q false)]) (nz (b0:=0) (b1:=1) (b2:=2) (b3:=5) (b4:=6) xj lh.wf))|(rw [e];have h3:=xj.gone;have h4:=xj.dead;exact congr (congrArg (fun (a b:List Pt)=>[AV.rs ab (cF (aj,ak,an,ao,ah,aq,ai,ar) (cT (n1,n2,n3,n4,n5,n6,n7,n8,n9,cw)) (bh size 12)).1.rows,AV.rs ag (cF (aj,ak,an,ao,ah,aq,ai,ar) (cT (n1,n2,n3,n4,n5,n6,n7,n8,n9,cw)) (bh size 12)).1.refs,AV.rs ag (cF (aj,ak,an,ao,ah,aq,ai,ar) (cT (n1,n2,n3,n4,n5,n6,n7,n8,n9,cw)) (bh size 12)).1.last,AV.zz,AV.zz,AV.rs ae a,AV.rs ae b]) h3.symm) h4.symm)|rfl
  ·(show _=fK (aj,ak,an,ao,ah,aq,ai,ar) (n1,n2,n3,n4,n5,n6,n7,n8,n9,cw) size);unfold fK;first|(rw [e];rfl)|(rw [e];exact congrArg (fun x=>AV.t [A0.a x,ndA (n1,n2,n3,n4,n5,n6,n7,n8,n9,cw),A0.s (SV.q false)]) (nz (b0:=0) (b1:=1) (b2:=2) (b3:=5) (b4:=6) xj lh.wf))|(rw [e];have h3:=xj.gone;have h4:=xj.dead;exact congr (congrArg (fun (a b:List Pt)=>[AV.rs ab (cF (aj,ak,an,ao,ah,aq,ai,ar) (cT (n1,n2,n3,n4,n5,n6,n7,n8,n9,cw)) (bh size 12)).1.rows,AV.rs ag (cF (aj,ak,an,ao,ah,aq,ai,ar) (cT (n1,n2,n3,n4,n5,n6,n7,n8,n9,cw)) (bh size 12)).1.refs,AV.rs ag (cF (aj,ak,an,ao,ah,aq,ai,ar) (cT (n1,n2,n3,n4,n5,n6,n7,n8,n9,cw)) (bh size 12)).1.last,AV.zz,AV.zz,AV.rs ae a,AV.rs ae b]) h3.symm) h4.symm)|rfl
 ·have hz:(cF (aj,ak,an,ao,ah,aq,ai,ar) (cT (n1,n2,n3,n4,n5,n6,n7,n8,n9,cw)) (bh size 12)).2.2=true:=(show true=(cF (aj,ak,an,ao,ah,aq,ai,ar) (cT (n1,n2,n3,n4,n5,n6,n7,n8,n9,cw)) (bh size 12)).2.2 from uE).symm
  have e:iZ (aj,ak,an,ao,ah,aq,ai,ar) (n1,n2,n3,n4,n5,n6,n7,n8,n9,cw) size=((cF (aj,ak,an,ao,ah,aq,ai,ar) (cT (n1,n2,n3,n4,n5,n6,n7,n8,n9,cw)) (bh size 12)).1,j8 (n1,n2,n3,n4,n5,n6,n7,n8,n9,cw) size (cF (aj,ak,an,ao,ah,aq,ai,ar) (cT (n1,n2,n3,n4,n5,n6,n7,n8,n9,cw)) (bh size 12)).2.1,true):=by unfold iZ J2;rw [show decide (size≥n3)=false from dI,hz,show decide (bh size 12=0)=true from xF];rfl
  refine⟨[1000630000,1000630001],[],_,_,_,rfl,az,(),0,aa,?_,?_,rfl⟩
  ·(show _=eK (aj,ak,an,ao,ah,aq,ai,ar) (n1,n2,n3,n4,n5,n6,n7,n8,n9,cw) size);unfold eK;first|(rw [e];rfl)|rfl
  ·(show _=fK (aj,ak,an,ao,ah,aq,ai,ar) (n1,n2,n3,n4,n5,n6,n7,n8,n9,cw) size);unfold fK;first|(rw [e];rfl)|rfl
 ·have h1:=aA (p:=size≥n3) dI
  have h2:=aA (p:=bh size 12=0) rN
  show (bh size 12-1)*12≤(((jb (aj,ak,an,ao,ah,aq,ai,ar) (n1,n2,n3,n4,n5,n6,n7,n8,n9,cw)).extract 0 size.toNat).size:Int)
  rw [ZC5];omega
 ·show ((jb (aj,ak,an,ao,ah,aq,ai,ar) (n1,n2,n3,n4,n5,n6,n7,n8,n9,cw)).extract 0 size.toNat).size≤100000000
  rw [ZC5];omega
 ·have hz:(cF (aj,ak,an,ao,ah,aq,ai,ar) (cT (n1,n2,n3,n4,n5,n6,n7,n8,n9,cw)) (bh size 12)).2.2=true:=(show true=(cF (aj,ak,an,ao,ah,aq,ai,ar) (cT (n1,n2,n3,n4,n5,n6,n7,n8,n9,cw)) (bh size 12)).2.2 from uE).symm
  have e:iZ (aj,ak,an,ao,ah,aq,ai,ar) (n1,n2,n3,n4,n5,n6,n7,n8,n9,cw) size=zq (cF (aj,ak,an,ao,ah,aq,ai,ar) (cT (n1,n2,n3,n4,n5,n6,n7,n8,n9,cw)) (bh size 12)).1 (j8 (n1,n2,n3,n4,n5,n6,n7,n8,n9,cw) size (cF (aj,ak,an,ao,ah,aq,ai,ar) (cT (n1,n2,n3,n4,n5,n6,n7,n8,n9,cw)) (bh size 12)).2.1) ((jb (aj,ak,an,ao,ah,aq,ai,ar) (n1,n2,n3,n4,n5,n6,n7,n8,n9,cw)).extract 0 size.toNat) (bh size 12-1) (bh size 12-1):=by unfold iZ J2;rw [show decide (size≥n3)=false from dI,hz,show decide (bh size 12=0)=false from rN];rfl
  refine⟨[1000880000,1000880001],[],_,_,_,rfl,az,(),0,aa,?_,?_,rfl⟩
  ·(show _=eK (aj,ak,an,ao,ah,aq,ai,ar) (n1,n2,n3,n4,n5,n6,n7,n8,n9,cw) size);unfold eK;first|(rw [e];rfl)|rfl
  ·(show _=fK (aj,ak,an,ao,ah,aq,ai,ar) (n1,n2,n3,n4,n5,n6,n7,n8,n9,cw) size);unfold fK;first|(rw [e];rfl)|rfl
end GL
end Go.Proofs.YtclcgjhhehbdeaaGreatDoor
