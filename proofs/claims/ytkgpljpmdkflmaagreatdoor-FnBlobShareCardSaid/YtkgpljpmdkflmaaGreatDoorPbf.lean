/- A drawn law returns true for every code (its row lists package variables, tied by the card): part 32. -/
import Derived.Test.YtkgpljpmdkflmaaGreatDoorPay
import Derived.Test.YtkgpljpmdkflmaaGreatDoorPbd
import Derived.Test.YtkgpljpmdkflmaaGreatDoorPbe
set_option maxHeartbeats 20000000
set_option maxRecDepth 100000
set_option linter.all false
namespace Go.Proofs.YtkgpljpmdkflmaaGreatDoor
namespace GL
theorem QP {α:Type}(l:List α):(l.drop 0).take l.length=l:=by simp
def bK (s:ay) (n:fv):List eV×Bool:=
 bif !(cy n)||(decide (n.1≠2)|| !(qM s (cU n))) then ([],false) else
 bif !(c8 s (cU n)).2||decide (((c8 s (cU n)).1.size:Int)≠n.2.2.1) then ([],false) else cQ (c8 s (cU n)).1
theorem aeJ {s:ay}{n:fv}(h:(!(cy n))=true):bK s n=([],false):=by unfold bK;rw [h];rfl
theorem aeI {s:ay}{n:fv}(h:decide (n.1≠2)=true):bK s n=([],false):=by unfold bK;rw [h,Bool.true_or,ZC4];rfl
theorem aeH {s:ay}{n:fv}(h:(!(qM s (cU n)))=true):bK s n=([],false):=by unfold bK;rw [h,ZC4,ZC4];rfl
theorem aeG {s:ay}{n:fv}(h:(!(c8 s (cU n)).2)=true):bK s n=([],false):=by
 unfold bK
 cases !(cy n)||(decide (n.1≠2)|| !(qM s (cU n))) with
 |true=>rfl
 |false=>rw [h];rfl
theorem aeF {s:ay}{n:fv}(h:decide (((c8 s (cU n)).1.size:Int)≠n.2.2.1)=true):bK s n=([],false):=by
 unfold bK
 cases !(cy n)||(decide (n.1≠2)|| !(qM s (cU n))) with
 |true=>rfl
 |false=>rw [h,ZC4];rfl
theorem aeE {s:ay}{n:fv}(h1:(!(cy n))=false) (h2:decide (n.1≠2)=false) (h3:(!(qM s (cU n)))=false) (h4:(!(c8 s (cU n)).2)=false) (h5:decide (((c8 s (cU n)).1.size:Int)≠n.2.2.1)=false):bK s n=cQ (c8 s (cU n)).1:=by
 unfold bK;rw [h1,h2,h3,h4,h5];rfl
def jn (S:ay) (n:fv):Prop:=S.rd
def cR (S:ay) (n:fv):AV:=.t [.s (.vw aK (bK S n).1),.s (.q (bK S n).2)]
def KT (S:ay) (n:fv):List AV:=[]
def iE:ct where
 A:=[.a xy,.a [.int,.int,.int,.int,.int,.int,.int,.int,.int,.int]]
 B:=[]
 pre:=fun x b=>jn (x.1) (x.2)
 r:=fun x b _=>cR (x.1) (x.2)
 o:=fun x b _=>KT (x.1) (x.2)
theorem tJ:Has Tryz.prog 254 iE:=by
 refine Has.fu zT zF zF (l:=[(133,qH),(72,JV),(125,PU),(272,uk)]) ⟨IP,adN,afR,PI,aa⟩ Tryz.func254 ?_
 rintro⟨⟨(aj:List ByteArray),(ak:List Int),(an:List Int),(ao:Int),(ah:List Pt),(aq:Int),(ai:List Pt),(ar:Bool)⟩,⟨(n1:Int),(n2:Int),(n3:Int),(n4:Int),(n5:Int),(n6:Int),(n7:Int),(n8:Int),(n9:Int),(cx:Int)⟩⟩ _ (hp:jn (aj,ak,an,ao,ah,aq,ai,ar) (n1,n2,n3,n4,n5,n6,n7,n8,n9,cx))
 show vc _ _ _ _ (entry [.a [.vz ab aj,.vz ag ak,.vz ag an,.int ao,.vz ae ah,.int aq,.vz ae ai,.q ar],.a [.int n1,.int n2,.int n3,.int n4,.int n5,.int n6,.int n7,.int n8,.int n9,.int cx]] []) _
 have dG:ay.rd (aj,ak,an,ao,ah,aq,ai,ar):=hp
 have sV:(!(cy (n1,n2,n3,n4,n5,n6,n7,n8,n9,cx)))=false→bf.ok (cU (n1,n2,n3,n4,n5,n6,n7,n8,n9,cx)):=fun h=>nZ (cM h)
 have dj:(!(cy (n1,n2,n3,n4,n5,n6,n7,n8,n9,cx)))=false→n3≤2048:=fun h=>(ll (cM h)).2.2.1.2
 refine⟨⟨⟨⟨aa,aa,aa,aa,aa,aa,aa,aa,aa,aa,aa⟩,aa⟩,aa⟩,fun x1 w2=>⟨aa,fun w3=>⟨aa,?_⟩,fun w4=>⟨aa,fun w5=>⟨aa,?_⟩,fun w6=>⟨⟨⟨⟨aa,aa,aa,aa,aa,aa,aa,aa,aa⟩,⟨aa,aa,aa,aa,aa,aa,aa,aa⟩,aa⟩,?_⟩,fun x7 w8=>⟨fun w9=>⟨aa,?_⟩,fun dy=>⟨⟨⟨⟨aa,aa,aa,aa,aa,aa,aa,aa,aa⟩,⟨aa,aa,aa,aa,aa,aa,aa,aa⟩,aa⟩,?_,?_⟩,fun kB dK=>⟨aa,fun iV=>⟨aa,?_⟩,fun gP=>⟨fun qN=>⟨aa,?_⟩,fun ki=>⟨⟨⟨aa,aa⟩,?_⟩,fun x17 rV=>?_⟩⟩⟩⟩⟩⟩⟩⟩⟩
 all_goals first|refine aw ?_|refine ax ?_|exact a8|(dsimp only [qH,qh,JV,zu,PU,B2,uk,lV];omega)|exact a7|exact dG|exact sV w4|skip
 ·refine⟨[],[],_,_,_,rfl,cg,(),aa,?_,?_,rfl⟩
  ·(show _=cR (aj,ak,an,ao,ah,aq,ai,ar) (n1,n2,n3,n4,n5,n6,n7,n8,n9,cx));unfold cR;first|(rw [aeJ (s:=(aj,ak,an,ao,ah,aq,ai,ar)) (n:=(n1,n2,n3,n4,n5,n6,n7,n8,n9,cx)) w3];rfl)|rfl
  ·rfl
 ·refine⟨[],[],_,_,_,rfl,cg,(),aa,?_,?_,rfl⟩
  ·(show _=cR (aj,ak,an,ao,ah,aq,ai,ar) (n1,n2,n3,n4,n5,n6,n7,n8,n9,cx));unfold cR;first|(rw [aeI (s:=(aj,ak,an,ao,ah,aq,ai,ar)) (n:=(n1,n2,n3,n4,n5,n6,n7,n8,n9,cx)) w5];rfl)|rfl
  ·rfl
 ·refine⟨[],[],_,_,_,rfl,cg,(),aa,?_,?_,rfl⟩
  ·(show _=cR (aj,ak,an,ao,ah,aq,ai,ar) (n1,n2,n3,n4,n5,n6,n7,n8,n9,cx));unfold cR;first|(rw [aeH (s:=(aj,ak,an,ao,ah,aq,ai,ar)) (n:=(n1,n2,n3,n4,n5,n6,n7,n8,n9,cx)) w9];rfl)|rfl
  ·rfl
 ·refine⟨[],[],_,_,_,rfl,cg,(),aa,?_,?_,rfl⟩
  ·(show _=cR (aj,ak,an,ao,ah,aq,ai,ar) (n1,n2,n3,n4,n5,n6,n7,n8,n9,cx));unfold cR;first|(rw [aeG (s:=(aj,ak,an,ao,ah,aq,ai,ar)) (n:=(n1,n2,n3,n4,n5,n6,n7,n8,n9,cx)) iV];rfl)|rfl
  ·rfl
 ·refine⟨[],[],_,_,_,rfl,cg,(),aa,?_,?_,rfl⟩
  ·(show _=cR (aj,ak,an,ao,ah,aq,ai,ar) (n1,n2,n3,n4,n5,n6,n7,n8,n9,cx));unfold cR;first|(rw [aeF (s:=(aj,ak,an,ao,ah,aq,ai,ar)) (n:=(n1,n2,n3,n4,n5,n6,n7,n8,n9,cx)) qN];rfl)|rfl
  ·rfl
 ·have h5:=aA (p:=((c8 (aj,ak,an,ao,ah,aq,ai,ar) (cU (n1,n2,n3,n4,n5,n6,n7,n8,n9,cx))).1.size:Int)≠n3) ki
  have:=dj w4
  show (c8 (aj,ak,an,ao,ah,aq,ai,ar) (cU (n1,n2,n3,n4,n5,n6,n7,n8,n9,cx))).1.size≤1000000;omega
 ·have e:=aeE (s:=(aj,ak,an,ao,ah,aq,ai,ar)) (n:=(n1,n2,n3,n4,n5,n6,n7,n8,n9,cx)) w4 w6 dy gP ki
  refine⟨[],[],_,_,_,rfl,cg,(),aa,?_,?_,rfl⟩
  ·(show _=cR (aj,ak,an,ao,ah,aq,ai,ar) (n1,n2,n3,n4,n5,n6,n7,n8,n9,cx));unfold cR;first|(rw [e];exact congrArg (fun x=>AV.t [A0.s (SV.vw aK x),A0.s (SV.q (cQ (c8 (aj,ak,an,ao,ah,aq,ai,ar) (cU (n1,n2,n3,n4,n5,n6,n7,n8,n9,cx))).1).2)]) (QP (cQ (c8 (aj,ak,an,ao,ah,aq,ai,ar) (cU (n1,n2,n3,n4,n5,n6,n7,n8,n9,cx))).1).1))|rfl
  ·rfl
def oG (s:ay) (t:bf):List fv:=(bq s t).map fun x=>(bA x).1
def lQ (S:ay) (t:bf):Prop:=S.rd∧t.ok
def s6 (S:ay) (t:bf):AV:=.s (.vw o9 (oG S t))
def RX (S:ay) (t:bf):List AV:=[]
def kT:ct where
 A:=[.a xy,.a [.int,.int,.int,.int,.int,.int,.int]]
 B:=[]
 pre:=fun x b=>lQ (x.1) (x.2)
 r:=fun x b _=>s6 (x.1) (x.2)
 o:=fun x b _=>RX (x.1) (x.2)
theorem yH:Has Tryz.prog 101 kT:=by
 refine Has.fu zT zF zF (l:=[(90,df),(129,nk)]) ⟨iS,CT,aa⟩ Tryz.func101 ?_
 rintro⟨⟨(aj:List ByteArray),(ak:List Int),(an:List Int),(ao:Int),(ah:List Pt),(aq:Int),(ai:List Pt),(ar:Bool)⟩,⟨(t1:Int),(t2:Int),(t3:Int),(t4:Int),(t5:Int),(t6:Int),(t7:Int)⟩⟩ _ (hp:lQ (aj,ak,an,ao,ah,aq,ai,ar) (t1,t2,t3,t4,t5,t6,t7))
 show vc _ _ _ _ (entry [.a [.vz ab aj,.vz ag ak,.vz ag an,.int ao,.vz ae ah,.int aq,.vz ae ai,.q ar],.a [.int t1,.int t2,.int t3,.int t4,.int t5,.int t6,.int t7]] []) _
 obtain⟨dG,cH⟩:=hp
 have dG:ay.rd (aj,ak,an,ao,ah,aq,ai,ar):=dG
 have cH:bf.ok (t1,t2,t3,t4,t5,t6,t7):=cH
 have h1:t7≤16:=cH.m1
 have hl:(bq (aj,ak,an,ao,ah,aq,ai,ar) (t1,t2,t3,t4,t5,t6,t7)).length=t7.toNat:=fq cH
 refine⟨aa,⟨⟨⟨aa,aa,aa,aa,aa,aa,aa,aa,aa⟩,⟨aa,aa,aa,aa,aa,aa,aa,aa⟩,aa⟩,?_,?_,?_,?_⟩,fun x1 w2=>?_⟩
 all_goals first|refine aw ?_|refine ax ?_|exact a8|(dsimp only [df,eG,nk,lj];omega)|exact a7|exact dG|exact cH.rd|exact cH.m0|exact cH.m1|skip
 refine cO (l:=[(90,df),(129,nk)]) (ex:=zT) (wr:=zF) (pt:=zF) ⟨iS,CT,aa⟩ [.s 2,.s 3,.b 1002,.b 1003,.s 6,.b 140000] (fun y:Nat×List fv=>[(.s 5,.s (.xs 1010 10 0 y.2.length)),(.s 7,.int y.1),(.b 1010,.rs o9 y.2)]) (fun y=>y.1≤(bq (aj,ak,an,ao,ah,aq,ai,ar) (t1,t2,t3,t4,t5,t6,t7)).length∧y.2=((bq (aj,ak,an,ao,ah,aq,ai,ar) (t1,t2,t3,t4,t5,t6,t7)).take y.1).map fun x=>(bA x).1) (fun y=>(bq (aj,ak,an,ao,ah,aq,ai,ar) (t1,t2,t3,t4,t5,t6,t7)).length-y.1) (0,[]) [] ⟨ZA7 _,rfl⟩ dN ?_
 rintro⟨i,out⟩ ⟨(hi:i≤(bq (aj,ak,an,ao,ah,aq,ai,ar) (t1,t2,t3,t4,t5,t6,t7)).length),(he:out=((bq (aj,ak,an,ao,ah,aq,ai,ar) (t1,t2,t3,t4,t5,t6,t7)).take i).map fun x=>(bA x).1)⟩
 have bV:decide ((i:Int)<((bq (aj,ak,an,ao,ah,aq,ai,ar) (t1,t2,t3,t4,t5,t6,t7)).length:Int))=true→i<(bq (aj,ak,an,ao,ah,aq,ai,ar) (t1,t2,t3,t4,t5,t6,t7)).length:=fun h=>by have:=aJ h;omega
 have dj:=WO (wz (s:=(aj,ak,an,ao,ah,aq,ai,ar)) (t:=(t1,t2,t3,t4,t5,t6,t7)) dG) i
 have hlo:out.length=i:=by rw [he,ZG2,ZC0];omega
 refine⟨fun w1=>⟨⟨?_,?_⟩,?_,⟨⟨aa,aa⟩,?_⟩,fun x2 w3=>⟨aa,⟨⟨?_,?_⟩,?_,?_⟩,⟨?_,?_⟩,?_⟩⟩,fun w4=>?_⟩
 all_goals first|refine aw ?_|refine ax ?_|exact a8|(dsimp only [df,eG,nk,lj];omega)|exact a7|exact bV w1|exact dj|(show (i:Int)<((bq (aj,ak,an,ao,ah,aq,ai,ar) (t1,t2,t3,t4,t5,t6,t7)).length:Int);have:=bV w1;omega)|skip
 ·have mu:=bV w1
  refine⟨(i+1,out++[(bA (nth ab (bq (aj,ak,an,ao,ah,aq,ai,ar) (t1,t2,t3,t4,t5,t6,t7)) i)).1]),[(1010,1031)],?_,?_,?_⟩
  rotate_right
  ·exact bW
  ·refine⟨mu,?_⟩
   show out++[_]=((bq (aj,ak,an,ao,ah,aq,ai,ar) (t1,t2,t3,t4,t5,t6,t7)).take (i+1)).map fun x=>(bA x).1
   rw [List.take_add_one,show (bq (aj,ak,an,ao,ah,aq,ai,ar) (t1,t2,t3,t4,t5,t6,t7))[i]?=some (nth ab (bq (aj,ak,an,ao,ah,aq,ai,ar) (t1,t2,t3,t4,t5,t6,t7)) i) from oF (ek:=ab) mu,he]
   simp
  ·show (bq (aj,ak,an,ao,ah,aq,ai,ar) (t1,t2,t3,t4,t5,t6,t7)).length-(i+1)<(bq (aj,ak,an,ao,ah,aq,ai,ar) (t1,t2,t3,t4,t5,t6,t7)).length-i;omega
 ·have e:oG (aj,ak,an,ao,ah,aq,ai,ar) (t1,t2,t3,t4,t5,t6,t7)=out:=by rw [he,ZD1 (by have:=aA (p:=(i:Int)<((bq (aj,ak,an,ao,ah,aq,ai,ar) (t1,t2,t3,t4,t5,t6,t7)).length:Int)) (by assumption);omega)];rfl
  refine⟨[],[],_,_,_,rfl,cg,(),aa,?_,?_,rfl⟩
  ·(show _=s6 (aj,ak,an,ao,ah,aq,ai,ar) (t1,t2,t3,t4,t5,t6,t7));unfold s6;first|(rw [e];exact congrArg (fun x=>AV.s (SV.vw o9 x)) (QP out))|rfl
  ·rfl
def EY (s:ay) (t:bf):List ByteArray→Int→Int
 |[],k=>k
 |x::l,k=>bif !(bK s (cL s t k).1).2||decide (lz (bK s (cL s t k).1).1 x<0) then -1 else EY s t l (nth aK (bK s (cL s t k).1).1 (lz (bK s (cL s t k).1).1 x).toNat).2
theorem ZX {s:ay}{t:bf}{x:ByteArray}{l:List ByteArray}{k:Int}(h:(!(bK s (cL s t k).1).2)=true):EY s t (x::l) k= -1:=by rw [EY,h];rfl
theorem ZW {s:ay}{t:bf}{x:ByteArray}{l:List ByteArray}{k:Int}(h:decide (lz (bK s (cL s t k).1).1 x<0)=true):EY s t (x::l) k= -1:=by rw [EY,h,ZC4];rfl
theorem MN {s:ay}{t:bf}{x:ByteArray}{l:List ByteArray}{k:Int}(h:(!(bK s (cL s t k).1).2)=false) (h2:decide (lz (bK s (cL s t k).1).1 x<0)=false):EY s t (x::l) k=EY s t l (nth aK (bK s (cL s t k).1).1 (lz (bK s (cL s t k).1).1 x).toNat).2:=by rw [EY,h,h2];rfl
def uP (s:ay) (t:bf) (l:List ByteArray):Int:=EY s t l 0
theorem afm:∀{f:Nat}{l:List eV}{i:Nat}{name:ByteArray},i+f=l.length→0≤atF f l i name→(i:Int)≤atF f l i name∧atF f l i name<l.length∧(nth aK l (atF f l i name).toNat).1=name
 |0,l,i,name,_,h=>absurd (show (0:Int)≤-1 from h) (by decide)
 |f+1,l,i,name,hf,h=>by
  cases hd:decide ((nth aK l i).1=name) with
  |true=>rw [ag0 hd];exact⟨ZC1 _,by omega,by rw [ZA5];exact aJ hd⟩
  |false=>
   rw [ag1 hd] at h ⊢
   have:=afm (f:=f) (i:=i+1) (by omega) h
   exact⟨by omega,this.2⟩
theorem za {l:List eV}{name:ByteArray}(h:0≤lz l name):lz l name<l.length∧(nth aK l (lz l name).toNat).1=name:=(afm (ZA6 _) h).2
theorem FN (s:ay) (n:fv):(bK s n).1.length≤12∧∀e∈(bK s n).1,fD e.1=true∧1≤e.2∧e.2≤15:=by
 have h0:([]:List eV).length≤12∧∀e∈([]:List eV),fD e.1=true∧1≤e.2∧e.2≤15:=⟨ZA7 _,fun e h=>absurd h ZF6⟩
 unfold bK
 cases !(cy n)||(decide (n.1≠2)|| !(qM s (cU n))) with
 |true=>exact h0
 |false=>cases !(c8 s (cU n)).2||decide (((c8 s (cU n)).1.size:Int)≠n.2.2.1) with
  |true=>exact h0
  |false=>
   show (cQ _).1.length≤12∧∀e∈(cQ _).1,_
   generalize (c8 s (cU n)).1=x
   cases he:egF ((bn x 59).length) (bn x 59) 0 [] with
   |none=>rw [xI he];exact h0
   |some o=>
    rw [nA he]
    cases h1: !(eF o) with
    |true=>rw [aai h1];exact h0
    |false=>cases h2:decide (en o≠x) with
     |true=>rw [aah h2];exact h0
     |false=>rw [aaj h1 h2];exact xH (cM h1)
def q6 (S:ay) (t:bf) (l:List ByteArray):Prop:=S.rd∧t.ok∧l.length≤1000000
def jg (S:ay) (t:bf) (l:List ByteArray):AV:=.s (.int (uP S t l))
def V0 (S:ay) (t:bf) (l:List ByteArray):List AV:=[]
def sK:ct where
 A:=[.a xy,.a [.int,.int,.int,.int,.int,.int,.int],.s (.vz ab)]
 B:=[]
 pre:=fun x b=>q6 (x.1) (x.2.1) (x.2.2)
 r:=fun x b _=>jg (x.1) (x.2.1) (x.2.2)
 o:=fun x b _=>V0 (x.1) (x.2.1) (x.2.2)
theorem L8:Has Tryz.prog 256 sK:=by
 refine Has.fu zT zF zF (l:=[(257,jG),(254,iE),(227,o6)]) ⟨vC,tJ,FF,aa⟩ Tryz.func256 ?_
 rintro⟨⟨(aj:List ByteArray),(ak:List Int),(an:List Int),(ao:Int),(ah:List Pt),(aq:Int),(ai:List Pt),(ar:Bool)⟩,⟨(t1:Int),(t2:Int),(t3:Int),(t4:Int),(t5:Int),(t6:Int),(t7:Int)⟩,(l:List ByteArray)⟩ _ (hp:q6 (aj,ak,an,ao,ah,aq,ai,ar) (t1,t2,t3,t4,t5,t6,t7) l)
 show vc _ _ _ _ (entry [.a [.vz ab aj,.vz ag ak,.vz ag an,.int ao,.vz ae ah,.int aq,.vz ae ai,.q ar],.a [.int t1,.int t2,.int t3,.int t4,.int t5,.int t6,.int t7],.s (.vz ab l)] []) _
 obtain⟨dG,cH,hlen⟩:=hp
 have dG:ay.rd (aj,ak,an,ao,ah,aq,ai,ar):=dG
 have cH:bf.ok (t1,t2,t3,t4,t5,t6,t7):=cH
 refine ?_
 all_goals first|refine aw ?_|refine ax ?_|exact a8|(dsimp only [jG,kL,iE,jn,o6,pc];omega)|exact a7|skip
 refine cO (l:=[(257,jG),(254,iE),(227,o6)]) (ex:=zT) (wr:=zF) (pt:=zF) ⟨vC,tJ,FF,aa⟩ [.s 2,.s 3,.s 4,.b 1003,.b 1004] (fun y:Nat×Int=>[(.s 7,.int y.2),(.s 8,.int y.1)]) (fun y=>y.1≤l.length∧EY (aj,ak,an,ao,ah,aq,ai,ar) (t1,t2,t3,t4,t5,t6,t7) (l.drop y.1) y.2=uP (aj,ak,an,ao,ah,aq,ai,ar) (t1,t2,t3,t4,t5,t6,t7) l) (fun y=>l.length-y.1) (0,0) [] ⟨ZA7 _,rfl⟩ dN ?_
 rintro⟨i,k⟩ ⟨(hi:i≤l.length),(hr:EY (aj,ak,an,ao,ah,aq,ai,ar) (t1,t2,t3,t4,t5,t6,t7) (l.drop i) k=uP (aj,ak,an,ao,ah,aq,ai,ar) (t1,t2,t3,t4,t5,t6,t7) l)⟩
 have bV:decide ((i:Int)<(l.length:Int))=true→i<l.length:=fun h=>by have:=aJ h;omega
 have heb:=FN (aj,ak,an,ao,ah,aq,ai,ar) (cL (aj,ak,an,ao,ah,aq,ai,ar) (t1,t2,t3,t4,t5,t6,t7) k).1
 refine⟨fun w1=>⟨⟨⟨⟨aa,aa,aa,aa,aa,aa,aa,aa,aa⟩,⟨aa,aa,aa,aa,aa,aa,aa,aa⟩,aa,aa⟩,?_,?_⟩,fun x2 w3=>⟨⟨⟨⟨aa,aa,aa,aa,aa,aa,aa,aa,aa⟩,⟨aa,aa,aa,aa,aa,aa,aa,aa,aa,aa,aa⟩,aa⟩,?_⟩,fun x4 w5=>⟨⟨?_,?_⟩,⟨⟨aa,aa,aa⟩,?_⟩,fun x6 w7=>⟨aa,fun w8=>?_,fun w9=>⟨fun dy=>?_,fun kC=>⟨⟨?_,?_⟩,⟨?_,?_⟩,?_⟩⟩⟩⟩⟩⟩,fun dK=>?_⟩
 all_goals first|refine aw ?_|refine ax ?_|exact a8|(dsimp only [jG,kL,iE,jn,o6,pc];omega)|exact a7|exact bV w1|exact dG|exact cH|exact ZB0 heb.1 (by decide)|skip
 ·have mu:=bV w1
  have e:uP (aj,ak,an,ao,ah,aq,ai,ar) (t1,t2,t3,t4,t5,t6,t7) l= -1:=by rw [←hr,bX (ek:=ab) mu,ZX (show (!(bK (aj,ak,an,ao,ah,aq,ai,ar) (cL (aj,ak,an,ao,ah,aq,ai,ar) (t1,t2,t3,t4,t5,t6,t7) k).1).2)=true from w8)]
  refine⟨[],[],_,_,_,rfl,az,(),aa,?_,?_,rfl⟩
  ·(show _=jg (aj,ak,an,ao,ah,aq,ai,ar) (t1,t2,t3,t4,t5,t6,t7) l);unfold jg;first|(rw [e];rfl)|rfl
  ·rfl
 ·have mu:=bV w1
  have e:uP (aj,ak,an,ao,ah,aq,ai,ar) (t1,t2,t3,t4,t5,t6,t7) l= -1:=by rw [←hr,bX (ek:=ab) mu,ZW (show decide (lz (bK (aj,ak,an,ao,ah,aq,ai,ar) (cL (aj,ak,an,ao,ah,aq,ai,ar) (t1,t2,t3,t4,t5,t6,t7) k).1).1 (nth ab l i)<0)=true from dy)]
  refine⟨[],[],_,_,_,rfl,az,(),aa,?_,?_,rfl⟩
  ·(show _=jg (aj,ak,an,ao,ah,aq,ai,ar) (t1,t2,t3,t4,t5,t6,t7) l);unfold jg;first|(rw [e];rfl)|rfl
  ·rfl
 ·have h0:=aA (show decide (lz (bK (aj,ak,an,ao,ah,aq,ai,ar) (cL (aj,ak,an,ao,ah,aq,ai,ar) (t1,t2,t3,t4,t5,t6,t7) k).1).1 (nth ab l i)<0)=false from kC)
  show 0≤lz (bK (aj,ak,an,ao,ah,aq,ai,ar) (cL (aj,ak,an,ao,ah,aq,ai,ar) (t1,t2,t3,t4,t5,t6,t7) k).1).1 (nth ab l i);omega
 ·have h0:=aA (show decide (lz (bK (aj,ak,an,ao,ah,aq,ai,ar) (cL (aj,ak,an,ao,ah,aq,ai,ar) (t1,t2,t3,t4,t5,t6,t7) k).1).1 (nth ab l i)<0)=false from kC)
  exact (za (l:=(bK (aj,ak,an,ao,ah,aq,ai,ar) (cL (aj,ak,an,ao,ah,aq,ai,ar) (t1,t2,t3,t4,t5,t6,t7) k).1).1) (name:=nth ab l i) (by omega)).1
 ·have mu:=bV w1
  refine⟨(i+1,(nth aK (bK (aj,ak,an,ao,ah,aq,ai,ar) (cL (aj,ak,an,ao,ah,aq,ai,ar) (t1,t2,t3,t4,t5,t6,t7) k).1).1 (lz (bK (aj,ak,an,ao,ah,aq,ai,ar) (cL (aj,ak,an,ao,ah,aq,ai,ar) (t1,t2,t3,t4,t5,t6,t7) k).1).1 (nth ab l i)).toNat).2),[],?_,?_,?_⟩
  rotate_right
  ·exact bW
  ·refine⟨mu,?_⟩
   rw [←hr,bX (ek:=ab) mu,MN (show (!(bK (aj,ak,an,ao,ah,aq,ai,ar) (cL (aj,ak,an,ao,ah,aq,ai,ar) (t1,t2,t3,t4,t5,t6,t7) k).1).2)=false from w9) (show decide (lz (bK (aj,ak,an,ao,ah,aq,ai,ar) (cL (aj,ak,an,ao,ah,aq,ai,ar) (t1,t2,t3,t4,t5,t6,t7) k).1).1 (nth ab l i)<0)=false from kC)]
  ·show l.length-(i+1)<l.length-i;omega
 ·have e:uP (aj,ak,an,ao,ah,aq,ai,ar) (t1,t2,t3,t4,t5,t6,t7) l=k:=by rw [←hr,ZB3 (by have:=aA (p:=(i:Int)<(l.length:Int)) dK;omega)];rfl
  refine⟨[],[],_,_,_,rfl,az,(),aa,?_,?_,rfl⟩
  ·(show _=jg (aj,ak,an,ao,ah,aq,ai,ar) (t1,t2,t3,t4,t5,t6,t7) l);unfold jg;first|(rw [e];rfl)|rfl
  ·rfl
end GL
namespace GL
abbrev r3 (s:ay) (n:fv) (a:Int):ByteArray:=jf s n++kI (a-(jf s n).size)
abbrev UP (s:ay) (n:fv) (a:Int) (text:ByteArray):ByteArray:=(r3 s n a).extract 0 a.toNat++text++(r3 s n a).extract (min ((r3 s n a).size:Int) (a+text.size)).toNat (r3 s n a).size
theorem K4 {s:ay}{n:fv}{a:Int}:(r3 s n a).size=(jf s n).size+(max 0 (a-(jf s n).size)).toNat:=by rw [ZB2,kY]
theorem aaA {s:ay}{n:fv}{a:Int}{text:ByteArray}(h:0≤a):a.toNat+text.size≤(UP s n a text).size∧(UP s n a text).size≤(r3 s n a).size+text.size:=by
 have h1:=K4 (s:=s) (n:=n) (a:=a)
 show _≤((r3 s n a).extract 0 a.toNat++text++(r3 s n a).extract (min ((r3 s n a).size:Int) (a+text.size)).toNat (r3 s n a).size).size∧((r3 s n a).extract 0 a.toNat++text++(r3 s n a).extract (min ((r3 s n a).size:Int) (a+text.size)).toNat (r3 s n a).size).size≤_
 rw [ZB2,ZB2,ZC5,ZC5]
 omega
def nE (s:ay) (n:fv) (a:Int) (text:ByteArray):ay×fv×Bool:=bif decide (text=⟨#[]⟩) then (s,n,true) else zx s n (UP s n a text) (a / 12) ((a+text.size-1) / 12)
theorem NQ {s:ay}{n:fv}{a:Int}{text:ByteArray}(h:decide (text=⟨#[]⟩)=true):nE s n a text=(s,n,true):=by unfold nE;rw [h];rfl
theorem NP {s:ay}{n:fv}{a:Int}{text:ByteArray}(h:decide (text=⟨#[]⟩)=false):nE s n a text=zx s n (UP s n a text) (a / 12) ((a+text.size-1) / 12):=by unfold nE;rw [h];rfl
def tj (S:ay) (n:fv) (at':Int) (text:ByteArray):Prop:=S.wg 1045000∧n.fok∧0≤at'∧at'+text.size≤192
def lJ (S:ay) (n:fv) (at':Int) (text:ByteArray):AV:=.t [.a (kZ 0 1 2 5 6 (nE S n at' text).1),ndA (nE S n at' text).2.1,.s (.q (nE S n at' text).2.2)]
def nV (S:ay) (n:fv) (at':Int) (text:ByteArray):List AV:=[.rs ab (nE S n at' text).1.rows,.rs ag (nE S n at' text).1.refs,.rs ag (nE S n at' text).1.last,.zz,.zz,.rs ae (nE S n at' text).1.gone,.rs ae (nE S n at' text).1.dead]
def yY:ct where
 A:=[.a (stB 0 1 2 3 4),.a [.int,.int,.int,.int,.int,.int,.int,.int,.int,.int],.s .int,.s .str]
 B:=[.r ab,.r ag,.r ag,.r ae,.r ae]
 pre:=fun x b=>stW x.1 b∧tj (gQ x.1 b) (x.2.1) (x.2.2.1) (x.2.2.2)
 r:=fun x b _=>lJ (gQ x.1 b) (x.2.1) (x.2.2.1) (x.2.2.2)
 o:=fun x b _=>nV (gQ x.1 b) (x.2.1) (x.2.2.1) (x.2.2.2)
 nf:=2
 mv:=true
theorem W3:Has Tryz.prog 132 yY:=by
 refine Has.ofZ zT zF zF (l:=[(96,sL),(136,iF),(173,vV)]) ⟨L9,tK,S6,aa⟩ Tryz.func132 ?_
 rintro⟨⟨(AU:Nat),(AT:Nat),(AS:Nat),(ao:Int),(AR:Nat),(aq:Int),(AQ:Nat),(ar:Bool)⟩,⟨(n1:Int),(n2:Int),(n3:Int),(n4:Int),(n5:Int),(n6:Int),(n7:Int),(n8:Int),(n9:Int),(cx:Int)⟩,(at':Int),(text:ByteArray)⟩ ⟨(aj:List ByteArray),(ak:List Int),(an:List Int),(ah:List Pt),(ai:List Pt)⟩ ⟨⟨(gD:AU=List.length aj),(gC:AT=List.length ak),(gB:AS=List.length an),(gA:AR=List.length ah),(gz:AQ=List.length ai)⟩,(hp:tj (aj,ak,an,ao,ah,aq,ai,ar) (n1,n2,n3,n4,n5,n6,n7,n8,n9,cx) at' text)⟩
 subst gD gC gB gA gz
 show vc _ _ _ _ (entry [.a [.xs 0 1 0 aj.length,.xs 1 1 0 ak.length,.xs 2 1 0 an.length,.int ao,.xs 3 5 0 ah.length,.int aq,.xs 4 5 0 ai.length,.q ar],.a [.int n1,.int n2,.int n3,.int n4,.int n5,.int n6,.int n7,.int n8,.int n9,.int cx],.int at',.str text] [.rs ab aj,.rs ag ak,.rs ag an,.rs ae ah,.rs ae ai]) _
 obtain⟨lu,hf,ha0,ha1⟩:=hp
 have lu:ay.wg (aj,ak,an,ao,ah,aq,ai,ar) 1045000:=lu
 have hf:fv.fok (n1,n2,n3,n4,n5,n6,n7,n8,n9,cx):=hf
 have hts:=F9 lu.wf.rd hf
 have h1:=K4 (s:=(aj,ak,an,ao,ah,aq,ai,ar)) (n:=(n1,n2,n3,n4,n5,n6,n7,n8,n9,cx)) (a:=at')
 have h2:=aaA (s:=(aj,ak,an,ao,ah,aq,ai,ar)) (n:=(n1,n2,n3,n4,n5,n6,n7,n8,n9,cx)) (a:=at') (text:=text) ha0
 have oW:decide (text=⟨#[]⟩)=false→1≤text.size:=fun h=>size_pos (aA h)
 refine⟨fun w1=>⟨[.s 4,.b 1004],Sq15,rfl,[.s 5,.b 1005],Sq16,rfl,[.s 8,.s 15,.b 1008],[.b 1008],rfl,[.s 9,.s 16,.b 1009],[.b 1009],rfl,[],Sq10,rfl,?_⟩,fun w2=>⟨⟨⟨⟨⟨?_,?_⟩,⟨?_,?_⟩,⟨?_,?_⟩,aa,⟨?_,?_⟩,aa,⟨?_,?_⟩,aa,aa⟩,⟨aa,aa,aa,aa,aa,aa,aa,aa,aa,aa,aa⟩,aa⟩,?_,?_⟩,fun x3 w4=>⟨⟨?_,?_⟩,⟨⟨aa,aa⟩,?_⟩,fun x5 w6=>⟨?_,⟨?_,?_⟩,Sq11,Sq34,rfl,Sq2,Sq35,rfl,[.s 34,.s 35],Sq36,rfl,⟨?_,?_,?_⟩,Sq3,Sq37,rfl,[.s 36,.s 37],Sq38,rfl,?_,Sq11,Sq39,rfl,Sq12,Sq40,rfl,[.s 39,.s 40],Sq41,rfl,⟨?_,?_,?_⟩,[.s 38,.s 41],Sq42,rfl,?_,Sq42,Sq11,rfl,⟨?_,?_,?_⟩,⟨?_,?_⟩,⟨?_,?_⟩,⟨?_,?_,?_⟩,⟨⟨⟨aa,aa,aa,aa,aa,aa,aa,aa,aa⟩,⟨aa,aa,aa,aa,aa,aa,aa,aa,aa,aa,aa⟩,aa,aa,aa,aa⟩,⟨?_,?_,?_,?_,?_⟩,?_,?_,?_,?_,?_,?_,?_⟩,fun x7 w8=>?_⟩⟩⟩⟩
 all_goals first|refine aw ?_|refine ax ?_|exact a8|(dsimp only [sL,q7,iF,jQ,vV,tk,gQ];omega)|exact a7|exact lu.wf.rd|exact hf|exact lu|exact hf.ok|(have:=oW w2;omega)|skip
 ·refine⟨[3,4],[],_,_,_,rfl,az,(),0,aa,?_,?_,rfl⟩
  ·(show _=lJ (aj,ak,an,ao,ah,aq,ai,ar) (n1,n2,n3,n4,n5,n6,n7,n8,n9,cx) at' text);unfold lJ;first|(rw [NQ (s:=(aj,ak,an,ao,ah,aq,ai,ar)) (n:=(n1,n2,n3,n4,n5,n6,n7,n8,n9,cx)) (a:=at') w1];rfl)|rfl
  ·(show _=nV (aj,ak,an,ao,ah,aq,ai,ar) (n1,n2,n3,n4,n5,n6,n7,n8,n9,cx) at' text);unfold nV;first|(rw [NQ (s:=(aj,ak,an,ao,ah,aq,ai,ar)) (n:=(n1,n2,n3,n4,n5,n6,n7,n8,n9,cx)) (a:=at') w1];rfl)|rfl
 ·show (((jf (aj,ak,an,ao,ah,aq,ai,ar) (n1,n2,n3,n4,n5,n6,n7,n8,n9,cx)).size+(kI (at'-(jf (aj,ak,an,ao,ah,aq,ai,ar) (n1,n2,n3,n4,n5,n6,n7,n8,n9,cx)).size)).size:Nat):Int)≤imax
  rw [kY];unfold imax;omega
 ·show at'≤((r3 (aj,ak,an,ao,ah,aq,ai,ar) (n1,n2,n3,n4,n5,n6,n7,n8,n9,cx) at').size:Int);omega
 ·show ((((r3 (aj,ak,an,ao,ah,aq,ai,ar) (n1,n2,n3,n4,n5,n6,n7,n8,n9,cx) at').extract 0 at'.toNat).size+text.size:Nat):Int)≤imax
  rw [ZC5];unfold imax;omega
 ·show ((((r3 (aj,ak,an,ao,ah,aq,ai,ar) (n1,n2,n3,n4,n5,n6,n7,n8,n9,cx) at').extract 0 at'.toNat++text).size+((r3 (aj,ak,an,ao,ah,aq,ai,ar) (n1,n2,n3,n4,n5,n6,n7,n8,n9,cx) at').extract (min ((r3 (aj,ak,an,ao,ah,aq,ai,ar) (n1,n2,n3,n4,n5,n6,n7,n8,n9,cx) at').size:Int) (at'+text.size)).toNat (r3 (aj,ak,an,ao,ah,aq,ai,ar) (n1,n2,n3,n4,n5,n6,n7,n8,n9,cx) at').size).size:Nat):Int)≤imax
  rw [ZB2,ZC5,ZC5];unfold imax;omega
 ·have:=oW w2
  show (at'+text.size-1) / 12*12≤((UP (aj,ak,an,ao,ah,aq,ai,ar) (n1,n2,n3,n4,n5,n6,n7,n8,n9,cx) at' text).size:Int);omega
 ·show (UP (aj,ak,an,ao,ah,aq,ai,ar) (n1,n2,n3,n4,n5,n6,n7,n8,n9,cx) at' text).size≤100000000;omega
 ·refine⟨[1000550000,1000550001],[],_,_,_,rfl,az,(),0,aa,?_,?_,rfl⟩
  ·(show _=lJ (aj,ak,an,ao,ah,aq,ai,ar) (n1,n2,n3,n4,n5,n6,n7,n8,n9,cx) at' text);unfold lJ;first|(rw [NP (s:=(aj,ak,an,ao,ah,aq,ai,ar)) (n:=(n1,n2,n3,n4,n5,n6,n7,n8,n9,cx)) (a:=at') w2];rfl)|rfl
  ·(show _=nV (aj,ak,an,ao,ah,aq,ai,ar) (n1,n2,n3,n4,n5,n6,n7,n8,n9,cx) at' text);unfold nV;first|(rw [NP (s:=(aj,ak,an,ao,ah,aq,ai,ar)) (n:=(n1,n2,n3,n4,n5,n6,n7,n8,n9,cx)) (a:=at') w2];rfl)|rfl
theorem QB {size:Int}:∀{l:List ByteArray}{k:Nat}{out:ByteArray},out.size≤(txF size l k out).size
 |[],k,out=>ZB5 _
 |x::l,k,out=>by
  have h:=QB (size:=size) (l:=l) (k:=k+1) (out:=out++x++kI (mz size k-x.size))
  rw [ZB2,ZB2] at h
  rw [txF];omega
theorem acm {size:Int}:∀{l:List ByteArray}{k:Nat}{out:ByteArray},size≤12*((k+l.length:Nat):Int)→(out.size:Int)+(size-12*k)≤((txF size l k out).size:Int)
 |[],k,out,h=>by rw [ZA4] at h;show _≤(out.size:Int);omega
 |x::l,k,out,h=>by
  rw [ZA1] at h
  have h1:=acm (size:=size) (l:=l) (k:=k+1) (out:=out++x++kI (mz size k-x.size)) (by omega)
  have h2:=QB (size:=size) (l:=l) (k:=k+1) (out:=out++x++kI (mz size k-x.size))
  have h3:mz size k=min 12 (size-(k:Int)*12):=rfl
  rw [ZB2,ZB2,kY] at h1 h2
  rw [txF];omega
theorem node1 {n:fv}(h:cy n=true) (h1:n.1=1):(cU n).many=bh n.2.2.1 12∧0≤n.2.2.1∧n.2.2.1≤192:=by
 obtain⟨b1,b2,b3,b4,b5,b6,b7,b8,b9⟩:=ll h
 have e:kr n.1=12:=by rw [h1];rfl
 unfold bI at b7
 rw [e] at b7
 cases hi:iB n.2.2.1 0 (16*12) with
 |true=>
  rw [hi] at b7
  exact⟨b7,(cD.1 hi).1,(cD.1 hi).2⟩
 |false=>
  rw [hi] at b7
  have b7:n.2.2.2.2.2.2.2.2.2= -1:=b7
  omega
theorem aco {s:ay}{n:fv}(h:cy n=true) (h1:n.1=1):n.2.2.1≤((jf s n).size:Int):=by
 obtain⟨e,e0,e1⟩:=node1 h h1
 have cH:=nZ h
 have hl:=fq (s:=s) cH
 have h2:=acm (size:=n.2.2.1) (l:=bq s (cU n)) (k:=0) (out:=⟨#[]⟩) (by
  rw [hl,e];unfold bh;omega)
 have h3:(((⟨#[]⟩:ByteArray).size:Nat):Int)=0:=rfl
 rw [h3] at h2
 show _≤((txF _ _ _ _).size:Int);omega
theorem HR {n:fv}(h:cy n=true):n.fok:=by
 have:=(ll h).2.2.1
 exact⟨nZ h,by omega,by omega⟩
def J6 (c:ay×bf×Bool) (n:fv) (all:ByteArray) (size many:Int):ay×fv×Bool:=
 bif !c.2.2 then (c.1,n,false) else bif decide (many=0) then (c.1,ke n size c.2.1,true) else zx c.1 (ke n size c.2.1) (all.extract 0 size.toNat) (many-1) (many-1)
def jd (s:ay) (n:fv) (size:Int):ay×fv×Bool:=
 bif decide (size≥n.2.2.1) then
  (bif decide (bh size 12=(cU n).many) then (s,ke n size (cU n),true) else
   ((aY s (cU n) (bh size 12-1) ⟨#[]⟩).1,ke n size (aY s (cU n) (bh size 12-1) ⟨#[]⟩).2.1,(aY s (cU n) (bh size 12-1) ⟨#[]⟩).2.2))
 else J6 (cG s (cU n) (bh size 12)) n (jf s n) size (bh size 12)
def yl (S:ay) (n:fv) (size:Int):Prop:=S.wg 1044000∧cy n=true∧n.1=1∧0≤size∧size≤192
def eM (S:ay) (n:fv) (size:Int):AV:=.t [.a (kZ 0 1 2 5 6 (jd S n size).1),ndA (jd S n size).2.1,.s (.q (jd S n size).2.2)]
def fM (S:ay) (n:fv) (size:Int):List AV:=[.rs ab (jd S n size).1.rows,.rs ag (jd S n size).1.refs,.rs ag (jd S n size).1.last,.zz,.zz,.rs ae (jd S n size).1.gone,.rs ae (jd S n size).1.dead]
def J1:ct where
 A:=[.a (stB 0 1 2 3 4),.a [.int,.int,.int,.int,.int,.int,.int,.int,.int,.int],.s .int]
 B:=[.r ab,.r ag,.r ag,.r ae,.r ae]
 pre:=fun x b=>stW x.1 b∧yl (gQ x.1 b) (x.2.1) (x.2.2)
 r:=fun x b _=>eM (gQ x.1 b) (x.2.1) (x.2.2)
 o:=fun x b _=>fM (gQ x.1 b) (x.2.1) (x.2.2)
 nf:=2
 mv:=true
theorem adV:Has Tryz.prog 230 J1:=by
 refine Has.ofZ zT zF zF (l:=[(96,sL),(209,lx),(136,iF),(75,eA),(124,me),(173,vV)]) ⟨L9,D3,tK,l6,zI,S6,aa⟩ Tryz.func230 ?_
 rintro⟨⟨(AU:Nat),(AT:Nat),(AS:Nat),(ao:Int),(AR:Nat),(aq:Int),(AQ:Nat),(ar:Bool)⟩,⟨(n1:Int),(n2:Int),(n3:Int),(n4:Int),(n5:Int),(n6:Int),(n7:Int),(n8:Int),(n9:Int),(cx:Int)⟩,(size:Int)⟩ ⟨(aj:List ByteArray),(ak:List Int),(an:List Int),(ah:List Pt),(ai:List Pt)⟩ ⟨⟨(gD:AU=List.length aj),(gC:AT=List.length ak),(gB:AS=List.length an),(gA:AR=List.length ah),(gz:AQ=List.length ai)⟩,(hp:yl (aj,ak,an,ao,ah,aq,ai,ar) (n1,n2,n3,n4,n5,n6,n7,n8,n9,cx) size)⟩
 subst gD gC gB gA gz
 show vc _ _ _ _ (entry [.a [.xs 0 1 0 aj.length,.xs 1 1 0 ak.length,.xs 2 1 0 an.length,.int ao,.xs 3 5 0 ah.length,.int aq,.xs 4 5 0 ai.length,.q ar],.a [.int n1,.int n2,.int n3,.int n4,.int n5,.int n6,.int n7,.int n8,.int n9,.int cx],.int size] [.rs ab aj,.rs ag ak,.rs ag an,.rs ae ah,.rs ae ai]) _
 obtain⟨lu,uA,(hn1:n1=1),hs0,hs1⟩:=hp
 have lu:ay.wg (aj,ak,an,ao,ah,aq,ai,ar) 1044000:=lu
 have uA:cy (n1,n2,n3,n4,n5,n6,n7,n8,n9,cx)=true:=uA
 have hf:=HR uA
 have cH:=hf.ok
 have hts:=F9 lu.wf.rd hf
 have FK:n3≤((jf (aj,ak,an,ao,ah,aq,ai,ar) (n1,n2,n3,n4,n5,n6,n7,n8,n9,cx)).size:Int):=aco (s:=(aj,ak,an,ao,ah,aq,ai,ar)) uA hn1
 obtain⟨(hm:cx=bh n3 12),(CW:0≤n3),(hm1:n3≤192)⟩:=node1 uA hn1
 have hpm:bh size 12=(size+12-1) / 12:=rfl
 have hpn:bh n3 12=(n3+12-1) / 12:=rfl
 have hcu:=FQ (many:=bh size 12) lu cH (by omega) (by omega)
 refine⟨⟨⟨⟨⟨?_,?_⟩,⟨?_,?_⟩,⟨?_,?_⟩,aa,⟨?_,?_⟩,aa,⟨?_,?_⟩,aa,aa⟩,⟨aa,aa,aa,aa,aa,aa,aa,aa,aa,aa,aa⟩,aa⟩,?_,?_⟩,fun x1 w2=>⟨⟨⟨aa,aa,aa⟩,?_,?_,?_,?_⟩,fun x3 w4=>⟨fun w5=>⟨⟨?_,?_⟩,⟨⟨aa,aa⟩,?_⟩,fun x6 w7=>⟨?_,fun w8=>⟨[.s 3,.b 1003],Sq40,rfl,[.s 4,.b 1004],Sq41,rfl,[.s 6,.s 40,.b 1006],[.b 1006],rfl,[.s 7,.s 41,.b 1007],[.b 1007],rfl,[],Sq8,rfl,?_⟩,fun w9=>⟨⟨?_,?_⟩,⟨⟨⟨aa,aa,aa,aa,aa,aa,aa,aa,aa⟩,⟨aa,aa,aa,aa,aa,aa,aa,aa⟩,aa,aa,aa⟩,⟨?_,?_,?_,?_,?_⟩,?_,?_,?_,?_,?_,?_,?_,?_⟩,fun |false=>fun dy=>⟨[.s 11,.b 1011],Sq54,rfl,[.s 4,.b 1004],Sq55,rfl,Sq13,Sq56,rfl,[.s 6,.s 54,.b 1006],[.b 1006],rfl,[.s 7,.s 55,.b 1007],[.b 1007],rfl,Sq56,Sq8,rfl,?_⟩ |true=>fun kC=>⟨[.s 11,.b 1011],Sq54,rfl,[.s 4,.b 1004],Sq55,rfl,Sq13,Sq56,rfl,[.s 6,.s 54,.b 1006],[.b 1006],rfl,[.s 7,.s 55,.b 1007],[.b 1007],rfl,Sq56,Sq8,rfl,?_⟩⟩⟩⟩,fun dK=>⟨⟨⟨⟨aa,aa,aa,aa,aa,aa,aa,aa,aa⟩,⟨aa,aa,aa,aa,aa,aa,aa,aa⟩,aa,aa⟩,⟨?_,?_,?_,?_,?_⟩,?_,?_,?_,?_,?_,?_⟩,fun |false=>fun iV=>⟨fun gP=>⟨[.s 3,.b 1003],Sq68,rfl,[.s 4,.b 1004],Sq69,rfl,[.s 6,.s 68,.b 1006],[.b 1006],rfl,[.s 7,.s 69,.b 1007],[.b 1007],rfl,[],Sq8,rfl,?_⟩,fun qN=>⟨fun ki=>⟨[.s 14,.b 1014],Sq76,rfl,[.s 4,.b 1004],Sq77,rfl,[.s 6,.s 76,.b 1006],[.b 1006],rfl,[.s 7,.s 77,.b 1007],[.b 1007],rfl,[],Sq8,rfl,?_⟩,fun xk=>⟨[.s 14,.b 1014],Sq78,rfl,[.s 4,.b 1004],Sq79,rfl,Sq9,Sq80,rfl,Sq2,Sq81,rfl,[.s 80,.s 81],Sq82,rfl,⟨?_,?_,?_⟩,Sq10,Sq83,rfl,Sq83,Sq84,rfl,⟨?_,?_⟩,Sq10,Sq85,rfl,Sq85,Sq86,rfl,⟨?_,?_⟩,[.s 78,.s 79,.s 82,.s 84,.s 86,.b 0,.b 1,.b 2,.b 3,.b 4,.b 1000880001,.b 1000880000],[.s 87,.b 0,.b 1,.b 2,.b 3,.b 4,.b 1000880000,.b 1000880001],rfl,⟨⟨⟨aa,aa,aa,aa,aa,aa,aa,aa,aa⟩,⟨aa,aa,aa,aa,aa,aa,aa,aa,aa,aa,aa⟩,aa,aa,aa,aa⟩,⟨?_,?_,?_,?_,?_⟩,?_,?_,?_,?_,?_,?_,?_⟩,?_,fun qK oN=>⟨Sq87,Sq88,rfl,Sq87,Sq89,rfl,Sq87,Sq90,rfl,[.s 6,.s 88,.b 1006],[.b 1006],rfl,[.s 7,.s 89,.b 1007],[.b 1007],rfl,Sq90,Sq8,rfl,?_⟩⟩⟩⟩ |true=>fun uL=>⟨fun A4=>⟨[.s 3,.b 1003],Sq68,rfl,[.s 4,.b 1004],Sq69,rfl,[.s 6,.s 68,.b 1006],[.b 1006],rfl,[.s 7,.s 69,.b 1007],[.b 1007],rfl,[],Sq8,rfl,?_⟩,fun A3=>⟨fun xM=>⟨[.s 14,.b 1014],Sq76,rfl,[.s 4,.b 1004],Sq77,rfl,[.s 6,.s 76,.b 1006],[.b 1006],rfl,[.s 7,.s 77,.b 1007],[.b 1007],rfl,[],Sq8,rfl,?_⟩,fun rU=>⟨[.s 14,.b 1014],Sq78,rfl,[.s 4,.b 1004],Sq79,rfl,Sq9,Sq80,rfl,Sq2,Sq81,rfl,[.s 80,.s 81],Sq82,rfl,⟨?_,?_,?_⟩,Sq10,Sq83,rfl,Sq83,Sq84,rfl,⟨?_,?_⟩,Sq10,Sq85,rfl,Sq85,Sq86,rfl,⟨?_,?_⟩,[.s 78,.s 79,.s 82,.s 84,.s 86,.b 0,.b 1,.b 2,.b 1000630000,.b 1000630001,.b 1000880001,.b 1000880000],[.s 87,.b 0,.b 1,.b 2,.b 1000630000,.b 1000630001,.b 1000880000,.b 1000880001],rfl,⟨⟨⟨aa,aa,aa,aa,aa,aa,aa,aa,aa⟩,⟨aa,aa,aa,aa,aa,aa,aa,aa,aa,aa,aa⟩,aa,aa,aa,aa⟩,⟨?_,?_,?_,?_,?_⟩,?_,?_,?_,?_,?_,?_,?_⟩,?_,fun x25 w26=>⟨Sq87,Sq88,rfl,Sq87,Sq89,rfl,Sq87,Sq90,rfl,[.s 6,.s 88,.b 1006],[.b 1006],rfl,[.s 7,.s 89,.b 1007],[.b 1007],rfl,Sq90,Sq8,rfl,?_⟩⟩⟩⟩⟩⟩⟩⟩
 all_goals first|refine aw ?_|refine ax ?_|exact a8|(dsimp only [sL,q7,lx,kl,iF,jQ,eA,fL,me,mM,vV,tk,gQ];omega)|exact a7|exact lu.wf.rd|exact hf|exact lu.wf|exact cH.rd|exact cH.m1|exact⟨_,rfl⟩|exact ZB0 lu.g (by decide)|exact ZB0 lu.d (by decide)|exact hcu.1.mono (by decide)|exact hcu.2.1|exact ZA7 _|skip
 all_goals first|exact absurd (show true=false from qN) Bool.noConfusion|exact absurd (show false=true from A4) Bool.noConfusion|skip
 ·show (((jf (aj,ak,an,ao,ah,aq,ai,ar) (n1,n2,n3,n4,n5,n6,n7,n8,n9,cx)).size+(kI (size-(jf (aj,ak,an,ao,ah,aq,ai,ar) (n1,n2,n3,n4,n5,n6,n7,n8,n9,cx)).size)).size:Nat):Int)≤imax
  rw [kY];unfold imax;omega
 ·have e:jd (aj,ak,an,ao,ah,aq,ai,ar) (n1,n2,n3,n4,n5,n6,n7,n8,n9,cx) size=((aj,ak,an,ao,ah,aq,ai,ar),ke (n1,n2,n3,n4,n5,n6,n7,n8,n9,cx) size (cU (n1,n2,n3,n4,n5,n6,n7,n8,n9,cx)),true):=by unfold jd;rw [show decide (size≥n3)=true from w5,show decide (bh size 12=cx)=true from w8];rfl
  refine⟨[3,4],[],_,_,_,rfl,az,(),0,aa,?_,?_,rfl⟩
  ·(show _=eM (aj,ak,an,ao,ah,aq,ai,ar) (n1,n2,n3,n4,n5,n6,n7,n8,n9,cx) size);unfold eM;first|(rw [e];rfl)|rfl
  ·(show _=fM (aj,ak,an,ao,ah,aq,ai,ar) (n1,n2,n3,n4,n5,n6,n7,n8,n9,cx) size);unfold fM;first|(rw [e];rfl)|rfl
 ·have hz:(aY (aj,ak,an,ao,ah,aq,ai,ar) (cU (n1,n2,n3,n4,n5,n6,n7,n8,n9,cx)) (bh size 12-1) ⟨#[]⟩).2.2=false:=(show false=(aY (aj,ak,an,ao,ah,aq,ai,ar) (cU (n1,n2,n3,n4,n5,n6,n7,n8,n9,cx)) (bh size 12-1) ⟨#[]⟩).2.2 from dy).symm
  have e:jd (aj,ak,an,ao,ah,aq,ai,ar) (n1,n2,n3,n4,n5,n6,n7,n8,n9,cx) size=((aY (aj,ak,an,ao,ah,aq,ai,ar) (cU (n1,n2,n3,n4,n5,n6,n7,n8,n9,cx)) (bh size 12-1) ⟨#[]⟩).1,ke (n1,n2,n3,n4,n5,n6,n7,n8,n9,cx) size (aY (aj,ak,an,ao,ah,aq,ai,ar) (cU (n1,n2,n3,n4,n5,n6,n7,n8,n9,cx)) (bh size 12-1) ⟨#[]⟩).2.1,(aY (aj,ak,an,ao,ah,aq,ai,ar) (cU (n1,n2,n3,n4,n5,n6,n7,n8,n9,cx)) (bh size 12-1) ⟨#[]⟩).2.2):=by unfold jd;rw [show decide (size≥n3)=true from w5,show decide (bh size 12=cx)=false from w9];rfl
  refine⟨[3,4],[],_,_,_,rfl,az,(),0,aa,?_,?_,rfl⟩
  ·(show _=eM (aj,ak,an,ao,ah,aq,ai,ar) (n1,n2,n3,n4,n5,n6,n7,n8,n9,cx) size);unfold eM;first|(rw [e,hz];rfl)|(rw [e];rfl)|rfl
  ·(show _=fM (aj,ak,an,ao,ah,aq,ai,ar) (n1,n2,n3,n4,n5,n6,n7,n8,n9,cx) size);unfold fM;first|(rw [e,hz];rfl)|(rw [e];rfl)|rfl
 ·have hz:(aY (aj,ak,an,ao,ah,aq,ai,ar) (cU (n1,n2,n3,n4,n5,n6,n7,n8,n9,cx)) (bh size 12-1) ⟨#[]⟩).2.2=true:=(show true=(aY (aj,ak,an,ao,ah,aq,ai,ar) (cU (n1,n2,n3,n4,n5,n6,n7,n8,n9,cx)) (bh size 12-1) ⟨#[]⟩).2.2 from kC).symm
  have e:jd (aj,ak,an,ao,ah,aq,ai,ar) (n1,n2,n3,n4,n5,n6,n7,n8,n9,cx) size=((aY (aj,ak,an,ao,ah,aq,ai,ar) (cU (n1,n2,n3,n4,n5,n6,n7,n8,n9,cx)) (bh size 12-1) ⟨#[]⟩).1,ke (n1,n2,n3,n4,n5,n6,n7,n8,n9,cx) size (aY (aj,ak,an,ao,ah,aq,ai,ar) (cU (n1,n2,n3,n4,n5,n6,n7,n8,n9,cx)) (bh size 12-1) ⟨#[]⟩).2.1,(aY (aj,ak,an,ao,ah,aq,ai,ar) (cU (n1,n2,n3,n4,n5,n6,n7,n8,n9,cx)) (bh size 12-1) ⟨#[]⟩).2.2):=by unfold jd;rw [show decide (size≥n3)=true from w5,show decide (bh size 12=cx)=false from w9];rfl
  refine⟨[1000490000,1000490001],[],_,_,_,rfl,az,(),0,aa,?_,?_,rfl⟩
  ·(show _=eM (aj,ak,an,ao,ah,aq,ai,ar) (n1,n2,n3,n4,n5,n6,n7,n8,n9,cx) size);unfold eM;first|(rw [e,hz];rfl)|(rw [e];rfl)|rfl
  ·(show _=fM (aj,ak,an,ao,ah,aq,ai,ar) (n1,n2,n3,n4,n5,n6,n7,n8,n9,cx) size);unfold fM;first|(rw [e,hz];rfl)|(rw [e];rfl)|rfl
 ·have hz:(cG (aj,ak,an,ao,ah,aq,ai,ar) (cU (n1,n2,n3,n4,n5,n6,n7,n8,n9,cx)) (bh size 12)).2.2=false:=(show false=(cG (aj,ak,an,ao,ah,aq,ai,ar) (cU (n1,n2,n3,n4,n5,n6,n7,n8,n9,cx)) (bh size 12)).2.2 from iV).symm
  have xr:=hcu.2.2 hz
  have e:jd (aj,ak,an,ao,ah,aq,ai,ar) (n1,n2,n3,n4,n5,n6,n7,n8,n9,cx) size=((cG (aj,ak,an,ao,ah,aq,ai,ar) (cU (n1,n2,n3,n4,n5,n6,n7,n8,n9,cx)) (bh size 12)).1,(n1,n2,n3,n4,n5,n6,n7,n8,n9,cx),false):=by unfold jd J6;rw [show decide (size≥n3)=false from dK,hz];rfl
  refine⟨[3,4],[],_,_,_,rfl,az,(),0,aa,?_,?_,rfl⟩
  ·(show _=eM (aj,ak,an,ao,ah,aq,ai,ar) (n1,n2,n3,n4,n5,n6,n7,n8,n9,cx) size);unfold eM;first|(rw [e];rfl)|(rw [e];exact congrArg (fun x=>AV.t [A0.a x,ndA (n1,n2,n3,n4,n5,n6,n7,n8,n9,cx),A0.s (SV.q false)]) (nG (b0:=0) (b1:=1) (b2:=2) (b3:=5) (b4:=6) xr lu.wf))|(rw [e];have h3:=xr.gone;have h4:=xr.dead;exact congr (congrArg (fun (a b:List Pt)=>[AV.rs ab (cG (aj,ak,an,ao,ah,aq,ai,ar) (cU (n1,n2,n3,n4,n5,n6,n7,n8,n9,cx)) (bh size 12)).1.rows,AV.rs ag (cG (aj,ak,an,ao,ah,aq,ai,ar) (cU (n1,n2,n3,n4,n5,n6,n7,n8,n9,cx)) (bh size 12)).1.refs,AV.rs ag (cG (aj,ak,an,ao,ah,aq,ai,ar) (cU (n1,n2,n3,n4,n5,n6,n7,n8,n9,cx)) (bh size 12)).1.last,AV.zz,AV.zz,AV.rs ae a,AV.rs ae b]) h3.symm) h4.symm)|rfl
  ·(show _=fM (aj,ak,an,ao,ah,aq,ai,ar) (n1,n2,n3,n4,n5,n6,n7,n8,n9,cx) size);unfold fM;first|(rw [e];rfl)|(rw [e];exact congrArg (fun x=>AV.t [A0.a x,ndA (n1,n2,n3,n4,n5,n6,n7,n8,n9,cx),A0.s (SV.q false)]) (nG (b0:=0) (b1:=1) (b2:=2) (b3:=5) (b4:=6) xr lu.wf))|(rw [e];have h3:=xr.gone;have h4:=xr.dead;exact congr (congrArg (fun (a b:List Pt)=>[AV.rs ab (cG (aj,ak,an,ao,ah,aq,ai,ar) (cU (n1,n2,n3,n4,n5,n6,n7,n8,n9,cx)) (bh size 12)).1.rows,AV.rs ag (cG (aj,ak,an,ao,ah,aq,ai,ar) (cU (n1,n2,n3,n4,n5,n6,n7,n8,n9,cx)) (bh size 12)).1.refs,AV.rs ag (cG (aj,ak,an,ao,ah,aq,ai,ar) (cU (n1,n2,n3,n4,n5,n6,n7,n8,n9,cx)) (bh size 12)).1.last,AV.zz,AV.zz,AV.rs ae a,AV.rs ae b]) h3.symm) h4.symm)|rfl
 ·have hz:(cG (aj,ak,an,ao,ah,aq,ai,ar) (cU (n1,n2,n3,n4,n5,n6,n7,n8,n9,cx)) (bh size 12)).2.2=true:=(show true=(cG (aj,ak,an,ao,ah,aq,ai,ar) (cU (n1,n2,n3,n4,n5,n6,n7,n8,n9,cx)) (bh size 12)).2.2 from uL).symm
  have e:jd (aj,ak,an,ao,ah,aq,ai,ar) (n1,n2,n3,n4,n5,n6,n7,n8,n9,cx) size=((cG (aj,ak,an,ao,ah,aq,ai,ar) (cU (n1,n2,n3,n4,n5,n6,n7,n8,n9,cx)) (bh size 12)).1,ke (n1,n2,n3,n4,n5,n6,n7,n8,n9,cx) size (cG (aj,ak,an,ao,ah,aq,ai,ar) (cU (n1,n2,n3,n4,n5,n6,n7,n8,n9,cx)) (bh size 12)).2.1,true):=by unfold jd J6;rw [show decide (size≥n3)=false from dK,hz,show decide (bh size 12=0)=true from xM];rfl
  refine⟨[1000630000,1000630001],[],_,_,_,rfl,az,(),0,aa,?_,?_,rfl⟩
  ·(show _=eM (aj,ak,an,ao,ah,aq,ai,ar) (n1,n2,n3,n4,n5,n6,n7,n8,n9,cx) size);unfold eM;first|(rw [e];rfl)|rfl
  ·(show _=fM (aj,ak,an,ao,ah,aq,ai,ar) (n1,n2,n3,n4,n5,n6,n7,n8,n9,cx) size);unfold fM;first|(rw [e];rfl)|rfl
 ·have h1:=aA (p:=size≥n3) dK
  have h2:=aA (p:=bh size 12=0) rU
  show (bh size 12-1)*12≤(((jf (aj,ak,an,ao,ah,aq,ai,ar) (n1,n2,n3,n4,n5,n6,n7,n8,n9,cx)).extract 0 size.toNat).size:Int)
  rw [ZC5];omega
 ·show ((jf (aj,ak,an,ao,ah,aq,ai,ar) (n1,n2,n3,n4,n5,n6,n7,n8,n9,cx)).extract 0 size.toNat).size≤100000000
  rw [ZC5];omega
 ·have hz:(cG (aj,ak,an,ao,ah,aq,ai,ar) (cU (n1,n2,n3,n4,n5,n6,n7,n8,n9,cx)) (bh size 12)).2.2=true:=(show true=(cG (aj,ak,an,ao,ah,aq,ai,ar) (cU (n1,n2,n3,n4,n5,n6,n7,n8,n9,cx)) (bh size 12)).2.2 from uL).symm
  have e:jd (aj,ak,an,ao,ah,aq,ai,ar) (n1,n2,n3,n4,n5,n6,n7,n8,n9,cx) size=zx (cG (aj,ak,an,ao,ah,aq,ai,ar) (cU (n1,n2,n3,n4,n5,n6,n7,n8,n9,cx)) (bh size 12)).1 (ke (n1,n2,n3,n4,n5,n6,n7,n8,n9,cx) size (cG (aj,ak,an,ao,ah,aq,ai,ar) (cU (n1,n2,n3,n4,n5,n6,n7,n8,n9,cx)) (bh size 12)).2.1) ((jf (aj,ak,an,ao,ah,aq,ai,ar) (n1,n2,n3,n4,n5,n6,n7,n8,n9,cx)).extract 0 size.toNat) (bh size 12-1) (bh size 12-1):=by unfold jd J6;rw [show decide (size≥n3)=false from dK,hz,show decide (bh size 12=0)=false from rU];rfl
  refine⟨[1000880000,1000880001],[],_,_,_,rfl,az,(),0,aa,?_,?_,rfl⟩
  ·(show _=eM (aj,ak,an,ao,ah,aq,ai,ar) (n1,n2,n3,n4,n5,n6,n7,n8,n9,cx) size);unfold eM;first|(rw [e];rfl)|rfl
  ·(show _=fM (aj,ak,an,ao,ah,aq,ai,ar) (n1,n2,n3,n4,n5,n6,n7,n8,n9,cx) size);unfold fM;first|(rw [e];rfl)|rfl
end GL
end Go.Proofs.YtkgpljpmdkflmaaGreatDoor
