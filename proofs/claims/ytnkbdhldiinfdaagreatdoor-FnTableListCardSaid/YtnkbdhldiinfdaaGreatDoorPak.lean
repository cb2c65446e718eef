/- Part 11 of the proof of a drawn law. -/
import Derived.Test.YtnkbdhldiinfdaaGreatDoorPaj
set_option maxHeartbeats 20000000
set_option maxRecDepth 100000
set_option linter.all false
namespace Go.Proofs.YtnkbdhldiinfdaaGreatDoor
namespace GL
def cu (n:Nat):List Pt:=List.replicate n bM
def kZ (n:Int):Prop:=0≤n∧n≤1000
def uY (n:Int):AV:=.s (.xs 0 5 0 (cu n.toNat).length)
def yo (n:Int):List AV:=[.rs ae (cu n.toNat)]
def j3:cn where
 A:=[.s .int]
 B:=[]
 pre:=λx b=>kZ x
 r:=λx b _=>uY x
 o:=λx b _=>yo x
 nf:=1
theorem wP:Has Tryz.prog 107 j3:=by
 refine Has.fm zT zF zF (l:=[]) trivial Tryz.func107 ?_
 rintro (n:Int) _ (hp:kZ n)
 show vc _ _ _ _ (entry [.int n] []) _
 obtain⟨h1,h2⟩:=hp
 refine⟨⟨?_,⟨?_,?_⟩⟩,?_⟩
 all_goals first|refine aw ?_|refine ax ?_|exact a8|exact a7|skip
 refine⟨[1004],[],_,_,_,ζ,az,(),aa,?_,?_,ζ⟩
 ·(show _=uY n);unfold uY;first|(rw [show (cu n.toNat).length=n.toNat from ZG2];rfl)|rfl
 ·(show _=yo n);unfold yo;first|(rw [show (cu n.toNat).length=n.toNat from ZG2];rfl)|rfl
structure ay.rd (s:ay):Prop where
 len:s.rows.length=64
 sz:∀x∈s.rows,x.size≤1000000
theorem zp {s:ay}{p:Pt}(h:s.rd):(bF s p).1.size≤1000000:=by
 unfold bF
 cases au p with
 |true=>exact ZA7 _
 |false=>
  cases iX p (nth ab s.rows p.1.toNat) with
  |true=>
   show (nth ab s.rows p.1.toNat).size≤1000000
   by_cases hk:p.1.toNat<s.rows.length
   ·exact h.2 _ (bR (ek:=ab) hk)
   ·unfold nth;rw [ZD8 (by omega)];exact ZA7 _
  |false=>exact ZA7 _
def oI (p:Pt) (r:List Pt×Bool):List Pt×Bool:=bif r.1.any (λq=>decide (q.2.1>p.2.1)) then ([],false) else r
def bg (s:ay) (p:Pt) (lv:Int):List Pt×Bool:=
 bif au p then (cu 4,true) else
 bif !(aZ p)||(decide (p.2.2.2.2≠lv)||decide (p.2.1>s.cg)) then ([],false) else
 bif !(bF s p).2 then ([],false) else oI p (bl (bF s p).1)
theorem kt {s:ay}{p:Pt}{lv:Int}(h:au p=true):bg s p lv=(cu 4,true):=by unfold bg;rw [h];rfl
theorem KC {s:ay}{p:Pt}{lv:Int}(h:au p=false) (h1:(!(aZ p))=true):bg s p lv=([],false):=by unfold bg;rw [h,h1];rfl
theorem v8 {s:ay}{p:Pt}{lv:Int}(h:au p=false) (h1:decide (p.2.2.2.2≠lv)=true):bg s p lv=([],false):=by unfold bg;rw [h,h1,Bool.true_or,ZC4];rfl
theorem AG {s:ay}{p:Pt}{lv:Int}(h:au p=false) (h1:decide (p.2.1>s.cg)=true):bg s p lv=([],false):=by unfold bg;rw [h,h1,ZC4,ZC4];rfl
theorem v7 {s:ay}{p:Pt}{lv:Int}(h:au p=false) (h1:(!(aZ p))=false) (h2:decide (p.2.2.2.2≠lv)=false) (h3:decide (p.2.1>s.cg)=false) (h4:(!(bF s p).2)=true):bg s p lv=([],false):=by unfold bg;rw [h,h1,h2,h3,h4];rfl
theorem vZ {s:ay}{p:Pt}{lv:Int}(h:au p=false) (h1:(!(aZ p))=false) (h2:decide (p.2.2.2.2≠lv)=false) (h3:decide (p.2.1>s.cg)=false) (h4:(!(bF s p).2)=false):bg s p lv=oI p (bl (bF s p).1):=by unfold bg;rw [h,h1,h2,h3,h4];rfl
theorem vL (s:ByteArray):(bl s).1.length≤4∧((bl s).2=true→(bl s).1.length=4):=by
 unfold bl
 cases oh (bm s 44) [] false with
 |none=>exact⟨ZA7 _,λh=>by cases h⟩
 |some r=>
  obtain⟨o,sm⟩:=r
  show (l8 o sm).1.length≤4∧((l8 o sm).2=true→(l8 o sm).1.length=4)
  unfold l8
  cases hc:decide ((o.length:Int)≠4)|| !sm with
  |true=>exact⟨ZA7 _,λh=>by cases h⟩
  |false=>
   simp only [ZE1,decide_eq_false_iff_not,ZE9] at hc
   have:o.length=4:=by omega
   exact⟨by show o.length≤4;omega,λ_=>this⟩
abbrev late (p:Pt):Pt→Bool:=λq=>decide (q.2.1>p.2.1)
theorem wa {p:Pt}{r:List Pt×Bool}(h:r.1.any (late p)=true):oI p r=([],false):=by unfold oI;rw [h];rfl
theorem sQ {p:Pt}{r:List Pt×Bool}(h:r.1.any (late p)=false):oI p r=r:=by unfold oI;rw [h];rfl
theorem YB {l:List Pt}{f:Pt→Bool}{i:Nat}(hi:i<l.length) (hr:(l.drop i).any f=l.any f) (h:f (nth ae l i)=true):l.any f=true:=by
 rw [←hr,bW (ek:=ae) hi,List.any_cons,h];rfl
theorem afu {l:List Pt}{f:Pt→Bool}{i:Nat}(hi:i<l.length) (hr:(l.drop i).any f=l.any f) (h:f (nth ae l i)=false):(l.drop (i+1)).any f=l.any f:=by
 rw [←hr,bW (ek:=ae) hi,List.any_cons,h];rfl
theorem YC {l:List Pt}{f:Pt→Bool}{i:Nat}(hi:¬i<l.length) (hr:(l.drop i).any f=l.any f):l.any f=false:=by
 rw [←hr,ZB3 (by omega)];rfl
def fF (S:ay) (p:Pt) (lv:Int):Prop:=S.rd
def dq (S:ay) (p:Pt) (lv:Int):AV:=.t [.s (.xs 0 5 0 (bg S p lv).1.length),.s (.q (bg S p lv).2)]
def dW (S:ay) (p:Pt) (lv:Int):List AV:=[.rs ae (bg S p lv).1]
def ef:cn where
 A:=[.a xv,.a [.int,.int,.int,.int,.int],.s .int]
 B:=[]
 pre:=λx b=>fF (x.1) (x.2.1) (x.2.2)
 r:=λx b _=>dq (x.1) (x.2.1) (x.2.2)
 o:=λx b _=>dW (x.1) (x.2.1) (x.2.2)
 nf:=1
theorem lk:Has Tryz.prog 154 ef:=by
 refine Has.fm zT zF zF (l:=[(81,cx),(107,j3),(80,cX),(71,eA),(195,vY)]) ⟨cz,wP,iB,lZ,TH,aa⟩ Tryz.func154 ?_
 rintro⟨⟨(aj:List ByteArray),(ak:List Int),(an:List Int),(ao:Int),(ah:List Pt),(aq:Int),(ai:List Pt),(ar:Bool)⟩,⟨(p1:Int),(p2:Int),(p3:Int),(p4:Int),(p5:Int)⟩,(lv:Int)⟩ _ (hp:fF (aj,ak,an,ao,ah,aq,ai,ar) (p1,p2,p3,p4,p5) lv)
 show vc _ _ _ _ (entry [.a [.vz ab aj,.vz ag ak,.vz ag an,.int ao,.vz ae ah,.int aq,.vz ae ai,.q ar],.a [.int p1,.int p2,.int p3,.int p4,.int p5],.int lv] []) _
 have dF:ay.rd (aj,ak,an,ao,ah,aq,ai,ar):=hp
 have hlen:aj.length=64:=dF.1
 have dj:∀q,(bF (aj,ak,an,ao,ah,aq,ai,ar) q).1.size≤1000000:=λq=>zp dF
 have xD:au (p1,p2,p3,p4,p5)=false→(!(aZ (p1,p2,p3,p4,p5)))=false→0≤p1∧p1<64:=λh h1=>by
  have:=pT (cL h1);dsimp only at this;omega
 refine⟨⟨⟨tv6,aa⟩,aa⟩,λx1 w2=>⟨λw3=>⟨⟨tv2,?_,?_⟩,λx4 w5=>?_⟩,λw6=>⟨⟨⟨tv6,aa⟩,aa⟩,λx7 w8=>⟨aa,λw9=>⟨aa,?_⟩,λdy=>⟨aa,λkA=>⟨aa,?_⟩,λdJ=>⟨λiU=>⟨aa,?_⟩,λgO=>⟨⟨⟨tv9,tv6,aa⟩,λky kg=>?_,?_,?_⟩,λx17 rS=>⟨λoL=>⟨aa,?_⟩,λuI=>⟨⟨tv2,?_⟩,λx21 A3=>?_⟩⟩⟩⟩⟩⟩⟩⟩⟩
 all_goals first|refine aw ?_|refine ax ?_|exact a8|(dsimp only [j3,kZ,cX,dZ,eA,fV,vY,qg];omega)|exact a7|exact dF.2 _ (by assumption)|exact (xD w6 dy).1|(have:=(xD w6 dy).2;show p1<(aj.length:Int);omega)|skip
 ·refine⟨[160000],[],_,_,_,ζ,az,(),aa,?_,?_,ζ⟩
  ·(show _=dq (aj,ak,an,ao,ah,aq,ai,ar) (p1,p2,p3,p4,p5) lv);unfold dq;first|(rw [kt w3];rfl)|rfl
  ·(show _=dW (aj,ak,an,ao,ah,aq,ai,ar) (p1,p2,p3,p4,p5) lv);unfold dW;first|(rw [kt w3];rfl)|rfl
 ·refine⟨[1032],[],_,_,_,ζ,az,(),aa,?_,?_,ζ⟩
  ·(show _=dq (aj,ak,an,ao,ah,aq,ai,ar) (p1,p2,p3,p4,p5) lv);unfold dq;first|(rw [KC w6 w9];rfl)|rfl
  ·(show _=dW (aj,ak,an,ao,ah,aq,ai,ar) (p1,p2,p3,p4,p5) lv);unfold dW;first|(rw [KC w6 w9];rfl)|rfl
 ·refine⟨[1032],[],_,_,_,ζ,az,(),aa,?_,?_,ζ⟩
  ·(show _=dq (aj,ak,an,ao,ah,aq,ai,ar) (p1,p2,p3,p4,p5) lv);unfold dq;first|(rw [v8 w6 kA];rfl)|rfl
  ·(show _=dW (aj,ak,an,ao,ah,aq,ai,ar) (p1,p2,p3,p4,p5) lv);unfold dW;first|(rw [v8 w6 kA];rfl)|rfl
 ·refine⟨[1032],[],_,_,_,ζ,az,(),aa,?_,?_,ζ⟩
  ·(show _=dq (aj,ak,an,ao,ah,aq,ai,ar) (p1,p2,p3,p4,p5) lv);unfold dq;first|(rw [AG w6 iU];rfl)|rfl
  ·(show _=dW (aj,ak,an,ao,ah,aq,ai,ar) (p1,p2,p3,p4,p5) lv);unfold dW;first|(rw [AG w6 iU];rfl)|rfl
 ·refine⟨[1041],[],_,_,_,ζ,az,(),aa,?_,?_,ζ⟩
  ·(show _=dq (aj,ak,an,ao,ah,aq,ai,ar) (p1,p2,p3,p4,p5) lv);unfold dq;first|(rw [v7 (s:=(aj,ak,an,ao,ah,aq,ai,ar)) (p:=(p1,p2,p3,p4,p5)) w6 dy dJ gO oL];rfl)|rfl
  ·(show _=dW (aj,ak,an,ao,ah,aq,ai,ar) (p1,p2,p3,p4,p5) lv);unfold dW;first|(rw [v7 (s:=(aj,ak,an,ao,ah,aq,ai,ar)) (p:=(p1,p2,p3,p4,p5)) w6 dy dJ gO oL];rfl)|rfl
 ·exact dj _
 ·have hB:=vZ (s:=(aj,ak,an,ao,ah,aq,ai,ar)) (p:=(p1,p2,p3,p4,p5)) (lv:=lv) w6 dy dJ gO uI
  have hF:=(vL (bF (aj,ak,an,ao,ah,aq,ai,ar) (p1,p2,p3,p4,p5)).1).1
  refine cN (l:=[(81,cx),(107,j3),(80,cX),(71,eA),(195,vY)]) (ex:=zT) (wr:=zF) (pt:=zF) ⟨cz,wP,iB,lZ,TH,aa⟩ [.s 4,.b 1004,.s 10,.s 11,.b 450000] (λi:Nat=>[(.s 12,.int i)]) (λi=>i≤(bl (bF (aj,ak,an,ao,ah,aq,ai,ar) (p1,p2,p3,p4,p5)).1).1.length∧((bl (bF (aj,ak,an,ao,ah,aq,ai,ar) (p1,p2,p3,p4,p5)).1).1.drop i).any (late (p1,p2,p3,p4,p5))=(bl (bF (aj,ak,an,ao,ah,aq,ai,ar) (p1,p2,p3,p4,p5)).1).1.any (late (p1,p2,p3,p4,p5))) (λi=>(bl (bF (aj,ak,an,ao,ah,aq,ai,ar) (p1,p2,p3,p4,p5)).1).1.length-i) 0 [] ⟨ZA7 _,rfl⟩ dM ?_
  rintro i ⟨hi,hr⟩
  have cm:decide ((i:Int)<((bl (bF (aj,ak,an,ao,ah,aq,ai,ar) (p1,p2,p3,p4,p5)).1).1.length:Int))=true→i<(bl (bF (aj,ak,an,ao,ah,aq,ai,ar) (p1,p2,p3,p4,p5)).1).1.length:=λh=>by have:=aJ h;omega
  have ob:decide ((i:Int)<((bl (bF (aj,ak,an,ao,ah,aq,ai,ar) (p1,p2,p3,p4,p5)).1).1.length:Int))=false→¬i<(bl (bF (aj,ak,an,ao,ah,aq,ai,ar) (p1,p2,p3,p4,p5)).1).1.length:=λh=>by have:=aA h;omega
  refine⟨λw1=>⟨Sq10,Sq53,ζ,Sq12,Sq54,ζ,[.s 53,.s 54],Sq55,ζ,⟨?_,?_⟩,Sq55,Sq56,ζ,[.s 56,.b 450000],Sq57,ζ,?_,Sq4,Sq58,ζ,[.s 58,.b 1004],Sq59,ζ,[.s 57,.s 59],Sq60,ζ,λw2=>⟨aa,?_⟩,λw3=>⟨⟨?_,?_⟩,?_⟩⟩,λw4=>?_⟩
  all_goals first|refine aw ?_|refine ax ?_|exact a8|(dsimp only [j3,kZ,cX,dZ,eA,fV,vY,qg];omega)|exact a7|exact cm w1|exact aJ w1|skip
  ·refine⟨[1061],[],_,_,_,ζ,az,(),aa,?_,?_,ζ⟩
   ·(show _=dq (aj,ak,an,ao,ah,aq,ai,ar) (p1,p2,p3,p4,p5) lv);unfold dq;first|(rw [hB,wa (YB (cm w1) hr w2)];rfl)|rfl
   ·(show _=dW (aj,ak,an,ao,ah,aq,ai,ar) (p1,p2,p3,p4,p5) lv);unfold dW;first|(rw [hB,wa (YB (cm w1) hr w2)];rfl)|rfl
  ·refine⟨(i+1),[],?_,?_,?_⟩
   rotate_right
   ·exact bV
   ·exact⟨cm w1,afu (cm w1) hr w3⟩
   ·show (bl (bF (aj,ak,an,ao,ah,aq,ai,ar) (p1,p2,p3,p4,p5)).1).1.length-(i+1)<(bl (bF (aj,ak,an,ao,ah,aq,ai,ar) (p1,p2,p3,p4,p5)).1).1.length-i;have:=cm w1;omega
  ·refine⟨[450000],[],_,_,_,ζ,az,(),aa,?_,?_,ζ⟩
   ·(show _=dq (aj,ak,an,ao,ah,aq,ai,ar) (p1,p2,p3,p4,p5) lv);unfold dq;first|(rw [hB,sQ (YC (ob w4) hr)];rfl)|rfl
   ·(show _=dW (aj,ak,an,ao,ah,aq,ai,ar) (p1,p2,p3,p4,p5) lv);unfold dW;first|(rw [hB,sQ (YC (ob w4) hr)];rfl)|rfl
end GL
namespace GL
def fx (s:ay) (lv:Int):List Pt→List Pt→Option (List Pt)
 |[],acc=>some acc
 |p::l,acc=>bif (bg s p lv).2 then fx s lv l (acc++(bg s p lv).1) else none
def tF (s:ay):Nat→Int→List Pt→List Pt×Bool
 |0,_,l=>(l,true)
 |f+1,lv,l=>bif decide (lv>0) then (match fx s lv l [] with
  |none=>([],false)
  |some n=>tF s f (lv-1) n) else (l,true)
abbrev bf.root (t:bf):Pt:=(t.1,t.2.1,t.2.2.1,t.2.2.2.1,t.2.2.2.2.1)
abbrev bf.depth (t:bf):Int:=t.2.2.2.2.2.1
abbrev bf.many (t:bf):Int:=t.2.2.2.2.2.2
def bA (s:ay) (t:bf):List Pt×Bool:=tF s 3 t.depth [t.root]
theorem H5 {s:ay}{f:Nat}{lv:Int}{l:List Pt}(h:decide (lv>0)=true) (h2:fx s lv l []=none):tF s (f+1) lv l=([],false):=by rw [tF,h,h2];rfl
theorem CI {s:ay}{f:Nat}{lv:Int}{l n:List Pt}(h:decide (lv>0)=true) (h2:fx s lv l []=some n):tF s (f+1) lv l=tF s f (lv-1) n:=by rw [tF,h,h2];rfl
theorem vt {s:ay}{f:Nat}{lv:Int}{l:List Pt}(h:decide (lv>0)=false):tF s (f+1) lv l=(l,true):=by rw [tF,h];rfl
theorem NZ {s:ay}{lv:Int}{p:Pt}{l acc:List Pt}(h:(!(bg s p lv).2)=true):fx s lv (p::l) acc=none:=by rw [fx,xm h];rfl
theorem NY {s:ay}{lv:Int}{p:Pt}{l acc:List Pt}(h:(!(bg s p lv).2)=false):fx s lv (p::l) acc=fx s lv l (acc++(bg s p lv).1):=by rw [fx,cL h];rfl
theorem iG (s:ay) (p:Pt) (lv:Int):(bg s p lv).1.length≤4∧((bg s p lv).2=true→(bg s p lv).1.length=4):=by
 have h0:([]:List Pt).length≤4∧(false=true→([]:List Pt).length=4):=⟨ZA7 _,λh=>by cases h⟩
 unfold bg
 cases au p with
 |true=>exact⟨ZB5 _,λ_=>rfl⟩
 |false=>
  cases !(aZ p)||(decide (p.2.2.2.2≠lv)||decide (p.2.1>s.cg)) with
  |true=>exact h0
  |false=>
   cases !(bF s p).2 with
   |true=>exact h0
   |false=>
    show (oI p (bl (bF s p).1)).1.length≤4∧((oI p (bl (bF s p).1)).2=true→(oI p (bl (bF s p).1)).1.length=4)
    unfold oI
    cases (bl (bF s p).1).1.any (late p) with
    |true=>exact h0
    |false=>exact vL _
theorem r3 {s:ay}{lv:Int}:∀{l acc n:List Pt},fx s lv l acc=some n→n.length=acc.length+4*l.length
 |[],acc,n,h=>by cases h;rfl
 |p::l,acc,n,h=>by
  unfold fx at h
  cases hb:(bg s p lv).2 with
  |true=>
   rw [hb,cond_true] at h
   rw [r3 h,ZA0,(iG s p lv).2 hb,ZA1];omega
  |false=>rw [hb] at h;cases h
def ahZ (lv:Int) (n:Nat):Prop:=n≤16∧(1≤lv→n≤4)∧(2≤lv→n≤1)
def lM (S:ay) (t:bf):Prop:=S.rd∧t.depth≤2
def lD (S:ay) (t:bf):AV:=.t [.s (.xs 0 5 0 (bA S t).1.length),.s (.q (bA S t).2)]
def nR (S:ay) (t:bf):List AV:=[.rs ae (bA S t).1]
def kQ:cn where
 A:=[.a xv,.a [.int,.int,.int,.int,.int,.int,.int]]
 B:=[]
 pre:=λx b=>lM (x.1) (x.2)
 r:=λx b _=>lD (x.1) (x.2)
 o:=λx b _=>nR (x.1) (x.2)
 nf:=1
theorem yE:Has Tryz.prog 106 kQ:=by
 refine Has.fm zT zF zF (l:=[(154,ef)]) ⟨lk,aa⟩ Tryz.func106 ?_
 rintro⟨⟨(aj:List ByteArray),(ak:List Int),(an:List Int),(ao:Int),(ah:List Pt),(aq:Int),(ai:List Pt),(ar:Bool)⟩,⟨(t1:Int),(t2:Int),(t3:Int),(t4:Int),(t5:Int),(t6:Int),(t7:Int)⟩⟩ _ (hp:lM (aj,ak,an,ao,ah,aq,ai,ar) (t1,t2,t3,t4,t5,t6,t7))
 show vc _ _ _ _ (entry [.a [.vz ab aj,.vz ag ak,.vz ag an,.int ao,.vz ae ah,.int aq,.vz ae ai,.q ar],.a [.int t1,.int t2,.int t3,.int t4,.int t5,.int t6,.int t7]] []) _
 let g':=(aj,ak,an,ao,ah,aq,ai,ar)
 let A':=(t1,t2,t3,t4,t5,t6,t7)
 obtain⟨dF,(alg:t6≤2)⟩:=hp
 have dF:ay.rd g':=dF
 refine⟨aa,?_⟩
 all_goals first|refine aw ?_|refine ax ?_|exact a8|(dsimp only [ef,fF];omega)|exact a7|skip
 refine cN (l:=[(154,ef)]) (ex:=zT) (wr:=zF) (pt:=zF) ⟨lk,trivial⟩ [.s 2,.b 1002] (λy:Int×List Pt×Nat=>[(.s 6,.s (.xs 1014 5 0 y.2.1.length)),(.s 7,.int y.1),(.b 1014,.rs ae y.2.1)]) (λy=>y.1≤2∧ahZ y.1 y.2.1.length∧y.1<y.2.2∧tF g' y.2.2 y.1 y.2.1=bA g' A') (λy=>y.1.toNat) (t6,[(t1,t2,t3,t4,t5)],3) [] ⟨alg,⟨by show 1≤16;omega,λ_=>by show 1≤4;omega,λ_=>ZB5 _⟩,by show t6<(3:Nat);omega,rfl⟩ dM ?_
 rintro⟨lv,l,f⟩ ⟨(FK:lv≤2),(TO:ahZ lv l.length),(hf:lv<(f:Int)),(hr:tF g' f lv l=bA g' A')⟩
 refine⟨λw1=>⟨aa,?_⟩,λw2=>?_⟩
 all_goals first|refine aw ?_|refine ax ?_|exact a8|(dsimp only [ef,fF];omega)|exact a7|skip
 ·have oU:decide (lv>0)=true:=w1
  have h1:lv>0:=aJ w1
  obtain⟨g,rfl⟩:∃g,f=g+1:=⟨f-1,by omega⟩
  refine cN (l:=[(154,ef)]) (ex:=zT) (wr:=zF) (pt:=zF) ⟨lk,aa⟩ [.s 2,.b 1002,.s 6,.s 7,.b 1014] (λy:Nat×List Pt=>[(.s 8,.s (.xs 1021 5 0 y.2.length)),(.s 9,.int y.1),(.b 1021,.rs ae y.2)]) (λy=>y.1≤l.length∧y.2.length=4*y.1∧fx g' lv (l.drop y.1) y.2=fx g' lv l []) (λy=>l.length-y.1) (0,[]) [] ⟨ZA7 _,rfl,rfl⟩ dM ?_
  rintro⟨i,acc⟩ ⟨(hi:i≤l.length),(abV:acc.length=4*i),(hs:fx g' lv (l.drop i) acc=fx g' lv l [])⟩
  have cm:decide ((i:Int)<(l.length:Int))=true→i<l.length:=λh=>by have:=aJ h;omega
  have alB:=TO.2.1 (by omega)
  have hlen:=(iG g' (nth ae l i) lv).1
  have cO:i<l.length→l.drop i=nth ae l i::l.drop (i+1):=λh=>bW (ek:=ae) h
  refine⟨λw1=>⟨[.s 2,.b 1002],Sq29,ζ,Sq6,Sq30,ζ,Sq9,Sq31,ζ,[.s 30,.s 31],Sq32,ζ,⟨?_,?_⟩,[.s 32,.b 1014],Sq33,ζ,?_,Sq7,Sq34,ζ,[.s 29,.s 33,.s 34,.b 360000],[.s 35,.b 360000],ζ,⟨⟨tv9,tv6,tv2⟩,?_⟩,?_,λx2 w3=>⟨Sq35,Sq28,ζ,Sq28,Sq36,ζ,Sq28,Sq37,ζ,Sq36,Sq10,ζ,Sq37,Sq11,ζ,λw4=>⟨aa,?_⟩,λw5=>⟨⟨⟨?_,?_⟩,?_,?_⟩,⟨?_,?_⟩,?_⟩⟩⟩,λw6=>⟨⟨?_,?_⟩,?_⟩⟩
  all_goals first|refine aw ?_|refine ax ?_|exact a8|(dsimp only [ef,fF];omega)|exact a7|exact dF|(show acc.length+(bg g' (nth ae l i) lv).1.length≤1048576;omega)|skip
  ·have e:fx g' lv l []=none:=by rw [←hs,cO (cm w1),NZ (s:=g') (lv:=lv) (p:=nth ae l i) w4]
   refine⟨[1040],[],_,_,_,ζ,az,(),aa,?_,?_,ζ⟩
   ·(show _=lD g' A');unfold lD;first|(rw [←hr,H5 oU e];rfl)|rfl
   ·(show _=nR g' A');unfold nR;first|(rw [←hr,H5 oU e];rfl)|rfl
  ·refine⟨(i+1,acc++(bg g' (nth ae l i) lv).1),[(1021,1043)],?_,?_,?_⟩
   rotate_right
   ·exact bV
   ·exact⟨cm w1,by show List.length (_++_)=_;rw [ZA0];show acc.length+_=4*(i+1);rw [(iG g' (nth ae l i) lv).2 (cL w5)];omega,by rw [←hs,cO (cm w1),NY (s:=g') (lv:=lv) (p:=nth ae l i) w5]⟩
   ·show l.length-(i+1)<l.length-i;have:=cm w1;omega
  ·have FL:¬i<l.length:=by have:=aA (p:=(i:Int)<(l.length:Int)) w6;omega
   have e:fx g' lv l []=some acc:=by rw [←hs,ZB3 (by omega)];rfl
   have hl2:=r3 e
   refine⟨(lv-1,acc,g),[(1014,1021)],?_,?_,?_⟩
   rotate_right
   ·exact bV
   ·refine⟨by show lv-1≤2;omega,⟨?_,λh=>?_,λh=>?_⟩,by show lv-1<(g:Int);omega,by rw [←hr,CI oU e]⟩
    ·show acc.length≤16;rw [hl2];show 0+4*l.length≤16;omega
    ·have h:1≤lv-1:=h
     have:=TO.2.2 (by omega)
     show acc.length≤4;rw [hl2];show 0+4*l.length≤4;omega
    ·have h:2≤lv-1:=h
     omega
   ·show (lv-1).toNat<lv.toNat;omega
 ·have e:bA g' A'=(l,true):=by
   rw [←hr]
   cases f with
   |zero=>rfl
   |succ g=>exact vt w2
  refine⟨[1014],[],_,_,_,ζ,az,(),aa,?_,?_,ζ⟩
  ·(show _=lD g' A');unfold lD;first|(rw [e];rfl)|rfl
  ·(show _=nR g' A');unfold nR;first|(rw [e];rfl)|rfl
end GL
namespace GL
theorem G5 (s:ByteArray):aZ (bP s).1=true:=by
 have h0:aZ bM=true:=by decide
 unfold bP
 cases decide (s=⟨#[45]⟩) with
 |true=>exact h0
 |false=>
  cases decide (((bm s 46).length:Int)≠5) with
  |true=>exact h0
  |false=>
   show aZ (qW (bm s 46)).1=true
   unfold qW
   cases lg (bm s 46) [] with
   |none=>exact h0
   |some n=>
    show aZ (pU n).1=true
    unfold pU
    cases hc: !(aZ (lH n))||au (lH n) with
    |true=>exact h0
    |false=>
     simp only [ZE1] at hc
     exact cL hc.1
theorem aaf:∀{l:List ByteArray}{out o:List Pt}{sm m:Bool},oh l out sm=some (o,m)→(∀p∈out,aZ p=true)→∀p∈o,aZ p=true
 |[],out,o,sm,m,h,ho=>by cases h;exact ho
 |t::l,out,o,sm,m,h,ho=>by
  unfold oh at h
  cases hb:(bP t).2 with
  |true=>
   rw [hb,cond_true] at h
   refine aaf h λp hp=>?_
   rcases ZB4.1 hp with hp |hp
   ·exact ho p hp
   ·simp only [ZB8,ZF6,or_false] at hp
    subst hp;exact G5 t
  |false=>rw [hb] at h;cases h
theorem XP (s:ByteArray):∀p∈(bl s).1,aZ p=true:=by
 unfold bl
 cases hf:oh (bm s 44) [] false with
 |none=>intro p hp;cases hp
 |some r=>
  obtain⟨o,sm⟩:=r
  have:=aaf hf (λp hp=>by cases hp)
  show∀p∈(l8 o sm).1,_
  unfold l8
  cases decide ((o.length:Int)≠4)|| !sm with
  |true=>intro p hp;cases hp
  |false=>exact this
theorem wU (n:Nat):∀p∈cu n,aZ p=true:=by
 intro p hp
 rw [(ZD6.1 hp).2];decide
theorem sP (s:ay) (p:Pt) (lv:Int):∀q∈(bg s p lv).1,aZ q=true:=by
 have h0:∀q∈([]:List Pt),aZ q=true:=λq h=>by cases h
 unfold bg
 cases au p with
 |true=>exact wU 4
 |false=>
  cases !(aZ p)||(decide (p.2.2.2.2≠lv)||decide (p.2.1>s.cg)) with
  |true=>exact h0
  |false=>
   cases !(bF s p).2 with
   |true=>exact h0
   |false=>
    show∀q∈(oI p (bl (bF s p).1)).1,aZ q=true
    unfold oI
    cases (bl (bF s p).1).1.any (late p) with
    |true=>exact h0
    |false=>exact XP _
theorem QL {s:ay}{lv:Int}:∀{l acc n:List Pt},fx s lv l acc=some n→(∀q∈acc,aZ q=true)→∀q∈n,aZ q=true
 |[],acc,n,h,ha=>by cases h;exact ha
 |p::l,acc,n,h,ha=>by
  unfold fx at h
  cases hb:(bg s p lv).2 with
  |true=>
   rw [hb,cond_true] at h
   refine QL h λq hq=>?_
   rcases ZB4.1 hq with hq |hq
   ·exact ha q hq
   ·exact sP s p lv q hq
  |false=>rw [hb] at h;cases h
theorem ZJ {s:ay}:∀{f:Nat}{lv:Int}{l:List Pt},(∀q∈l,aZ q=true)→∀q∈(tF s f lv l).1,aZ q=true
 |0,lv,l,h=>h
 |f+1,lv,l,h=>by
  unfold tF
  cases decide (lv>0) with
  |false=>exact h
  |true=>
   simp only [cond_true]
   cases hs:fx s lv l [] with
   |none=>intro q hq;cases hq
   |some n=>exact ZJ (QL hs (λq hq=>by cases hq))
theorem SZ {s:ay}:∀{f:Nat}{lv:Int}{l:List Pt},lv≤2→ahZ lv l.length→(tF s f lv l).1.length≤16
 |0,lv,l,h,hf=>hf.1
 |f+1,lv,l,h,hf=>by
  unfold tF
  cases hc:decide (lv>0) with
  |false=>exact hf.1
  |true=>
   have h1:lv>0:=aJ hc
   simp only [cond_true]
   cases hs:fx s lv l [] with
   |none=>exact ZA7 _
   |some n=>
    have hl:n.length=0+4*l.length:=r3 hs
    have h4:=hf.2.1 (by omega)
    refine SZ (by omega) ⟨by omega,λh2=>?_,λh2=>by omega⟩
    have:=hf.2.2 (by omega)
    omega
structure bf.rd (t:bf):Prop where
 dep:t.depth≤2
 ok:aZ t.root=true
theorem rh {s:ay}{t:bf}(h:t.rd):(bA s t).1.length≤16:=
 SZ h.dep ⟨by show 1≤16;omega,λ_=>by show 1≤4;omega,λ_=>ZB5 _⟩
theorem H9 {s:ay}{t:bf}(h:t.rd):∀q∈(bA s t).1,aZ q=true:=
 ZJ λq hq=>by
  simp only [ZB8,ZF6,or_false] at hq
  subst hq;exact h.ok
def aB (s:ay) (t:bf):List Pt:=(bA s t).1++cu ((16:Int)-(bA s t).1.length).toNat
theorem gi {s:ay}{t:bf}(h:t.rd):(aB s t).length=16:=by
 have:=rh (s:=s) h
 rw [aB,ZA0,cu,ZG2];omega
theorem lA {s:ay}{t:bf}(h:t.rd):∀q∈aB s t,aZ q=true:=by
 intro q hq
 rcases ZB4.1 hq with hq |hq
 ·exact H9 h q hq
 ·exact wU _ q hq
theorem oC {l:List Pt}(h:∀q∈l,aZ q=true) (k:Nat):aZ (nth ae l k)=true:=by
 by_cases hk:k<l.length
 ·exact h _ (bR (ek:=ae) hk)
 ·unfold nth;rw [ZD8 (by omega)];decide
theorem nT {p:Pt}(h:aZ p=true):0≤p.1∧p.1<64:=by
 have:=pT h;omega
def fU (S:ay) (t:bf):Prop:=S.rd∧t.rd
def xT (S:ay) (t:bf):AV:=.s (.xs 0 5 0 (aB S t).length)
def B7 (S:ay) (t:bf):List AV:=[.rs ae (aB S t)]
def ey:cn where
 A:=[.a xv,.a [.int,.int,.int,.int,.int,.int,.int]]
 B:=[]
 pre:=λx b=>fU (x.1) (x.2)
 r:=λx b _=>xT (x.1) (x.2)
 o:=λx b _=>B7 (x.1) (x.2)
 nf:=1
theorem lX:Has Tryz.prog 70 ey:=by
 refine Has.fm zT zF zF (l:=[(106,kQ),(107,j3)]) ⟨yE,wP,aa⟩ Tryz.func70 ?_
 rintro⟨⟨(aj:List ByteArray),(ak:List Int),(an:List Int),(ao:Int),(ah:List Pt),(aq:Int),(ai:List Pt),(ar:Bool)⟩,⟨(t1:Int),(t2:Int),(t3:Int),(t4:Int),(t5:Int),(t6:Int),(t7:Int)⟩⟩ _ (hp:fU (aj,ak,an,ao,ah,aq,ai,ar) (t1,t2,t3,t4,t5,t6,t7))
 show vc _ _ _ _ (entry [.a [.vz ab aj,.vz ag ak,.vz ag an,.int ao,.vz ae ah,.int aq,.vz ae ai,.q ar],.a [.int t1,.int t2,.int t3,.int t4,.int t5,.int t6,.int t7]] []) _
 obtain⟨dF,sS⟩:=hp
 have dF:ay.rd (aj,ak,an,ao,ah,aq,ai,ar):=dF
 have sS:bf.rd (t1,t2,t3,t4,t5,t6,t7):=sS
 have hl:=rh (s:=(aj,ak,an,ao,ah,aq,ai,ar)) sS
 refine⟨⟨⟨tv9,tv8,aa⟩,?_,?_⟩,λx1 w2=>⟨aa,⟨⟨?_,?_⟩,?_,?_⟩,⟨?_,?_⟩,⟨tv2,?_,?_⟩,λx3 w4=>⟨⟨⟨?_,?_⟩,?_,?_⟩,?_⟩⟩⟩
 all_goals first|refine aw ?_|refine ax ?_|exact a8|(dsimp only [kQ,lM,j3,kZ];omega)|exact a7|exact dF|exact sS.dep|(show 0+(bA (aj,ak,an,ao,ah,aq,ai,ar) (t1,t2,t3,t4,t5,t6,t7)).1.length≤1048576;omega)|(show ((bA (aj,ak,an,ao,ah,aq,ai,ar) (t1,t2,t3,t4,t5,t6,t7)).1).length+(cu ((16:Int)-((bA (aj,ak,an,ao,ah,aq,ai,ar) (t1,t2,t3,t4,t5,t6,t7)).1.length:Int)).toNat).length≤1048576;rw [cu,ZG2];omega)|skip
 refine⟨[1020],[],_,_,_,ζ,az,(),aa,?_,?_,ζ⟩
 ·(show _=xT (aj,ak,an,ao,ah,aq,ai,ar) (t1,t2,t3,t4,t5,t6,t7));unfold xT;first|(rw [aB,ZA0];rfl)|(rw [aB];rfl)|rfl
 ·(show _=B7 (aj,ak,an,ao,ah,aq,ai,ar) (t1,t2,t3,t4,t5,t6,t7));unfold B7;first|(rw [aB,ZA0];rfl)|(rw [aB];rfl)|rfl
def getM (s:ay) (t:bf) (k:Nat):ByteArray:=(bF s (nth ae (aB s t) k)).1
def B3 (S:ay) (t:bf) (k:Int):Prop:=S.rd∧t.rd∧0≤k∧k<16
def BD (S:ay) (t:bf) (k:Int):AV:=.str (getM S t k.toNat)
def ac3 (S:ay) (t:bf) (k:Int):List AV:=[]
def PX:cn where
 A:=[.a xv,.a [.int,.int,.int,.int,.int,.int,.int],.s .int]
 B:=[]
 pre:=λx b=>B3 (x.1) (x.2.1) (x.2.2)
 r:=λx b _=>BD (x.1) (x.2.1) (x.2.2)
 o:=λx b _=>ac3 (x.1) (x.2.1) (x.2.2)
theorem afY:Has Tryz.prog 36 PX:=by
 refine Has.fm zT zF zF (l:=[(70,ey),(71,eA)]) ⟨lX,lZ,aa⟩ Tryz.func36 ?_
 rintro⟨⟨(aj:List ByteArray),(ak:List Int),(an:List Int),(ao:Int),(ah:List Pt),(aq:Int),(ai:List Pt),(ar:Bool)⟩,⟨(t1:Int),(t2:Int),(t3:Int),(t4:Int),(t5:Int),(t6:Int),(t7:Int)⟩,(k:Int)⟩ _ (hp:B3 (aj,ak,an,ao,ah,aq,ai,ar) (t1,t2,t3,t4,t5,t6,t7) k)
 show vc _ _ _ _ (entry [.a [.vz ab aj,.vz ag ak,.vz ag an,.int ao,.vz ae ah,.int aq,.vz ae ai,.q ar],.a [.int t1,.int t2,.int t3,.int t4,.int t5,.int t6,.int t7],.int k] []) _
 let g':=(aj,ak,an,ao,ah,aq,ai,ar)
 let A':=(t1,t2,t3,t4,t5,t6,t7)
 obtain⟨dF,sS,h1,h2⟩:=hp
 have dF:ay.rd g':=dF
 have sS:bf.rd A':=sS
 have hl:=gi (s:=g') sS
 have ha:=nT (oC (lA (s:=g') sS) k.toNat)
 have hr:aj.length=64:=dF.len
 refine⟨⟨⟨tv9,tv8,aa⟩,?_,?_⟩,λx1 w2=>⟨[.s 3,.b 1003],Sq14,ζ,Sq7,Sq15,ζ,Sq2,Sq16,ζ,[.s 15,.s 16],Sq17,ζ,⟨?_,?_⟩,[.s 17,.b 130000],Sq18,ζ,?_,[.s 14,.s 18],Sq19,ζ,⟨⟨tv9,tv6,aa⟩,λx3 w4=>?_,?_,?_⟩,?_,λx5 w6=>⟨Sq19,Sq13,ζ,Sq13,Sq20,ζ,Sq13,Sq21,ζ,Sq20,Sq8,ζ,Sq21,Sq9,ζ,?_⟩⟩⟩
 all_goals first|refine aw ?_|refine ax ?_|exact a8|(dsimp only [ey,fU,eA,fV];omega)|exact a7|exact dF|exact sS|exact dF.sz _ (by assumption)|exact ha.1|(show _<(aj.length:Int);rw [hr];exact ha.2)|(show k<((aB g' A').length:Int);omega)|(show k.toNat<(aB g' A').length;omega)|skip
 refine⟨[],[],_,_,_,ζ,az,(),aa,?_,?_,ζ⟩
 ·(show _=BD g' A' k);unfold BD;first|rfl
 ·rfl
def sW (s:ay) (l:List Pt):List ByteArray:=l.map λp=>(bF s p).1
def bo (s:ay) (t:bf):List ByteArray:=sW s ((aB s t).take t.many.toNat)
theorem GB {l:List Pt}{i:Nat}(h:i<l.length):l.take (i+1)=l.take i++[nth ae l i]:=by
 have h1:=oD (ek:=ae) h
 rw [List.take_add_one,h1];rfl
def eF (S:ay) (t:bf):Prop:=S.rd∧t.rd∧0≤t.many∧t.many≤16
def uX (S:ay) (t:bf):AV:=.s (.xs 0 1 0 (bo S t).length)
def yn (S:ay) (t:bf):List AV:=[.rs ab (bo S t)]
def dc:cn where
 A:=[.a xv,.a [.int,.int,.int,.int,.int,.int,.int]]
 B:=[]
 pre:=λx b=>eF (x.1) (x.2)
 r:=λx b _=>uX (x.1) (x.2)
 o:=λx b _=>yn (x.1) (x.2)
 nf:=1
theorem iR:Has Tryz.prog 50 dc:=by
 refine Has.fm zT zF zF (l:=[(70,ey),(71,eA)]) ⟨lX,lZ,aa⟩ Tryz.func50 ?_
 rintro⟨⟨(aj:List ByteArray),(ak:List Int),(an:List Int),(ao:Int),(ah:List Pt),(aq:Int),(ai:List Pt),(ar:Bool)⟩,⟨(t1:Int),(t2:Int),(t3:Int),(t4:Int),(t5:Int),(t6:Int),(t7:Int)⟩⟩ _ (hp:eF (aj,ak,an,ao,ah,aq,ai,ar) (t1,t2,t3,t4,t5,t6,t7))
 show vc _ _ _ _ (entry [.a [.vz ab aj,.vz ag ak,.vz ag an,.int ao,.vz ae ah,.int aq,.vz ae ai,.q ar],.a [.int t1,.int t2,.int t3,.int t4,.int t5,.int t6,.int t7]] []) _
 let g':=(aj,ak,an,ao,ah,aq,ai,ar)
 let A':=(t1,t2,t3,t4,t5,t6,t7)
 obtain⟨dF,sS,(h0:0≤t7),(h1:t7≤16)⟩:=hp
 have dF:ay.rd g':=dF
 have sS:bf.rd A':=sS
 have hl:=gi (s:=g') sS
 have hr:aj.length=64:=dF.len
 refine⟨aa,⟨⟨tv9,tv8,aa⟩,?_,?_⟩,λx1 w2=>?_⟩
 all_goals first|refine aw ?_|refine ax ?_|exact a8|(dsimp only [ey,fU,eA,fV];omega)|exact a7|exact dF|exact sS|skip
 refine cN (l:=[(70,ey),(71,eA)]) (ex:=zT) (wr:=zF) (pt:=zF) ⟨lX,lZ,aa⟩ [.s 2,.b 1002,.s 3,.b 1003,.s 6,.b 140000] (λy:Nat×List ByteArray=>[(.s 5,.s (.xs 1010 1 0 y.2.length)),(.s 7,.int y.1),(.b 1010,.rs ab y.2)]) (λy=>(y.1:Int)≤t7∧y.2.length=y.1∧y.2=sW g' ((aB g' A').take y.1)) (λy=>t7.toNat-y.1) (0,[]) [] ⟨h0,rfl,rfl⟩ dM ?_
 rintro⟨i,out⟩ ⟨(hi:(i:Int)≤t7),(hlo:out.length=i),(he:out=sW g' ((aB g' A').take i))⟩
 have ha:=nT (oC (lA (s:=g') sS) i)
 have bU:decide ((i:Int)<t7)=true→i<(aB g' A').length:=λh=>by have:=aJ h;omega
 refine⟨λw1=>⟨[.s 2,.b 1002],Sq21,ζ,Sq6,Sq22,ζ,Sq7,Sq23,ζ,[.s 22,.s 23],Sq24,ζ,⟨?_,?_⟩,[.s 24,.b 140000],Sq25,ζ,?_,[.s 21,.s 25],Sq26,ζ,⟨⟨tv9,tv6,aa⟩,λx2 w3=>?_,?_,?_⟩,?_,λx4 w5=>⟨Sq26,Sq20,ζ,Sq20,Sq27,ζ,Sq20,Sq28,ζ,Sq27,Sq8,ζ,Sq28,Sq9,ζ,aa,⟨⟨?_,?_⟩,?_,?_⟩,⟨?_,?_⟩,?_⟩⟩,λw6=>?_⟩
 all_goals first|refine aw ?_|refine ax ?_|exact a8|(dsimp only [ey,fU,eA,fV];omega)|exact a7|exact dF|exact sS|exact dF.sz _ (by assumption)|exact ha.1|(show _<(aj.length:Int);rw [hr];exact ha.2)|exact bU (by assumption)|(show (i:Int)<((aB g' A').length:Int);have:=bU w1;omega)|skip
 ·have e:sW g' ((aB g' A').take (i+1))=out++[(bF g' (nth ae (aB g' A') i)).1]:=by
   rw [GB (bU w1),sW,List.map_append,←sW,←he];rfl
  refine⟨(i+1,out++[(bF g' (nth ae (aB g' A') i)).1]),[(1010,1032)],?_,?_,?_⟩
  rotate_right
  ·exact bV
  ·exact⟨by have:=aJ w1;show ((i+1:Nat):Int)≤t7;omega,by show List.length (_++_)=_;rw [ZA0,hlo];rfl,e.symm⟩
  ·show t7.toNat-(i+1)<t7.toNat-i;have:=aJ (p:=(i:Int)<t7) w1;omega
 ·have hi2:i=t7.toNat:=by have:=aA (p:=(i:Int)<t7) (by assumption);omega
  have e:bo g' A'=out:=by rw [bo,he,hi2]
  refine⟨[1010],[],_,_,_,ζ,az,(),aa,?_,?_,ζ⟩
  ·(show _=uX g' A');unfold uX;first|(rw [e];rfl)|rfl
  ·(show _=yn g' A');unfold yn;first|(rw [e];rfl)|rfl
end GL
namespace GL
def nV (l:List Pt):Bool:= !(l.any λp=> !(au p))
def tg (l:List Pt):Prop:=l.length≤1000000
def pF (l:List Pt):AV:=.q (nV l)
def aa7 (l:List Pt):List AV:=[]
def JX:cn where
 A:=[.s (.vz ae)]
 B:=[]
 pre:=λx b=>tg x
 r:=λx b _=>pF x
 o:=λx b _=>aa7 x
theorem adS:Has Tryz.prog 190 JX:=by
 refine Has.fm zT zF zF (l:=[(81,cx)]) ⟨cz,aa⟩ Tryz.func190 ?_
 rintro (l:List Pt) _ (hp:tg l)
 show vc _ _ _ _ (entry [.s (.vz ae l)] []) _
 unfold tg at hp
 refine cN (l:=[(81,cx)]) (ex:=zT) (wr:=zF) (pt:=zF) ⟨cz,aa⟩ [.s 0] (λi:Nat=>[(.s 3,.int i)]) (λi=>i≤l.length∧(l.drop i).any (λp=> !(au p))=l.any (λp=> !(au p))) (λi=>l.length-i) 0 [] ⟨ZA7 _,rfl⟩ dM ?_
 rintro i ⟨hi,hr⟩
 have cm:decide ((i:Int)<(l.length:Int))=true→i<l.length:=λh=>by have:=aJ h;omega
 have ob:decide ((i:Int)<(l.length:Int))=false→¬i<l.length:=λh=>by have:=aA h;omega
 refine⟨λw1=>⟨⟨?_,?_⟩,⟨⟨tv6,aa⟩,aa⟩,λx2 w3=>⟨λw4=>?_,λw5=>⟨⟨?_,?_⟩,?_⟩⟩⟩,λw6=>?_⟩
 all_goals first|refine aw ?_|refine ax ?_|exact a8|exact a7|skip
 ·have e:nV l=false:=by unfold nV;rw [YB (cm w1) hr w4];rfl
  refine⟨[],[],_,_,_,ζ,az,(),aa,?_,?_,ζ⟩
  ·(show _=pF l);unfold pF;first|(rw [e];rfl)|rfl
  ·rfl
 ·refine⟨(i+1),[],?_,?_,?_⟩
  rotate_right
  ·exact bV
  ·exact⟨cm w1,afu (cm w1) hr w5⟩
  ·show l.length-(i+1)<l.length-i;have:=cm w1;omega
 ·have e:nV l=true:=by unfold nV;rw [YC (ob w6) hr];rfl
  refine⟨[],[],_,_,_,ζ,az,(),aa,?_,?_,ζ⟩
  ·(show _=pF l);unfold pF;first|(rw [e];rfl)|rfl
  ·rfl
def ri (s:ay) (many i:Int) (p:Pt):Bool:= !(bF s p).2||(decide (p.2.2.2.2≠0)||(decide (p.2.1>s.cg)||decide (i≥many)))
def j9 (s:ay) (many:Int):Int→List Pt→Bool
 |_,[]=>true
 |i,p::l=>bif au p then j9 s many (i+1) l else bif ri s many i p then false else j9 s many (i+1) l
def lV (t:bf):Bool:= !(ik t.many 0 16)||(decide (t.depth≠bj t.many)|| !(aZ t.root))
def qJ (s:ay) (t:bf):Bool:=bif lV t then false else bif !(bA s t).2 then false else j9 s t.many 0 (bA s t).1
theorem DV {s:ay}{t:bf}(h:lV t=true):qJ s t=false:=by unfold qJ;rw [h];rfl
theorem ZA {s:ay}{t:bf}(h:lV t=false) (h2:(!(bA s t).2)=true):qJ s t=false:=by unfold qJ;rw [h,h2];rfl
theorem Y9 {s:ay}{t:bf}(h:lV t=false) (h2:(!(bA s t).2)=false):qJ s t=j9 s t.many 0 (bA s t).1:=by unfold qJ;rw [h,h2];rfl
theorem ZD {t:bf}(h:(!(ik t.many 0 16))=true):lV t=true:=by unfold lV;rw [h];rfl
theorem ZC {t:bf}(h:decide (t.depth≠bj t.many)=true):lV t=true:=by unfold lV;rw [h,Bool.true_or,ZC4]
theorem ZB {t:bf}(h:(!(aZ t.root))=true):lV t=true:=by unfold lV;rw [h,ZC4,ZC4]
theorem zA {t:bf}(h1:(!(ik t.many 0 16))=false) (h2:decide (t.depth≠bj t.many)=false) (h3:(!(aZ t.root))=false):lV t=false:=by unfold lV;rw [h1,h2,h3];rfl
theorem HQ {t:bf}(h:lV t=false):t.rd:=by
 unfold lV at h
 simp only [ZE1,decide_eq_false_iff_not,ZE9] at h
 obtain⟨h1,h2,h3⟩:=h
 exact⟨by rw [h2];exact (pn _).2,cL h3⟩
theorem FD {s:ay}{many i:Int}{p:Pt}{l:List Pt}(h:au p=true):j9 s many i (p::l)=j9 s many (i+1) l:=by rw [j9,h];rfl
theorem wJ {s:ay}{many i:Int}{p:Pt}{l:List Pt}(h:au p=false) (hb:ri s many i p=true):j9 s many i (p::l)=false:=by rw [j9,h,hb];rfl
theorem O1 {s:ay}{many i:Int}{p:Pt}{l:List Pt}(h:au p=false) (hb:ri s many i p=false):j9 s many i (p::l)=j9 s many (i+1) l:=by rw [j9,h,hb];rfl
theorem ZO {s:ay}{many i:Int}{p:Pt}(h:(!(bF s p).2)=true):ri s many i p=true:=by unfold ri;rw [h];rfl
theorem ZN {s:ay}{many i:Int}{p:Pt}(h:decide (p.2.2.2.2≠0)=true):ri s many i p=true:=by unfold ri;rw [h,Bool.true_or,ZC4]
theorem ZM {s:ay}{many i:Int}{p:Pt}(h:decide (p.2.1>s.cg)=true):ri s many i p=true:=by unfold ri;rw [h,Bool.true_or,ZC4,ZC4]
theorem ZL {s:ay}{many i:Int}{p:Pt}(h:decide (i≥many)=true):ri s many i p=true:=by unfold ri;rw [h,ZC4,ZC4,ZC4]
theorem O2 {s:ay}{many i:Int}{p:Pt}(h1:(!(bF s p).2)=false) (h2:decide (p.2.2.2.2≠0)=false) (h3:decide (p.2.1>s.cg)=false) (h4:decide (i≥many)=false):ri s many i p=false:=by unfold ri;rw [h1,h2,h3,h4];rfl
def zr (S:ay) (t:bf):Prop:=S.rd
def en (S:ay) (t:bf):AV:=.q (qJ S t)
def afE (S:ay) (t:bf):List AV:=[]
def JW:cn where
 A:=[.a xv,.a [.int,.int,.int,.int,.int,.int,.int]]
 B:=[]
 pre:=λx b=>zr (x.1) (x.2)
 r:=λx b _=>en (x.1) (x.2)
 o:=λx b _=>afE (x.1) (x.2)
theorem adR:Has Tryz.prog 69 JW:=by
 refine Has.fm zT zF zF (l:=[(35,hZ),(105,dD),(80,cX),(106,kQ),(81,cx),(71,eA)]) ⟨iA,jU,iB,yE,cz,lZ,aa⟩ Tryz.func69 ?_
 rintro⟨⟨(aj:List ByteArray),(ak:List Int),(an:List Int),(ao:Int),(ah:List Pt),(aq:Int),(ai:List Pt),(ar:Bool)⟩,⟨(t1:Int),(t2:Int),(t3:Int),(t4:Int),(t5:Int),(t6:Int),(t7:Int)⟩⟩ _ (hp:zr (aj,ak,an,ao,ah,aq,ai,ar) (t1,t2,t3,t4,t5,t6,t7))
 show vc _ _ _ _ (entry [.a [.vz ab aj,.vz ag ak,.vz ag an,.int ao,.vz ae ah,.int aq,.vz ae ai,.q ar],.a [.int t1,.int t2,.int t3,.int t4,.int t5,.int t6,.int t7]] []) _
 let g':=(aj,ak,an,ao,ah,aq,ai,ar)
 let A':=(t1,t2,t3,t4,t5,t6,t7)
 have dF:ay.rd g':=hp
 have akU:aj.length=64:=dF.len
 refine⟨Sq3,Sq11,ζ,[.s 11,.b 1003],Sq12,ζ,Sq12,Sq13,ζ,⟨tv4,aa⟩,?_,λx1 w2=>⟨Sq13,Sq14,ζ,Sq14,Sq15,ζ,aa,λw3=>⟨Sq15,Sq16,ζ,Sq15,Sq17,ζ,Sq15,Sq18,ζ,Sq15,Sq19,ζ,Sq15,Sq20,ζ,Sq15,Sq21,ζ,[.s 15,.s 21],Sq22,ζ,Sq22,Sq23,ζ,Sq23,Sq24,ζ,Sq23,Sq25,ζ,Sq23,Sq26,ζ,Sq23,Sq27,ζ,[.s 23,.s 27],Sq28,ζ,?_⟩,λw4=>⟨[.s 15,.s 3],Sq16,ζ,[.s 15,.s 16,.b 1003],Sq17,ζ,[.s 15,.s 3],Sq18,ζ,[.s 15,.s 18,.b 1003],Sq19,ζ,[.s 15,.s 19],Sq20,ζ,⟨tv2,aa⟩,?_,λx5 w6=>⟨[.s 15,.s 17,.s 20],Sq21,ζ,[.s 15,.s 21],Sq22,ζ,Sq22,Sq23,ζ,aa,λw7=>⟨Sq23,Sq24,ζ,Sq23,Sq25,ζ,Sq23,Sq26,ζ,Sq23,Sq27,ζ,[.s 23,.s 27],Sq28,ζ,?_⟩,λw8=>⟨[.s 23,.s 3],Sq24,ζ,[.s 23,.s 24,.b 1003],Sq25,ζ,[.s 23,.s 25],Sq26,ζ,⟨⟨tv6,aa⟩,aa⟩,?_,λx9 dy=>⟨[.s 23,.s 26],Sq27,ζ,[.s 23,.s 27],Sq28,ζ,λkA=>?_,λdJ=>⟨⟨⟨tv9,tv8,aa⟩,?_,?_⟩,λrW gO=>⟨λqK=>?_,λkg=>?_⟩⟩⟩⟩⟩⟩⟩⟩
 all_goals first|refine aw ?_|refine ax ?_|exact a8|(dsimp only [dD,fe,cX,dZ,kQ,lM,eA,fV];omega)|exact a7|exact dF|exact (HQ (t:=A') (zA w4 w8 dJ)).dep|skip
 ·refine⟨[],[],_,_,_,ζ,az,(),aa,?_,?_,ζ⟩
  ·(show _=en g' A');unfold en;first|(rw [DV (s:=g') (t:=A') (ZD w3)];rfl)|rfl
  ·rfl
 ·refine⟨[],[],_,_,_,ζ,az,(),aa,?_,?_,ζ⟩
  ·(show _=en g' A');unfold en;first|(rw [DV (s:=g') (t:=A') (ZC w7)];rfl)|rfl
  ·rfl
 ·refine⟨[],[],_,_,_,ζ,az,(),aa,?_,?_,ζ⟩
  ·(show _=en g' A');unfold en;first|(rw [DV (s:=g') (t:=A') (ZB kA)];rfl)|rfl
  ·rfl
 ·refine⟨[],[],_,_,_,ζ,az,(),aa,?_,?_,ζ⟩
  ·(show _=en g' A');unfold en;first|(rw [ZA (s:=g') (t:=A') (zA w4 w8 dJ) qK];rfl)|rfl
  ·rfl
 ·have hB:=zA (t:=A') w4 w8 dJ
  have hM:=Y9 (s:=g') (t:=A') hB kg
  have sS:bf.rd A':=HQ hB
  have hl:=rh (s:=g') sS
  have cG:=H9 (s:=g') sS
  refine cN (l:=[(35,hZ),(105,dD),(80,cX),(106,kQ),(81,cx),(71,eA)]) (ex:=zT) (wr:=zF) (pt:=zF) ⟨iA,jU,iB,yE,cz,lZ,aa⟩ [.s 2,.b 1002,.s 3,.b 1003,.s 5,.b 330000] (λi:Nat=>[(.s 7,.int i)]) (λi=>i≤(bA g' A').1.length∧j9 g' t7 i ((bA g' A').1.drop i)=j9 g' t7 0 (bA g' A').1) (λi=>(bA g' A').1.length-i) 0 [] ⟨ZA7 _,rfl⟩ dM ?_
  rintro i ⟨hi,hr⟩
  have cm:decide ((i:Int)<((bA g' A').1.length:Int))=true→i<(bA g' A').1.length:=λh=>by have:=aJ h;omega
  have cO:i<(bA g' A').1.length→(bA g' A').1.drop i=nth ae (bA g' A').1 i::(bA g' A').1.drop (i+1):=λh=>bW (ek:=ae) h
  have ha:=nT (oC cG i)
  refine⟨λw1=>⟨⟨?_,?_⟩,?_,⟨⟨tv6,aa⟩,aa⟩,λx2 w3=>⟨λw4=>⟨⟨?_,?_⟩,?_⟩,λw5=>⟨⟨⟨tv9,tv6,aa⟩,λx6 w7=>?_,?_,?_⟩,λx8 w9=>⟨aa,λdy=>?_,λkA=>⟨aa,λdJ=>?_,λiU=>⟨aa,λgO=>?_,λqK=>⟨λkg=>?_,λxh=>⟨⟨?_,?_⟩,?_⟩⟩⟩⟩⟩⟩⟩⟩,λrS=>?_⟩
  all_goals first|refine aw ?_|refine ax ?_|exact a8|(dsimp only [dD,fe,cX,dZ,kQ,lM,eA,fV];omega)|exact a7|exact dF|exact cm w1|exact aJ w1|exact dF.sz _ (by assumption)|exact ha.1|(show _<(aj.length:Int);rw [akU];exact ha.2)|skip
  ·refine⟨(i+1),[],?_,?_,?_⟩
   rotate_right
   ·exact bV
   ·exact⟨cm w1,by rw [←hr,cO (cm w1),FD (s:=g') (p:=(nth ae (bA g' A').1 i)) w4];rfl⟩
   ·show (bA g' A').1.length-(i+1)<(bA g' A').1.length-i;have:=cm w1;omega
  ·refine⟨[],[],_,_,_,ζ,az,(),aa,?_,?_,ζ⟩
   ·(show _=en g' A');unfold en;first|(rw [hM,←hr,cO (cm w1),wJ (s:=g') (p:=(nth ae (bA g' A').1 i)) w5 (ZO (s:=g') (p:=(nth ae (bA g' A').1 i)) dy)];rfl)|rfl
   ·rfl
  ·refine⟨[],[],_,_,_,ζ,az,(),aa,?_,?_,ζ⟩
   ·(show _=en g' A');unfold en;first|(rw [hM,←hr,cO (cm w1),wJ (s:=g') (p:=(nth ae (bA g' A').1 i)) w5 (ZN (s:=g') (p:=(nth ae (bA g' A').1 i)) dJ)];rfl)|rfl
   ·rfl
  ·refine⟨[],[],_,_,_,ζ,az,(),aa,?_,?_,ζ⟩
   ·(show _=en g' A');unfold en;first|(rw [hM,←hr,cO (cm w1),wJ (s:=g') (p:=(nth ae (bA g' A').1 i)) w5 (ZM (s:=g') (p:=(nth ae (bA g' A').1 i)) gO)];rfl)|rfl
   ·rfl
  ·refine⟨[],[],_,_,_,ζ,az,(),aa,?_,?_,ζ⟩
   ·(show _=en g' A');unfold en;first|(rw [hM,←hr,cO (cm w1),wJ (s:=g') (p:=(nth ae (bA g' A').1 i)) w5 (ZL (s:=g') (p:=(nth ae (bA g' A').1 i)) kg)];rfl)|rfl
   ·rfl
  ·refine⟨(i+1),[],?_,?_,?_⟩
   rotate_right
   ·exact bV
   ·exact⟨cm w1,by rw [←hr,cO (cm w1),O1 (s:=g') (p:=(nth ae (bA g' A').1 i)) w5 (O2 (s:=g') (p:=(nth ae (bA g' A').1 i)) kA iU qK xh)];rfl⟩
   ·show (bA g' A').1.length-(i+1)<(bA g' A').1.length-i;have:=cm w1;omega
  ·have FL:¬i<(bA g' A').1.length:=by have:=aA (p:=(i:Int)<((bA g' A').1.length:Int)) rS;omega
   have e:j9 g' t7 0 (bA g' A').1=true:=by rw [←hr,ZB3 (by omega)];rfl
   refine⟨[],[],_,_,_,ζ,az,(),aa,?_,?_,ζ⟩
   ·(show _=en g' A');unfold en;first|(rw [hM,e];rfl)|rfl
   ·rfl
end GL
namespace GL
theorem T4:∀{l:List Pt}{i:Nat}{out o:ByteArray}{sm m:Bool},gX l i out sm=some (o,m)→o.size≤out.size+65*l.length
 |[],i,out,o,sm,m,h=>by cases h;exact ZB5 _
 |p::l,i,out,o,sm,m,h=>by
  unfold gX at h
  cases hb:aZ p with
  |true=>
   rw [hb,cond_true] at h
   have h1:=T4 h
   have h2:=gu p
   rw [ZB2] at h1
   rw [ZA1]
   cases hd:decide ((i:Int)>0) with
   |true=>rw [hd,cond_true,ZB2,sz1] at h1;omega
   |false=>rw [hd,cond_false] at h1;omega
  |false=>rw [hb] at h;cases h
theorem XM (l:List Pt):(bE l).1.size≤1000:=by
 unfold bE
 cases hc:decide ((l.length:Int)≠4) with
 |true=>exact ZA7 _
 |false=>
  have h4:=aA hc
  show (rk l).1.size≤1000
  unfold rk
  cases hf:gX l 0 ⟨#[]⟩ false with
  |none=>exact ZA7 _
  |some r=>
   obtain⟨o,sm⟩:=r
   have h1:=T4 hf
   rw [sz0] at h1
   show (rl o sm).1.size≤1000
   unfold rl
   cases !sm with
   |true=>exact ZA7 _
   |false=>show o.size≤1000;omega
def fD (s:ay) (l:List Pt) (old:Pt):Bool:= !(au old)&&(iX old (bE l).1&&decide (nth ab s.rows old.1.toNat=(bE l).1))
def ee (s:ay) (l:List Pt) (lv:Int) (old:Pt):ay×Pt×Bool:=
 bif nV l then (s,bM,true) else bif fD s l old then (s,old,true) else bd s (bE l).1 lv
theorem JG {s:ay}{l:List Pt}{lv:Int}{old:Pt}(h:nV l=true):ee s l lv old=(s,bM,true):=by unfold ee;rw [h];rfl
theorem JF {s:ay}{l:List Pt}{lv:Int}{old:Pt}(h:nV l=false) (h2:fD s l old=true):ee s l lv old=(s,old,true):=by unfold ee;rw [h,h2];rfl
theorem tS {s:ay}{l:List Pt}{lv:Int}{old:Pt}(h:nV l=false) (h2:fD s l old=false):ee s l lv old=bd s (bE l).1 lv:=by unfold ee;rw [h,h2];rfl
theorem M3 {s:ay}{l:List Pt}{old:Pt}(h1:(!(au old))=true) (h2:iX old (bE l).1=true) (h3:decide (nth ab s.rows old.1.toNat=(bE l).1)=true):fD s l old=true:=by unfold fD;rw [h1,h2,h3];rfl
theorem M6 {s:ay}{l:List Pt}{old:Pt}(h1:(!(au old))=false):fD s l old=false:=by unfold fD;rw [h1];rfl
theorem M5 {s:ay}{l:List Pt}{old:Pt}(h2:iX old (bE l).1=false):fD s l old=false:=by unfold fD;rw [h2,Bool.false_and,ZD7]
theorem M4 {s:ay}{l:List Pt}{old:Pt}(h3:decide (nth ab s.rows old.1.toNat=(bE l).1)=false):fD s l old=false:=by unfold fD;rw [h3,ZD7,ZD7]
structure ay.akH (s:ay):Prop where
 ok:s.n64
def k6 (S:ay) (l:List Pt) (lv:Int) (o:Pt):Prop:=S.akH∧l.length≤1000000∧0≤o.1∧o.1<64
def gS (S:ay) (l:List Pt) (lv:Int) (o:Pt):AV:=.t [.a (kW 0 1 2 3 4 (ee S l lv o).1),ptA (ee S l lv o).2.1,.s (.q (ee S l lv o).2.2)]
def jq (S:ay) (l:List Pt) (lv:Int) (o:Pt):List AV:=GF (ee S l lv o).1
def j4:cn where
 A:=[.a (stB 0 1 2 3 4),.s (.vz ae),.s .int,.a [.int,.int,.int,.int,.int]]
 B:=[.r ab,.r ag,.r ag,.r ae,.r ae]
 pre:=λx b=>stW x.1 b∧k6 (gP x.1 b) (x.2.1) (x.2.2.1) (x.2.2.2)
 r:=λx b _=>gS (gP x.1 b) (x.2.1) (x.2.2.1) (x.2.2.2)
 o:=λx b _=>jq (gP x.1 b) (x.2.1) (x.2.2.1) (x.2.2.2)
theorem wQ:Has Tryz.prog 145 j4:=by
 refine Has.fm zT zF zF (l:=[(190,JX),(191,J7),(81,cx),(108,sN),(93,nb)]) ⟨adS,ad3,cz,MJ,CQ,aa⟩ Tryz.func145 ?_
 rintro⟨⟨(AU:Nat),(AT:Nat),(AS:Nat),(ao:Int),(AR:Nat),(aq:Int),(AQ:Nat),(ar:Bool)⟩,(l:List Pt),(lv:Int),⟨(o1:Int),(o2:Int),(o3:Int),(o4:Int),(o5:Int)⟩⟩ ⟨(aj:List ByteArray),(ak:List Int),(an:List Int),(ah:List Pt),(ai:List Pt)⟩ ⟨⟨(gC:AU=List.length aj),(gB:AT=List.length ak),(gA:AS=List.length an),(gz:AR=List.length ah),(gy:AQ=List.length ai)⟩,(hp:k6 (aj,ak,an,ao,ah,aq,ai,ar) l lv (o1,o2,o3,o4,o5))⟩
 subst gC gB gA gz gy
 show vc _ _ _ _ (entry [.a [.xs 0 1 0 aj.length,.xs 1 1 0 ak.length,.xs 2 1 0 an.length,.int ao,.xs 3 5 0 ah.length,.int aq,.xs 4 5 0 ai.length,.q ar],.s (.vz ae l),.int lv,.a [.int o1,.int o2,.int o3,.int o4,.int o5]] [.rs ab aj,.rs ag ak,.rs ag an,.rs ae ah,.rs ae ai]) _
 let g':=(aj,ak,an,ao,ah,aq,ai,ar)
 let A':=(o1,o2,o3,o4,o5)
 obtain⟨⟨⟨l1,l2,l3⟩⟩,h2,(h3:0≤o1),(h4:o1<64)⟩:=hp
 dsimp only [ay.rows,ay.refs,ay.last] at l1 l2 l3
 have dj:=XM l
 refine⟨⟨tv2,?_⟩,λx1 w2=>⟨λw3=>?_,λw4=>⟨⟨tv2,aa⟩,λx5 w6=>⟨⟨⟨tv6,aa⟩,aa⟩,λx7 w8=>⟨aa,λw9=>⟨⟨⟨tv6,tv2⟩,?_⟩,λx10 kA=>⟨aa,λdJ=>⟨⟨?_,?_⟩,?_,λiU=>⟨[.s 4,.b 1004],Sq40,ζ,[.s 7,.b 1007],Sq41,ζ,[.s 8,.s 40,.b 1008],[.b 1008],ζ,[.s 9,.s 41,.b 1009],[.b 1009],ζ,[],Sq10,ζ,?_⟩,λgO=>⟨⟨⟨tv9,tv3⟩,⟨?_,?_,?_,?_,?_⟩,⟨?_,?_,?_⟩,?_⟩,λky kg=>?_⟩⟩,λxh=>⟨⟨⟨tv9,tv3⟩,⟨?_,?_,?_,?_,?_⟩,⟨?_,?_,?_⟩,?_⟩,λqH oL=>?_⟩⟩⟩,λuI=>⟨⟨⟨tv9,tv3⟩,⟨?_,?_,?_,?_,?_⟩,⟨?_,?_,?_⟩,?_⟩,λx21 A3=>?_⟩⟩⟩⟩⟩⟩
 all_goals first|refine aw ?_|refine ax ?_|exact a8|(dsimp only [JX,tg,J7,ym,sN,nP,nb,nM,gP];omega)|exact a7|(show ((bE l).1.size:Int)≤1000000000000;omega)|exact l1|exact l2|exact l3|exact h2|skip
 ·refine⟨[],[],_,_,_,ζ,az,(),aa,?_,?_,ζ⟩
  ·(show _=gS g' l lv A');unfold gS;first|(rw [JG (s:=g') (l:=l) (lv:=lv) (old:=A') w3];rfl)|rfl
  ·(show _=jq g' l lv A');unfold jq;first|(rw [JG (s:=g') (l:=l) (lv:=lv) (old:=A') w3];rfl)|rfl
 ·refine⟨[],[],_,_,_,ζ,az,(),aa,?_,?_,ζ⟩
  ·(show _=gS g' l lv A');unfold gS;first|(rw [JF (s:=g') (l:=l) (lv:=lv) (old:=A') w4 (M3 (s:=g') (l:=l) (old:=A') w9 dJ iU)];rfl)|rfl
  ·(show _=jq g' l lv A');unfold jq;first|(rw [JF (s:=g') (l:=l) (lv:=lv) (old:=A') w4 (M3 (s:=g') (l:=l) (old:=A') w9 dJ iU)];rfl)|rfl
 ·refine⟨[],[],_,_,_,ζ,az,(),aa,?_,?_,ζ⟩
  ·(show _=gS g' l lv A');unfold gS;first|(rw [tS (s:=g') (l:=l) (lv:=lv) (old:=A') w4 (M4 (s:=g') (l:=l) (old:=A') gO)];rfl)|rfl
  ·(show _=jq g' l lv A');unfold jq;first|(rw [tS (s:=g') (l:=l) (lv:=lv) (old:=A') w4 (M4 (s:=g') (l:=l) (old:=A') gO)];rfl)|rfl
 ·refine⟨[],[],_,_,_,ζ,az,(),aa,?_,?_,ζ⟩
  ·(show _=gS g' l lv A');unfold gS;first|(rw [tS (s:=g') (l:=l) (lv:=lv) (old:=A') w4 (M5 (s:=g') (l:=l) (old:=A') xh)];rfl)|rfl
  ·(show _=jq g' l lv A');unfold jq;first|(rw [tS (s:=g') (l:=l) (lv:=lv) (old:=A') w4 (M5 (s:=g') (l:=l) (old:=A') xh)];rfl)|rfl
 ·refine⟨[],[],_,_,_,ζ,az,(),aa,?_,?_,ζ⟩
  ·(show _=gS g' l lv A');unfold gS;first|(rw [tS (s:=g') (l:=l) (lv:=lv) (old:=A') w4 (M6 (s:=g') (l:=l) (old:=A') uI)];rfl)|rfl
  ·(show _=jq g' l lv A');unfold jq;first|(rw [tS (s:=g') (l:=l) (lv:=lv) (old:=A') w4 (M6 (s:=g') (l:=l) (old:=A') uI)];rfl)|rfl
def bw (s:ay) (t:bf):List Pt:=
 bif decide (t.depth=0)||au t.root then [] else
 bif decide (t.depth=2) then t.root::(bg s t.root 2).1.filter (λp=> !(au p)) else [t.root]
theorem IV {s:ay}{t:bf}(h:decide (t.depth=0)=true):bw s t=[]:=by unfold bw;rw [h];rfl
theorem zQ {s:ay}{t:bf}(h:au t.root=true):bw s t=[]:=by unfold bw;rw [h,ZC4];rfl
theorem zP {s:ay}{t:bf}(h:decide (t.depth=0)=false) (h2:au t.root=false) (h3:decide (t.depth=2)=false):bw s t=[t.root]:=by unfold bw;rw [h,h2,h3];rfl
theorem IU {s:ay}{t:bf}(h:decide (t.depth=0)=false) (h2:au t.root=false) (h3:decide (t.depth=2)=true):bw s t=t.root::(bg s t.root 2).1.filter (λp=> !(au p)):=by unfold bw;rw [h,h2,h3];rfl
theorem aex {l:List Pt}{f:Pt→Bool}{i:Nat}(hi:i<l.length) (h:f (nth ae l i)=true):(l.take (i+1)).filter f=(l.take i).filter f++[nth ae l i]:=by
 rw [GB hi,List.filter_append,List.filter_cons,h];rfl
theorem aey {l:List Pt}{f:Pt→Bool}{i:Nat}(hi:i<l.length) (h:f (nth ae l i)=false):(l.take (i+1)).filter f=(l.take i).filter f:=by
 rw [GB hi,List.filter_append,List.filter_cons,h];simp
def ig (S:ay) (t:bf):Prop:=S.rd
def gq (S:ay) (t:bf):AV:=.s (.xs 0 5 0 (bw S t).length)
def iw (S:ay) (t:bf):List AV:=[.rs ae (bw S t)]
def fO:cn where
 A:=[.a xv,.a [.int,.int,.int,.int,.int,.int,.int]]
 B:=[]
 pre:=λx b=>ig (x.1) (x.2)
 r:=λx b _=>gq (x.1) (x.2)
 o:=λx b _=>iw (x.1) (x.2)
 nf:=1
theorem pd:Has Tryz.prog 143 fO:=by
 refine Has.fm zT zF zF (l:=[(81,cx),(154,ef)]) ⟨cz,lk,aa⟩ Tryz.func143 ?_
 rintro⟨⟨(aj:List ByteArray),(ak:List Int),(an:List Int),(ao:Int),(ah:List Pt),(aq:Int),(ai:List Pt),(ar:Bool)⟩,⟨(t1:Int),(t2:Int),(t3:Int),(t4:Int),(t5:Int),(t6:Int),(t7:Int)⟩⟩ _ (hp:ig (aj,ak,an,ao,ah,aq,ai,ar) (t1,t2,t3,t4,t5,t6,t7))
 show vc _ _ _ _ (entry [.a [.vz ab aj,.vz ag ak,.vz ag an,.int ao,.vz ae ah,.int aq,.vz ae ai,.q ar],.a [.int t1,.int t2,.int t3,.int t4,.int t5,.int t6,.int t7]] []) _
 let g':=(aj,ak,an,ao,ah,aq,ai,ar)
 let A':=(t1,t2,t3,t4,t5,t6,t7)
 let B':=(t1,t2,t3,t4,t5)
 have dF:ay.rd g':=hp
 refine⟨aa,aa,λw1=>?_,λw2=>⟨⟨⟨tv6,aa⟩,aa⟩,λx3 w4=>⟨λw5=>?_,λw6=>⟨aa,⟨⟨?_,?_⟩,?_,?_⟩,λw7=>⟨⟨⟨tv9,tv6,tv2⟩,?_⟩,λx8 w9=>?_⟩,λdy=>?_⟩⟩⟩⟩
 all_goals first|refine aw ?_|refine ax ?_|exact a8|(dsimp only [ef,fF];omega)|exact a7|exact dF|skip
 ·refine⟨[1009],[],_,_,_,ζ,az,(),aa,?_,?_,ζ⟩
  ·(show _=gq g' A');unfold gq;first|(rw [IV (s:=g') (t:=A') w1];rfl)|rfl
  ·(show _=iw g' A');unfold iw;first|(rw [IV (s:=g') (t:=A') w1];rfl)|rfl
 ·refine⟨[1009],[],_,_,_,ζ,az,(),aa,?_,?_,ζ⟩
  ·(show _=gq g' A');unfold gq;first|(rw [zQ (s:=g') (t:=A') w5];rfl)|rfl
  ·(show _=iw g' A');unfold iw;first|(rw [zQ (s:=g') (t:=A') w5];rfl)|rfl
 ·have hB:=(iG g' B' 2).1
  have hM:=IU (s:=g') (t:=A') w2 w6 w7
  refine cN (l:=[(81,cx),(154,ef)]) (ex:=zT) (wr:=zF) (pt:=zF) ⟨cz,lk,aa⟩ [.s 6,.b 320000] (λy:Nat×List Pt=>[(.s 5,.s (.xs 1023 5 0 y.2.length)),(.s 8,.int y.1),(.b 1023,.rs ae y.2)]) (λy=>y.1≤(bg g' B' 2).1.length∧y.2.length≤y.1+1∧y.2=B'::((bg g' B' 2).1.take y.1).filter (λp=> !(au p))) (λy=>(bg g' B' 2).1.length-y.1) (0,[B']) [] ⟨ZA7 _,ZB5 _,rfl⟩ dM ?_
  rintro⟨i,out⟩ ⟨(hi:i≤(bg g' B' 2).1.length),(hlo:out.length≤i+1),(he:out=B'::((bg g' B' 2).1.take i).filter (λp=> !(au p)))⟩
  have cm:decide ((i:Int)<((bg g' B' 2).1.length:Int))=true→i<(bg g' B' 2).1.length:=λh=>by have:=aJ h;omega
  refine⟨λw1=>⟨⟨?_,?_⟩,?_,⟨⟨tv6,aa⟩,aa⟩,λx2 w3=>⟨λw4=>⟨⟨?_,?_⟩,?_,aa,⟨⟨?_,?_⟩,?_,?_⟩,⟨?_,?_⟩,?_⟩,λw5=>⟨⟨?_,?_⟩,?_⟩⟩⟩,λw6=>?_⟩
  all_goals first|refine aw ?_|refine ax ?_|exact a8|(dsimp only [ef,fF];omega)|exact a7|exact cm w1|exact aJ w1|(show out.length+1≤1048576;omega)|skip
  ·refine⟨(i+1,out++[nth ae (bg g' B' 2).1 i]),[(1023,1052)],?_,?_,?_⟩
   rotate_right
   ·exact bV
   ·exact⟨cm w1,by show List.length (_++_)≤_;rw [ZA0];show out.length+1≤i+1+1;omega,by show _=_::_;rw [aex (l:=(bg g' B' 2).1) (cm w1) w4,he];rfl⟩
   ·show (bg g' B' 2).1.length-(i+1)<(bg g' B' 2).1.length-i;have:=cm w1;omega
  ·refine⟨(i+1,out),[],?_,?_,?_⟩
   rotate_right
   ·exact bV
   ·exact⟨cm w1,by show out.length≤i+1+1;omega,by show _=_::_;rw [aey (l:=(bg g' B' 2).1) (cm w1) w5];exact he⟩
   ·show (bg g' B' 2).1.length-(i+1)<(bg g' B' 2).1.length-i;have:=cm w1;omega
  ·have FL:¬i<(bg g' B' 2).1.length:=by have:=aA (p:=(i:Int)<((bg g' B' 2).1.length:Int)) w6;omega
   have e:bw g' A'=out:=by rw [hM,he,ZD1 (by omega)]
   refine⟨[1023],[],_,_,_,ζ,az,(),aa,?_,?_,ζ⟩
   ·(show _=gq g' A');unfold gq;first|(rw [e];rfl)|rfl
   ·(show _=iw g' A');unfold iw;first|(rw [e];rfl)|rfl
 ·refine⟨[1023],[],_,_,_,ζ,az,(),aa,?_,?_,ζ⟩
  ·(show _=gq g' A');unfold gq;first|(rw [zP (s:=g') (t:=A') w2 w6 dy];rfl)|rfl
  ·(show _=iw g' A');unfold iw;first|(rw [zP (s:=g') (t:=A') w2 w6 dy];rfl)|rfl
def dL (s:ay) (t:bf) (d lv:Int):List Pt:=
 bif decide (t.depth≠d) then cu 4 else bif decide (lv=d) then [t.root] else bif !(bg s t.root d).2 then cu 4 else (bg s t.root d).1
theorem CA {s:ay}{t:bf}{d lv:Int}(h:decide (t.depth≠d)=true):dL s t d lv=cu 4:=by unfold dL;rw [h];rfl
theorem HN {s:ay}{t:bf}{d lv:Int}(h:decide (t.depth≠d)=false) (h2:decide (lv=d)=true):dL s t d lv=[t.root]:=by unfold dL;rw [h,h2];rfl
theorem OV {s:ay}{t:bf}{d lv:Int}(h:decide (t.depth≠d)=false) (h2:decide (lv=d)=false) (h3:(!(bg s t.root d).2)=true):dL s t d lv=cu 4:=by unfold dL;rw [h,h2,h3];rfl
theorem HM {s:ay}{t:bf}{d lv:Int}(h:decide (t.depth≠d)=false) (h2:decide (lv=d)=false) (h3:(!(bg s t.root d).2)=false):dL s t d lv=(bg s t.root d).1:=by unfold dL;rw [h,h2,h3];rfl
def kX (S:ay) (t:bf) (d:Int) (lv:Int):Prop:=S.rd
def jN (S:ay) (t:bf) (d:Int) (lv:Int):AV:=.s (.xs 0 5 0 (dL S t d lv).length)
def lT (S:ay) (t:bf) (d:Int) (lv:Int):List AV:=[.rs ae (dL S t d lv)]
def j0:cn where
 A:=[.a xv,.a [.int,.int,.int,.int,.int,.int,.int],.s .int,.s .int]
 B:=[]
 pre:=λx b=>kX (x.1) (x.2.1) (x.2.2.1) (x.2.2.2)
 r:=λx b _=>jN (x.1) (x.2.1) (x.2.2.1) (x.2.2.2)
 o:=λx b _=>lT (x.1) (x.2.1) (x.2.2.1) (x.2.2.2)
 nf:=1
theorem wN:Has Tryz.prog 144 j0:=by
 refine Has.fm zT zF zF (l:=[(107,j3),(154,ef)]) ⟨wP,lk,aa⟩ Tryz.func144 ?_
 rintro⟨⟨(aj:List ByteArray),(ak:List Int),(an:List Int),(ao:Int),(ah:List Pt),(aq:Int),(ai:List Pt),(ar:Bool)⟩,⟨(t1:Int),(t2:Int),(t3:Int),(t4:Int),(t5:Int),(t6:Int),(t7:Int)⟩,(d:Int),(lv:Int)⟩ _ (hp:kX (aj,ak,an,ao,ah,aq,ai,ar) (t1,t2,t3,t4,t5,t6,t7) d lv)
 show vc _ _ _ _ (entry [.a [.vz ab aj,.vz ag ak,.vz ag an,.int ao,.vz ae ah,.int aq,.vz ae ai,.q ar],.a [.int t1,.int t2,.int t3,.int t4,.int t5,.int t6,.int t7],.int d,.int lv] []) _
 let g':=(aj,ak,an,ao,ah,aq,ai,ar)
 let A':=(t1,t2,t3,t4,t5,t6,t7)
 have dF:ay.rd g':=hp
 refine⟨λw1=>⟨⟨tv2,?_,?_⟩,λx2 w3=>?_⟩,λw4=>⟨λw5=>⟨aa,?_⟩,λw6=>⟨⟨⟨tv9,tv6,tv2⟩,?_⟩,λx7 w8=>⟨λw9=>⟨⟨tv2,?_,?_⟩,λx10 kA=>?_⟩,λdJ=>?_⟩⟩⟩⟩
 all_goals first|refine aw ?_|refine ax ?_|exact a8|(dsimp only [j3,kZ,ef,fF];omega)|exact a7|exact dF|skip
 ·refine⟨[160000],[],_,_,_,ζ,az,(),aa,?_,?_,ζ⟩
  ·(show _=jN g' A' d lv);unfold jN;first|(rw [CA (s:=g') (t:=A') (d:=d) (lv:=lv) w1];rfl)|rfl
  ·(show _=lT g' A' d lv);unfold lT;first|(rw [CA (s:=g') (t:=A') (d:=d) (lv:=lv) w1];rfl)|rfl
 ·refine⟨[1021],[],_,_,_,ζ,az,(),aa,?_,?_,ζ⟩
  ·(show _=jN g' A' d lv);unfold jN;first|(rw [HN (s:=g') (t:=A') (d:=d) (lv:=lv) w4 w5];rfl)|rfl
  ·(show _=lT g' A' d lv);unfold lT;first|(rw [HN (s:=g') (t:=A') (d:=d) (lv:=lv) w4 w5];rfl)|rfl
 ·trace_state
  refine⟨[330000],[],_,_,_,ζ,az,(),aa,?_,?_,ζ⟩
  ·(show _=jN g' A' d lv);unfold jN;first|(rw [OV (s:=g') (t:=A') (d:=d) (lv:=lv) w4 w6 w9];rfl)|rfl
  ·(show _=lT g' A' d lv);unfold lT;first|(rw [OV (s:=g') (t:=A') (d:=d) (lv:=lv) w4 w6 w9];rfl)|rfl
 ·refine⟨[280000],[],_,_,_,ζ,az,(),aa,?_,?_,ζ⟩
  ·(show _=jN g' A' d lv);unfold jN;first|(rw [HM (s:=g') (t:=A') (d:=d) (lv:=lv) w4 w6 dJ];rfl)|rfl
  ·(show _=lT g' A' d lv);unfold lT;first|(rw [HM (s:=g') (t:=A') (d:=d) (lv:=lv) w4 w6 dJ];rfl)|rfl
