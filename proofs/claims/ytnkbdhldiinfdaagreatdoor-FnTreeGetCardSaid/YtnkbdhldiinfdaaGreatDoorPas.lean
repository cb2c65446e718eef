/- A drawn law returns true for every code (its row lists package variables, tied by the card): part 19. -/
import Derived.Test.YtnkbdhldiinfdaaGreatDoorPar
set_option maxHeartbeats 20000000
set_option maxRecDepth 100000
set_option linter.all false
namespace Go.Proofs.YtnkbdhldiinfdaaGreatDoor
namespace GL
def fx (s:ay) (lv:Int):List Pt→List Pt→Option (List Pt)
 |[],acc=>some acc
 |p::l,acc=>bif (bg s p lv).2 then fx s lv l (acc++(bg s p lv).1) else none
def tF (s:ay):Nat→Int→List Pt→List Pt×Bool
 |0,_,l=>(l,true)
 |f+1,lv,l=>bif decide (lv>0) then (match fx s lv l [] with
  |none=>([],false)
  |some n=>tF s f (lv-1) n) else (l,true)
abbrev bf.root (t:bf):Pt:=(t.1,t.2.1,t.2.2.1,t.2.2.2.1,t.2.2.2.2.1)
abbrev bf.depth (t:bf):Int:=t.2.2.2.2.2.1
abbrev bf.many (t:bf):Int:=t.2.2.2.2.2.2
def bA (s:ay) (t:bf):List Pt×Bool:=tF s 3 t.depth [t.root]
theorem H5 {s:ay}{f:Nat}{lv:Int}{l:List Pt}(h:decide (lv>0)=true) (h2:fx s lv l []=none):tF s (f+1) lv l=([],false):=by rw [tF,h,h2];rfl
theorem CI {s:ay}{f:Nat}{lv:Int}{l n:List Pt}(h:decide (lv>0)=true) (h2:fx s lv l []=some n):tF s (f+1) lv l=tF s f (lv-1) n:=by rw [tF,h,h2];rfl
theorem vt {s:ay}{f:Nat}{lv:Int}{l:List Pt}(h:decide (lv>0)=false):tF s (f+1) lv l=(l,true):=by rw [tF,h];rfl
theorem NZ {s:ay}{lv:Int}{p:Pt}{l acc:List Pt}(h:(!(bg s p lv).2)=true):fx s lv (p::l) acc=none:=by rw [fx,xm h];rfl
theorem NY {s:ay}{lv:Int}{p:Pt}{l acc:List Pt}(h:(!(bg s p lv).2)=false):fx s lv (p::l) acc=fx s lv l (acc++(bg s p lv).1):=by rw [fx,cL h];rfl
theorem iG (s:ay) (p:Pt) (lv:Int):(bg s p lv).1.length≤4∧((bg s p lv).2=true→(bg s p lv).1.length=4):=by
 have h0:([]:List Pt).length≤4∧(false=true→([]:List Pt).length=4):=⟨ZA7 _,fun h=>by cases h⟩
 unfold bg
 cases au p with
 |true=>exact⟨ZB5 _,fun _=>rfl⟩
 |false=>
  cases !(aZ p)||(decide (p.2.2.2.2≠lv)||decide (p.2.1>s.cg)) with
  |true=>exact h0
  |false=>
   cases !(bF s p).2 with
   |true=>exact h0
   |false=>
    show (oI p (bl (bF s p).1)).1.length≤4∧((oI p (bl (bF s p).1)).2=true→(oI p (bl (bF s p).1)).1.length=4)
    unfold oI
    cases (bl (bF s p).1).1.any (late p) with
    |true=>exact h0
    |false=>exact vL _
theorem r3 {s:ay}{lv:Int}:∀{l acc n:List Pt},fx s lv l acc=some n→n.length=acc.length+4*l.length
 |[],acc,n,h=>by cases h;rfl
 |p::l,acc,n,h=>by
  unfold fx at h
  cases hb:(bg s p lv).2 with
  |true=>
   rw [hb,cond_true] at h
   rw [r3 h,ZA0,(iG s p lv).2 hb,ZA1];omega
  |false=>rw [hb] at h;cases h
def ahZ (lv:Int) (n:Nat):Prop:=n≤16∧(1≤lv→n≤4)∧(2≤lv→n≤1)
def lM (S:ay) (t:bf):Prop:=S.rd∧t.depth≤2
def lD (S:ay) (t:bf):AV:=.t [.s (.xs 0 5 0 (bA S t).1.length),.s (.q (bA S t).2)]
def nR (S:ay) (t:bf):List AV:=[.rs ae (bA S t).1]
def kQ:cn where
 A:=[.a xv,.a [.int,.int,.int,.int,.int,.int,.int]]
 B:=[]
 pre:=fun x b=>lM (x.1) (x.2)
 r:=fun x b _=>lD (x.1) (x.2)
 o:=fun x b _=>nR (x.1) (x.2)
 nf:=1
theorem yE:Has Tryz.prog 106 kQ:=by
 refine Has.fm zT zF zF (l:=[(154,ef)]) ⟨lk,aa⟩ Tryz.func106 ?_
 rintro⟨⟨(aj:List ByteArray),(ak:List Int),(an:List Int),(ao:Int),(ah:List Pt),(aq:Int),(ai:List Pt),(ar:Bool)⟩,⟨(t1:Int),(t2:Int),(t3:Int),(t4:Int),(t5:Int),(t6:Int),(t7:Int)⟩⟩ _ (hp:lM (aj,ak,an,ao,ah,aq,ai,ar) (t1,t2,t3,t4,t5,t6,t7))
 show vc _ _ _ _ (entry [.a [.vz ab aj,.vz ag ak,.vz ag an,.int ao,.vz ae ah,.int aq,.vz ae ai,.q ar],.a [.int t1,.int t2,.int t3,.int t4,.int t5,.int t6,.int t7]] []) _
 let g':=(aj,ak,an,ao,ah,aq,ai,ar)
 let A':=(t1,t2,t3,t4,t5,t6,t7)
 obtain⟨dF,(alg:t6≤2)⟩:=hp
 have dF:ay.rd g':=dF
 refine⟨aa,?_⟩
 all_goals first|refine aw ?_|refine ax ?_|exact a8|(dsimp only [ef,fF];omega)|exact a7|skip
 refine cN (l:=[(154,ef)]) (ex:=zT) (wr:=zF) (pt:=zF) ⟨lk,trivial⟩ [.s 2,.b 1002] (fun y:Int×List Pt×Nat=>[(.s 6,.s (.xs 1014 5 0 y.2.1.length)),(.s 7,.int y.1),(.b 1014,.rs ae y.2.1)]) (fun y=>y.1≤2∧ahZ y.1 y.2.1.length∧y.1<y.2.2∧tF g' y.2.2 y.1 y.2.1=bA g' A') (fun y=>y.1.toNat) (t6,[(t1,t2,t3,t4,t5)],3) [] ⟨alg,⟨by show 1≤16;omega,fun _=>by show 1≤4;omega,fun _=>ZB5 _⟩,by show t6<(3:Nat);omega,rfl⟩ dM ?_
 rintro⟨lv,l,f⟩ ⟨(FK:lv≤2),(TO:ahZ lv l.length),(hf:lv<(f:Int)),(hr:tF g' f lv l=bA g' A')⟩
 refine⟨fun w1=>⟨aa,?_⟩,fun w2=>?_⟩
 all_goals first|refine aw ?_|refine ax ?_|exact a8|(dsimp only [ef,fF];omega)|exact a7|skip
 ·have oU:decide (lv>0)=true:=w1
  have h1:lv>0:=aJ w1
  obtain⟨g,rfl⟩:∃g,f=g+1:=⟨f-1,by omega⟩
  refine cN (l:=[(154,ef)]) (ex:=zT) (wr:=zF) (pt:=zF) ⟨lk,aa⟩ [.s 2,.b 1002,.s 6,.s 7,.b 1014] (fun y:Nat×List Pt=>[(.s 8,.s (.xs 1021 5 0 y.2.length)),(.s 9,.int y.1),(.b 1021,.rs ae y.2)]) (fun y=>y.1≤l.length∧y.2.length=4*y.1∧fx g' lv (l.drop y.1) y.2=fx g' lv l []) (fun y=>l.length-y.1) (0,[]) [] ⟨ZA7 _,rfl,rfl⟩ dM ?_
  rintro⟨i,acc⟩ ⟨(hi:i≤l.length),(abV:acc.length=4*i),(hs:fx g' lv (l.drop i) acc=fx g' lv l [])⟩
  have cm:decide ((i:Int)<(l.length:Int))=true→i<l.length:=fun h=>by have:=aJ h;omega
  have alB:=TO.2.1 (by omega)
  have hlen:=(iG g' (nth ae l i) lv).1
  have cO:i<l.length→l.drop i=nth ae l i::l.drop (i+1):=fun h=>bW (ek:=ae) h
  refine⟨fun w1=>⟨[.s 2,.b 1002],Sq29,rfl,Sq6,Sq30,rfl,Sq9,Sq31,rfl,[.s 30,.s 31],Sq32,rfl,⟨?_,?_⟩,[.s 32,.b 1014],Sq33,rfl,?_,Sq7,Sq34,rfl,[.s 29,.s 33,.s 34,.b 360000],[.s 35,.b 360000],rfl,⟨⟨tv9,tv6,tv2⟩,?_⟩,?_,fun x2 w3=>⟨Sq35,Sq28,rfl,Sq28,Sq36,rfl,Sq28,Sq37,rfl,Sq36,Sq10,rfl,Sq37,Sq11,rfl,fun w4=>⟨aa,?_⟩,fun w5=>⟨⟨⟨?_,?_⟩,?_,?_⟩,⟨?_,?_⟩,?_⟩⟩⟩,fun w6=>⟨⟨?_,?_⟩,?_⟩⟩
  all_goals first|refine aw ?_|refine ax ?_|exact a8|(dsimp only [ef,fF];omega)|exact a7|exact dF|(show acc.length+(bg g' (nth ae l i) lv).1.length≤1048576;omega)|skip
  ·have e:fx g' lv l []=none:=by rw [←hs,cO (cm w1),NZ (s:=g') (lv:=lv) (p:=nth ae l i) w4]
   refine⟨[1040],[],_,_,_,rfl,az,(),aa,?_,?_,rfl⟩
   ·(show _=lD g' A');unfold lD;first|(rw [←hr,H5 oU e];rfl)|rfl
   ·(show _=nR g' A');unfold nR;first|(rw [←hr,H5 oU e];rfl)|rfl
  ·refine⟨(i+1,acc++(bg g' (nth ae l i) lv).1),[(1021,1043)],?_,?_,?_⟩
   rotate_right
   ·exact bV
   ·exact⟨cm w1,by show List.length (_++_)=_;rw [ZA0];show acc.length+_=4*(i+1);rw [(iG g' (nth ae l i) lv).2 (cL w5)];omega,by rw [←hs,cO (cm w1),NY (s:=g') (lv:=lv) (p:=nth ae l i) w5]⟩
   ·show l.length-(i+1)<l.length-i;have:=cm w1;omega
  ·have FL:¬i<l.length:=by have:=aA (p:=(i:Int)<(l.length:Int)) w6;omega
   have e:fx g' lv l []=some acc:=by rw [←hs,ZB3 (by omega)];rfl
   have hl2:=r3 e
   refine⟨(lv-1,acc,g),[(1014,1021)],?_,?_,?_⟩
   rotate_right
   ·exact bV
   ·refine⟨by show lv-1≤2;omega,⟨?_,fun h=>?_,fun h=>?_⟩,by show lv-1<(g:Int);omega,by rw [←hr,CI oU e]⟩
    ·show acc.length≤16;rw [hl2];show 0+4*l.length≤16;omega
    ·have h:1≤lv-1:=h
     have:=TO.2.2 (by omega)
     show acc.length≤4;rw [hl2];show 0+4*l.length≤4;omega
    ·have h:2≤lv-1:=h
     omega
   ·show (lv-1).toNat<lv.toNat;omega
 ·have e:bA g' A'=(l,true):=by
   rw [←hr]
   cases f with
   |zero=>rfl
   |succ g=>exact vt w2
  refine⟨[1014],[],_,_,_,rfl,az,(),aa,?_,?_,rfl⟩
  ·(show _=lD g' A');unfold lD;first|(rw [e];rfl)|rfl
  ·(show _=nR g' A');unfold nR;first|(rw [e];rfl)|rfl
end GL
namespace GL
theorem G5 (s:ByteArray):aZ (bP s).1=true:=by
 have h0:aZ bM=true:=by decide
 unfold bP
 cases decide (s=⟨#[45]⟩) with
 |true=>exact h0
 |false=>
  cases decide (((bm s 46).length:Int)≠5) with
  |true=>exact h0
  |false=>
   show aZ (qW (bm s 46)).1=true
   unfold qW
   cases lg (bm s 46) [] with
   |none=>exact h0
   |some n=>
    show aZ (pU n).1=true
    unfold pU
    cases hc: !(aZ (lH n))||au (lH n) with
    |true=>exact h0
    |false=>
     simp only [ZE1] at hc
     exact cL hc.1
theorem aaf:∀{l:List ByteArray}{out o:List Pt}{sm m:Bool},oh l out sm=some (o,m)→(∀p∈out,aZ p=true)→∀p∈o,aZ p=true
 |[],out,o,sm,m,h,ho=>by cases h;exact ho
 |t::l,out,o,sm,m,h,ho=>by
  unfold oh at h
  cases hb:(bP t).2 with
  |true=>
   rw [hb,cond_true] at h
   refine aaf h fun p hp=>?_
   rcases ZB4.1 hp with hp |hp
   ·exact ho p hp
   ·simp only [ZB8,ZF6,or_false] at hp
    subst hp;exact G5 t
  |false=>rw [hb] at h;cases h
theorem XP (s:ByteArray):∀p∈(bl s).1,aZ p=true:=by
 unfold bl
 cases hf:oh (bm s 44) [] false with
 |none=>intro p hp;cases hp
 |some r=>
  obtain⟨o,sm⟩:=r
  have:=aaf hf (fun p hp=>by cases hp)
  show∀p∈(l8 o sm).1,_
  unfold l8
  cases decide ((o.length:Int)≠4)|| !sm with
  |true=>intro p hp;cases hp
  |false=>exact this
theorem wU (n:Nat):∀p∈cu n,aZ p=true:=by
 intro p hp
 rw [(ZD6.1 hp).2];decide
theorem sP (s:ay) (p:Pt) (lv:Int):∀q∈(bg s p lv).1,aZ q=true:=by
 have h0:∀q∈([]:List Pt),aZ q=true:=fun q h=>by cases h
 unfold bg
 cases au p with
 |true=>exact wU 4
 |false=>
  cases !(aZ p)||(decide (p.2.2.2.2≠lv)||decide (p.2.1>s.cg)) with
  |true=>exact h0
  |false=>
   cases !(bF s p).2 with
   |true=>exact h0
   |false=>
    show∀q∈(oI p (bl (bF s p).1)).1,aZ q=true
    unfold oI
    cases (bl (bF s p).1).1.any (late p) with
    |true=>exact h0
    |false=>exact XP _
theorem QL {s:ay}{lv:Int}:∀{l acc n:List Pt},fx s lv l acc=some n→(∀q∈acc,aZ q=true)→∀q∈n,aZ q=true
 |[],acc,n,h,ha=>by cases h;exact ha
 |p::l,acc,n,h,ha=>by
  unfold fx at h
  cases hb:(bg s p lv).2 with
  |true=>
   rw [hb,cond_true] at h
   refine QL h fun q hq=>?_
   rcases ZB4.1 hq with hq |hq
   ·exact ha q hq
   ·exact sP s p lv q hq
  |false=>rw [hb] at h;cases h
theorem ZJ {s:ay}:∀{f:Nat}{lv:Int}{l:List Pt},(∀q∈l,aZ q=true)→∀q∈(tF s f lv l).1,aZ q=true
 |0,lv,l,h=>h
 |f+1,lv,l,h=>by
  unfold tF
  cases decide (lv>0) with
  |false=>exact h
  |true=>
   simp only [cond_true]
   cases hs:fx s lv l [] with
   |none=>intro q hq;cases hq
   |some n=>exact ZJ (QL hs (fun q hq=>by cases hq))
theorem SZ {s:ay}:∀{f:Nat}{lv:Int}{l:List Pt},lv≤2→ahZ lv l.length→(tF s f lv l).1.length≤16
 |0,lv,l,h,hf=>hf.1
 |f+1,lv,l,h,hf=>by
  unfold tF
  cases hc:decide (lv>0) with
  |false=>exact hf.1
  |true=>
   have h1:lv>0:=aJ hc
   simp only [cond_true]
   cases hs:fx s lv l [] with
   |none=>exact ZA7 _
   |some n=>
    have hl:n.length=0+4*l.length:=r3 hs
    have h4:=hf.2.1 (by omega)
    refine SZ (by omega) ⟨by omega,fun h2=>?_,fun h2=>by omega⟩
    have:=hf.2.2 (by omega)
    omega
structure bf.rd (t:bf):Prop where
 dep:t.depth≤2
 ok:aZ t.root=true
theorem rh {s:ay}{t:bf}(h:t.rd):(bA s t).1.length≤16:=
 SZ h.dep ⟨by show 1≤16;omega,fun _=>by show 1≤4;omega,fun _=>ZB5 _⟩
theorem H9 {s:ay}{t:bf}(h:t.rd):∀q∈(bA s t).1,aZ q=true:=
 ZJ fun q hq=>by
  simp only [ZB8,ZF6,or_false] at hq
  subst hq;exact h.ok
def aB (s:ay) (t:bf):List Pt:=(bA s t).1++cu ((16:Int)-(bA s t).1.length).toNat
theorem gi {s:ay}{t:bf}(h:t.rd):(aB s t).length=16:=by
 have:=rh (s:=s) h
 rw [aB,ZA0,cu,ZG2];omega
theorem lA {s:ay}{t:bf}(h:t.rd):∀q∈aB s t,aZ q=true:=by
 intro q hq
 rcases ZB4.1 hq with hq |hq
 ·exact H9 h q hq
 ·exact wU _ q hq
theorem oC {l:List Pt}(h:∀q∈l,aZ q=true) (k:Nat):aZ (nth ae l k)=true:=by
 by_cases hk:k<l.length
 ·exact h _ (bR (ek:=ae) hk)
 ·unfold nth;rw [ZD8 (by omega)];decide
theorem nT {p:Pt}(h:aZ p=true):0≤p.1∧p.1<64:=by
 have:=pT h;omega
def fU (S:ay) (t:bf):Prop:=S.rd∧t.rd
def xT (S:ay) (t:bf):AV:=.s (.xs 0 5 0 (aB S t).length)
def B7 (S:ay) (t:bf):List AV:=[.rs ae (aB S t)]
def ey:cn where
 A:=[.a xv,.a [.int,.int,.int,.int,.int,.int,.int]]
 B:=[]
 pre:=fun x b=>fU (x.1) (x.2)
 r:=fun x b _=>xT (x.1) (x.2)
 o:=fun x b _=>B7 (x.1) (x.2)
 nf:=1
theorem lX:Has Tryz.prog 70 ey:=by
 refine Has.fm zT zF zF (l:=[(106,kQ),(107,j3)]) ⟨yE,wP,aa⟩ Tryz.func70 ?_
 rintro⟨⟨(aj:List ByteArray),(ak:List Int),(an:List Int),(ao:Int),(ah:List Pt),(aq:Int),(ai:List Pt),(ar:Bool)⟩,⟨(t1:Int),(t2:Int),(t3:Int),(t4:Int),(t5:Int),(t6:Int),(t7:Int)⟩⟩ _ (hp:fU (aj,ak,an,ao,ah,aq,ai,ar) (t1,t2,t3,t4,t5,t6,t7))
 show vc _ _ _ _ (entry [.a [.vz ab aj,.vz ag ak,.vz ag an,.int ao,.vz ae ah,.int aq,.vz ae ai,.q ar],.a [.int t1,.int t2,.int t3,.int t4,.int t5,.int t6,.int t7]] []) _
 obtain⟨dF,sS⟩:=hp
 have dF:ay.rd (aj,ak,an,ao,ah,aq,ai,ar):=dF
 have sS:bf.rd (t1,t2,t3,t4,t5,t6,t7):=sS
 have hl:=rh (s:=(aj,ak,an,ao,ah,aq,ai,ar)) sS
 refine⟨⟨⟨tv9,tv8,aa⟩,?_,?_⟩,fun x1 w2=>⟨aa,⟨⟨?_,?_⟩,?_,?_⟩,⟨?_,?_⟩,⟨tv2,?_,?_⟩,fun x3 w4=>⟨⟨⟨?_,?_⟩,?_,?_⟩,?_⟩⟩⟩
 all_goals first|refine aw ?_|refine ax ?_|exact a8|(dsimp only [kQ,lM,j3,kZ];omega)|exact a7|exact dF|exact sS.dep|(show 0+(bA (aj,ak,an,ao,ah,aq,ai,ar) (t1,t2,t3,t4,t5,t6,t7)).1.length≤1048576;omega)|(show ((bA (aj,ak,an,ao,ah,aq,ai,ar) (t1,t2,t3,t4,t5,t6,t7)).1).length+(cu ((16:Int)-((bA (aj,ak,an,ao,ah,aq,ai,ar) (t1,t2,t3,t4,t5,t6,t7)).1.length:Int)).toNat).length≤1048576;rw [cu,ZG2];omega)|skip
 refine⟨[1020],[],_,_,_,rfl,az,(),aa,?_,?_,rfl⟩
 ·(show _=xT (aj,ak,an,ao,ah,aq,ai,ar) (t1,t2,t3,t4,t5,t6,t7));unfold xT;first|(rw [aB,ZA0];rfl)|(rw [aB];rfl)|rfl
 ·(show _=B7 (aj,ak,an,ao,ah,aq,ai,ar) (t1,t2,t3,t4,t5,t6,t7));unfold B7;first|(rw [aB,ZA0];rfl)|(rw [aB];rfl)|rfl
def getM (s:ay) (t:bf) (k:Nat):ByteArray:=(bF s (nth ae (aB s t) k)).1
def B3 (S:ay) (t:bf) (k:Int):Prop:=S.rd∧t.rd∧0≤k∧k<16
def BD (S:ay) (t:bf) (k:Int):AV:=.str (getM S t k.toNat)
def ac3 (S:ay) (t:bf) (k:Int):List AV:=[]
def PX:cn where
 A:=[.a xv,.a [.int,.int,.int,.int,.int,.int,.int],.s .int]
 B:=[]
 pre:=fun x b=>B3 (x.1) (x.2.1) (x.2.2)
 r:=fun x b _=>BD (x.1) (x.2.1) (x.2.2)
 o:=fun x b _=>ac3 (x.1) (x.2.1) (x.2.2)
theorem afY:Has Tryz.prog 36 PX:=by
 refine Has.fm zT zF zF (l:=[(70,ey),(71,eA)]) ⟨lX,lZ,aa⟩ Tryz.func36 ?_
 rintro⟨⟨(aj:List ByteArray),(ak:List Int),(an:List Int),(ao:Int),(ah:List Pt),(aq:Int),(ai:List Pt),(ar:Bool)⟩,⟨(t1:Int),(t2:Int),(t3:Int),(t4:Int),(t5:Int),(t6:Int),(t7:Int)⟩,(k:Int)⟩ _ (hp:B3 (aj,ak,an,ao,ah,aq,ai,ar) (t1,t2,t3,t4,t5,t6,t7) k)
 show vc _ _ _ _ (entry [.a [.vz ab aj,.vz ag ak,.vz ag an,.int ao,.vz ae ah,.int aq,.vz ae ai,.q ar],.a [.int t1,.int t2,.int t3,.int t4,.int t5,.int t6,.int t7],.int k] []) _
 let g':=(aj,ak,an,ao,ah,aq,ai,ar)
 let A':=(t1,t2,t3,t4,t5,t6,t7)
 obtain⟨dF,sS,h1,h2⟩:=hp
 have dF:ay.rd g':=dF
 have sS:bf.rd A':=sS
 have hl:=gi (s:=g') sS
 have ha:=nT (oC (lA (s:=g') sS) k.toNat)
 have hr:aj.length=64:=dF.len
 refine⟨⟨⟨tv9,tv8,aa⟩,?_,?_⟩,fun x1 w2=>⟨[.s 3,.b 1003],Sq14,rfl,Sq7,Sq15,rfl,Sq2,Sq16,rfl,[.s 15,.s 16],Sq17,rfl,⟨?_,?_⟩,[.s 17,.b 130000],Sq18,rfl,?_,[.s 14,.s 18],Sq19,rfl,⟨⟨tv9,tv6,aa⟩,fun x3 w4=>?_,?_,?_⟩,?_,fun x5 w6=>⟨Sq19,Sq13,rfl,Sq13,Sq20,rfl,Sq13,Sq21,rfl,Sq20,Sq8,rfl,Sq21,Sq9,rfl,?_⟩⟩⟩
 all_goals first|refine aw ?_|refine ax ?_|exact a8|(dsimp only [ey,fU,eA,fV];omega)|exact a7|exact dF|exact sS|exact dF.sz _ (by assumption)|exact ha.1|(show _<(aj.length:Int);rw [hr];exact ha.2)|(show k<((aB g' A').length:Int);omega)|(show k.toNat<(aB g' A').length;omega)|skip
 refine⟨[],[],_,_,_,rfl,az,(),aa,?_,?_,rfl⟩
 ·(show _=BD g' A' k);unfold BD;first|rfl
 ·rfl
def sW (s:ay) (l:List Pt):List ByteArray:=l.map fun p=>(bF s p).1
def bo (s:ay) (t:bf):List ByteArray:=sW s ((aB s t).take t.many.toNat)
theorem GB {l:List Pt}{i:Nat}(h:i<l.length):l.take (i+1)=l.take i++[nth ae l i]:=by
 have h1:=oD (ek:=ae) h
 rw [List.take_add_one,h1];rfl
def eF (S:ay) (t:bf):Prop:=S.rd∧t.rd∧0≤t.many∧t.many≤16
def uX (S:ay) (t:bf):AV:=.s (.xs 0 1 0 (bo S t).length)
def yn (S:ay) (t:bf):List AV:=[.rs ab (bo S t)]
def dc:cn where
 A:=[.a xv,.a [.int,.int,.int,.int,.int,.int,.int]]
 B:=[]
 pre:=fun x b=>eF (x.1) (x.2)
 r:=fun x b _=>uX (x.1) (x.2)
 o:=fun x b _=>yn (x.1) (x.2)
 nf:=1
theorem iR:Has Tryz.prog 50 dc:=by
 refine Has.fm zT zF zF (l:=[(70,ey),(71,eA)]) ⟨lX,lZ,aa⟩ Tryz.func50 ?_
 rintro⟨⟨(aj:List ByteArray),(ak:List Int),(an:List Int),(ao:Int),(ah:List Pt),(aq:Int),(ai:List Pt),(ar:Bool)⟩,⟨(t1:Int),(t2:Int),(t3:Int),(t4:Int),(t5:Int),(t6:Int),(t7:Int)⟩⟩ _ (hp:eF (aj,ak,an,ao,ah,aq,ai,ar) (t1,t2,t3,t4,t5,t6,t7))
 show vc _ _ _ _ (entry [.a [.vz ab aj,.vz ag ak,.vz ag an,.int ao,.vz ae ah,.int aq,.vz ae ai,.q ar],.a [.int t1,.int t2,.int t3,.int t4,.int t5,.int t6,.int t7]] []) _
 let g':=(aj,ak,an,ao,ah,aq,ai,ar)
 let A':=(t1,t2,t3,t4,t5,t6,t7)
 obtain⟨dF,sS,(h0:0≤t7),(h1:t7≤16)⟩:=hp
 have dF:ay.rd g':=dF
 have sS:bf.rd A':=sS
 have hl:=gi (s:=g') sS
 have hr:aj.length=64:=dF.len
 refine⟨aa,⟨⟨tv9,tv8,aa⟩,?_,?_⟩,fun x1 w2=>?_⟩
 all_goals first|refine aw ?_|refine ax ?_|exact a8|(dsimp only [ey,fU,eA,fV];omega)|exact a7|exact dF|exact sS|skip
 refine cN (l:=[(70,ey),(71,eA)]) (ex:=zT) (wr:=zF) (pt:=zF) ⟨lX,lZ,aa⟩ [.s 2,.b 1002,.s 3,.b 1003,.s 6,.b 140000] (fun y:Nat×List ByteArray=>[(.s 5,.s (.xs 1010 1 0 y.2.length)),(.s 7,.int y.1),(.b 1010,.rs ab y.2)]) (fun y=>(y.1:Int)≤t7∧y.2.length=y.1∧y.2=sW g' ((aB g' A').take y.1)) (fun y=>t7.toNat-y.1) (0,[]) [] ⟨h0,rfl,rfl⟩ dM ?_
 rintro⟨i,out⟩ ⟨(hi:(i:Int)≤t7),(hlo:out.length=i),(he:out=sW g' ((aB g' A').take i))⟩
 have ha:=nT (oC (lA (s:=g') sS) i)
 have bU:decide ((i:Int)<t7)=true→i<(aB g' A').length:=fun h=>by have:=aJ h;omega
 refine⟨fun w1=>⟨[.s 2,.b 1002],Sq21,rfl,Sq6,Sq22,rfl,Sq7,Sq23,rfl,[.s 22,.s 23],Sq24,rfl,⟨?_,?_⟩,[.s 24,.b 140000],Sq25,rfl,?_,[.s 21,.s 25],Sq26,rfl,⟨⟨tv9,tv6,aa⟩,fun x2 w3=>?_,?_,?_⟩,?_,fun x4 w5=>⟨Sq26,Sq20,rfl,Sq20,Sq27,rfl,Sq20,Sq28,rfl,Sq27,Sq8,rfl,Sq28,Sq9,rfl,aa,⟨⟨?_,?_⟩,?_,?_⟩,⟨?_,?_⟩,?_⟩⟩,fun w6=>?_⟩
 all_goals first|refine aw ?_|refine ax ?_|exact a8|(dsimp only [ey,fU,eA,fV];omega)|exact a7|exact dF|exact sS|exact dF.sz _ (by assumption)|exact ha.1|(show _<(aj.length:Int);rw [hr];exact ha.2)|exact bU (by assumption)|(show (i:Int)<((aB g' A').length:Int);have:=bU w1;omega)|skip
 ·have e:sW g' ((aB g' A').take (i+1))=out++[(bF g' (nth ae (aB g' A') i)).1]:=by
   rw [GB (bU w1),sW,List.map_append,←sW,←he];rfl
  refine⟨(i+1,out++[(bF g' (nth ae (aB g' A') i)).1]),[(1010,1032)],?_,?_,?_⟩
  rotate_right
  ·exact bV
  ·exact⟨by have:=aJ w1;show ((i+1:Nat):Int)≤t7;omega,by show List.length (_++_)=_;rw [ZA0,hlo];rfl,e.symm⟩
  ·show t7.toNat-(i+1)<t7.toNat-i;have:=aJ (p:=(i:Int)<t7) w1;omega
 ·have hi2:i=t7.toNat:=by have:=aA (p:=(i:Int)<t7) (by assumption);omega
  have e:bo g' A'=out:=by rw [bo,he,hi2]
  refine⟨[1010],[],_,_,_,rfl,az,(),aa,?_,?_,rfl⟩
  ·(show _=uX g' A');unfold uX;first|(rw [e];rfl)|rfl
  ·(show _=yn g' A');unfold yn;first|(rw [e];rfl)|rfl
end GL
namespace GL
def nV (l:List Pt):Bool:= !(l.any fun p=> !(au p))
def tg (l:List Pt):Prop:=l.length≤1000000
def pF (l:List Pt):AV:=.q (nV l)
def aa7 (l:List Pt):List AV:=[]
def JX:cn where
 A:=[.s (.vz ae)]
 B:=[]
 pre:=fun x b=>tg x
 r:=fun x b _=>pF x
 o:=fun x b _=>aa7 x
theorem adS:Has Tryz.prog 190 JX:=by
 refine Has.fm zT zF zF (l:=[(81,cx)]) ⟨cz,aa⟩ Tryz.func190 ?_
 rintro (l:List Pt) _ (hp:tg l)
 show vc _ _ _ _ (entry [.s (.vz ae l)] []) _
 unfold tg at hp
 refine cN (l:=[(81,cx)]) (ex:=zT) (wr:=zF) (pt:=zF) ⟨cz,aa⟩ [.s 0] (fun i:Nat=>[(.s 3,.int i)]) (fun i=>i≤l.length∧(l.drop i).any (fun p=> !(au p))=l.any (fun p=> !(au p))) (fun i=>l.length-i) 0 [] ⟨ZA7 _,rfl⟩ dM ?_
 rintro i ⟨hi,hr⟩
 have cm:decide ((i:Int)<(l.length:Int))=true→i<l.length:=fun h=>by have:=aJ h;omega
 have ob:decide ((i:Int)<(l.length:Int))=false→¬i<l.length:=fun h=>by have:=aA h;omega
 refine⟨fun w1=>⟨⟨?_,?_⟩,⟨⟨tv6,aa⟩,aa⟩,fun x2 w3=>⟨fun w4=>?_,fun w5=>⟨⟨?_,?_⟩,?_⟩⟩⟩,fun w6=>?_⟩
 all_goals first|refine aw ?_|refine ax ?_|exact a8|exact a7|skip
 ·have e:nV l=false:=by unfold nV;rw [YB (cm w1) hr w4];rfl
  refine⟨[],[],_,_,_,rfl,az,(),aa,?_,?_,rfl⟩
  ·(show _=pF l);unfold pF;first|(rw [e];rfl)|rfl
  ·rfl
 ·refine⟨(i+1),[],?_,?_,?_⟩
  rotate_right
  ·exact bV
  ·exact⟨cm w1,afu (cm w1) hr w5⟩
  ·show l.length-(i+1)<l.length-i;have:=cm w1;omega
 ·have e:nV l=true:=by unfold nV;rw [YC (ob w6) hr];rfl
  refine⟨[],[],_,_,_,rfl,az,(),aa,?_,?_,rfl⟩
  ·(show _=pF l);unfold pF;first|(rw [e];rfl)|rfl
  ·rfl
def ri (s:ay) (many i:Int) (p:Pt):Bool:= !(bF s p).2||(decide (p.2.2.2.2≠0)||(decide (p.2.1>s.cg)||decide (i≥many)))
def j9 (s:ay) (many:Int):Int→List Pt→Bool
 |_,[]=>true
 |i,p::l=>bif au p then j9 s many (i+1) l else bif ri s many i p then false else j9 s many (i+1) l
def lV (t:bf):Bool:= !(ik t.many 0 16)||(decide (t.depth≠bj t.many)|| !(aZ t.root))
def qJ (s:ay) (t:bf):Bool:=bif lV t then false else bif !(bA s t).2 then false else j9 s t.many 0 (bA s t).1
theorem DV {s:ay}{t:bf}(h:lV t=true):qJ s t=false:=by unfold qJ;rw [h];rfl
theorem ZA {s:ay}{t:bf}(h:lV t=false) (h2:(!(bA s t).2)=true):qJ s t=false:=by unfold qJ;rw [h,h2];rfl
theorem Y9 {s:ay}{t:bf}(h:lV t=false) (h2:(!(bA s t).2)=false):qJ s t=j9 s t.many 0 (bA s t).1:=by unfold qJ;rw [h,h2];rfl
theorem ZD {t:bf}(h:(!(ik t.many 0 16))=true):lV t=true:=by unfold lV;rw [h];rfl
theorem ZC {t:bf}(h:decide (t.depth≠bj t.many)=true):lV t=true:=by unfold lV;rw [h,Bool.true_or,ZC4]
theorem ZB {t:bf}(h:(!(aZ t.root))=true):lV t=true:=by unfold lV;rw [h,ZC4,ZC4]
theorem zA {t:bf}(h1:(!(ik t.many 0 16))=false) (h2:decide (t.depth≠bj t.many)=false) (h3:(!(aZ t.root))=false):lV t=false:=by unfold lV;rw [h1,h2,h3];rfl
theorem HQ {t:bf}(h:lV t=false):t.rd:=by
 unfold lV at h
 simp only [ZE1,decide_eq_false_iff_not,ZE9] at h
 obtain⟨h1,h2,h3⟩:=h
 exact⟨by rw [h2];exact (pn _).2,cL h3⟩
theorem FD {s:ay}{many i:Int}{p:Pt}{l:List Pt}(h:au p=true):j9 s many i (p::l)=j9 s many (i+1) l:=by rw [j9,h];rfl
theorem wJ {s:ay}{many i:Int}{p:Pt}{l:List Pt}(h:au p=false) (hb:ri s many i p=true):j9 s many i (p::l)=false:=by rw [j9,h,hb];rfl
theorem O1 {s:ay}{many i:Int}{p:Pt}{l:List Pt}(h:au p=false) (hb:ri s many i p=false):j9 s many i (p::l)=j9 s many (i+1) l:=by rw [j9,h,hb];rfl
theorem ZO {s:ay}{many i:Int}{p:Pt}(h:(!(bF s p).2)=true):ri s many i p=true:=by unfold ri;rw [h];rfl
theorem ZN {s:ay}{many i:Int}{p:Pt}(h:decide (p.2.2.2.2≠0)=true):ri s many i p=true:=by unfold ri;rw [h,Bool.true_or,ZC4]
theorem ZM {s:ay}{many i:Int}{p:Pt}(h:decide (p.2.1>s.cg)=true):ri s many i p=true:=by unfold ri;rw [h,Bool.true_or,ZC4,ZC4]
theorem ZL {s:ay}{many i:Int}{p:Pt}(h:decide (i≥many)=true):ri s many i p=true:=by unfold ri;rw [h,ZC4,ZC4,ZC4]
theorem O2 {s:ay}{many i:Int}{p:Pt}(h1:(!(bF s p).2)=false) (h2:decide (p.2.2.2.2≠0)=false) (h3:decide (p.2.1>s.cg)=false) (h4:decide (i≥many)=false):ri s many i p=false:=by unfold ri;rw [h1,h2,h3,h4];rfl
def zr (S:ay) (t:bf):Prop:=S.rd
def en (S:ay) (t:bf):AV:=.q (qJ S t)
def afE (S:ay) (t:bf):List AV:=[]
def JW:cn where
 A:=[.a xv,.a [.int,.int,.int,.int,.int,.int,.int]]
 B:=[]
 pre:=fun x b=>zr (x.1) (x.2)
 r:=fun x b _=>en (x.1) (x.2)
 o:=fun x b _=>afE (x.1) (x.2)
theorem adR:Has Tryz.prog 69 JW:=by
 refine Has.fm zT zF zF (l:=[(35,hZ),(105,dD),(80,cX),(106,kQ),(81,cx),(71,eA)]) ⟨iA,jU,iB,yE,cz,lZ,aa⟩ Tryz.func69 ?_
 rintro⟨⟨(aj:List ByteArray),(ak:List Int),(an:List Int),(ao:Int),(ah:List Pt),(aq:Int),(ai:List Pt),(ar:Bool)⟩,⟨(t1:Int),(t2:Int),(t3:Int),(t4:Int),(t5:Int),(t6:Int),(t7:Int)⟩⟩ _ (hp:zr (aj,ak,an,ao,ah,aq,ai,ar) (t1,t2,t3,t4,t5,t6,t7))
 show vc _ _ _ _ (entry [.a [.vz ab aj,.vz ag ak,.vz ag an,.int ao,.vz ae ah,.int aq,.vz ae ai,.q ar],.a [.int t1,.int t2,.int t3,.int t4,.int t5,.int t6,.int t7]] []) _
 let g':=(aj,ak,an,ao,ah,aq,ai,ar)
 let A':=(t1,t2,t3,t4,t5,t6,t7)
 have dF:ay.rd g':=hp
 have akU:aj.length=64:=dF.len
 refine⟨Sq3,Sq11,rfl,[.s 11,.b 1003],Sq12,rfl,Sq12,Sq13,rfl,⟨tv4,aa⟩,?_,fun x1 w2=>⟨Sq13,Sq14,rfl,Sq14,Sq15,rfl,aa,fun w3=>⟨Sq15,Sq16,rfl,Sq15,Sq17,rfl,Sq15,Sq18,rfl,Sq15,Sq19,rfl,Sq15,Sq20,rfl,Sq15,Sq21,rfl,[.s 15,.s 21],Sq22,rfl,Sq22,Sq23,rfl,Sq23,Sq24,rfl,Sq23,Sq25,rfl,Sq23,Sq26,rfl,Sq23,Sq27,rfl,[.s 23,.s 27],Sq28,rfl,?_⟩,fun w4=>⟨[.s 15,.s 3],Sq16,rfl,[.s 15,.s 16,.b 1003],Sq17,rfl,[.s 15,.s 3],Sq18,rfl,[.s 15,.s 18,.b 1003],Sq19,rfl,[.s 15,.s 19],Sq20,rfl,⟨tv2,aa⟩,?_,fun x5 w6=>⟨[.s 15,.s 17,.s 20],Sq21,rfl,[.s 15,.s 21],Sq22,rfl,Sq22,Sq23,rfl,aa,fun w7=>⟨Sq23,Sq24,rfl,Sq23,Sq25,rfl,Sq23,Sq26,rfl,Sq23,Sq27,rfl,[.s 23,.s 27],Sq28,rfl,?_⟩,fun w8=>⟨[.s 23,.s 3],Sq24,rfl,[.s 23,.s 24,.b 1003],Sq25,rfl,[.s 23,.s 25],Sq26,rfl,⟨⟨tv6,aa⟩,aa⟩,?_,fun x9 dy=>⟨[.s 23,.s 26],Sq27,rfl,[.s 23,.s 27],Sq28,rfl,fun kA=>?_,fun dJ=>⟨⟨⟨tv9,tv8,aa⟩,?_,?_⟩,fun rW gO=>⟨fun qK=>?_,fun kg=>?_⟩⟩⟩⟩⟩⟩⟩⟩
 all_goals first|refine aw ?_|refine ax ?_|exact a8|(dsimp only [dD,fe,cX,dZ,kQ,lM,eA,fV];omega)|exact a7|exact dF|exact (HQ (t:=A') (zA w4 w8 dJ)).dep|skip
 ·refine⟨[],[],_,_,_,rfl,az,(),aa,?_,?_,rfl⟩
  ·(show _=en g' A');unfold en;first|(rw [DV (s:=g') (t:=A') (ZD w3)];rfl)|rfl
  ·rfl
 ·refine⟨[],[],_,_,_,rfl,az,(),aa,?_,?_,rfl⟩
  ·(show _=en g' A');unfold en;first|(rw [DV (s:=g') (t:=A') (ZC w7)];rfl)|rfl
  ·rfl
 ·refine⟨[],[],_,_,_,rfl,az,(),aa,?_,?_,rfl⟩
  ·(show _=en g' A');unfold en;first|(rw [DV (s:=g') (t:=A') (ZB kA)];rfl)|rfl
  ·rfl
 ·refine⟨[],[],_,_,_,rfl,az,(),aa,?_,?_,rfl⟩
  ·(show _=en g' A');unfold en;first|(rw [ZA (s:=g') (t:=A') (zA w4 w8 dJ) qK];rfl)|rfl
  ·rfl
 ·have hB:=zA (t:=A') w4 w8 dJ
  have hM:=Y9 (s:=g') (t:=A') hB kg
  have sS:bf.rd A':=HQ hB
  have hl:=rh (s:=g') sS
  have cG:=H9 (s:=g') sS
  refine cN (l:=[(35,hZ),(105,dD),(80,cX),(106,kQ),(81,cx),(71,eA)]) (ex:=zT) (wr:=zF) (pt:=zF) ⟨iA,jU,iB,yE,cz,lZ,aa⟩ [.s 2,.b 1002,.s 3,.b 1003,.s 5,.b 330000] (fun i:Nat=>[(.s 7,.int i)]) (fun i=>i≤(bA g' A').1.length∧j9 g' t7 i ((bA g' A').1.drop i)=j9 g' t7 0 (bA g' A').1) (fun i=>(bA g' A').1.length-i) 0 [] ⟨ZA7 _,rfl⟩ dM ?_
  rintro i ⟨hi,hr⟩
  have cm:decide ((i:Int)<((bA g' A').1.length:Int))=true→i<(bA g' A').1.length:=fun h=>by have:=aJ h;omega
  have cO:i<(bA g' A').1.length→(bA g' A').1.drop i=nth ae (bA g' A').1 i::(bA g' A').1.drop (i+1):=fun h=>bW (ek:=ae) h
  have ha:=nT (oC cG i)
  refine⟨fun w1=>⟨⟨?_,?_⟩,?_,⟨⟨tv6,aa⟩,aa⟩,fun x2 w3=>⟨fun w4=>⟨⟨?_,?_⟩,?_⟩,fun w5=>⟨⟨⟨tv9,tv6,aa⟩,fun x6 w7=>?_,?_,?_⟩,fun x8 w9=>⟨aa,fun dy=>?_,fun kA=>⟨aa,fun dJ=>?_,fun iU=>⟨aa,fun gO=>?_,fun qK=>⟨fun kg=>?_,fun xh=>⟨⟨?_,?_⟩,?_⟩⟩⟩⟩⟩⟩⟩⟩,fun rS=>?_⟩
  all_goals first|refine aw ?_|refine ax ?_|exact a8|(dsimp only [dD,fe,cX,dZ,kQ,lM,eA,fV];omega)|exact a7|exact dF|exact cm w1|exact aJ w1|exact dF.sz _ (by assumption)|exact ha.1|(show _<(aj.length:Int);rw [akU];exact ha.2)|skip
  ·refine⟨(i+1),[],?_,?_,?_⟩
   rotate_right
   ·exact bV
   ·exact⟨cm w1,by rw [←hr,cO (cm w1),FD (s:=g') (p:=(nth ae (bA g' A').1 i)) w4];rfl⟩
   ·show (bA g' A').1.length-(i+1)<(bA g' A').1.length-i;have:=cm w1;omega
  ·refine⟨[],[],_,_,_,rfl,az,(),aa,?_,?_,rfl⟩
   ·(show _=en g' A');unfold en;first|(rw [hM,←hr,cO (cm w1),wJ (s:=g') (p:=(nth ae (bA g' A').1 i)) w5 (ZO (s:=g') (p:=(nth ae (bA g' A').1 i)) dy)];rfl)|rfl
   ·rfl
  ·refine⟨[],[],_,_,_,rfl,az,(),aa,?_,?_,rfl⟩
   ·(show _=en g' A');unfold en;first|(rw [hM,←hr,cO (cm w1),wJ (s:=g') (p:=(nth ae (bA g' A').1 i)) w5 (ZN (s:=g') (p:=(nth ae (bA g' A').1 i)) dJ)];rfl)|rfl
   ·rfl
  ·refine⟨[],[],_,_,_,rfl,az,(),aa,?_,?_,rfl⟩
   ·(show _=en g' A');unfold en;first|(rw [hM,←hr,cO (cm w1),wJ (s:=g') (p:=(nth ae (bA g' A').1 i)) w5 (ZM (s:=g') (p:=(nth ae (bA g' A').1 i)) gO)];rfl)|rfl
   ·rfl
  ·refine⟨[],[],_,_,_,rfl,az,(),aa,?_,?_,rfl⟩
   ·(show _=en g' A');unfold en;first|(rw [hM,←hr,cO (cm w1),wJ (s:=g') (p:=(nth ae (bA g' A').1 i)) w5 (ZL (s:=g') (p:=(nth ae (bA g' A').1 i)) kg)];rfl)|rfl
   ·rfl
  ·refine⟨(i+1),[],?_,?_,?_⟩
   rotate_right
   ·exact bV
   ·exact⟨cm w1,by rw [←hr,cO (cm w1),O1 (s:=g') (p:=(nth ae (bA g' A').1 i)) w5 (O2 (s:=g') (p:=(nth ae (bA g' A').1 i)) kA iU qK xh)];rfl⟩
   ·show (bA g' A').1.length-(i+1)<(bA g' A').1.length-i;have:=cm w1;omega
  ·have FL:¬i<(bA g' A').1.length:=by have:=aA (p:=(i:Int)<((bA g' A').1.length:Int)) rS;omega
   have e:j9 g' t7 0 (bA g' A').1=true:=by rw [←hr,ZB3 (by omega)];rfl
   refine⟨[],[],_,_,_,rfl,az,(),aa,?_,?_,rfl⟩
   ·(show _=en g' A');unfold en;first|(rw [hM,e];rfl)|rfl
   ·rfl
end GL
end Go.Proofs.YtnkbdhldiinfdaaGreatDoor
