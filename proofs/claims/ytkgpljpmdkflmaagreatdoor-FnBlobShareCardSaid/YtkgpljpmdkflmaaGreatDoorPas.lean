/- A drawn law returns true for every code (its row lists package variables, tied by the card): part 19. -/
import Derived.Test.YtkgpljpmdkflmaaGreatDoorPar
set_option maxHeartbeats 20000000
set_option maxRecDepth 100000
set_option linter.all false
namespace Go.Proofs.YtkgpljpmdkflmaaGreatDoor
namespace GL
def fy (s:ay) (lv:Int):List Pt→List Pt→Option (List Pt)
 |[],acc=>some acc
 |p::l,acc=>bif (bg s p lv).2 then fy s lv l (acc++(bg s p lv).1) else none
def tH (s:ay):Nat→Int→List Pt→List Pt×Bool
 |0,_,l=>(l,true)
 |f+1,lv,l=>bif decide (lv>0) then (match fy s lv l [] with
  |none=>([],false)
  |some n=>tH s f (lv-1) n) else (l,true)
abbrev bf.root (t:bf):Pt:=(t.1,t.2.1,t.2.2.1,t.2.2.2.1,t.2.2.2.2.1)
abbrev bf.depth (t:bf):Int:=t.2.2.2.2.2.1
abbrev bf.many (t:bf):Int:=t.2.2.2.2.2.2
def bB (s:ay) (t:bf):List Pt×Bool:=tH s 3 t.depth [t.root]
theorem H4 {s:ay}{f:Nat}{lv:Int}{l:List Pt}(h:decide (lv>0)=true) (h2:fy s lv l []=none):tH s (f+1) lv l=([],false):=by rw [tH,h,h2];rfl
theorem CI {s:ay}{f:Nat}{lv:Int}{l n:List Pt}(h:decide (lv>0)=true) (h2:fy s lv l []=some n):tH s (f+1) lv l=tH s f (lv-1) n:=by rw [tH,h,h2];rfl
theorem vy {s:ay}{f:Nat}{lv:Int}{l:List Pt}(h:decide (lv>0)=false):tH s (f+1) lv l=(l,true):=by rw [tH,h];rfl
theorem NX {s:ay}{lv:Int}{p:Pt}{l acc:List Pt}(h:(!(bg s p lv).2)=true):fy s lv (p::l) acc=none:=by rw [fy,xq h];rfl
theorem NW {s:ay}{lv:Int}{p:Pt}{l acc:List Pt}(h:(!(bg s p lv).2)=false):fy s lv (p::l) acc=fy s lv l (acc++(bg s p lv).1):=by rw [fy,cM h];rfl
theorem iH (s:ay) (p:Pt) (lv:Int):(bg s p lv).1.length≤4∧((bg s p lv).2=true→(bg s p lv).1.length=4):=by
 have h0:([]:List Pt).length≤4∧(false=true→([]:List Pt).length=4):=⟨ZA7 _,fun h=>by cases h⟩
 unfold bg
 cases au p with
 |true=>exact⟨ZB5 _,fun _=>rfl⟩
 |false=>
  cases !(aZ p)||(decide (p.2.2.2.2≠lv)||decide (p.2.1>s.cj)) with
  |true=>exact h0
  |false=>
   cases !(bG s p).2 with
   |true=>exact h0
   |false=>
    show (oK p (bm (bG s p).1)).1.length≤4∧((oK p (bm (bG s p).1)).2=true→(oK p (bm (bG s p).1)).1.length=4)
    unfold oK
    cases (bm (bG s p).1).1.any (late p) with
    |true=>exact h0
    |false=>exact vO _
theorem r6 {s:ay}{lv:Int}:∀{l acc n:List Pt},fy s lv l acc=some n→n.length=acc.length+4*l.length
 |[],acc,n,h=>by cases h;rfl
 |p::l,acc,n,h=>by
  unfold fy at h
  cases hb:(bg s p lv).2 with
  |true=>
   rw [hb,cond_true] at h
   rw [r6 h,ZA0,(iH s p lv).2 hb,ZA1];omega
  |false=>rw [hb] at h;cases h
def ahR (lv:Int) (n:Nat):Prop:=n≤16∧(1≤lv→n≤4)∧(2≤lv→n≤1)
def lP (S:ay) (t:bf):Prop:=S.rd∧t.depth≤2
def lG (S:ay) (t:bf):AV:=.t [.s (.xs 0 5 0 (bB S t).1.length),.s (.q (bB S t).2)]
def nU (S:ay) (t:bf):List AV:=[.rs ae (bB S t).1]
def kS:ct where
 A:=[.a xy,.a [.int,.int,.int,.int,.int,.int,.int]]
 B:=[]
 pre:=fun x b=>lP (x.1) (x.2)
 r:=fun x b _=>lG (x.1) (x.2)
 o:=fun x b _=>nU (x.1) (x.2)
 nf:=1
theorem yG:Has Tryz.prog 63 kS:=by
 refine Has.fu zT zF zF (l:=[(109,eg)]) ⟨lr,aa⟩ Tryz.func63 ?_
 rintro⟨⟨(aj:List ByteArray),(ak:List Int),(an:List Int),(ao:Int),(ah:List Pt),(aq:Int),(ai:List Pt),(ar:Bool)⟩,⟨(t1:Int),(t2:Int),(t3:Int),(t4:Int),(t5:Int),(t6:Int),(t7:Int)⟩⟩ _ (hp:lP (aj,ak,an,ao,ah,aq,ai,ar) (t1,t2,t3,t4,t5,t6,t7))
 show vc _ _ _ _ (entry [.a [.vz ab aj,.vz ag ak,.vz ag an,.int ao,.vz ae ah,.int aq,.vz ae ai,.q ar],.a [.int t1,.int t2,.int t3,.int t4,.int t5,.int t6,.int t7]] []) _
 obtain⟨dG,(ala:t6≤2)⟩:=hp
 have dG:ay.rd (aj,ak,an,ao,ah,aq,ai,ar):=dG
 refine⟨aa,?_⟩
 all_goals first|refine aw ?_|refine ax ?_|exact a8|(dsimp only [eg,fG];omega)|exact a7|skip
 refine cO (l:=[(109,eg)]) (ex:=zT) (wr:=zF) (pt:=zF) ⟨lr,trivial⟩ [.s 2,.b 1002] (fun y:Int×List Pt×Nat=>[(.s 6,.s (.xs 1014 5 0 y.2.1.length)),(.s 7,.int y.1),(.b 1014,.rs ae y.2.1)]) (fun y=>y.1≤2∧ahR y.1 y.2.1.length∧y.1<y.2.2∧tH (aj,ak,an,ao,ah,aq,ai,ar) y.2.2 y.1 y.2.1=bB (aj,ak,an,ao,ah,aq,ai,ar) (t1,t2,t3,t4,t5,t6,t7)) (fun y=>y.1.toNat) (t6,[(t1,t2,t3,t4,t5)],3) [] ⟨ala,⟨by show 1≤16;omega,fun _=>by show 1≤4;omega,fun _=>ZB5 _⟩,by show t6<(3:Nat);omega,rfl⟩ dN ?_
 rintro⟨lv,l,f⟩ ⟨(FJ:lv≤2),(TL:ahR lv l.length),(hf:lv<(f:Int)),(hr:tH (aj,ak,an,ao,ah,aq,ai,ar) f lv l=bB (aj,ak,an,ao,ah,aq,ai,ar) (t1,t2,t3,t4,t5,t6,t7))⟩
 refine⟨fun w1=>⟨aa,?_⟩,fun w2=>?_⟩
 all_goals first|refine aw ?_|refine ax ?_|exact a8|(dsimp only [eg,fG];omega)|exact a7|skip
 ·have oW:decide (lv>0)=true:=w1
  have h1:lv>0:=aJ w1
  obtain⟨g,rfl⟩:∃g,f=g+1:=⟨f-1,by omega⟩
  refine cO (l:=[(109,eg)]) (ex:=zT) (wr:=zF) (pt:=zF) ⟨lr,aa⟩ [.s 2,.b 1002,.s 6,.s 7,.b 1014] (fun y:Nat×List Pt=>[(.s 8,.s (.xs 1021 5 0 y.2.length)),(.s 9,.int y.1),(.b 1021,.rs ae y.2)]) (fun y=>y.1≤l.length∧y.2.length=4*y.1∧fy (aj,ak,an,ao,ah,aq,ai,ar) lv (l.drop y.1) y.2=fy (aj,ak,an,ao,ah,aq,ai,ar) lv l []) (fun y=>l.length-y.1) (0,[]) [] ⟨ZA7 _,rfl,rfl⟩ dN ?_
  rintro⟨i,acc⟩ ⟨(hi:i≤l.length),(abS:acc.length=4*i),(hs:fy (aj,ak,an,ao,ah,aq,ai,ar) lv (l.drop i) acc=fy (aj,ak,an,ao,ah,aq,ai,ar) lv l [])⟩
  have cq:decide ((i:Int)<(l.length:Int))=true→i<l.length:=fun h=>by have:=aJ h;omega
  have alv:=TL.2.1 (by omega)
  have hlen:=(iH (aj,ak,an,ao,ah,aq,ai,ar) (nth ae l i) lv).1
  have cP:i<l.length→l.drop i=nth ae l i::l.drop (i+1):=fun h=>bX (ek:=ae) h
  refine⟨fun w1=>⟨[.s 2,.b 1002],Sq29,rfl,Sq6,Sq30,rfl,Sq9,Sq31,rfl,[.s 30,.s 31],Sq32,rfl,⟨?_,?_⟩,[.s 32,.b 1014],Sq33,rfl,?_,Sq7,Sq34,rfl,[.s 29,.s 33,.s 34,.b 360000],[.s 35,.b 360000],rfl,⟨⟨⟨aa,aa,aa,aa,aa,aa,aa,aa,aa⟩,⟨aa,aa,aa,aa,aa,aa⟩,aa,aa⟩,?_⟩,?_,fun x2 w3=>⟨Sq35,Sq28,rfl,Sq28,Sq36,rfl,Sq28,Sq37,rfl,Sq36,Sq10,rfl,Sq37,Sq11,rfl,fun w4=>⟨aa,?_⟩,fun w5=>⟨⟨⟨?_,?_⟩,?_,?_⟩,⟨?_,?_⟩,?_⟩⟩⟩,fun w6=>⟨⟨?_,?_⟩,?_⟩⟩
  all_goals first|refine aw ?_|refine ax ?_|exact a8|(dsimp only [eg,fG];omega)|exact a7|exact dG|(show acc.length+(bg (aj,ak,an,ao,ah,aq,ai,ar) (nth ae l i) lv).1.length≤1048576;omega)|skip
  ·have e:fy (aj,ak,an,ao,ah,aq,ai,ar) lv l []=none:=by rw [←hs,cP (cq w1),NX (s:=(aj,ak,an,ao,ah,aq,ai,ar)) (lv:=lv) (p:=nth ae l i) w4]
   refine⟨[1040],[],_,_,_,rfl,az,(),aa,?_,?_,rfl⟩
   ·(show _=lG (aj,ak,an,ao,ah,aq,ai,ar) (t1,t2,t3,t4,t5,t6,t7));unfold lG;first|(rw [←hr,H4 oW e];rfl)|rfl
   ·(show _=nU (aj,ak,an,ao,ah,aq,ai,ar) (t1,t2,t3,t4,t5,t6,t7));unfold nU;first|(rw [←hr,H4 oW e];rfl)|rfl
  ·refine⟨(i+1,acc++(bg (aj,ak,an,ao,ah,aq,ai,ar) (nth ae l i) lv).1),[(1021,1043)],?_,?_,?_⟩
   rotate_right
   ·exact bW
   ·exact⟨cq w1,by show List.length (_++_)=_;rw [ZA0];show acc.length+_=4*(i+1);rw [(iH (aj,ak,an,ao,ah,aq,ai,ar) (nth ae l i) lv).2 (cM w5)];omega,by rw [←hs,cP (cq w1),NW (s:=(aj,ak,an,ao,ah,aq,ai,ar)) (lv:=lv) (p:=nth ae l i) w5]⟩
   ·show l.length-(i+1)<l.length-i;have:=cq w1;omega
  ·have FK:¬i<l.length:=by have:=aA (p:=(i:Int)<(l.length:Int)) w6;omega
   have e:fy (aj,ak,an,ao,ah,aq,ai,ar) lv l []=some acc:=by rw [←hs,ZB3 (by omega)];rfl
   have hl2:=r6 e
   refine⟨(lv-1,acc,g),[(1014,1021)],?_,?_,?_⟩
   rotate_right
   ·exact bW
   ·refine⟨by show lv-1≤2;omega,⟨?_,fun h=>?_,fun h=>?_⟩,by show lv-1<(g:Int);omega,by rw [←hr,CI oW e]⟩
    ·show acc.length≤16;rw [hl2];show 0+4*l.length≤16;omega
    ·have h:1≤lv-1:=h
     have:=TL.2.2 (by omega)
     show acc.length≤4;rw [hl2];show 0+4*l.length≤4;omega
    ·have h:2≤lv-1:=h
     omega
   ·show (lv-1).toNat<lv.toNat;omega
 ·have e:bB (aj,ak,an,ao,ah,aq,ai,ar) (t1,t2,t3,t4,t5,t6,t7)=(l,true):=by
   rw [←hr]
   cases f with
   |zero=>rfl
   |succ g=>exact vy w2
  refine⟨[1014],[],_,_,_,rfl,az,(),aa,?_,?_,rfl⟩
  ·(show _=lG (aj,ak,an,ao,ah,aq,ai,ar) (t1,t2,t3,t4,t5,t6,t7));unfold lG;first|(rw [e];rfl)|rfl
  ·(show _=nU (aj,ak,an,ao,ah,aq,ai,ar) (t1,t2,t3,t4,t5,t6,t7));unfold nU;first|(rw [e];rfl)|rfl
end GL
namespace GL
theorem G4 (s:ByteArray):aZ (bQ s).1=true:=by
 have h0:aZ bN=true:=by decide
 unfold bQ
 cases decide (s=⟨#[45]⟩) with
 |true=>exact h0
 |false=>
  cases decide (((bn s 46).length:Int)≠5) with
  |true=>exact h0
  |false=>
   show aZ (qZ (bn s 46)).1=true
   unfold qZ
   cases lk (bn s 46) [] with
   |none=>exact h0
   |some n=>
    show aZ (pW n).1=true
    unfold pW
    cases hc: !(aZ (lK n))||au (lK n) with
    |true=>exact h0
    |false=>
     simp only [ZE1] at hc
     exact cM hc.1
theorem aac:∀{l:List ByteArray}{out o:List Pt}{sm m:Bool},oo l out sm=some (o,m)→(∀p∈out,aZ p=true)→∀p∈o,aZ p=true
 |[],out,o,sm,m,h,ho=>by cases h;exact ho
 |t::l,out,o,sm,m,h,ho=>by
  unfold oo at h
  cases hb:(bQ t).2 with
  |true=>
   rw [hb,cond_true] at h
   refine aac h fun p hp=>?_
   rcases ZB4.1 hp with hp |hp
   ·exact ho p hp
   ·simp only [ZB8,ZF6,or_false] at hp
    subst hp;exact G4 t
  |false=>rw [hb] at h;cases h
theorem XM (s:ByteArray):∀p∈(bm s).1,aZ p=true:=by
 unfold bm
 cases hf:oo (bn s 44) [] false with
 |none=>intro p hp;cases hp
 |some r=>
  obtain⟨o,sm⟩:=r
  have:=aac hf (fun p hp=>by cases hp)
  show∀p∈(mb o sm).1,_
  unfold mb
  cases decide ((o.length:Int)≠4)|| !sm with
  |true=>intro p hp;cases hp
  |false=>exact this
theorem wX (n:Nat):∀p∈cw n,aZ p=true:=by
 intro p hp
 rw [(ZD6.1 hp).2];decide
theorem sS (s:ay) (p:Pt) (lv:Int):∀q∈(bg s p lv).1,aZ q=true:=by
 have h0:∀q∈([]:List Pt),aZ q=true:=fun q h=>by cases h
 unfold bg
 cases au p with
 |true=>exact wX 4
 |false=>
  cases !(aZ p)||(decide (p.2.2.2.2≠lv)||decide (p.2.1>s.cj)) with
  |true=>exact h0
  |false=>
   cases !(bG s p).2 with
   |true=>exact h0
   |false=>
    show∀q∈(oK p (bm (bG s p).1)).1,aZ q=true
    unfold oK
    cases (bm (bG s p).1).1.any (late p) with
    |true=>exact h0
    |false=>exact XM _
theorem QJ {s:ay}{lv:Int}:∀{l acc n:List Pt},fy s lv l acc=some n→(∀q∈acc,aZ q=true)→∀q∈n,aZ q=true
 |[],acc,n,h,ha=>by cases h;exact ha
 |p::l,acc,n,h,ha=>by
  unfold fy at h
  cases hb:(bg s p lv).2 with
  |true=>
   rw [hb,cond_true] at h
   refine QJ h fun q hq=>?_
   rcases ZB4.1 hq with hq |hq
   ·exact ha q hq
   ·exact sS s p lv q hq
  |false=>rw [hb] at h;cases h
theorem ZG {s:ay}:∀{f:Nat}{lv:Int}{l:List Pt},(∀q∈l,aZ q=true)→∀q∈(tH s f lv l).1,aZ q=true
 |0,lv,l,h=>h
 |f+1,lv,l,h=>by
  unfold tH
  cases decide (lv>0) with
  |false=>exact h
  |true=>
   simp only [cond_true]
   cases hs:fy s lv l [] with
   |none=>intro q hq;cases hq
   |some n=>exact ZG (QJ hs (fun q hq=>by cases hq))
theorem SW {s:ay}:∀{f:Nat}{lv:Int}{l:List Pt},lv≤2→ahR lv l.length→(tH s f lv l).1.length≤16
 |0,lv,l,h,hf=>hf.1
 |f+1,lv,l,h,hf=>by
  unfold tH
  cases hc:decide (lv>0) with
  |false=>exact hf.1
  |true=>
   have h1:lv>0:=aJ hc
   simp only [cond_true]
   cases hs:fy s lv l [] with
   |none=>exact ZA7 _
   |some n=>
    have hl:n.length=0+4*l.length:=r6 hs
    have h4:=hf.2.1 (by omega)
    refine SW (by omega) ⟨by omega,fun h2=>?_,fun h2=>by omega⟩
    have:=hf.2.2 (by omega)
    omega
structure bf.rd (t:bf):Prop where
 dep:t.depth≤2
 ok:aZ t.root=true
theorem rk {s:ay}{t:bf}(h:t.rd):(bB s t).1.length≤16:=
 SW h.dep ⟨by show 1≤16;omega,fun _=>by show 1≤4;omega,fun _=>ZB5 _⟩
theorem H8 {s:ay}{t:bf}(h:t.rd):∀q∈(bB s t).1,aZ q=true:=
 ZG fun q hq=>by
  simp only [ZB8,ZF6,or_false] at hq
  subst hq;exact h.ok
def aB (s:ay) (t:bf):List Pt:=(bB s t).1++cw ((16:Int)-(bB s t).1.length).toNat
theorem gi {s:ay}{t:bf}(h:t.rd):(aB s t).length=16:=by
 have:=rk (s:=s) h
 rw [aB,ZA0,cw,ZG0];omega
theorem lD {s:ay}{t:bf}(h:t.rd):∀q∈aB s t,aZ q=true:=by
 intro q hq
 rcases ZB4.1 hq with hq |hq
 ·exact H8 h q hq
 ·exact wX _ q hq
theorem oE {l:List Pt}(h:∀q∈l,aZ q=true) (k:Nat):aZ (nth ae l k)=true:=by
 by_cases hk:k<l.length
 ·exact h _ (bS (ek:=ae) hk)
 ·unfold nth;rw [ZD8 (by omega)];decide
theorem nW {p:Pt}(h:aZ p=true):0≤p.1∧p.1<64:=by
 have:=pV h;omega
def fU (S:ay) (t:bf):Prop:=S.rd∧t.rd
def xV (S:ay) (t:bf):AV:=.s (.xs 0 5 0 (aB S t).length)
def B7 (S:ay) (t:bf):List AV:=[.rs ae (aB S t)]
def ez:ct where
 A:=[.a xy,.a [.int,.int,.int,.int,.int,.int,.int]]
 B:=[]
 pre:=fun x b=>fU (x.1) (x.2)
 r:=fun x b _=>xV (x.1) (x.2)
 o:=fun x b _=>B7 (x.1) (x.2)
 nf:=1
theorem l5:Has Tryz.prog 97 ez:=by
 refine Has.fu zT zF zF (l:=[(63,kS),(137,j5)]) ⟨yG,wS,aa⟩ Tryz.func97 ?_
 rintro⟨⟨(aj:List ByteArray),(ak:List Int),(an:List Int),(ao:Int),(ah:List Pt),(aq:Int),(ai:List Pt),(ar:Bool)⟩,⟨(t1:Int),(t2:Int),(t3:Int),(t4:Int),(t5:Int),(t6:Int),(t7:Int)⟩⟩ _ (hp:fU (aj,ak,an,ao,ah,aq,ai,ar) (t1,t2,t3,t4,t5,t6,t7))
 show vc _ _ _ _ (entry [.a [.vz ab aj,.vz ag ak,.vz ag an,.int ao,.vz ae ah,.int aq,.vz ae ai,.q ar],.a [.int t1,.int t2,.int t3,.int t4,.int t5,.int t6,.int t7]] []) _
 obtain⟨dG,sV⟩:=hp
 have dG:ay.rd (aj,ak,an,ao,ah,aq,ai,ar):=dG
 have sV:bf.rd (t1,t2,t3,t4,t5,t6,t7):=sV
 have hl:=rk (s:=(aj,ak,an,ao,ah,aq,ai,ar)) sV
 refine⟨⟨⟨⟨aa,aa,aa,aa,aa,aa,aa,aa,aa⟩,⟨aa,aa,aa,aa,aa,aa,aa,aa⟩,aa⟩,?_,?_⟩,fun x1 w2=>⟨aa,⟨⟨?_,?_⟩,?_,?_⟩,⟨?_,?_⟩,⟨⟨aa,aa⟩,?_,?_⟩,fun x3 w4=>⟨⟨⟨?_,?_⟩,?_,?_⟩,?_⟩⟩⟩
 all_goals first|refine aw ?_|refine ax ?_|exact a8|(dsimp only [kS,lP,j5,k8];omega)|exact a7|exact dG|exact sV.dep|(show 0+(bB (aj,ak,an,ao,ah,aq,ai,ar) (t1,t2,t3,t4,t5,t6,t7)).1.length≤1048576;omega)|(show ((bB (aj,ak,an,ao,ah,aq,ai,ar) (t1,t2,t3,t4,t5,t6,t7)).1).length+(cw ((16:Int)-((bB (aj,ak,an,ao,ah,aq,ai,ar) (t1,t2,t3,t4,t5,t6,t7)).1.length:Int)).toNat).length≤1048576;rw [cw,ZG0];omega)|skip
 refine⟨[1020],[],_,_,_,rfl,az,(),aa,?_,?_,rfl⟩
 ·(show _=xV (aj,ak,an,ao,ah,aq,ai,ar) (t1,t2,t3,t4,t5,t6,t7));unfold xV;first|(rw [aB,ZA0];rfl)|(rw [aB];rfl)|rfl
 ·(show _=B7 (aj,ak,an,ao,ah,aq,ai,ar) (t1,t2,t3,t4,t5,t6,t7));unfold B7;first|(rw [aB,ZA0];rfl)|(rw [aB];rfl)|rfl
def getM (s:ay) (t:bf) (k:Nat):ByteArray:=(bG s (nth ae (aB s t) k)).1
def B3 (S:ay) (t:bf) (k:Int):Prop:=S.rd∧t.rd∧0≤k∧k<16
def BD (S:ay) (t:bf) (k:Int):AV:=.str (getM S t k.toNat)
def acZ (S:ay) (t:bf) (k:Int):List AV:=[]
def PV:ct where
 A:=[.a xy,.a [.int,.int,.int,.int,.int,.int,.int],.s .int]
 B:=[]
 pre:=fun x b=>B3 (x.1) (x.2.1) (x.2.2)
 r:=fun x b _=>BD (x.1) (x.2.1) (x.2.2)
 o:=fun x b _=>acZ (x.1) (x.2.1) (x.2.2)
theorem afS:Has Tryz.prog 273 PV:=by
 refine Has.fu zT zF zF (l:=[(97,ez),(117,eB)]) ⟨l5,l7,aa⟩ Tryz.func273 ?_
 rintro⟨⟨(aj:List ByteArray),(ak:List Int),(an:List Int),(ao:Int),(ah:List Pt),(aq:Int),(ai:List Pt),(ar:Bool)⟩,⟨(t1:Int),(t2:Int),(t3:Int),(t4:Int),(t5:Int),(t6:Int),(t7:Int)⟩,(k:Int)⟩ _ (hp:B3 (aj,ak,an,ao,ah,aq,ai,ar) (t1,t2,t3,t4,t5,t6,t7) k)
 show vc _ _ _ _ (entry [.a [.vz ab aj,.vz ag ak,.vz ag an,.int ao,.vz ae ah,.int aq,.vz ae ai,.q ar],.a [.int t1,.int t2,.int t3,.int t4,.int t5,.int t6,.int t7],.int k] []) _
 obtain⟨dG,sV,h1,h2⟩:=hp
 have dG:ay.rd (aj,ak,an,ao,ah,aq,ai,ar):=dG
 have sV:bf.rd (t1,t2,t3,t4,t5,t6,t7):=sV
 have hl:=gi (s:=(aj,ak,an,ao,ah,aq,ai,ar)) sV
 have ha:=nW (oE (lD (s:=(aj,ak,an,ao,ah,aq,ai,ar)) sV) k.toNat)
 have hr:aj.length=64:=dG.len
 refine⟨⟨⟨⟨aa,aa,aa,aa,aa,aa,aa,aa,aa⟩,⟨aa,aa,aa,aa,aa,aa,aa,aa⟩,aa⟩,?_,?_⟩,fun x1 w2=>⟨[.s 3,.b 1003],Sq14,rfl,Sq7,Sq15,rfl,Sq2,Sq16,rfl,[.s 15,.s 16],Sq17,rfl,⟨?_,?_⟩,[.s 17,.b 130000],Sq18,rfl,?_,[.s 14,.s 18],Sq19,rfl,⟨⟨⟨aa,aa,aa,aa,aa,aa,aa,aa,aa⟩,⟨aa,aa,aa,aa,aa,aa⟩,aa⟩,fun x3 w4=>?_,?_,?_⟩,?_,fun x5 w6=>⟨Sq19,Sq13,rfl,Sq13,Sq20,rfl,Sq13,Sq21,rfl,Sq20,Sq8,rfl,Sq21,Sq9,rfl,?_⟩⟩⟩
 all_goals first|refine aw ?_|refine ax ?_|exact a8|(dsimp only [ez,fU,eB,fV];omega)|exact a7|exact dG|exact sV|exact dG.sz _ (by assumption)|exact ha.1|(show _<(aj.length:Int);rw [hr];exact ha.2)|(show k<((aB (aj,ak,an,ao,ah,aq,ai,ar) (t1,t2,t3,t4,t5,t6,t7)).length:Int);omega)|(show k.toNat<(aB (aj,ak,an,ao,ah,aq,ai,ar) (t1,t2,t3,t4,t5,t6,t7)).length;omega)|skip
 refine⟨[],[],_,_,_,rfl,az,(),aa,?_,?_,rfl⟩
 ·(show _=BD (aj,ak,an,ao,ah,aq,ai,ar) (t1,t2,t3,t4,t5,t6,t7) k);unfold BD;first|rfl
 ·rfl
def sZ (s:ay) (l:List Pt):List ByteArray:=l.map fun p=>(bG s p).1
def bq (s:ay) (t:bf):List ByteArray:=sZ s ((aB s t).take t.many.toNat)
theorem GA {l:List Pt}{i:Nat}(h:i<l.length):l.take (i+1)=l.take i++[nth ae l i]:=by
 have h1:=oF (ek:=ae) h
 rw [List.take_add_one,h1];rfl
def eG (S:ay) (t:bf):Prop:=S.rd∧t.rd∧0≤t.many∧t.many≤16
def u1 (S:ay) (t:bf):AV:=.s (.xs 0 1 0 (bq S t).length)
def yp (S:ay) (t:bf):List AV:=[.rs ab (bq S t)]
def df:ct where
 A:=[.a xy,.a [.int,.int,.int,.int,.int,.int,.int]]
 B:=[]
 pre:=fun x b=>eG (x.1) (x.2)
 r:=fun x b _=>u1 (x.1) (x.2)
 o:=fun x b _=>yp (x.1) (x.2)
 nf:=1
theorem iS:Has Tryz.prog 90 df:=by
 refine Has.fu zT zF zF (l:=[(97,ez),(117,eB)]) ⟨l5,l7,aa⟩ Tryz.func90 ?_
 rintro⟨⟨(aj:List ByteArray),(ak:List Int),(an:List Int),(ao:Int),(ah:List Pt),(aq:Int),(ai:List Pt),(ar:Bool)⟩,⟨(t1:Int),(t2:Int),(t3:Int),(t4:Int),(t5:Int),(t6:Int),(t7:Int)⟩⟩ _ (hp:eG (aj,ak,an,ao,ah,aq,ai,ar) (t1,t2,t3,t4,t5,t6,t7))
 show vc _ _ _ _ (entry [.a [.vz ab aj,.vz ag ak,.vz ag an,.int ao,.vz ae ah,.int aq,.vz ae ai,.q ar],.a [.int t1,.int t2,.int t3,.int t4,.int t5,.int t6,.int t7]] []) _
 obtain⟨dG,sV,(h0:0≤t7),(h1:t7≤16)⟩:=hp
 have dG:ay.rd (aj,ak,an,ao,ah,aq,ai,ar):=dG
 have sV:bf.rd (t1,t2,t3,t4,t5,t6,t7):=sV
 have hl:=gi (s:=(aj,ak,an,ao,ah,aq,ai,ar)) sV
 have hr:aj.length=64:=dG.len
 refine⟨aa,⟨⟨⟨aa,aa,aa,aa,aa,aa,aa,aa,aa⟩,⟨aa,aa,aa,aa,aa,aa,aa,aa⟩,aa⟩,?_,?_⟩,fun x1 w2=>?_⟩
 all_goals first|refine aw ?_|refine ax ?_|exact a8|(dsimp only [ez,fU,eB,fV];omega)|exact a7|exact dG|exact sV|skip
 refine cO (l:=[(97,ez),(117,eB)]) (ex:=zT) (wr:=zF) (pt:=zF) ⟨l5,l7,aa⟩ [.s 2,.b 1002,.s 3,.b 1003,.s 6,.b 140000] (fun y:Nat×List ByteArray=>[(.s 5,.s (.xs 1010 1 0 y.2.length)),(.s 7,.int y.1),(.b 1010,.rs ab y.2)]) (fun y=>(y.1:Int)≤t7∧y.2.length=y.1∧y.2=sZ (aj,ak,an,ao,ah,aq,ai,ar) ((aB (aj,ak,an,ao,ah,aq,ai,ar) (t1,t2,t3,t4,t5,t6,t7)).take y.1)) (fun y=>t7.toNat-y.1) (0,[]) [] ⟨h0,rfl,rfl⟩ dN ?_
 rintro⟨i,out⟩ ⟨(hi:(i:Int)≤t7),(hlo:out.length=i),(he:out=sZ (aj,ak,an,ao,ah,aq,ai,ar) ((aB (aj,ak,an,ao,ah,aq,ai,ar) (t1,t2,t3,t4,t5,t6,t7)).take i))⟩
 have ha:=nW (oE (lD (s:=(aj,ak,an,ao,ah,aq,ai,ar)) sV) i)
 have bV:decide ((i:Int)<t7)=true→i<(aB (aj,ak,an,ao,ah,aq,ai,ar) (t1,t2,t3,t4,t5,t6,t7)).length:=fun h=>by have:=aJ h;omega
 refine⟨fun w1=>⟨[.s 2,.b 1002],Sq21,rfl,Sq6,Sq22,rfl,Sq7,Sq23,rfl,[.s 22,.s 23],Sq24,rfl,⟨?_,?_⟩,[.s 24,.b 140000],Sq25,rfl,?_,[.s 21,.s 25],Sq26,rfl,⟨⟨⟨aa,aa,aa,aa,aa,aa,aa,aa,aa⟩,⟨aa,aa,aa,aa,aa,aa⟩,aa⟩,fun x2 w3=>?_,?_,?_⟩,?_,fun x4 w5=>⟨Sq26,Sq20,rfl,Sq20,Sq27,rfl,Sq20,Sq28,rfl,Sq27,Sq8,rfl,Sq28,Sq9,rfl,aa,⟨⟨?_,?_⟩,?_,?_⟩,⟨?_,?_⟩,?_⟩⟩,fun w6=>?_⟩
 all_goals first|refine aw ?_|refine ax ?_|exact a8|(dsimp only [ez,fU,eB,fV];omega)|exact a7|exact dG|exact sV|exact dG.sz _ (by assumption)|exact ha.1|(show _<(aj.length:Int);rw [hr];exact ha.2)|exact bV (by assumption)|(show (i:Int)<((aB (aj,ak,an,ao,ah,aq,ai,ar) (t1,t2,t3,t4,t5,t6,t7)).length:Int);have:=bV w1;omega)|skip
 ·have e:sZ (aj,ak,an,ao,ah,aq,ai,ar) ((aB (aj,ak,an,ao,ah,aq,ai,ar) (t1,t2,t3,t4,t5,t6,t7)).take (i+1))=out++[(bG (aj,ak,an,ao,ah,aq,ai,ar) (nth ae (aB (aj,ak,an,ao,ah,aq,ai,ar) (t1,t2,t3,t4,t5,t6,t7)) i)).1]:=by
   rw [GA (bV w1),sZ,List.map_append,←sZ,←he];rfl
  refine⟨(i+1,out++[(bG (aj,ak,an,ao,ah,aq,ai,ar) (nth ae (aB (aj,ak,an,ao,ah,aq,ai,ar) (t1,t2,t3,t4,t5,t6,t7)) i)).1]),[(1010,1032)],?_,?_,?_⟩
  rotate_right
  ·exact bW
  ·exact⟨by have:=aJ w1;show ((i+1:Nat):Int)≤t7;omega,by show List.length (_++_)=_;rw [ZA0,hlo];rfl,e.symm⟩
  ·show t7.toNat-(i+1)<t7.toNat-i;have:=aJ (p:=(i:Int)<t7) w1;omega
 ·have hi2:i=t7.toNat:=by have:=aA (p:=(i:Int)<t7) (by assumption);omega
  have e:bq (aj,ak,an,ao,ah,aq,ai,ar) (t1,t2,t3,t4,t5,t6,t7)=out:=by rw [bq,he,hi2]
  refine⟨[1010],[],_,_,_,rfl,az,(),aa,?_,?_,rfl⟩
  ·(show _=u1 (aj,ak,an,ao,ah,aq,ai,ar) (t1,t2,t3,t4,t5,t6,t7));unfold u1;first|(rw [e];rfl)|rfl
  ·(show _=yp (aj,ak,an,ao,ah,aq,ai,ar) (t1,t2,t3,t4,t5,t6,t7));unfold yp;first|(rw [e];rfl)|rfl
end GL
namespace GL
def nY (l:List Pt):Bool:= !(l.any fun p=> !(au p))
def ti (l:List Pt):Prop:=l.length≤1000000
def pH (l:List Pt):AV:=.q (nY l)
def aa4 (l:List Pt):List AV:=[]
def JW:ct where
 A:=[.s (.vz ae)]
 B:=[]
 pre:=fun x b=>ti x
 r:=fun x b _=>pH x
 o:=fun x b _=>aa4 x
theorem adO:Has Tryz.prog 198 JW:=by
 refine Has.fu zT zF zF (l:=[(83,bl)]) ⟨cz,aa⟩ Tryz.func198 ?_
 rintro (l:List Pt) _ (hp:ti l)
 show vc _ _ _ _ (entry [.s (.vz ae l)] []) _
 unfold ti at hp
 refine cO (l:=[(83,bl)]) (ex:=zT) (wr:=zF) (pt:=zF) ⟨cz,aa⟩ [.s 0] (fun i:Nat=>[(.s 3,.int i)]) (fun i=>i≤l.length∧(l.drop i).any (fun p=> !(au p))=l.any (fun p=> !(au p))) (fun i=>l.length-i) 0 [] ⟨ZA7 _,rfl⟩ dN ?_
 rintro i ⟨hi,hr⟩
 have cq:decide ((i:Int)<(l.length:Int))=true→i<l.length:=fun h=>by have:=aJ h;omega
 have oe:decide ((i:Int)<(l.length:Int))=false→¬i<l.length:=fun h=>by have:=aA h;omega
 refine⟨fun w1=>⟨⟨?_,?_⟩,⟨⟨⟨aa,aa,aa,aa,aa,aa⟩,aa⟩,aa⟩,fun x2 w3=>⟨fun w4=>?_,fun w5=>⟨⟨?_,?_⟩,?_⟩⟩⟩,fun w6=>?_⟩
 all_goals first|refine aw ?_|refine ax ?_|exact a8|exact a7|skip
 ·have e:nY l=false:=by unfold nY;rw [X9 (cq w1) hr w4];rfl
  refine⟨[],[],_,_,_,rfl,az,(),aa,?_,?_,rfl⟩
  ·(show _=pH l);unfold pH;first|(rw [e];rfl)|rfl
  ·rfl
 ·refine⟨(i+1),[],?_,?_,?_⟩
  rotate_right
  ·exact bW
  ·exact⟨cq w1,afo (cq w1) hr w5⟩
  ·show l.length-(i+1)<l.length-i;have:=cq w1;omega
 ·have e:nY l=true:=by unfold nY;rw [YA (oe w6) hr];rfl
  refine⟨[],[],_,_,_,rfl,az,(),aa,?_,?_,rfl⟩
  ·(show _=pH l);unfold pH;first|(rw [e];rfl)|rfl
  ·rfl
def rl (s:ay) (many i:Int) (p:Pt):Bool:= !(bG s p).2||(decide (p.2.2.2.2≠0)||(decide (p.2.1>s.cj)||decide (i≥many)))
def kb (s:ay) (many:Int):Int→List Pt→Bool
 |_,[]=>true
 |i,p::l=>bif au p then kb s many (i+1) l else bif rl s many i p then false else kb s many (i+1) l
def lZ (t:bf):Bool:= !(iB t.many 0 16)||(decide (t.depth≠bj t.many)|| !(aZ t.root))
def qM (s:ay) (t:bf):Bool:=bif lZ t then false else bif !(bB s t).2 then false else kb s t.many 0 (bB s t).1
theorem DW {s:ay}{t:bf}(h:lZ t=true):qM s t=false:=by unfold qM;rw [h];rfl
theorem Y7 {s:ay}{t:bf}(h:lZ t=false) (h2:(!(bB s t).2)=true):qM s t=false:=by unfold qM;rw [h,h2];rfl
theorem Y6 {s:ay}{t:bf}(h:lZ t=false) (h2:(!(bB s t).2)=false):qM s t=kb s t.many 0 (bB s t).1:=by unfold qM;rw [h,h2];rfl
theorem ZA {t:bf}(h:(!(iB t.many 0 16))=true):lZ t=true:=by unfold lZ;rw [h];rfl
theorem Y9 {t:bf}(h:decide (t.depth≠bj t.many)=true):lZ t=true:=by unfold lZ;rw [h,Bool.true_or,ZC4]
theorem Y8 {t:bf}(h:(!(aZ t.root))=true):lZ t=true:=by unfold lZ;rw [h,ZC4,ZC4]
theorem zB {t:bf}(h1:(!(iB t.many 0 16))=false) (h2:decide (t.depth≠bj t.many)=false) (h3:(!(aZ t.root))=false):lZ t=false:=by unfold lZ;rw [h1,h2,h3];rfl
theorem HP {t:bf}(h:lZ t=false):t.rd:=by
 unfold lZ at h
 simp only [ZE1,decide_eq_false_iff_not,ZE9] at h
 obtain⟨h1,h2,h3⟩:=h
 exact⟨by rw [h2];exact (pq _).2,cM h3⟩
theorem FC {s:ay}{many i:Int}{p:Pt}{l:List Pt}(h:au p=true):kb s many i (p::l)=kb s many (i+1) l:=by rw [kb,h];rfl
theorem wM {s:ay}{many i:Int}{p:Pt}{l:List Pt}(h:au p=false) (hb:rl s many i p=true):kb s many i (p::l)=false:=by rw [kb,h,hb];rfl
theorem OY {s:ay}{many i:Int}{p:Pt}{l:List Pt}(h:au p=false) (hb:rl s many i p=false):kb s many i (p::l)=kb s many (i+1) l:=by rw [kb,h,hb];rfl
theorem ZL {s:ay}{many i:Int}{p:Pt}(h:(!(bG s p).2)=true):rl s many i p=true:=by unfold rl;rw [h];rfl
theorem ZK {s:ay}{many i:Int}{p:Pt}(h:decide (p.2.2.2.2≠0)=true):rl s many i p=true:=by unfold rl;rw [h,Bool.true_or,ZC4]
theorem ZJ {s:ay}{many i:Int}{p:Pt}(h:decide (p.2.1>s.cj)=true):rl s many i p=true:=by unfold rl;rw [h,Bool.true_or,ZC4,ZC4]
theorem ZI {s:ay}{many i:Int}{p:Pt}(h:decide (i≥many)=true):rl s many i p=true:=by unfold rl;rw [h,ZC4,ZC4,ZC4]
theorem OZ {s:ay}{many i:Int}{p:Pt}(h1:(!(bG s p).2)=false) (h2:decide (p.2.2.2.2≠0)=false) (h3:decide (p.2.1>s.cj)=false) (h4:decide (i≥many)=false):rl s many i p=false:=by unfold rl;rw [h1,h2,h3,h4];rfl
def zu (S:ay) (t:bf):Prop:=S.rd
def eo (S:ay) (t:bf):AV:=.q (qM S t)
def afy (S:ay) (t:bf):List AV:=[]
def JV:ct where
 A:=[.a xy,.a [.int,.int,.int,.int,.int,.int,.int]]
 B:=[]
 pre:=fun x b=>zu (x.1) (x.2)
 r:=fun x b _=>eo (x.1) (x.2)
 o:=fun x b _=>afy (x.1) (x.2)
theorem adN:Has Tryz.prog 72 JV:=by
 refine Has.fu zT zF zF (l:=[(95,dE),(116,dD),(115,cY),(63,kS),(83,bl),(117,eB)]) ⟨iz,jW,iA,yG,cz,l7,aa⟩ Tryz.func72 ?_
 rintro⟨⟨(aj:List ByteArray),(ak:List Int),(an:List Int),(ao:Int),(ah:List Pt),(aq:Int),(ai:List Pt),(ar:Bool)⟩,⟨(t1:Int),(t2:Int),(t3:Int),(t4:Int),(t5:Int),(t6:Int),(t7:Int)⟩⟩ _ (hp:zu (aj,ak,an,ao,ah,aq,ai,ar) (t1,t2,t3,t4,t5,t6,t7))
 show vc _ _ _ _ (entry [.a [.vz ab aj,.vz ag ak,.vz ag an,.int ao,.vz ae ah,.int aq,.vz ae ai,.q ar],.a [.int t1,.int t2,.int t3,.int t4,.int t5,.int t6,.int t7]] []) _
 have dG:ay.rd (aj,ak,an,ao,ah,aq,ai,ar):=hp
 have akO:aj.length=64:=dG.len
 refine⟨Sq3,Sq11,rfl,[.s 11,.b 1003],Sq12,rfl,Sq12,Sq13,rfl,⟨⟨aa,aa,aa,aa⟩,aa⟩,?_,fun x1 w2=>⟨Sq13,Sq14,rfl,Sq14,Sq15,rfl,aa,fun w3=>⟨Sq15,Sq16,rfl,Sq15,Sq17,rfl,Sq15,Sq18,rfl,Sq15,Sq19,rfl,Sq15,Sq20,rfl,Sq15,Sq21,rfl,[.s 15,.s 21],Sq22,rfl,Sq22,Sq23,rfl,Sq23,Sq24,rfl,Sq23,Sq25,rfl,Sq23,Sq26,rfl,Sq23,Sq27,rfl,[.s 23,.s 27],Sq28,rfl,?_⟩,fun w4=>⟨[.s 15,.s 3],Sq16,rfl,[.s 15,.s 16,.b 1003],Sq17,rfl,[.s 15,.s 3],Sq18,rfl,[.s 15,.s 18,.b 1003],Sq19,rfl,[.s 15,.s 19],Sq20,rfl,⟨⟨aa,aa⟩,aa⟩,?_,fun x5 w6=>⟨[.s 15,.s 17,.s 20],Sq21,rfl,[.s 15,.s 21],Sq22,rfl,Sq22,Sq23,rfl,aa,fun w7=>⟨Sq23,Sq24,rfl,Sq23,Sq25,rfl,Sq23,Sq26,rfl,Sq23,Sq27,rfl,[.s 23,.s 27],Sq28,rfl,?_⟩,fun w8=>⟨[.s 23,.s 3],Sq24,rfl,[.s 23,.s 24,.b 1003],Sq25,rfl,[.s 23,.s 25],Sq26,rfl,⟨⟨⟨aa,aa,aa,aa,aa,aa⟩,aa⟩,aa⟩,?_,fun x9 dy=>⟨[.s 23,.s 26],Sq27,rfl,[.s 23,.s 27],Sq28,rfl,fun kC=>?_,fun dK=>⟨⟨⟨⟨aa,aa,aa,aa,aa,aa,aa,aa,aa⟩,⟨aa,aa,aa,aa,aa,aa,aa,aa⟩,aa⟩,?_,?_⟩,fun rZ gP=>⟨fun qN=>?_,fun ki=>?_⟩⟩⟩⟩⟩⟩⟩⟩
 all_goals first|refine aw ?_|refine ax ?_|exact a8|(dsimp only [dD,ff,cY,ee,kS,lP,eB,fV];omega)|exact a7|exact dG|exact (HP (t:=(t1,t2,t3,t4,t5,t6,t7)) (zB w4 w8 dK)).dep|skip
 ·refine⟨[],[],_,_,_,rfl,az,(),aa,?_,?_,rfl⟩
  ·(show _=eo (aj,ak,an,ao,ah,aq,ai,ar) (t1,t2,t3,t4,t5,t6,t7));unfold eo;first|(rw [DW (s:=(aj,ak,an,ao,ah,aq,ai,ar)) (t:=(t1,t2,t3,t4,t5,t6,t7)) (ZA w3)];rfl)|rfl
  ·rfl
 ·refine⟨[],[],_,_,_,rfl,az,(),aa,?_,?_,rfl⟩
  ·(show _=eo (aj,ak,an,ao,ah,aq,ai,ar) (t1,t2,t3,t4,t5,t6,t7));unfold eo;first|(rw [DW (s:=(aj,ak,an,ao,ah,aq,ai,ar)) (t:=(t1,t2,t3,t4,t5,t6,t7)) (Y9 w7)];rfl)|rfl
  ·rfl
 ·refine⟨[],[],_,_,_,rfl,az,(),aa,?_,?_,rfl⟩
  ·(show _=eo (aj,ak,an,ao,ah,aq,ai,ar) (t1,t2,t3,t4,t5,t6,t7));unfold eo;first|(rw [DW (s:=(aj,ak,an,ao,ah,aq,ai,ar)) (t:=(t1,t2,t3,t4,t5,t6,t7)) (Y8 kC)];rfl)|rfl
  ·rfl
 ·refine⟨[],[],_,_,_,rfl,az,(),aa,?_,?_,rfl⟩
  ·(show _=eo (aj,ak,an,ao,ah,aq,ai,ar) (t1,t2,t3,t4,t5,t6,t7));unfold eo;first|(rw [Y7 (s:=(aj,ak,an,ao,ah,aq,ai,ar)) (t:=(t1,t2,t3,t4,t5,t6,t7)) (zB w4 w8 dK) qN];rfl)|rfl
  ·rfl
 ·have hB:=zB (t:=(t1,t2,t3,t4,t5,t6,t7)) w4 w8 dK
  have hM:=Y6 (s:=(aj,ak,an,ao,ah,aq,ai,ar)) (t:=(t1,t2,t3,t4,t5,t6,t7)) hB ki
  have sV:bf.rd (t1,t2,t3,t4,t5,t6,t7):=HP hB
  have hl:=rk (s:=(aj,ak,an,ao,ah,aq,ai,ar)) sV
  have cH:=H8 (s:=(aj,ak,an,ao,ah,aq,ai,ar)) sV
  refine cO (l:=[(95,dE),(116,dD),(115,cY),(63,kS),(83,bl),(117,eB)]) (ex:=zT) (wr:=zF) (pt:=zF) ⟨iz,jW,iA,yG,cz,l7,aa⟩ [.s 2,.b 1002,.s 3,.b 1003,.s 5,.b 330000] (fun i:Nat=>[(.s 7,.int i)]) (fun i=>i≤(bB (aj,ak,an,ao,ah,aq,ai,ar) (t1,t2,t3,t4,t5,t6,t7)).1.length∧kb (aj,ak,an,ao,ah,aq,ai,ar) t7 i ((bB (aj,ak,an,ao,ah,aq,ai,ar) (t1,t2,t3,t4,t5,t6,t7)).1.drop i)=kb (aj,ak,an,ao,ah,aq,ai,ar) t7 0 (bB (aj,ak,an,ao,ah,aq,ai,ar) (t1,t2,t3,t4,t5,t6,t7)).1) (fun i=>(bB (aj,ak,an,ao,ah,aq,ai,ar) (t1,t2,t3,t4,t5,t6,t7)).1.length-i) 0 [] ⟨ZA7 _,rfl⟩ dN ?_
  rintro i ⟨hi,hr⟩
  have cq:decide ((i:Int)<((bB (aj,ak,an,ao,ah,aq,ai,ar) (t1,t2,t3,t4,t5,t6,t7)).1.length:Int))=true→i<(bB (aj,ak,an,ao,ah,aq,ai,ar) (t1,t2,t3,t4,t5,t6,t7)).1.length:=fun h=>by have:=aJ h;omega
  have cP:i<(bB (aj,ak,an,ao,ah,aq,ai,ar) (t1,t2,t3,t4,t5,t6,t7)).1.length→(bB (aj,ak,an,ao,ah,aq,ai,ar) (t1,t2,t3,t4,t5,t6,t7)).1.drop i=nth ae (bB (aj,ak,an,ao,ah,aq,ai,ar) (t1,t2,t3,t4,t5,t6,t7)).1 i::(bB (aj,ak,an,ao,ah,aq,ai,ar) (t1,t2,t3,t4,t5,t6,t7)).1.drop (i+1):=fun h=>bX (ek:=ae) h
  have ha:=nW (oE cH i)
  refine⟨fun w1=>⟨⟨?_,?_⟩,?_,⟨⟨⟨aa,aa,aa,aa,aa,aa⟩,aa⟩,aa⟩,fun x2 w3=>⟨fun w4=>⟨⟨?_,?_⟩,?_⟩,fun w5=>⟨⟨⟨⟨aa,aa,aa,aa,aa,aa,aa,aa,aa⟩,⟨aa,aa,aa,aa,aa,aa⟩,aa⟩,fun x6 w7=>?_,?_,?_⟩,fun x8 w9=>⟨aa,fun dy=>?_,fun kC=>⟨aa,fun dK=>?_,fun iV=>⟨aa,fun gP=>?_,fun qN=>⟨fun ki=>?_,fun xk=>⟨⟨?_,?_⟩,?_⟩⟩⟩⟩⟩⟩⟩⟩,fun rV=>?_⟩
  all_goals first|refine aw ?_|refine ax ?_|exact a8|(dsimp only [dD,ff,cY,ee,kS,lP,eB,fV];omega)|exact a7|exact dG|exact cq w1|exact aJ w1|exact dG.sz _ (by assumption)|exact ha.1|(show _<(aj.length:Int);rw [akO];exact ha.2)|skip
  ·refine⟨(i+1),[],?_,?_,?_⟩
   rotate_right
   ·exact bW
   ·exact⟨cq w1,by rw [←hr,cP (cq w1),FC (s:=(aj,ak,an,ao,ah,aq,ai,ar)) (p:=(nth ae (bB (aj,ak,an,ao,ah,aq,ai,ar) (t1,t2,t3,t4,t5,t6,t7)).1 i)) w4];rfl⟩
   ·show (bB (aj,ak,an,ao,ah,aq,ai,ar) (t1,t2,t3,t4,t5,t6,t7)).1.length-(i+1)<(bB (aj,ak,an,ao,ah,aq,ai,ar) (t1,t2,t3,t4,t5,t6,t7)).1.length-i;have:=cq w1;omega
  ·refine⟨[],[],_,_,_,rfl,az,(),aa,?_,?_,rfl⟩
   ·(show _=eo (aj,ak,an,ao,ah,aq,ai,ar) (t1,t2,t3,t4,t5,t6,t7));unfold eo;first|(rw [hM,←hr,cP (cq w1),wM (s:=(aj,ak,an,ao,ah,aq,ai,ar)) (p:=(nth ae (bB (aj,ak,an,ao,ah,aq,ai,ar) (t1,t2,t3,t4,t5,t6,t7)).1 i)) w5 (ZL (s:=(aj,ak,an,ao,ah,aq,ai,ar)) (p:=(nth ae (bB (aj,ak,an,ao,ah,aq,ai,ar) (t1,t2,t3,t4,t5,t6,t7)).1 i)) dy)];rfl)|rfl
   ·rfl
  ·refine⟨[],[],_,_,_,rfl,az,(),aa,?_,?_,rfl⟩
   ·(show _=eo (aj,ak,an,ao,ah,aq,ai,ar) (t1,t2,t3,t4,t5,t6,t7));unfold eo;first|(rw [hM,←hr,cP (cq w1),wM (s:=(aj,ak,an,ao,ah,aq,ai,ar)) (p:=(nth ae (bB (aj,ak,an,ao,ah,aq,ai,ar) (t1,t2,t3,t4,t5,t6,t7)).1 i)) w5 (ZK (s:=(aj,ak,an,ao,ah,aq,ai,ar)) (p:=(nth ae (bB (aj,ak,an,ao,ah,aq,ai,ar) (t1,t2,t3,t4,t5,t6,t7)).1 i)) dK)];rfl)|rfl
   ·rfl
  ·refine⟨[],[],_,_,_,rfl,az,(),aa,?_,?_,rfl⟩
   ·(show _=eo (aj,ak,an,ao,ah,aq,ai,ar) (t1,t2,t3,t4,t5,t6,t7));unfold eo;first|(rw [hM,←hr,cP (cq w1),wM (s:=(aj,ak,an,ao,ah,aq,ai,ar)) (p:=(nth ae (bB (aj,ak,an,ao,ah,aq,ai,ar) (t1,t2,t3,t4,t5,t6,t7)).1 i)) w5 (ZJ (s:=(aj,ak,an,ao,ah,aq,ai,ar)) (p:=(nth ae (bB (aj,ak,an,ao,ah,aq,ai,ar) (t1,t2,t3,t4,t5,t6,t7)).1 i)) gP)];rfl)|rfl
   ·rfl
  ·refine⟨[],[],_,_,_,rfl,az,(),aa,?_,?_,rfl⟩
   ·(show _=eo (aj,ak,an,ao,ah,aq,ai,ar) (t1,t2,t3,t4,t5,t6,t7));unfold eo;first|(rw [hM,←hr,cP (cq w1),wM (s:=(aj,ak,an,ao,ah,aq,ai,ar)) (p:=(nth ae (bB (aj,ak,an,ao,ah,aq,ai,ar) (t1,t2,t3,t4,t5,t6,t7)).1 i)) w5 (ZI (s:=(aj,ak,an,ao,ah,aq,ai,ar)) (p:=(nth ae (bB (aj,ak,an,ao,ah,aq,ai,ar) (t1,t2,t3,t4,t5,t6,t7)).1 i)) ki)];rfl)|rfl
   ·rfl
  ·refine⟨(i+1),[],?_,?_,?_⟩
   rotate_right
   ·exact bW
   ·exact⟨cq w1,by rw [←hr,cP (cq w1),OY (s:=(aj,ak,an,ao,ah,aq,ai,ar)) (p:=(nth ae (bB (aj,ak,an,ao,ah,aq,ai,ar) (t1,t2,t3,t4,t5,t6,t7)).1 i)) w5 (OZ (s:=(aj,ak,an,ao,ah,aq,ai,ar)) (p:=(nth ae (bB (aj,ak,an,ao,ah,aq,ai,ar) (t1,t2,t3,t4,t5,t6,t7)).1 i)) kC iV qN xk)];rfl⟩
   ·show (bB (aj,ak,an,ao,ah,aq,ai,ar) (t1,t2,t3,t4,t5,t6,t7)).1.length-(i+1)<(bB (aj,ak,an,ao,ah,aq,ai,ar) (t1,t2,t3,t4,t5,t6,t7)).1.length-i;have:=cq w1;omega
  ·have FK:¬i<(bB (aj,ak,an,ao,ah,aq,ai,ar) (t1,t2,t3,t4,t5,t6,t7)).1.length:=by have:=aA (p:=(i:Int)<((bB (aj,ak,an,ao,ah,aq,ai,ar) (t1,t2,t3,t4,t5,t6,t7)).1.length:Int)) rV;omega
   have e:kb (aj,ak,an,ao,ah,aq,ai,ar) t7 0 (bB (aj,ak,an,ao,ah,aq,ai,ar) (t1,t2,t3,t4,t5,t6,t7)).1=true:=by rw [←hr,ZB3 (by omega)];rfl
   refine⟨[],[],_,_,_,rfl,az,(),aa,?_,?_,rfl⟩
   ·(show _=eo (aj,ak,an,ao,ah,aq,ai,ar) (t1,t2,t3,t4,t5,t6,t7));unfold eo;first|(rw [hM,e];rfl)|rfl
   ·rfl
end GL
end Go.Proofs.YtkgpljpmdkflmaaGreatDoor
