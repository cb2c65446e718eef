/- A drawn law returns true for every code (its row lists package variables, tied by the card): part 19. -/
import Derived.Test.YtclcgjhhehbdeaaGreatDoorPar
set_option maxHeartbeats 20000000
set_option maxRecDepth 100000
set_option linter.all false
namespace Go.Proofs.YtclcgjhhehbdeaaGreatDoor
namespace GL
def fw (s:ay) (lv:Int):List Pt→List Pt→Option (List Pt)
 |[],acc=>some acc
 |p::l,acc=>bif (bg s p lv).2 then fw s lv l (acc++(bg s p lv).1) else none
def tB (s:ay):Nat→Int→List Pt→List Pt×Bool
 |0,_,l=>(l,true)
 |f+1,lv,l=>bif decide (lv>0) then (match fw s lv l [] with
  |none=>([],false)
  |some n=>tB s f (lv-1) n) else (l,true)
abbrev bf.root (t:bf):Pt:=(t.1,t.2.1,t.2.2.1,t.2.2.2.1,t.2.2.2.2.1)
abbrev bf.depth (t:bf):Int:=t.2.2.2.2.2.1
abbrev bf.many (t:bf):Int:=t.2.2.2.2.2.2
def bA (s:ay) (t:bf):List Pt×Bool:=tB s 3 t.depth [t.root]
theorem HY {s:ay}{f:Nat}{lv:Int}{l:List Pt}(h:decide (lv>0)=true) (h2:fw s lv l []=none):tB s (f+1) lv l=([],false):=by rw [tB,h,h2];rfl
theorem CD {s:ay}{f:Nat}{lv:Int}{l n:List Pt}(h:decide (lv>0)=true) (h2:fw s lv l []=some n):tB s (f+1) lv l=tB s f (lv-1) n:=by rw [tB,h,h2];rfl
theorem vn {s:ay}{f:Nat}{lv:Int}{l:List Pt}(h:decide (lv>0)=false):tB s (f+1) lv l=(l,true):=by rw [tB,h];rfl
theorem NT {s:ay}{lv:Int}{p:Pt}{l acc:List Pt}(h:(!(bg s p lv).2)=true):fw s lv (p::l) acc=none:=by rw [fw,xi h];rfl
theorem NS {s:ay}{lv:Int}{p:Pt}{l acc:List Pt}(h:(!(bg s p lv).2)=false):fw s lv (p::l) acc=fw s lv l (acc++(bg s p lv).1):=by rw [fw,cL h];rfl
theorem iE (s:ay) (p:Pt) (lv:Int):(bg s p lv).1.length≤4∧((bg s p lv).2=true→(bg s p lv).1.length=4):=by
 have h0:([]:List Pt).length≤4∧(false=true→([]:List Pt).length=4):=⟨ZA7 _,fun h=>by cases h⟩
 unfold bg
 cases au p with
 |true=>exact⟨ZB5 _,fun _=>rfl⟩
 |false=>
  cases !(aZ p)||(decide (p.2.2.2.2≠lv)||decide (p.2.1>s.cg)) with
  |true=>exact h0
  |false=>
   cases !(bF s p).2 with
   |true=>exact h0
   |false=>
    show (oE p (bl (bF s p).1)).1.length≤4∧((oE p (bl (bF s p).1)).2=true→(oE p (bl (bF s p).1)).1.length=4)
    unfold oE
    cases (bl (bF s p).1).1.any (late p) with
    |true=>exact h0
    |false=>exact vH _
theorem rW {s:ay}{lv:Int}:∀{l acc n:List Pt},fw s lv l acc=some n→n.length=acc.length+4*l.length
 |[],acc,n,h=>by cases h;rfl
 |p::l,acc,n,h=>by
  unfold fw at h
  cases hb:(bg s p lv).2 with
  |true=>
   rw [hb,cond_true] at h
   rw [rW h,ZA0,(iE s p lv).2 hb,ZA1];omega
  |false=>rw [hb] at h;cases h
def ahQ (lv:Int) (n:Nat):Prop:=n≤16∧(1≤lv→n≤4)∧(2≤lv→n≤1)
def lJ (S:ay) (t:bf):Prop:=S.rd∧t.depth≤2
def lA (S:ay) (t:bf):AV:=.t [.s (.xs 0 5 0 (bA S t).1.length),.s (.q (bA S t).2)]
def nN (S:ay) (t:bf):List AV:=[.rs ae (bA S t).1]
def kN:cn where
 A:=[.a xq,.a [.int,.int,.int,.int,.int,.int,.int]]
 B:=[]
 pre:=fun x b=>lJ (x.1) (x.2)
 r:=fun x b _=>lA (x.1) (x.2)
 o:=fun x b _=>nN (x.1) (x.2)
 nf:=1
theorem yz:Has Tryz.prog 56 kN:=by
 refine Has.fl zT zF zF (l:=[(89,ee)]) ⟨lg,aa⟩ Tryz.func56 ?_
 rintro⟨⟨(aj:List ByteArray),(ak:List Int),(an:List Int),(ao:Int),(ah:List Pt),(aq:Int),(ai:List Pt),(ar:Bool)⟩,⟨(t1:Int),(t2:Int),(t3:Int),(t4:Int),(t5:Int),(t6:Int),(t7:Int)⟩⟩ _ (hp:lJ (aj,ak,an,ao,ah,aq,ai,ar) (t1,t2,t3,t4,t5,t6,t7))
 show vc _ _ _ _ (entry [.a [.vz ab aj,.vz ag ak,.vz ag an,.int ao,.vz ae ah,.int aq,.vz ae ai,.q ar],.a [.int t1,.int t2,.int t3,.int t4,.int t5,.int t6,.int t7]] []) _
 let g':=(aj,ak,an,ao,ah,aq,ai,ar)
 let A':=(t1,t2,t3,t4,t5,t6,t7)
 obtain⟨dE,(ak7:t6≤2)⟩:=hp
 have dE:ay.rd g':=dE
 refine⟨aa,?_⟩
 all_goals first|refine aw ?_|refine ax ?_|exact a8|(dsimp only [ee,fE];omega)|exact a7|skip
 refine cN (l:=[(89,ee)]) (ex:=zT) (wr:=zF) (pt:=zF) ⟨lg,trivial⟩ [.s 2,.b 1002] (fun y:Int×List Pt×Nat=>[(.s 6,.s (.xs 1014 5 0 y.2.1.length)),(.s 7,.int y.1),(.b 1014,.rs ae y.2.1)]) (fun y=>y.1≤2∧ahQ y.1 y.2.1.length∧y.1<y.2.2∧tB g' y.2.2 y.1 y.2.1=bA g' A') (fun y=>y.1.toNat) (t6,[(t1,t2,t3,t4,t5)],3) [] ⟨ak7,⟨by show 1≤16;omega,fun _=>by show 1≤4;omega,fun _=>ZB5 _⟩,by show t6<(3:Nat);omega,rfl⟩ dL ?_
 rintro⟨lv,l,f⟩ ⟨(FE:lv≤2),(TH:ahQ lv l.length),(hf:lv<(f:Int)),(hr:tB g' f lv l=bA g' A')⟩
 refine⟨fun w1=>⟨aa,?_⟩,fun w2=>?_⟩
 all_goals first|refine aw ?_|refine ax ?_|exact a8|(dsimp only [ee,fE];omega)|exact a7|skip
 ·have oQ:decide (lv>0)=true:=w1
  have h1:lv>0:=aJ w1
  obtain⟨g,rfl⟩:∃g,f=g+1:=⟨f-1,by omega⟩
  refine cN (l:=[(89,ee)]) (ex:=zT) (wr:=zF) (pt:=zF) ⟨lg,aa⟩ [.s 2,.b 1002,.s 6,.s 7,.b 1014] (fun y:Nat×List Pt=>[(.s 8,.s (.xs 1021 5 0 y.2.length)),(.s 9,.int y.1),(.b 1021,.rs ae y.2)]) (fun y=>y.1≤l.length∧y.2.length=4*y.1∧fw g' lv (l.drop y.1) y.2=fw g' lv l []) (fun y=>l.length-y.1) (0,[]) [] ⟨ZA7 _,rfl,rfl⟩ dL ?_
  rintro⟨i,acc⟩ ⟨(hi:i≤l.length),(abO:acc.length=4*i),(hs:fw g' lv (l.drop i) acc=fw g' lv l [])⟩
  have cm:decide ((i:Int)<(l.length:Int))=true→i<l.length:=fun h=>by have:=aJ h;omega
  have alr:=TH.2.1 (by omega)
  have hlen:=(iE g' (nth ae l i) lv).1
  have cO:i<l.length→l.drop i=nth ae l i::l.drop (i+1):=fun h=>bW (ek:=ae) h
  refine⟨fun w1=>⟨[.s 2,.b 1002],Sq29,rfl,Sq6,Sq30,rfl,Sq9,Sq31,rfl,[.s 30,.s 31],Sq32,rfl,⟨?_,?_⟩,[.s 32,.b 1014],Sq33,rfl,?_,Sq7,Sq34,rfl,[.s 29,.s 33,.s 34,.b 360000],[.s 35,.b 360000],rfl,⟨⟨tv9,tv6,tv2⟩,?_⟩,?_,fun x2 w3=>⟨Sq35,Sq28,rfl,Sq28,Sq36,rfl,Sq28,Sq37,rfl,Sq36,Sq10,rfl,Sq37,Sq11,rfl,fun w4=>⟨aa,?_⟩,fun w5=>⟨⟨⟨?_,?_⟩,?_,?_⟩,⟨?_,?_⟩,?_⟩⟩⟩,fun w6=>⟨⟨?_,?_⟩,?_⟩⟩
  all_goals first|refine aw ?_|refine ax ?_|exact a8|(dsimp only [ee,fE];omega)|exact a7|exact dE|(show acc.length+(bg g' (nth ae l i) lv).1.length≤1048576;omega)|skip
  ·have e:fw g' lv l []=none:=by rw [←hs,cO (cm w1),NT (s:=g') (lv:=lv) (p:=nth ae l i) w4]
   refine⟨[1040],[],_,_,_,rfl,az,(),aa,?_,?_,rfl⟩
   ·(show _=lA g' A');unfold lA;first|(rw [←hr,HY oQ e];rfl)|rfl
   ·(show _=nN g' A');unfold nN;first|(rw [←hr,HY oQ e];rfl)|rfl
  ·refine⟨(i+1,acc++(bg g' (nth ae l i) lv).1),[(1021,1043)],?_,?_,?_⟩
   rotate_right
   ·exact bV
   ·exact⟨cm w1,by show List.length (_++_)=_;rw [ZA0];show acc.length+_=4*(i+1);rw [(iE g' (nth ae l i) lv).2 (cL w5)];omega,by rw [←hs,cO (cm w1),NS (s:=g') (lv:=lv) (p:=nth ae l i) w5]⟩
   ·show l.length-(i+1)<l.length-i;have:=cm w1;omega
  ·have FF:¬i<l.length:=by have:=aA (p:=(i:Int)<(l.length:Int)) w6;omega
   have e:fw g' lv l []=some acc:=by rw [←hs,ZB3 (by omega)];rfl
   have hl2:=rW e
   refine⟨(lv-1,acc,g),[(1014,1021)],?_,?_,?_⟩
   rotate_right
   ·exact bV
   ·refine⟨by show lv-1≤2;omega,⟨?_,fun h=>?_,fun h=>?_⟩,by show lv-1<(g:Int);omega,by rw [←hr,CD oQ e]⟩
    ·show acc.length≤16;rw [hl2];show 0+4*l.length≤16;omega
    ·have h:1≤lv-1:=h
     have:=TH.2.2 (by omega)
     show acc.length≤4;rw [hl2];show 0+4*l.length≤4;omega
    ·have h:2≤lv-1:=h
     omega
   ·show (lv-1).toNat<lv.toNat;omega
 ·have e:bA g' A'=(l,true):=by
   rw [←hr]
   cases f with
   |zero=>rfl
   |succ g=>exact vn w2
  refine⟨[1014],[],_,_,_,rfl,az,(),aa,?_,?_,rfl⟩
  ·(show _=lA g' A');unfold lA;first|(rw [e];rfl)|rfl
  ·(show _=nN g' A');unfold nN;first|(rw [e];rfl)|rfl
end GL
namespace GL
theorem G0 (s:ByteArray):aZ (bP s).1=true:=by
 have h0:aZ bM=true:=by decide
 unfold bP
 cases decide (s=⟨#[45]⟩) with
 |true=>exact h0
 |false=>
  cases decide (((bm s 46).length:Int)≠5) with
  |true=>exact h0
  |false=>
   show aZ (qS (bm s 46)).1=true
   unfold qS
   cases k9 (bm s 46) [] with
   |none=>exact h0
   |some n=>
    show aZ (pP n).1=true
    unfold pP
    cases hc: !(aZ (lE n))||au (lE n) with
    |true=>exact h0
    |false=>
     simp only [ZE1] at hc
     exact cL hc.1
theorem Z8:∀{l:List ByteArray}{out o:List Pt}{sm m:Bool},ob l out sm=some (o,m)→(∀p∈out,aZ p=true)→∀p∈o,aZ p=true
 |[],out,o,sm,m,h,ho=>by cases h;exact ho
 |t::l,out,o,sm,m,h,ho=>by
  unfold ob at h
  cases hb:(bP t).2 with
  |true=>
   rw [hb,cond_true] at h
   refine Z8 h fun p hp=>?_
   rcases ZB4.1 hp with hp |hp
   ·exact ho p hp
   ·simp only [ZB8,ZF6,or_false] at hp
    subst hp;exact G0 t
  |false=>rw [hb] at h;cases h
theorem XJ (s:ByteArray):∀p∈(bl s).1,aZ p=true:=by
 unfold bl
 cases hf:ob (bm s 44) [] false with
 |none=>intro p hp;cases hp
 |some r=>
  obtain⟨o,sm⟩:=r
  have:=Z8 hf (fun p hp=>by cases hp)
  show∀p∈(l4 o sm).1,_
  unfold l4
  cases decide ((o.length:Int)≠4)|| !sm with
  |true=>intro p hp;cases hp
  |false=>exact this
theorem wQ (n:Nat):∀p∈cu n,aZ p=true:=by
 intro p hp
 rw [(ZD6.1 hp).2];decide
theorem sL (s:ay) (p:Pt) (lv:Int):∀q∈(bg s p lv).1,aZ q=true:=by
 have h0:∀q∈([]:List Pt),aZ q=true:=fun q h=>by cases h
 unfold bg
 cases au p with
 |true=>exact wQ 4
 |false=>
  cases !(aZ p)||(decide (p.2.2.2.2≠lv)||decide (p.2.1>s.cg)) with
  |true=>exact h0
  |false=>
   cases !(bF s p).2 with
   |true=>exact h0
   |false=>
    show∀q∈(oE p (bl (bF s p).1)).1,aZ q=true
    unfold oE
    cases (bl (bF s p).1).1.any (late p) with
    |true=>exact h0
    |false=>exact XJ _
theorem QF {s:ay}{lv:Int}:∀{l acc n:List Pt},fw s lv l acc=some n→(∀q∈acc,aZ q=true)→∀q∈n,aZ q=true
 |[],acc,n,h,ha=>by cases h;exact ha
 |p::l,acc,n,h,ha=>by
  unfold fw at h
  cases hb:(bg s p lv).2 with
  |true=>
   rw [hb,cond_true] at h
   refine QF h fun q hq=>?_
   rcases ZB4.1 hq with hq |hq
   ·exact ha q hq
   ·exact sL s p lv q hq
  |false=>rw [hb] at h;cases h
theorem ZC {s:ay}:∀{f:Nat}{lv:Int}{l:List Pt},(∀q∈l,aZ q=true)→∀q∈(tB s f lv l).1,aZ q=true
 |0,lv,l,h=>h
 |f+1,lv,l,h=>by
  unfold tB
  cases decide (lv>0) with
  |false=>exact h
  |true=>
   simp only [cond_true]
   cases hs:fw s lv l [] with
   |none=>intro q hq;cases hq
   |some n=>exact ZC (QF hs (fun q hq=>by cases hq))
theorem SR {s:ay}:∀{f:Nat}{lv:Int}{l:List Pt},lv≤2→ahQ lv l.length→(tB s f lv l).1.length≤16
 |0,lv,l,h,hf=>hf.1
 |f+1,lv,l,h,hf=>by
  unfold tB
  cases hc:decide (lv>0) with
  |false=>exact hf.1
  |true=>
   have h1:lv>0:=aJ hc
   simp only [cond_true]
   cases hs:fw s lv l [] with
   |none=>exact ZA7 _
   |some n=>
    have hl:n.length=0+4*l.length:=rW hs
    have h4:=hf.2.1 (by omega)
    refine SR (by omega) ⟨by omega,fun h2=>?_,fun h2=>by omega⟩
    have:=hf.2.2 (by omega)
    omega
structure bf.rd (t:bf):Prop where
 dep:t.depth≤2
 ok:aZ t.root=true
theorem q8 {s:ay}{t:bf}(h:t.rd):(bA s t).1.length≤16:=
 SR h.dep ⟨by show 1≤16;omega,fun _=>by show 1≤4;omega,fun _=>ZB5 _⟩
theorem H3 {s:ay}{t:bf}(h:t.rd):∀q∈(bA s t).1,aZ q=true:=
 ZC fun q hq=>by
  simp only [ZB8,ZF6,or_false] at hq
  subst hq;exact h.ok
def aB (s:ay) (t:bf):List Pt:=(bA s t).1++cu ((16:Int)-(bA s t).1.length).toNat
theorem gh {s:ay}{t:bf}(h:t.rd):(aB s t).length=16:=by
 have:=q8 (s:=s) h
 rw [aB,ZA0,cu,ZG0];omega
theorem lx {s:ay}{t:bf}(h:t.rd):∀q∈aB s t,aZ q=true:=by
 intro q hq
 rcases ZB4.1 hq with hq |hq
 ·exact H3 h q hq
 ·exact wQ _ q hq
theorem oy {l:List Pt}(h:∀q∈l,aZ q=true) (k:Nat):aZ (nth ae l k)=true:=by
 by_cases hk:k<l.length
 ·exact h _ (bR (ek:=ae) hk)
 ·unfold nth;rw [ZD8 (by omega)];decide
theorem nP {p:Pt}(h:aZ p=true):0≤p.1∧p.1<64:=by
 have:=pO h;omega
def fT (S:ay) (t:bf):Prop:=S.rd∧t.rd
def xO (S:ay) (t:bf):AV:=.s (.xs 0 5 0 (aB S t).length)
def B2 (S:ay) (t:bf):List AV:=[.rs ae (aB S t)]
def ew:cn where
 A:=[.a xq,.a [.int,.int,.int,.int,.int,.int,.int]]
 B:=[]
 pre:=fun x b=>fT (x.1) (x.2)
 r:=fun x b _=>xO (x.1) (x.2)
 o:=fun x b _=>B2 (x.1) (x.2)
 nf:=1
theorem lU:Has Tryz.prog 60 ew:=by
 refine Has.fl zT zF zF (l:=[(56,kN),(92,jZ)]) ⟨yz,wL,aa⟩ Tryz.func60 ?_
 rintro⟨⟨(aj:List ByteArray),(ak:List Int),(an:List Int),(ao:Int),(ah:List Pt),(aq:Int),(ai:List Pt),(ar:Bool)⟩,⟨(t1:Int),(t2:Int),(t3:Int),(t4:Int),(t5:Int),(t6:Int),(t7:Int)⟩⟩ _ (hp:fT (aj,ak,an,ao,ah,aq,ai,ar) (t1,t2,t3,t4,t5,t6,t7))
 show vc _ _ _ _ (entry [.a [.vz ab aj,.vz ag ak,.vz ag an,.int ao,.vz ae ah,.int aq,.vz ae ai,.q ar],.a [.int t1,.int t2,.int t3,.int t4,.int t5,.int t6,.int t7]] []) _
 obtain⟨dE,sO⟩:=hp
 have dE:ay.rd (aj,ak,an,ao,ah,aq,ai,ar):=dE
 have sO:bf.rd (t1,t2,t3,t4,t5,t6,t7):=sO
 have hl:=q8 (s:=(aj,ak,an,ao,ah,aq,ai,ar)) sO
 refine⟨⟨⟨tv9,tv8,aa⟩,?_,?_⟩,fun x1 w2=>⟨aa,⟨⟨?_,?_⟩,?_,?_⟩,⟨?_,?_⟩,⟨tv2,?_,?_⟩,fun x3 w4=>⟨⟨⟨?_,?_⟩,?_,?_⟩,?_⟩⟩⟩
 all_goals first|refine aw ?_|refine ax ?_|exact a8|(dsimp only [kN,lJ,jZ,kW];omega)|exact a7|exact dE|exact sO.dep|(show 0+(bA (aj,ak,an,ao,ah,aq,ai,ar) (t1,t2,t3,t4,t5,t6,t7)).1.length≤1048576;omega)|(show ((bA (aj,ak,an,ao,ah,aq,ai,ar) (t1,t2,t3,t4,t5,t6,t7)).1).length+(cu ((16:Int)-((bA (aj,ak,an,ao,ah,aq,ai,ar) (t1,t2,t3,t4,t5,t6,t7)).1.length:Int)).toNat).length≤1048576;rw [cu,ZG0];omega)|skip
 refine⟨[1020],[],_,_,_,rfl,az,(),aa,?_,?_,rfl⟩
 ·(show _=xO (aj,ak,an,ao,ah,aq,ai,ar) (t1,t2,t3,t4,t5,t6,t7));unfold xO;first|(rw [aB,ZA0];rfl)|(rw [aB];rfl)|rfl
 ·(show _=B2 (aj,ak,an,ao,ah,aq,ai,ar) (t1,t2,t3,t4,t5,t6,t7));unfold B2;first|(rw [aB,ZA0];rfl)|(rw [aB];rfl)|rfl
def getM (s:ay) (t:bf) (k:Nat):ByteArray:=(bF s (nth ae (aB s t) k)).1
def BY (S:ay) (t:bf) (k:Int):Prop:=S.rd∧t.rd∧0≤k∧k<16
def A8 (S:ay) (t:bf) (k:Int):AV:=.str (getM S t k.toNat)
def acV (S:ay) (t:bf) (k:Int):List AV:=[]
def PR:cn where
 A:=[.a xq,.a [.int,.int,.int,.int,.int,.int,.int],.s .int]
 B:=[]
 pre:=fun x b=>BY (x.1) (x.2.1) (x.2.2)
 r:=fun x b _=>A8 (x.1) (x.2.1) (x.2.2)
 o:=fun x b _=>acV (x.1) (x.2.1) (x.2.2)
theorem afQ:Has Tryz.prog 41 PR:=by
 refine Has.fl zT zF zF (l:=[(60,ew),(57,ez)]) ⟨lU,lW,aa⟩ Tryz.func41 ?_
 rintro⟨⟨(aj:List ByteArray),(ak:List Int),(an:List Int),(ao:Int),(ah:List Pt),(aq:Int),(ai:List Pt),(ar:Bool)⟩,⟨(t1:Int),(t2:Int),(t3:Int),(t4:Int),(t5:Int),(t6:Int),(t7:Int)⟩,(k:Int)⟩ _ (hp:BY (aj,ak,an,ao,ah,aq,ai,ar) (t1,t2,t3,t4,t5,t6,t7) k)
 show vc _ _ _ _ (entry [.a [.vz ab aj,.vz ag ak,.vz ag an,.int ao,.vz ae ah,.int aq,.vz ae ai,.q ar],.a [.int t1,.int t2,.int t3,.int t4,.int t5,.int t6,.int t7],.int k] []) _
 let g':=(aj,ak,an,ao,ah,aq,ai,ar)
 let A':=(t1,t2,t3,t4,t5,t6,t7)
 obtain⟨dE,sO,h1,h2⟩:=hp
 have dE:ay.rd g':=dE
 have sO:bf.rd A':=sO
 have hl:=gh (s:=g') sO
 have ha:=nP (oy (lx (s:=g') sO) k.toNat)
 have hr:aj.length=64:=dE.len
 refine⟨⟨⟨tv9,tv8,aa⟩,?_,?_⟩,fun x1 w2=>⟨[.s 3,.b 1003],Sq14,rfl,Sq7,Sq15,rfl,Sq2,Sq16,rfl,[.s 15,.s 16],Sq17,rfl,⟨?_,?_⟩,[.s 17,.b 130000],Sq18,rfl,?_,[.s 14,.s 18],Sq19,rfl,⟨⟨tv9,tv6,aa⟩,fun x3 w4=>?_,?_,?_⟩,?_,fun x5 w6=>⟨Sq19,Sq13,rfl,Sq13,Sq20,rfl,Sq13,Sq21,rfl,Sq20,Sq8,rfl,Sq21,Sq9,rfl,?_⟩⟩⟩
 all_goals first|refine aw ?_|refine ax ?_|exact a8|(dsimp only [ew,fT,ez,fU];omega)|exact a7|exact dE|exact sO|exact dE.sz _ (by assumption)|exact ha.1|(show _<(aj.length:Int);rw [hr];exact ha.2)|(show k<((aB g' A').length:Int);omega)|(show k.toNat<(aB g' A').length;omega)|skip
 refine⟨[],[],_,_,_,rfl,az,(),aa,?_,?_,rfl⟩
 ·(show _=A8 g' A' k);unfold A8;first|rfl
 ·rfl
def sS (s:ay) (l:List Pt):List ByteArray:=l.map fun p=>(bF s p).1
def bo (s:ay) (t:bf):List ByteArray:=sS s ((aB s t).take t.many.toNat)
theorem F6 {l:List Pt}{i:Nat}(h:i<l.length):l.take (i+1)=l.take i++[nth ae l i]:=by
 have h1:=oz (ek:=ae) h
 rw [List.take_add_one,h1];rfl
def eE (S:ay) (t:bf):Prop:=S.rd∧t.rd∧0≤t.many∧t.many≤16
def uT (S:ay) (t:bf):AV:=.s (.xs 0 1 0 (bo S t).length)
def yi (S:ay) (t:bf):List AV:=[.rs ab (bo S t)]
def dc:cn where
 A:=[.a xq,.a [.int,.int,.int,.int,.int,.int,.int]]
 B:=[]
 pre:=fun x b=>eE (x.1) (x.2)
 r:=fun x b _=>uT (x.1) (x.2)
 o:=fun x b _=>yi (x.1) (x.2)
 nf:=1
theorem iP:Has Tryz.prog 84 dc:=by
 refine Has.fl zT zF zF (l:=[(60,ew),(57,ez)]) ⟨lU,lW,aa⟩ Tryz.func84 ?_
 rintro⟨⟨(aj:List ByteArray),(ak:List Int),(an:List Int),(ao:Int),(ah:List Pt),(aq:Int),(ai:List Pt),(ar:Bool)⟩,⟨(t1:Int),(t2:Int),(t3:Int),(t4:Int),(t5:Int),(t6:Int),(t7:Int)⟩⟩ _ (hp:eE (aj,ak,an,ao,ah,aq,ai,ar) (t1,t2,t3,t4,t5,t6,t7))
 show vc _ _ _ _ (entry [.a [.vz ab aj,.vz ag ak,.vz ag an,.int ao,.vz ae ah,.int aq,.vz ae ai,.q ar],.a [.int t1,.int t2,.int t3,.int t4,.int t5,.int t6,.int t7]] []) _
 let g':=(aj,ak,an,ao,ah,aq,ai,ar)
 let A':=(t1,t2,t3,t4,t5,t6,t7)
 obtain⟨dE,sO,(h0:0≤t7),(h1:t7≤16)⟩:=hp
 have dE:ay.rd g':=dE
 have sO:bf.rd A':=sO
 have hl:=gh (s:=g') sO
 have hr:aj.length=64:=dE.len
 refine⟨aa,⟨⟨tv9,tv8,aa⟩,?_,?_⟩,fun x1 w2=>?_⟩
 all_goals first|refine aw ?_|refine ax ?_|exact a8|(dsimp only [ew,fT,ez,fU];omega)|exact a7|exact dE|exact sO|skip
 refine cN (l:=[(60,ew),(57,ez)]) (ex:=zT) (wr:=zF) (pt:=zF) ⟨lU,lW,aa⟩ [.s 2,.b 1002,.s 3,.b 1003,.s 6,.b 140000] (fun y:Nat×List ByteArray=>[(.s 5,.s (.xs 1010 1 0 y.2.length)),(.s 7,.int y.1),(.b 1010,.rs ab y.2)]) (fun y=>(y.1:Int)≤t7∧y.2.length=y.1∧y.2=sS g' ((aB g' A').take y.1)) (fun y=>t7.toNat-y.1) (0,[]) [] ⟨h0,rfl,rfl⟩ dL ?_
 rintro⟨i,out⟩ ⟨(hi:(i:Int)≤t7),(hlo:out.length=i),(he:out=sS g' ((aB g' A').take i))⟩
 have ha:=nP (oy (lx (s:=g') sO) i)
 have bU:decide ((i:Int)<t7)=true→i<(aB g' A').length:=fun h=>by have:=aJ h;omega
 refine⟨fun w1=>⟨[.s 2,.b 1002],Sq21,rfl,Sq6,Sq22,rfl,Sq7,Sq23,rfl,[.s 22,.s 23],Sq24,rfl,⟨?_,?_⟩,[.s 24,.b 140000],Sq25,rfl,?_,[.s 21,.s 25],Sq26,rfl,⟨⟨tv9,tv6,aa⟩,fun x2 w3=>?_,?_,?_⟩,?_,fun x4 w5=>⟨Sq26,Sq20,rfl,Sq20,Sq27,rfl,Sq20,Sq28,rfl,Sq27,Sq8,rfl,Sq28,Sq9,rfl,aa,⟨⟨?_,?_⟩,?_,?_⟩,⟨?_,?_⟩,?_⟩⟩,fun w6=>?_⟩
 all_goals first|refine aw ?_|refine ax ?_|exact a8|(dsimp only [ew,fT,ez,fU];omega)|exact a7|exact dE|exact sO|exact dE.sz _ (by assumption)|exact ha.1|(show _<(aj.length:Int);rw [hr];exact ha.2)|exact bU (by assumption)|(show (i:Int)<((aB g' A').length:Int);have:=bU w1;omega)|skip
 ·have e:sS g' ((aB g' A').take (i+1))=out++[(bF g' (nth ae (aB g' A') i)).1]:=by
   rw [F6 (bU w1),sS,List.map_append,←sS,←he];rfl
  refine⟨(i+1,out++[(bF g' (nth ae (aB g' A') i)).1]),[(1010,1032)],?_,?_,?_⟩
  rotate_right
  ·exact bV
  ·exact⟨by have:=aJ w1;show ((i+1:Nat):Int)≤t7;omega,by show List.length (_++_)=_;rw [ZA0,hlo];rfl,e.symm⟩
  ·show t7.toNat-(i+1)<t7.toNat-i;have:=aJ (p:=(i:Int)<t7) w1;omega
 ·have hi2:i=t7.toNat:=by have:=aA (p:=(i:Int)<t7) (by assumption);omega
  have e:bo g' A'=out:=by rw [bo,he,hi2]
  refine⟨[1010],[],_,_,_,rfl,az,(),aa,?_,?_,rfl⟩
  ·(show _=uT g' A');unfold uT;first|(rw [e];rfl)|rfl
  ·(show _=yi g' A');unfold yi;first|(rw [e];rfl)|rfl
end GL
namespace GL
def nR (l:List Pt):Bool:= !(l.any fun p=> !(au p))
def s9 (l:List Pt):Prop:=l.length≤1000000
def pA (l:List Pt):AV:=.q (nR l)
def aa0 (l:List Pt):List AV:=[]
def JR:cn where
 A:=[.s (.vz ae)]
 B:=[]
 pre:=fun x b=>s9 x
 r:=fun x b _=>pA x
 o:=fun x b _=>aa0 x
theorem adK:Has Tryz.prog 134 JR:=by
 refine Has.fl zT zF zF (l:=[(54,cx)]) ⟨cz,aa⟩ Tryz.func134 ?_
 rintro (l:List Pt) _ (hp:s9 l)
 show vc _ _ _ _ (entry [.s (.vz ae l)] []) _
 unfold s9 at hp
 refine cN (l:=[(54,cx)]) (ex:=zT) (wr:=zF) (pt:=zF) ⟨cz,aa⟩ [.s 0] (fun i:Nat=>[(.s 3,.int i)]) (fun i=>i≤l.length∧(l.drop i).any (fun p=> !(au p))=l.any (fun p=> !(au p))) (fun i=>l.length-i) 0 [] ⟨ZA7 _,rfl⟩ dL ?_
 rintro i ⟨hi,hr⟩
 have cm:decide ((i:Int)<(l.length:Int))=true→i<l.length:=fun h=>by have:=aJ h;omega
 have nY:decide ((i:Int)<(l.length:Int))=false→¬i<l.length:=fun h=>by have:=aA h;omega
 refine⟨fun w1=>⟨⟨?_,?_⟩,⟨⟨tv6,aa⟩,aa⟩,fun x2 w3=>⟨fun w4=>?_,fun w5=>⟨⟨?_,?_⟩,?_⟩⟩⟩,fun w6=>?_⟩
 all_goals first|refine aw ?_|refine ax ?_|exact a8|exact a7|skip
 ·have e:nR l=false:=by unfold nR;rw [X5 (cm w1) hr w4];rfl
  refine⟨[],[],_,_,_,rfl,az,(),aa,?_,?_,rfl⟩
  ·(show _=pA l);unfold pA;first|(rw [e];rfl)|rfl
  ·rfl
 ·refine⟨(i+1),[],?_,?_,?_⟩
  rotate_right
  ·exact bV
  ·exact⟨cm w1,afm (cm w1) hr w5⟩
  ·show l.length-(i+1)<l.length-i;have:=cm w1;omega
 ·have e:nR l=true:=by unfold nR;rw [X6 (nY w6) hr];rfl
  refine⟨[],[],_,_,_,rfl,az,(),aa,?_,?_,rfl⟩
  ·(show _=pA l);unfold pA;first|(rw [e];rfl)|rfl
  ·rfl
def q9 (s:ay) (many i:Int) (p:Pt):Bool:= !(bF s p).2||(decide (p.2.2.2.2≠0)||(decide (p.2.1>s.cg)||decide (i≥many)))
def j6 (s:ay) (many:Int):Int→List Pt→Bool
 |_,[]=>true
 |i,p::l=>bif au p then j6 s many (i+1) l else bif q9 s many i p then false else j6 s many (i+1) l
def lS (t:bf):Bool:= !(ig t.many 0 16)||(decide (t.depth≠bj t.many)|| !(aZ t.root))
def qF (s:ay) (t:bf):Bool:=bif lS t then false else bif !(bA s t).2 then false else j6 s t.many 0 (bA s t).1
theorem DR {s:ay}{t:bf}(h:lS t=true):qF s t=false:=by unfold qF;rw [h];rfl
theorem Y3 {s:ay}{t:bf}(h:lS t=false) (h2:(!(bA s t).2)=true):qF s t=false:=by unfold qF;rw [h,h2];rfl
theorem Y2 {s:ay}{t:bf}(h:lS t=false) (h2:(!(bA s t).2)=false):qF s t=j6 s t.many 0 (bA s t).1:=by unfold qF;rw [h,h2];rfl
theorem Y6 {t:bf}(h:(!(ig t.many 0 16))=true):lS t=true:=by unfold lS;rw [h];rfl
theorem Y5 {t:bf}(h:decide (t.depth≠bj t.many)=true):lS t=true:=by unfold lS;rw [h,Bool.true_or,ZC4]
theorem Y4 {t:bf}(h:(!(aZ t.root))=true):lS t=true:=by unfold lS;rw [h,ZC4,ZC4]
theorem zu {t:bf}(h1:(!(ig t.many 0 16))=false) (h2:decide (t.depth≠bj t.many)=false) (h3:(!(aZ t.root))=false):lS t=false:=by unfold lS;rw [h1,h2,h3];rfl
theorem HK {t:bf}(h:lS t=false):t.rd:=by
 unfold lS at h
 simp only [ZE1,decide_eq_false_iff_not,ZE9] at h
 obtain⟨h1,h2,h3⟩:=h
 exact⟨by rw [h2];exact (pe _).2,cL h3⟩
theorem E8 {s:ay}{many i:Int}{p:Pt}{l:List Pt}(h:au p=true):j6 s many i (p::l)=j6 s many (i+1) l:=by rw [j6,h];rfl
theorem wF {s:ay}{many i:Int}{p:Pt}{l:List Pt}(h:au p=false) (hb:q9 s many i p=true):j6 s many i (p::l)=false:=by rw [j6,h,hb];rfl
theorem OU {s:ay}{many i:Int}{p:Pt}{l:List Pt}(h:au p=false) (hb:q9 s many i p=false):j6 s many i (p::l)=j6 s many (i+1) l:=by rw [j6,h,hb];rfl
theorem ZH {s:ay}{many i:Int}{p:Pt}(h:(!(bF s p).2)=true):q9 s many i p=true:=by unfold q9;rw [h];rfl
theorem ZG {s:ay}{many i:Int}{p:Pt}(h:decide (p.2.2.2.2≠0)=true):q9 s many i p=true:=by unfold q9;rw [h,Bool.true_or,ZC4]
theorem ZF {s:ay}{many i:Int}{p:Pt}(h:decide (p.2.1>s.cg)=true):q9 s many i p=true:=by unfold q9;rw [h,Bool.true_or,ZC4,ZC4]
theorem ZE {s:ay}{many i:Int}{p:Pt}(h:decide (i≥many)=true):q9 s many i p=true:=by unfold q9;rw [h,ZC4,ZC4,ZC4]
theorem OV {s:ay}{many i:Int}{p:Pt}(h1:(!(bF s p).2)=false) (h2:decide (p.2.2.2.2≠0)=false) (h3:decide (p.2.1>s.cg)=false) (h4:decide (i≥many)=false):q9 s many i p=false:=by unfold q9;rw [h1,h2,h3,h4];rfl
def zm (S:ay) (t:bf):Prop:=S.rd
def eh (S:ay) (t:bf):AV:=.q (qF S t)
def afw (S:ay) (t:bf):List AV:=[]
def JQ:cn where
 A:=[.a xq,.a [.int,.int,.int,.int,.int,.int,.int]]
 B:=[]
 pre:=fun x b=>zm (x.1) (x.2)
 r:=fun x b _=>eh (x.1) (x.2)
 o:=fun x b _=>afw (x.1) (x.2)
theorem adJ:Has Tryz.prog 23 JQ:=by
 refine Has.fl zT zF zF (l:=[(40,gZ),(55,dC),(53,cX),(56,kN),(54,cx),(57,ez)]) ⟨iy,jR,iz,yz,cz,lW,aa⟩ Tryz.func23 ?_
 rintro⟨⟨(aj:List ByteArray),(ak:List Int),(an:List Int),(ao:Int),(ah:List Pt),(aq:Int),(ai:List Pt),(ar:Bool)⟩,⟨(t1:Int),(t2:Int),(t3:Int),(t4:Int),(t5:Int),(t6:Int),(t7:Int)⟩⟩ _ (hp:zm (aj,ak,an,ao,ah,aq,ai,ar) (t1,t2,t3,t4,t5,t6,t7))
 show vc _ _ _ _ (entry [.a [.vz ab aj,.vz ag ak,.vz ag an,.int ao,.vz ae ah,.int aq,.vz ae ai,.q ar],.a [.int t1,.int t2,.int t3,.int t4,.int t5,.int t6,.int t7]] []) _
 let g':=(aj,ak,an,ao,ah,aq,ai,ar)
 let A':=(t1,t2,t3,t4,t5,t6,t7)
 have dE:ay.rd g':=hp
 have akL:aj.length=64:=dE.len
 refine⟨Sq3,Sq11,rfl,[.s 11,.b 1003],Sq12,rfl,Sq12,Sq13,rfl,⟨tv4,aa⟩,?_,fun x1 w2=>⟨Sq13,Sq14,rfl,Sq14,Sq15,rfl,aa,fun w3=>⟨Sq15,Sq16,rfl,Sq15,Sq17,rfl,Sq15,Sq18,rfl,Sq15,Sq19,rfl,Sq15,Sq20,rfl,Sq15,Sq21,rfl,[.s 15,.s 21],Sq22,rfl,Sq22,Sq23,rfl,Sq23,Sq24,rfl,Sq23,Sq25,rfl,Sq23,Sq26,rfl,Sq23,Sq27,rfl,[.s 23,.s 27],Sq28,rfl,?_⟩,fun w4=>⟨[.s 15,.s 3],Sq16,rfl,[.s 15,.s 16,.b 1003],Sq17,rfl,[.s 15,.s 3],Sq18,rfl,[.s 15,.s 18,.b 1003],Sq19,rfl,[.s 15,.s 19],Sq20,rfl,⟨tv2,aa⟩,?_,fun x5 w6=>⟨[.s 15,.s 17,.s 20],Sq21,rfl,[.s 15,.s 21],Sq22,rfl,Sq22,Sq23,rfl,aa,fun w7=>⟨Sq23,Sq24,rfl,Sq23,Sq25,rfl,Sq23,Sq26,rfl,Sq23,Sq27,rfl,[.s 23,.s 27],Sq28,rfl,?_⟩,fun w8=>⟨[.s 23,.s 3],Sq24,rfl,[.s 23,.s 24,.b 1003],Sq25,rfl,[.s 23,.s 25],Sq26,rfl,⟨⟨tv6,aa⟩,aa⟩,?_,fun x9 dx=>⟨[.s 23,.s 26],Sq27,rfl,[.s 23,.s 27],Sq28,rfl,fun kx=>?_,fun dI=>⟨⟨⟨tv9,tv8,aa⟩,?_,?_⟩,fun rS gN=>⟨fun qG=>?_,fun kc=>?_⟩⟩⟩⟩⟩⟩⟩⟩
 all_goals first|refine aw ?_|refine ax ?_|exact a8|(dsimp only [dC,fc,cX,dY,kN,lJ,ez,fU];omega)|exact a7|exact dE|exact (HK (t:=A') (zu w4 w8 dI)).dep|skip
 ·refine⟨[],[],_,_,_,rfl,az,(),aa,?_,?_,rfl⟩
  ·(show _=eh g' A');unfold eh;first|(rw [DR (s:=g') (t:=A') (Y6 w3)];rfl)|rfl
  ·rfl
 ·refine⟨[],[],_,_,_,rfl,az,(),aa,?_,?_,rfl⟩
  ·(show _=eh g' A');unfold eh;first|(rw [DR (s:=g') (t:=A') (Y5 w7)];rfl)|rfl
  ·rfl
 ·refine⟨[],[],_,_,_,rfl,az,(),aa,?_,?_,rfl⟩
  ·(show _=eh g' A');unfold eh;first|(rw [DR (s:=g') (t:=A') (Y4 kx)];rfl)|rfl
  ·rfl
 ·refine⟨[],[],_,_,_,rfl,az,(),aa,?_,?_,rfl⟩
  ·(show _=eh g' A');unfold eh;first|(rw [Y3 (s:=g') (t:=A') (zu w4 w8 dI) qG];rfl)|rfl
  ·rfl
 ·have hB:=zu (t:=A') w4 w8 dI
  have hM:=Y2 (s:=g') (t:=A') hB kc
  have sO:bf.rd A':=HK hB
  have hl:=q8 (s:=g') sO
  have cG:=H3 (s:=g') sO
  refine cN (l:=[(40,gZ),(55,dC),(53,cX),(56,kN),(54,cx),(57,ez)]) (ex:=zT) (wr:=zF) (pt:=zF) ⟨iy,jR,iz,yz,cz,lW,aa⟩ [.s 2,.b 1002,.s 3,.b 1003,.s 5,.b 330000] (fun i:Nat=>[(.s 7,.int i)]) (fun i=>i≤(bA g' A').1.length∧j6 g' t7 i ((bA g' A').1.drop i)=j6 g' t7 0 (bA g' A').1) (fun i=>(bA g' A').1.length-i) 0 [] ⟨ZA7 _,rfl⟩ dL ?_
  rintro i ⟨hi,hr⟩
  have cm:decide ((i:Int)<((bA g' A').1.length:Int))=true→i<(bA g' A').1.length:=fun h=>by have:=aJ h;omega
  have cO:i<(bA g' A').1.length→(bA g' A').1.drop i=nth ae (bA g' A').1 i::(bA g' A').1.drop (i+1):=fun h=>bW (ek:=ae) h
  have ha:=nP (oy cG i)
  refine⟨fun w1=>⟨⟨?_,?_⟩,?_,⟨⟨tv6,aa⟩,aa⟩,fun x2 w3=>⟨fun w4=>⟨⟨?_,?_⟩,?_⟩,fun w5=>⟨⟨⟨tv9,tv6,aa⟩,fun x6 w7=>?_,?_,?_⟩,fun x8 w9=>⟨aa,fun dx=>?_,fun kx=>⟨aa,fun dI=>?_,fun iS=>⟨aa,fun gN=>?_,fun qG=>⟨fun kc=>?_,fun xd=>⟨⟨?_,?_⟩,?_⟩⟩⟩⟩⟩⟩⟩⟩,fun rO=>?_⟩
  all_goals first|refine aw ?_|refine ax ?_|exact a8|(dsimp only [dC,fc,cX,dY,kN,lJ,ez,fU];omega)|exact a7|exact dE|exact cm w1|exact aJ w1|exact dE.sz _ (by assumption)|exact ha.1|(show _<(aj.length:Int);rw [akL];exact ha.2)|skip
  ·refine⟨(i+1),[],?_,?_,?_⟩
   rotate_right
   ·exact bV
   ·exact⟨cm w1,by rw [←hr,cO (cm w1),E8 (s:=g') (p:=(nth ae (bA g' A').1 i)) w4];rfl⟩
   ·show (bA g' A').1.length-(i+1)<(bA g' A').1.length-i;have:=cm w1;omega
  ·refine⟨[],[],_,_,_,rfl,az,(),aa,?_,?_,rfl⟩
   ·(show _=eh g' A');unfold eh;first|(rw [hM,←hr,cO (cm w1),wF (s:=g') (p:=(nth ae (bA g' A').1 i)) w5 (ZH (s:=g') (p:=(nth ae (bA g' A').1 i)) dx)];rfl)|rfl
   ·rfl
  ·refine⟨[],[],_,_,_,rfl,az,(),aa,?_,?_,rfl⟩
   ·(show _=eh g' A');unfold eh;first|(rw [hM,←hr,cO (cm w1),wF (s:=g') (p:=(nth ae (bA g' A').1 i)) w5 (ZG (s:=g') (p:=(nth ae (bA g' A').1 i)) dI)];rfl)|rfl
   ·rfl
  ·refine⟨[],[],_,_,_,rfl,az,(),aa,?_,?_,rfl⟩
   ·(show _=eh g' A');unfold eh;first|(rw [hM,←hr,cO (cm w1),wF (s:=g') (p:=(nth ae (bA g' A').1 i)) w5 (ZF (s:=g') (p:=(nth ae (bA g' A').1 i)) gN)];rfl)|rfl
   ·rfl
  ·refine⟨[],[],_,_,_,rfl,az,(),aa,?_,?_,rfl⟩
   ·(show _=eh g' A');unfold eh;first|(rw [hM,←hr,cO (cm w1),wF (s:=g') (p:=(nth ae (bA g' A').1 i)) w5 (ZE (s:=g') (p:=(nth ae (bA g' A').1 i)) kc)];rfl)|rfl
   ·rfl
  ·refine⟨(i+1),[],?_,?_,?_⟩
   rotate_right
   ·exact bV
   ·exact⟨cm w1,by rw [←hr,cO (cm w1),OU (s:=g') (p:=(nth ae (bA g' A').1 i)) w5 (OV (s:=g') (p:=(nth ae (bA g' A').1 i)) kx iS qG xd)];rfl⟩
   ·show (bA g' A').1.length-(i+1)<(bA g' A').1.length-i;have:=cm w1;omega
  ·have FF:¬i<(bA g' A').1.length:=by have:=aA (p:=(i:Int)<((bA g' A').1.length:Int)) rO;omega
   have e:j6 g' t7 0 (bA g' A').1=true:=by rw [←hr,ZB3 (by omega)];rfl
   refine⟨[],[],_,_,_,rfl,az,(),aa,?_,?_,rfl⟩
   ·(show _=eh g' A');unfold eh;first|(rw [hM,e];rfl)|rfl
   ·rfl
end GL
end Go.Proofs.YtclcgjhhehbdeaaGreatDoor
