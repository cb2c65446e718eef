/- Part 24 of the proof of a drawn law. -/
import Derived.Test.YtnkbdhldiinfdaaGreatDoorPak
import Derived.Test.YtnkbdhldiinfdaaGreatDoorPao
import Derived.Test.YtnkbdhldiinfdaaGreatDoorPaw
set_option maxHeartbeats 20000000
set_option maxRecDepth 100000
set_option linter.all false
namespace Go.Proofs.YtnkbdhldiinfdaaGreatDoor
namespace GL
theorem su {n:Int}(h0:0≤n) (h1:n≤999999999):cj n=bX n:=by unfold cj;rw [show ik n 0 999999999=true from cC.2 ⟨h0,h1⟩];rfl
theorem VN {p:Pt}(h:aZ p=true) (h2:au p=false):(0≤p.1∧p.1≤999999999)∧(0≤p.2.1∧p.2.1≤999999999)∧(0≤p.2.2.1∧p.2.2.1≤999999999)∧(0≤p.2.2.2.1∧p.2.2.2.1≤999999999)∧(0≤p.2.2.2.2∧p.2.2.2.2≤999999999):=by
 unfold aZ at h
 rw [h2,Bool.false_or] at h
 simp only [ZA9,cC] at h
 omega
theorem agP (a b c d e:ByteArray):lb (zN ⟨#[46]⟩ [a,b,c,d,e])=lb a++46::(lb b++46::(lb c++46::(lb d++46::lb e))):=by
 rw [FE]
 show Lib.join [lb a,lb b,lb c,lb d,lb e] [46]=_
 simp [Lib.join,List.intercalate]
theorem agQ (a b c d:ByteArray):lb (zN ⟨#[44]⟩ [a,b,c,d])=lb a++44::(lb b++44::(lb c++44::lb d)):=by
 rw [FE]
 show Lib.join [lb a,lb b,lb c,lb d] [44]=_
 simp [Lib.join,List.intercalate]
theorem RM {p:Pt}(h:aZ p=true) (h2:au p=false):bc p=zN ⟨#[46]⟩ [cj p.1,cj p.2.1,cj p.2.2.1,cj p.2.2.2.1,cj p.2.2.2.2]:=by
 obtain⟨h1,h3,h4,h5,h6⟩:=VN h h2
 apply vx
 rw [wK h h2,agP,su h1.1 h1.2,su h3.1 h3.2,su h4.1 h4.2,su h5.1 h5.2,su h6.1 h6.2]
def acW (p:Pt):List ByteArray:=[cj p.1,cj p.2.1,cj p.2.2.1,cj p.2.2.2.1,cj p.2.2.2.2]
theorem nU (n:Int):(cj n).size≤12:=by
 unfold cj
 cases h:ik n 0 999999999 with
 |true=>exact db (by have:=(cC.1 h).2;omega)
 |false=>exact ZA7 _
theorem abO (a b c d e:Int):(Lib.join ([cj a,cj b,cj c,cj d,cj e].map (·.data.toList)) (⟨#[46]⟩:ByteArray).data.toList).length≤1000000:=by
 have h:=congrArg List.length (agP (cj a) (cj b) (cj c) (cj d) (cj e))
 have e1:=nU a;have e2:=nU b;have e3:=nU c;have e4:=nU d;have e5:=nU e
 rw [fo] at e1 e2 e3 e4 e5
 rw [FE] at h
 have h':(Lib.join ([cj a,cj b,cj c,cj d,cj e].map (·.data.toList)) (⟨#[46]⟩:ByteArray).data.toList).length=_:=h
 rw [h']
 simp only [ZA0,ZA1]
 omega
def eG (p:Pt):Prop:=True
def jh (p:Pt):AV:=.s (.str (bc p))
def WC (p:Pt):List AV:=[]
def eR:cn where
 A:=[.a [.int,.int,.int,.int,.int]]
 B:=[]
 pre:=λx b=>eG x
 r:=λx b _=>jh x
 o:=λx b _=>WC x
theorem wT:Has Tryz.prog 131 eR:=by
 refine Has.zB zT zF zF (l:=[(56,bG),(55,cB),(171,eC),(130,gn),(158,J6)]) ⟨eO,jt,zK,CR,PJ,aa⟩ Tryz.func131 ?_
 rintro⟨(p1:Int),(p2:Int),(p3:Int),(p4:Int),(p5:Int)⟩ _ (hp:eG (p1,p2,p3,p4,p5))
 show vc _ _ _ _ (entry [.a [.int p1,.int p2,.int p3,.int p4,.int p5]] []) _
 let g':=(p1,p2,p3,p4,p5)
 let A':=(1019,1025)
 refine⟨⟨⟨tv6,aa⟩,aa⟩,λx1 w2=>⟨λw3=>?_,λw4=>⟨⟨⟨tv6,aa⟩,aa⟩,λx5 w6=>⟨λw7=>?_,λw8=>⟨⟨⟨tv2,aa⟩,λx9 dy=>?_⟩,λkz dJ=>?_⟩⟩⟩⟩⟩
 all_goals first|refine aw ?_|refine ax ?_|exact a8|(dsimp only [bG,cb,cB,cR,eC,dI,gn,fG];omega)|exact a7|skip
 ·have e:bc g'=⟨#[]⟩:=by unfold bc;rw [show aZ g'=false from xm w3];rfl
  refine⟨[],[],_,_,_,ζ,az,(),aa,?_,?_,ζ⟩
  ·(show _=jh g');unfold jh;first|(rw [e];rfl)|rfl
  ·rfl
 ·have e:bc g'=⟨#[45]⟩:=qV w7
  refine⟨[],[],_,_,_,ζ,az,(),aa,?_,?_,ζ⟩
  ·(show _=jh g');unfold jh;first|(rw [e];rfl)|rfl
  ·rfl
 ·have cG:aZ g'=true:=cL w4
  have hho:au g'=false:=w8
  refine lW (l:=[(56,bG),(55,cB),(171,eC),(130,gn),(158,J6)]) (ex:=zT) (wr:=zF) (pt:=zF) ⟨eO,jt,zK,CR,PJ,aa⟩ [.s 13,.s 14,.b 1001,.b 140000] (λn:Nat=>match n with |0=>[(.s 3,.s (.v (.slice none 0 0))),(.s 15,.int 0)] |n+1=>[(.s 3,.s (.xs 1019 1 0 (n+1))),(.s 15,.int ((n+1:Nat):Int)),(.b 1019,.rs ab ((acW g').take (n+1)))]) (λn=>n≤5) (λn=>5-n) 0 [] (ZA7 _) dM ?_
  rintro n (hn:n≤5)
  have h5:n=0∨n=1∨n=2∨n=3∨n=4∨n=5:=by omega
  rcases h5 with rfl |rfl |rfl |rfl |rfl |rfl
  ·refine⟨λw1=>⟨⟨?_,?_⟩,⟨tv2,aa⟩,λx2 w3=>⟨aa,⟨⟨?_,?_⟩,?_,?_⟩,⟨?_,?_⟩,?_⟩⟩,λw4=>⟨⟨tv3,?_,?_⟩,λx5 w6=>?_⟩⟩
   all_goals first|(exfalso;simp only [decide_eq_true_eq,decide_eq_false_iff_not] at *;omega)|refine aw ?_|refine ax ?_|exact a8|(dsimp only [bG,cb,cB,cR,eC,dI,gn,fG];omega)|exact a7|(show (0:Nat)+1≤1048576;omega)|skip
   ·refine⟨(1),[A'],?_,?_,?_⟩
    rotate_right
    ·exact bV
    ·show (1:Nat)≤5;omega
    ·show 5-1<5-0;omega
  ·refine⟨λw1=>⟨⟨?_,?_⟩,⟨tv2,aa⟩,λx2 w3=>⟨aa,⟨⟨?_,?_⟩,?_,?_⟩,⟨?_,?_⟩,?_⟩⟩,λw4=>⟨⟨⟨⟨?_,?_⟩,tv2⟩,?_,?_⟩,λx5 w6=>?_⟩⟩
   all_goals first|(exfalso;simp only [decide_eq_true_eq,decide_eq_false_iff_not] at *;omega)|refine aw ?_|refine ax ?_|exact a8|(dsimp only [bG,cb,cB,cR,eC,dI,gn,fG];omega)|exact a7|(show (1:Nat)+1≤1048576;omega)|skip
   ·refine⟨(2),[A'],?_,?_,?_⟩
    rotate_right
    ·exact bV
    ·show (2:Nat)≤5;omega
    ·show 5-2<5-1;omega
  ·refine⟨λw1=>⟨⟨?_,?_⟩,⟨tv2,aa⟩,λx2 w3=>⟨aa,⟨⟨?_,?_⟩,?_,?_⟩,⟨?_,?_⟩,?_⟩⟩,λw4=>⟨⟨⟨⟨?_,?_⟩,tv2⟩,?_,?_⟩,λx5 w6=>?_⟩⟩
   all_goals first|(exfalso;simp only [decide_eq_true_eq,decide_eq_false_iff_not] at *;omega)|refine aw ?_|refine ax ?_|exact a8|(dsimp only [bG,cb,cB,cR,eC,dI,gn,fG];omega)|exact a7|(show (2:Nat)+1≤1048576;omega)|skip
   ·refine⟨(3),[A'],?_,?_,?_⟩
    rotate_right
    ·exact bV
    ·show (3:Nat)≤5;omega
    ·show 5-3<5-2;omega
  ·refine⟨λw1=>⟨⟨?_,?_⟩,⟨tv2,aa⟩,λx2 w3=>⟨aa,⟨⟨?_,?_⟩,?_,?_⟩,⟨?_,?_⟩,?_⟩⟩,λw4=>⟨⟨⟨⟨?_,?_⟩,tv2⟩,?_,?_⟩,λx5 w6=>?_⟩⟩
   all_goals first|(exfalso;simp only [decide_eq_true_eq,decide_eq_false_iff_not] at *;omega)|refine aw ?_|refine ax ?_|exact a8|(dsimp only [bG,cb,cB,cR,eC,dI,gn,fG];omega)|exact a7|(show (3:Nat)+1≤1048576;omega)|skip
   ·refine⟨(4),[A'],?_,?_,?_⟩
    rotate_right
    ·exact bV
    ·show (4:Nat)≤5;omega
    ·show 5-4<5-3;omega
  ·refine⟨λw1=>⟨⟨?_,?_⟩,⟨tv2,aa⟩,λx2 w3=>⟨aa,⟨⟨?_,?_⟩,?_,?_⟩,⟨?_,?_⟩,?_⟩⟩,λw4=>⟨⟨⟨⟨?_,?_⟩,tv2⟩,?_,?_⟩,λx5 w6=>?_⟩⟩
   all_goals first|(exfalso;simp only [decide_eq_true_eq,decide_eq_false_iff_not] at *;omega)|refine aw ?_|refine ax ?_|exact a8|(dsimp only [bG,cb,cB,cR,eC,dI,gn,fG];omega)|exact a7|(show (4:Nat)+1≤1048576;omega)|skip
   ·refine⟨(5),[A'],?_,?_,?_⟩
    rotate_right
    ·exact bV
    ·show (5:Nat)≤5;omega
    ·show 5-5<5-4;omega
  ·refine⟨λw1=>⟨⟨?_,?_⟩,?_⟩,λw2=>⟨⟨⟨⟨?_,?_⟩,tv2⟩,?_,?_⟩,λx3 w4=>?_⟩⟩
   all_goals first|(exfalso;simp only [decide_eq_true_eq,decide_eq_false_iff_not] at *;omega)|refine aw ?_|refine ax ?_|exact a8|(dsimp only [bG,cb,cB,cR,eC,dI,gn,fG];omega)|exact a7|(exact abO p1 p2 p3 p4 p5)|(show (5:Nat)≤1000000;omega)|skip
   ·have e:bc g'=zN ⟨#[46]⟩ (acW g'):=RM cG hho
    refine⟨[],[],_,_,_,ζ,az,(),aa,?_,?_,ζ⟩
    ·(show _=jh g');unfold jh;first|(rw [e];rfl)|rfl
    ·rfl
end GL
namespace GL
def X5 (c:UInt8):List (List UInt8)→List UInt8
 |[]=>[]
 |[x]=>x
 |x::y::l=>x++c::X5 c (y::l)
theorem NJ (c:UInt8):∀l:List UInt8,X5 c (mj c l)=l
 |[]=>rfl
 |x::l=>by
  have ih:=NJ c l
  rw [r4]
  split
  ·rename_i hx
   cases e:mj c l with
   |nil=>exact absurd e (zh c l)
   |cons w a=>rw [e] at ih;show []++c::X5 c (w::a)=_;rw [ih,hx];rfl
  ·cases e:mj c l with
   |nil=>exact absurd e (zh c l)
   |cons w a=>
    rw [e] at ih
    cases a with
    |nil=>show x::w=_;rw [show w=l from ih]
    |cons v a=>show x::(w++c::X5 c (v::a))=_;rw [show w++c::X5 c (v::a)=l from ih]
theorem aar (s:ByteArray) (c:UInt8) {l:List ByteArray}(h:bm s c.toNat=l):X5 c (l.map lb)=lb s:=by
 rw [←h,JR];exact NJ c _
theorem CC:∀(l:List ByteArray) (acc:List Int) (j:Nat),j<l.length→(aD (nth ab l j)).2=false→lg l acc=none
 |t::l,acc,0,_,h=>by rw [lg,show (aD t).2=false from h];rfl
 |t::l,acc,j+1,hj,h=>by
  rw [lg]
  cases (aD t).2 with
  |false=>rfl
  |true=>exact CC l _ j (by simpa using hj) h
theorem vq {t:ByteArray}(h:(aD t).2=true):aD t=((aD t).1,true):=by rw [←h]
def OD (l:List ByteArray):Pt:=((aD (nth ab l 0)).1,(aD (nth ab l 1)).1,(aD (nth ab l 2)).1,(aD (nth ab l 3)).1,(aD (nth ab l 4)).1)
theorem G4 {s:ByteArray}(h0:decide (s=⟨#[45]⟩)=false) (h5:(bm s 46).length=5) (hk:∀j,j<5→(aD (nth ab (bm s 46) j)).2=true):bP s=bif decide (bc (OD (bm s 46))≠s) then (bM,false) else (OD (bm s 46),true):=by
 rw [sa h0 (by rw [h5];rfl)]
 have hs0:s≠⟨#[45]⟩:=aA h0
 have aen:=λl h=>aar s 46 (l:=l) h
 have fA:s≠⟨#[]⟩:=by
  rintro rfl
  exact absurd h5 (by decide)
 change (∀l,bm s 46=l→X5 46 (l.map lb)=lb s) at aen
 match hl:bm s 46,h5 with
 |[a,b,c,d,e],_=>
  rw [hl] at hk
  have ha:=vq (t:=a) (hk 0 (by omega))
  have hb:=vq (t:=b) (hk 1 (by omega))
  have hc:=vq (t:=c) (hk 2 (by omega))
  have hd:=vq (t:=d) (hk 3 (by omega))
  have he:=vq (t:=e) (hk 4 (by omega))
  have hn:lg [a,b,c,d,e] []=some [(aD a).1,(aD b).1,(aD c).1,(aD d).1,(aD e).1]:=by
   simp [lg,show (aD a).2=true from hk 0 (by omega),show (aD b).2=true from hk 1 (by omega),show (aD c).2=true from hk 2 (by omega),show (aD d).2=true from hk 3 (by omega),show (aD e).2=true from hk 4 (by omega)]
  rw [BY hn]
  show pU [(aD a).1,(aD b).1,(aD c).1,(aD d).1,(aD e).1]=bif decide (bc (lH [(aD a).1,(aD b).1,(aD c).1,(aD d).1,(aD e).1])≠s) then (bM,false) else (lH [(aD a).1,(aD b).1,(aD c).1,(aD d).1,(aD e).1],true)
  generalize hp:lH [(aD a).1,(aD b).1,(aD c).1,(aD d).1,(aD e).1]=p
  have hf:∀r,lH [(aD a).1,(aD b).1,(aD c).1,(aD d).1,(aD e).1]=r→r=p:=λr h=>h ▸ hp
  cases hh:au p with
  |true=>
   rw [RO (by rw [hp];exact hh),qV hh,decide_eq_true (p:=¬(⟨#[45]⟩:ByteArray)=s) (λh=>hs0 h.symm)];rfl
  |false=>
   cases ho:aZ p with
   |false=>
    rw [RP (by rw [hp,ho];rfl),show bc p=⟨#[]⟩ by unfold bc;rw [ho];rfl,decide_eq_true (p:=¬(⟨#[]⟩:ByteArray)=s) (λh=>fA h.symm)];rfl
   |true=>
    rw [G6 (by rw [hp,ho];rfl) (by rw [hp];exact hh),hp]
    have e1:bc p=s:=by
     apply vx
     rw [wK ho hh,←aen _ hl]
     have q1:=(num_inv ha).1;have q2:=(num_inv hb).1;have q3:=(num_inv hc).1;have q4:=(num_inv hd).1;have q5:=(num_inv he).1
     rw [show p.1=(aD a).1 by rw [←hp];rfl,show p.2.1=(aD b).1 by rw [←hp];rfl,show p.2.2.1=(aD c).1 by rw [←hp];rfl,show p.2.2.2.1=(aD d).1 by rw [←hp];rfl,show p.2.2.2.2=(aD e).1 by rw [←hp];rfl,←q1,←q2,←q3,←q4,←q5]
     rfl
    rw [decide_eq_false (p:=¬bc p=s) (λh=>h e1)];rfl
def akF (l:List ByteArray) (n:Nat):List SV:=[.int (bif Nat.blt 0 n then (aD (nth ab l 0)).1 else 0),.int (bif Nat.blt 1 n then (aD (nth ab l 1)).1 else 0),.int (bif Nat.blt 2 n then (aD (nth ab l 2)).1 else 0),.int (bif Nat.blt 3 n then (aD (nth ab l 3)).1 else 0),.int (bif Nat.blt 4 n then (aD (nth ab l 4)).1 else 0)]
def ld (s:ByteArray):Prop:=s.size≤1000000
def cI (s:ByteArray):AV:=.t [ptA (bP s).1,.s (.q (bP s).2)]
def WD (s:ByteArray):List AV:=[]
def pq:cn where
 A:=[.s .str]
 B:=[]
 pre:=λx b=>ld x
 r:=λx b _=>cI x
 o:=λx b _=>WD x
theorem MF:Has Tryz.prog 193 pq:=by
 refine Has.zB zT zF zF (l:=[(192,AF),(171,eC),(164,iT),(131,eR)]) ⟨FH,zK,MG,wT,aa⟩ Tryz.func193 ?_
 rintro (s:ByteArray) _ (hp:ld s)
 show vc _ _ _ _ (entry [.str s] []) _
 unfold ld at hp
 have hsp:ia s ⟨#[46]⟩=bm s 46:=QO s 46
 refine⟨λw1=>?_,λw2=>⟨⟨tv3,?_,?_⟩,λx3 w4=>⟨⟨⟨tv2,aa⟩,λx5 w6=>?_⟩,λx7 w8=>⟨λw9=>?_,λdy=>?_⟩⟩⟩⟩
 all_goals first|refine aw ?_|refine ax ?_|exact a8|(dsimp only [eC,dI,iT,gw,eR,eG];omega)|exact a7|(show 1≤(1:Nat);omega)|skip
 ·refine⟨[],[],_,_,_,ζ,az,(),aa,?_,?_,ζ⟩
  ·(show _=cI s);unfold cI;first|(rw [wD (by assumption)];rfl)|rfl
  ·rfl
 ·have e:=w9
  rw [hsp] at e
  refine⟨[],[],_,_,_,ζ,az,(),aa,?_,?_,ζ⟩
  ·(show _=cI s);unfold cI;first|(rw [B0 w2 e];rfl)|rfl
  ·rfl
 ·have h0:=w2
  rw [hsp] at dy
  have h5:(bm s 46).length=5:=by have:=aA (p:=((bm s 46).length:Int)≠5) dy;omega
  refine lW (l:=[(192,AF),(171,eC),(164,iT),(131,eR)]) (ex:=zT) (wr:=zF) (pt:=zF) ⟨FH,zK,MG,wT,trivial⟩ [.s 0,.s 2,.b 1002,.s 4,.s 6,.b 170000,.s 23,.s 24] (λn:Nat=>[(.s 25,.int n),(.b 1004,.a (akF (ia s ⟨#[46]⟩) n))]) (λn=>n≤5∧∀j,j<n→(aD (nth ab (ia s ⟨#[46]⟩) j)).2=true) (λn=>5-n) 0 [] ⟨ZA7 _,λj hj=>absurd hj (by omega)⟩ dM ?_
  rintro n ⟨(hn:n≤5),hk⟩
  have dj:∀n,n<5→(nth ab (ia s ⟨#[46]⟩) n).size≤1000000:=λn h=>by rw [hsp];exact ZB0 (oX (s:=s) (c:=46) _ (bR (ek:=ab) (by omega))) hp
  have hL:((ia s ⟨#[46]⟩).length:Int)=5:=by rw [hsp,h5];rfl
  have iC:∀n,n<5→(!(aD (nth ab (ia s ⟨#[46]⟩) n)).2)=true→bP s=(bM,false):=λn hn h=>by
   rw [hsp] at h
   rw [sa h0 dy,BZ (CC _ [] n (by rw [h5];exact hn) (xm h))]
  have cO:∀n,(∀j,j<n→(aD (nth ab (ia s ⟨#[46]⟩) j)).2=true)→(!(aD (nth ab (ia s ⟨#[46]⟩) n)).2)=false→∀j,j<n+1→(aD (nth ab (ia s ⟨#[46]⟩) j)).2=true:=λn h h2 j hj=>by
   by_cases hjn:j=n
   ·rw [hjn];exact cL h2
   ·exact h j (by omega)
  have af9:(∀j,j<5→(aD (nth ab (ia s ⟨#[46]⟩) j)).2=true)→bP s=bif decide (bc (OD (ia s ⟨#[46]⟩))≠s) then (bM,false) else (OD (ia s ⟨#[46]⟩),true):=by
   rw [hsp];exact G4 h0 h5
  have h6:n=0∨n=1∨n=2∨n=3∨n=4∨n=5:=by omega
  rcases h6 with rfl |rfl |rfl |rfl |rfl |rfl
  ·refine⟨λw1=>⟨⟨?_,?_⟩,⟨tv2,?_⟩,λx2 w3=>⟨λw4=>?_,λw5=>⟨⟨?_,?_⟩,⟨?_,?_⟩,?_⟩⟩⟩,λw6=>⟨⟨⟨tv6,aa⟩,aa⟩,λx7 w8=>⟨λw9=>?_,λdy=>?_⟩⟩⟩
   all_goals first|(exfalso;simp only [decide_eq_true_eq,decide_eq_false_iff_not] at *;omega)|refine aw ?_|refine ax ?_|exact a8|(dsimp only [eC,dI,iT,gw,eR,eG];omega)|exact a7|exact dj 0 (by omega)|skip
   ·refine⟨[],[],_,_,_,ζ,az,(),aa,?_,?_,ζ⟩
    ·(show _=cI s);unfold cI;first|(rw [iC 0 (by omega) w4];rfl)|rfl
    ·rfl
   ·refine⟨(1),[],?_,?_,?_⟩
    rotate_right
    ·exact bV
    ·exact⟨by omega,cO 0 hk w5⟩
    ·show 5-1<5-0;omega
  ·refine⟨λw1=>⟨⟨?_,?_⟩,⟨tv2,?_⟩,λx2 w3=>⟨λw4=>?_,λw5=>⟨⟨?_,?_⟩,⟨?_,?_⟩,?_⟩⟩⟩,λw6=>⟨⟨⟨tv6,aa⟩,aa⟩,λx7 w8=>⟨λw9=>?_,λdy=>?_⟩⟩⟩
   all_goals first|(exfalso;simp only [decide_eq_true_eq,decide_eq_false_iff_not] at *;omega)|refine aw ?_|refine ax ?_|exact a8|(dsimp only [eC,dI,iT,gw,eR,eG];omega)|exact a7|exact dj 1 (by omega)|skip
   ·refine⟨[],[],_,_,_,ζ,az,(),aa,?_,?_,ζ⟩
    ·(show _=cI s);unfold cI;first|(rw [iC 1 (by omega) w4];rfl)|rfl
    ·rfl
   ·refine⟨(2),[],?_,?_,?_⟩
    rotate_right
    ·exact bV
    ·exact⟨by omega,cO 1 hk w5⟩
    ·show 5-2<5-1;omega
  ·refine⟨λw1=>⟨⟨?_,?_⟩,⟨tv2,?_⟩,λx2 w3=>⟨λw4=>?_,λw5=>⟨⟨?_,?_⟩,⟨?_,?_⟩,?_⟩⟩⟩,λw6=>⟨⟨⟨tv6,aa⟩,aa⟩,λx7 w8=>⟨λw9=>?_,λdy=>?_⟩⟩⟩
   all_goals first|(exfalso;simp only [decide_eq_true_eq,decide_eq_false_iff_not] at *;omega)|refine aw ?_|refine ax ?_|exact a8|(dsimp only [eC,dI,iT,gw,eR,eG];omega)|exact a7|exact dj 2 (by omega)|skip
   ·refine⟨[],[],_,_,_,ζ,az,(),aa,?_,?_,ζ⟩
    ·(show _=cI s);unfold cI;first|(rw [iC 2 (by omega) w4];rfl)|rfl
    ·rfl
   ·refine⟨(3),[],?_,?_,?_⟩
    rotate_right
    ·exact bV
    ·exact⟨by omega,cO 2 hk w5⟩
    ·show 5-3<5-2;omega
  ·refine⟨λw1=>⟨⟨?_,?_⟩,⟨tv2,?_⟩,λx2 w3=>⟨λw4=>?_,λw5=>⟨⟨?_,?_⟩,⟨?_,?_⟩,?_⟩⟩⟩,λw6=>⟨⟨⟨tv6,aa⟩,aa⟩,λx7 w8=>⟨λw9=>?_,λdy=>?_⟩⟩⟩
   all_goals first|(exfalso;simp only [decide_eq_true_eq,decide_eq_false_iff_not] at *;omega)|refine aw ?_|refine ax ?_|exact a8|(dsimp only [eC,dI,iT,gw,eR,eG];omega)|exact a7|exact dj 3 (by omega)|skip
   ·refine⟨[],[],_,_,_,ζ,az,(),aa,?_,?_,ζ⟩
    ·(show _=cI s);unfold cI;first|(rw [iC 3 (by omega) w4];rfl)|rfl
    ·rfl
   ·refine⟨(4),[],?_,?_,?_⟩
    rotate_right
    ·exact bV
    ·exact⟨by omega,cO 3 hk w5⟩
    ·show 5-4<5-3;omega
  ·refine⟨λw1=>⟨⟨?_,?_⟩,⟨tv2,?_⟩,λx2 w3=>⟨λw4=>?_,λw5=>⟨⟨?_,?_⟩,⟨?_,?_⟩,?_⟩⟩⟩,λw6=>⟨⟨⟨tv6,aa⟩,aa⟩,λx7 w8=>⟨λw9=>?_,λdy=>?_⟩⟩⟩
   all_goals first|(exfalso;simp only [decide_eq_true_eq,decide_eq_false_iff_not] at *;omega)|refine aw ?_|refine ax ?_|exact a8|(dsimp only [eC,dI,iT,gw,eR,eG];omega)|exact a7|exact dj 4 (by omega)|skip
   ·refine⟨[],[],_,_,_,ζ,az,(),aa,?_,?_,ζ⟩
    ·(show _=cI s);unfold cI;first|(rw [iC 4 (by omega) w4];rfl)|rfl
    ·rfl
   ·refine⟨(5),[],?_,?_,?_⟩
    rotate_right
    ·exact bV
    ·exact⟨by omega,cO 4 hk w5⟩
    ·show 5-5<5-4;omega
  ·refine⟨λw1=>⟨⟨?_,?_⟩,⟨tv2,?_⟩,λx2 w3=>⟨λw4=>?_,λw5=>⟨⟨?_,?_⟩,?_⟩⟩⟩,λw6=>⟨⟨⟨tv6,aa⟩,aa⟩,λx7 w8=>⟨λw9=>?_,λdy=>?_⟩⟩⟩
   all_goals first|(exfalso;simp only [decide_eq_true_eq,decide_eq_false_iff_not] at *;omega)|refine aw ?_|refine ax ?_|exact a8|(dsimp only [eC,dI,iT,gw,eR,eG];omega)|exact a7|skip
   ·have e:bP s=(bM,false):=by rw [af9 hk,show decide (bc (OD (ia s ⟨#[46]⟩))≠s)=true from w9];rfl
    refine⟨[],[],_,_,_,ζ,az,(),aa,?_,?_,ζ⟩
    ·(show _=cI s);unfold cI;first|(rw [e];rfl)|rfl
    ·rfl
   ·have e:bP s=(OD (ia s ⟨#[46]⟩),true):=by rw [af9 hk,show decide (bc (OD (ia s ⟨#[46]⟩))≠s)=false from dy];rfl
    refine⟨[],[],_,_,_,ζ,az,(),aa,?_,?_,ζ⟩
    ·(show _=cI s);unfold cI;first|(rw [e];rfl)|rfl
    ·rfl
end GL
namespace GL
def oR (p:Pt):Prop:=True
def s9 (p:Pt):AV:=.s (.q (!(au p)))
def R8 (p:Pt):List AV:=[]
def qB:cn where
 A:=[.a [.int,.int,.int,.int,.int]]
 B:=[]
 pre:=λx b=>oR x
 r:=λx b _=>s9 x
 o:=λx b _=>R8 x
theorem IL:Has Tryz.prog 157 qB:=by
 refine Has.zB zT zF zF (l:=[(56,bG)]) ⟨eO,aa⟩ Tryz.func157 ?_
 rintro⟨(p1:Int),(p2:Int),(p3:Int),(p4:Int),(p5:Int)⟩ _ (hp:oR (p1,p2,p3,p4,p5))
 show vc _ _ _ _ (entry [.a [.int p1,.int p2,.int p3,.int p4,.int p5]] []) _
 refine⟨⟨⟨tv6,aa⟩,aa⟩,λx1 w2=>?_⟩
 all_goals first|refine aw ?_|refine ax ?_|exact a8|(dsimp only [bG,cb];omega)|exact a7|skip
 refine⟨[],[],_,_,_,ζ,az,(),aa,?_,?_,ζ⟩
 ·(show _=s9 (p1,p2,p3,p4,p5));unfold s9;first|rfl
 ·rfl
def oy:List Pt→Nat→Int
 |[],_=> -1
 |p::l,i=>bif au p then oy l (i+1) else i
theorem uv {b:Bool}(h:(!b)=true):b=false:=by cases b with
 |false=>rfl
 |true=>cases h
def oB (l:List Pt):Prop:=l.length≤1000000
def iL (l:List Pt):AV:=.s (.int (oy l 0))
def HK (l:List Pt):List AV:=[]
def rO:cn where
 A:=[.s (.vz ae),.fn 157 []]
 B:=[]
 pre:=λx b=>oB (x.1)
 r:=λx b _=>iL (x.1)
 o:=λx b _=>HK (x.1)
theorem K1:Has Tryz.prog 194 rO:=by
 refine Has.zB zT zF zF (l:=[(157,qB)]) ⟨IL,aa⟩ Tryz.func194 ?_
 rintro⟨(l:List Pt),_⟩ _ (hp:oB l)
 show vc _ _ _ _ (entry [.s (.vz ae l),.fn 157 []] []) _
 have hp:l.length≤1000000:=hp
 refine ?_
 all_goals first|refine aw ?_|refine ax ?_|exact a8|(dsimp only [qB,oR];omega)|exact a7|skip
 refine lW (l:=[(157,qB)]) (ex:=zT) (wr:=zF) (pt:=zF) ⟨IL,aa⟩ [.s 0,.s 1,.s 6,.s 7] (λi:Nat=>[(.s 8,.int i)]) (λi=>i≤l.length∧oy (l.drop i) i=oy l 0) (λi=>l.length-i) 0 [] ⟨ZA7 _,rfl⟩ dM ?_
 rintro i ⟨(hi:i≤l.length),(hr:oy (l.drop i) i=oy l 0)⟩
 have cO:i<l.length→l.drop i=nth ae l i::l.drop (i+1):=λh=>bW (ek:=ae) h
 have cm:decide ((i:Int)<(l.length:Int))=true→i<l.length:=λh=>by have:=aJ h;omega
 refine⟨λw1=>⟨⟨?_,?_⟩,⟨⟨tv6,aa⟩,aa⟩,λx2 w3=>⟨λw4=>?_,λw5=>⟨⟨?_,?_⟩,?_⟩⟩⟩,λw6=>?_⟩
 all_goals first|refine aw ?_|refine ax ?_|exact a8|(dsimp only [qB,oR];omega)|exact a7|(show (i:Int)+1≤9223372036854775807;omega)|skip
 ·have e:oy l 0=(i:Int):=by rw [←hr,cO (cm w1),oy,show au (nth ae l i)=false from uv w4];rfl
  refine⟨[],[],_,_,_,ζ,az,(),aa,?_,?_,ζ⟩
  ·(show _=iL l);unfold iL;first|(rw [e];rfl)|rfl
  ·rfl
 ·refine⟨(i+1),[],?_,?_,?_⟩
  rotate_right
  ·exact bV
  ·refine⟨cm w1,?_⟩
   rw [←hr,cO (cm w1),oy,show au (nth ae l i)=true from cL w5];rfl
  ·show l.length-(i+1)<l.length-i;have:=cm w1;omega
 ·have e:oy l 0= -1:=by rw [←hr,ZB3 (by have:=aA w6;omega)];rfl
  refine⟨[],[],_,_,_,ζ,az,(),aa,?_,?_,ζ⟩
  ·(show _=iL l);unfold iL;first|(rw [e];rfl)|rfl
  ·rfl
theorem GI:∀(l:List Pt) (i:Nat),decide (oy l i≥0)=l.any (λp=> !(au p))
 |[],_=>rfl
 |p::l,i=>by
  rw [oy,List.any_cons]
  cases au p with
  |true=>exact GI l (i+1)
  |false=>show decide ((i:Int)≥0)=true;exact decide_eq_true (Int.natCast_nonneg i)
def kk (l:List Pt):Prop:=l.length≤1000000
def rE (l:List Pt):AV:=.s (.q (l.any (λp=> !(au p))))
def OP (l:List Pt):List AV:=[]
def lr:cn where
 A:=[.s (.vz ae),.fn 157 []]
 B:=[]
 pre:=λx b=>kk (x.1)
 r:=λx b _=>rE (x.1)
 o:=λx b _=>OP (x.1)
theorem D3:Has Tryz.prog 152 lr:=by
 refine Has.zB zT zF zF (l:=[(194,rO)]) ⟨K1,aa⟩ Tryz.func152 ?_
 rintro⟨(l:List Pt),_⟩ _ (hp:kk l)
 show vc _ _ _ _ (entry [.s (.vz ae l),.fn 157 []] []) _
 have hp:l.length≤1000000:=hp
 refine⟨⟨tv3,?_⟩,λx1 w2=>?_⟩
 all_goals first|refine aw ?_|refine ax ?_|exact a8|(dsimp only [rO,oB];omega)|exact a7|exact hp|skip
 refine⟨[],[],_,_,_,ζ,az,(),aa,?_,?_,ζ⟩
 ·(show _=rE l);unfold rE;first|(rw [←GI l 0];rfl)|rfl
 ·rfl
theorem JE {l:List Pt}(h:(bE l).2=false):bE l=(⟨#[]⟩,false):=by
 cases h0:decide ((l.length:Int)≠4) with
 |true=>exact wY h0
 |false=>
  rw [wX h0] at h ⊢
  match e:gX l 0 ⟨#[]⟩ false with
  |none=>exact pj e
  |some (o,sm)=>
   rw [sF e] at h ⊢
   cases hs: !sm with
   |true=>exact C5 hs
   |false=>rw [wZ hs] at h;cases h
theorem PO {l:List Pt}(h0:decide ((l.length:Int)≠4)=false) (h:l.any (λp=> !(au p))=false):bE l=(⟨#[]⟩,false):=by
 cases h2:(bE l).2 with
 |true=>
  obtain⟨a,b,c,d,rfl,ha,hb,hc,hd,hs,_⟩:=l7 h2
  simp only [List.any_cons,List.any_nil,Bool.or_false] at h
  simp_all
 |false=>exact JE h2
def ox (l:List Pt) (n:Nat):List ByteArray:=(l.take n).map bc
theorem DM {l:List Pt}{n:Nat}(h:n<l.length):ox l (n+1)=ox l n++[bc (nth ae l n)]:=by
 unfold ox
 rw [List.take_succ,oD (ek:=ae) h,List.map_append];rfl
theorem XL {l:List Pt}(h4:l.length=4) (n:Nat) (hn:n<4) (h:aZ (nth ae l n)=false):bE l=(⟨#[]⟩,false):=by
 cases h2:(bE l).2 with
 |true=>
  obtain⟨a,b,c,d,rfl,ha,hb,hc,hd,_⟩:=l7 h2
  have h6:n=0∨n=1∨n=2∨n=3:=by omega
  rcases h6 with rfl |rfl |rfl |rfl
  ·exact absurd (ha.symm.trans h) (by decide)
  ·exact absurd (hb.symm.trans h) (by decide)
  ·exact absurd (hc.symm.trans h) (by decide)
  ·exact absurd (hd.symm.trans h) (by decide)
 |false=>exact JE h2
theorem aaG {l:List Pt}(h4:l.length=4):(Lib.join ((ox l 4).map (·.data.toList)) (⟨#[44]⟩:ByteArray).data.toList).length≤1000000:=by
 match l,h4 with
 |[a,b,c,d],_=>
  have h:=congrArg List.length (agQ (bc a) (bc b) (bc c) (bc d))
  have e1:=gu a;have e2:=gu b;have e3:=gu c;have e4:=gu d
  rw [fo] at e1 e2 e3 e4
  rw [FE] at h
  have h':(Lib.join ((ox [a,b,c,d] 4).map (·.data.toList)) (⟨#[44]⟩:ByteArray).data.toList).length=_:=h
  rw [h']
  simp only [ZA0,ZA1]
  omega
theorem T3 {l:List Pt}(h4:l.length=4) (hs:l.any (λp=> !(au p))=true) (hk:∀j,j<4→aZ (nth ae l j)=true):bE l=(zN ⟨#[44]⟩ (ox l 4),true):=by
 have h2:(bE l).2=true:=vK h4 (λp hp=>by
  obtain⟨j,hj,rfl⟩:=List.getElem_of_mem hp
  have:=hk j (by omega)
  unfold nth at this;rw [ZB1 hj] at this;exact this) (by rw [hs];rfl)
 obtain⟨a,b,c,d,rfl,ha,hb,hc,hd,_,hl⟩:=l7 h2
 have e:(bE [a,b,c,d]).1=zN ⟨#[44]⟩ (ox [a,b,c,d] 4):=vx (by rw [hl];exact (agQ _ _ _ _).symm)
 rw [←e,←h2]
def nN (l:List Pt):Prop:=True
def fb (l:List Pt):AV:=.t [.s (.str (bE l).1),.s (.q (bE l).2)]
def WH (l:List Pt):List AV:=[]
def pv:cn where
 A:=[.s (.vz ae)]
 B:=[]
 pre:=λx b=>nN x
 r:=λx b _=>fb x
 o:=λx b _=>WH x
theorem MH:Has Tryz.prog 116 pv:=by
 refine Has.zB zT zF zF (l:=[(152,lr),(55,cB),(131,eR),(158,J6)]) ⟨D3,jt,wT,PJ,aa⟩ Tryz.func116 ?_
 rintro (l:List Pt) _ (hp:nN l)
 show vc _ _ _ _ (entry [.s (.vz ae l)] []) _
 have h4:decide ((l.length:Int)≠4)=false→l.length=4:=λh=>by have:=aA h;omega
 refine⟨aa,λw1=>?_,λw2=>⟨⟨tv3,?_⟩,λx3 w4=>⟨λw5=>?_,λw6=>?_⟩⟩⟩
 all_goals first|refine aw ?_|refine ax ?_|exact a8|(dsimp only [lr,kk,cB,cR,eR,eG];omega)|exact a7|(show l.length≤1000000;have:=h4 (by assumption);omega)|skip
 ·refine⟨[],[],_,_,_,ζ,az,(),aa,?_,?_,ζ⟩
  ·(show _=fb l);unfold fb;first|(rw [wY w1];rfl)|rfl
  ·rfl
 ·have e:bE l=(⟨#[]⟩,false):=PO w2 (uv w5)
  refine⟨[],[],_,_,_,ζ,az,(),aa,?_,?_,ζ⟩
  ·(show _=fb l);unfold fb;first|(rw [e];rfl)|rfl
  ·rfl
 ·have hl:=h4 w2
  have hs:l.any (λp=> !(au p))=true:=cL w6
  refine lW (l:=[(152,lr),(55,cB),(131,eR),(158,J6)]) (ex:=zT) (wr:=zF) (pt:=zF) ⟨D3,jt,wT,PJ,trivial⟩ [.s 0,.s 15,.s 16] (λy:Nat×List ByteArray=>match y.1 with |0=>[(.s 4,.s (.v (.slice none 0 0))),(.s 17,.int 0)] |n+1=>[(.s 4,.s (.xs 1019 1 0 y.2.length)),(.s 17,.int ((n+1:Nat):Int)),(.b 1019,.rs ab y.2)]) (λy=>y.1≤4∧y.2=ox l y.1∧∀j,j<y.1→aZ (nth ae l j)=true) (λy=>4-y.1) (0,[]) [] ⟨ZA7 _,rfl,λj hj=>absurd hj (by omega)⟩ dM ?_
  rintro⟨n,T⟩ ⟨(hn:n≤4),(hT:T=ox l n),hk⟩
  have hlen:T.length≤4:=by rw [hT];unfold ox;rw [ZG5,ZB9];omega
  have iC:∀n,n<4→(!(aZ (nth ae l n)))=true→bE l=(⟨#[]⟩,false):=λn hn h=>XL hl n hn (uv h)
  have cO:∀n,(∀j,j<n→aZ (nth ae l j)=true)→(!(aZ (nth ae l n)))=false→∀j,j<n+1→aZ (nth ae l j)=true:=λn h h2 j hj=>by
   by_cases hjn:j=n
   ·rw [hjn];exact cL h2
   ·exact h j (by omega)
  cases n with
  |zero=>
   refine⟨λw1=>⟨⟨?_,?_⟩,⟨⟨tv6,aa⟩,aa⟩,λx2 w3=>⟨λw4=>?_,λw5=>⟨⟨⟨tv6,aa⟩,aa⟩,λx6 w7=>⟨aa,⟨⟨?_,?_⟩,?_,?_⟩,⟨?_,?_⟩,?_⟩⟩⟩⟩,λw8=>⟨⟨tv3,?_,?_⟩,λx9 dy=>?_⟩⟩
   all_goals first|(exfalso;simp only [decide_eq_true_eq,decide_eq_false_iff_not] at *;omega)|refine aw ?_|refine ax ?_|exact a8|(dsimp only [lr,kk,cB,cR,eR,eG];omega)|exact a7|skip
   ·refine⟨[],[],_,_,_,ζ,az,(),aa,?_,?_,ζ⟩
    ·(show _=fb l);unfold fb;first|(rw [iC 0 (by omega) w4];rfl)|rfl
    ·rfl
   ·refine⟨(1,[bc (nth ae l 0)]),[(1019,1028)],?_,?_,?_⟩
    rotate_right
    ·exact bV
    ·exact⟨by show 1≤4;omega,(by show _=ox l (0+1);rw [DM (by omega)];rfl),cO 0 hk w5⟩
    ·show 4-1<4-0;omega
  |succ n=>
   have cm:decide (((n+1:Nat):Int)<(l.length:Int))=true→n+1<4:=λh=>by have:=aJ h;omega
   have hj:n+1=4→(Lib.join (T.map (·.data.toList)) (⟨#[44]⟩:ByteArray).data.toList).length≤1000000:=λh=>by rw [hT,h];exact aaG hl
   have ob:decide (((n+1:Nat):Int)<(l.length:Int))=false→n+1=4:=λh=>by have:=aA h;omega
   refine⟨λw1=>⟨⟨?_,?_⟩,⟨⟨tv6,aa⟩,aa⟩,λx2 w3=>⟨λw4=>?_,λw5=>⟨⟨⟨tv6,aa⟩,aa⟩,λx6 w7=>⟨aa,⟨⟨?_,?_⟩,?_,?_⟩,⟨?_,?_⟩,?_⟩⟩⟩⟩,λw8=>⟨⟨⟨⟨?_,?_⟩,tv2⟩,?_,?_⟩,λx9 dy=>?_⟩⟩
   all_goals first|(exfalso;simp only [decide_eq_true_eq,decide_eq_false_iff_not] at *;omega)|refine aw ?_|refine ax ?_|exact a8|(dsimp only [lr,kk,cB,cR,eR,eG];omega)|exact a7|(show T.length+1≤1048576;omega)|exact hj (ob w8)|(show T.length≤1000000;omega)|skip
   ·refine⟨[],[],_,_,_,ζ,az,(),aa,?_,?_,ζ⟩
    ·(show _=fb l);unfold fb;first|(rw [iC (n+1) (cm w1) w4];rfl)|rfl
    ·rfl
   ·have bU:=cm w1
    refine⟨(n+2,T++[bc (nth ae l (n+1))]),[(1019,1028)],?_,?_,?_⟩
    rotate_right
    ·exact bV
    ·exact⟨by show n+2≤4;omega,by show _=ox l (n+1+1);rw [DM (by omega),hT],cO (n+1) hk w5⟩
    ·show 4-(n+2)<4-(n+1);omega
   ·have e:bE l=(zN ⟨#[44]⟩ T,true):=by rw [hT,ob w8];exact T3 hl hs (by rw [←ob w8];exact hk)
    refine⟨[],[],_,_,_,ζ,az,(),aa,?_,?_,ζ⟩
    ·(show _=fb l);unfold fb;first|(rw [e];rfl)|rfl
    ·rfl
end GL
namespace GL
theorem VO {s:ByteArray}(h:(bP s).2=true):bc (bP s).1=s:=by
 cases h0:decide (s=⟨#[45]⟩) with
 |true=>rw [wD h0,aJ h0];rfl
 |false=>
  cases h5:decide (((bm s 46).length:Int)≠5) with
  |true=>rw [B0 h0 h5] at h;cases h
  |false=>
   have hl:(bm s 46).length=5:=by have:=aA (p:=((bm s 46).length:Int)≠5) h5;omega
   have hk:∀j,j<5→(aD (nth ab (bm s 46) j)).2=true:=λj hj=>by
    cases hb:(aD (nth ab (bm s 46) j)).2 with
    |true=>rfl
    |false=>rw [sa h0 h5,BZ (CC _ [] j (by rw [hl];exact hj) hb)] at h;cases h
   have e:=G4 h0 hl hk
   cases hd:decide (bc (OD (bm s 46))≠s) with
   |true=>rw [e,hd] at h;cases h
   |false=>
    rw [e,hd]
    exact ZE9.1 (aA (p:=¬bc (OD (bm s 46))=s) hd)
def qQ (t:ByteArray):Pt:=(bP t).1
theorem T6:∀{l:List ByteArray}{out o:List Pt}{sm sm':Bool},oh l out sm=some (o,sm')→o=out++l.map qQ∧(∀t∈l,(bP t).2=true)∧sm'=(sm||(l.map qQ).any (λp=> !(au p)))
 |[],out,o,sm,sm',h=>by
  unfold oh at h;cases h;simp
 |t::l,out,o,sm,sm',h=>by
  unfold oh at h
  cases ht:(bP t).2 with
  |false=>rw [ht] at h;cases h
  |true=>
   rw [ht] at h
   obtain⟨h1,h2,h3⟩:=T6 (l:=l) h
   refine⟨by rw [h1];simp [qQ],?_,by rw [h3];simp [qQ,Bool.or_assoc]⟩
   intro t' ht'
   rcases ZB8.1 ht' with rfl |h'
   ·exact ht
   ·exact h2 t' h'
theorem XQ {s:ByteArray}(h:(bl s).2=false):bl s=([],false):=by
 match e:oh (bm s 44) [] false with
 |none=>exact w0 e
 |some (o,sm)=>
  rw [jX e] at h ⊢
  cases h4:decide ((o.length:Int)≠4) with
  |true=>exact zZ h4
  |false=>
   cases hs: !sm with
   |true=>exact zY hs
   |false=>rw [vM h4 hs] at h;cases h
theorem yT {s:ByteArray}(h:(bl s).2=true):(bm s 44).length=4∧(bl s).1=(bm s 44).map qQ∧(∀t∈bm s 44,(bP t).2=true)∧bE ((bm s 44).map qQ)=(s,true):=by
 match e:oh (bm s 44) [] false with
 |none=>rw [w0 e] at h;cases h
 |some (o,sm)=>
  rw [jX e] at h ⊢
  obtain⟨h1,h2,h3⟩:=T6 e
  rw [ZD0] at h1
  cases h4:decide ((o.length:Int)≠4) with
  |true=>rw [zZ h4] at h;cases h
  |false=>
   cases hs: !sm with
   |true=>rw [zY hs] at h;cases h
   |false=>
    rw [vM h4 hs]
    have hol:o.length=4:=by have:=aA (p:=(o.length:Int)≠4) h4;omega
    have hl:(bm s 44).length=4:=by rw [h1,ZG5] at hol;exact hol
    refine⟨hl,h1,h2,?_⟩
    have aln:((bm s 44).map qQ).any (λp=> !(au p))=true:=by rw [Bool.false_or] at h3;rw [←h3];exact cL hs
    have hy:(bE ((bm s 44).map qQ)).2=true:=vK (by rw [ZG5];exact hl) (λp hp=>by
     obtain⟨t,_,rfl⟩:=List.mem_map.1 hp
     exact G5 t) (by rw [aln];rfl)
    obtain⟨a,b,c,d,he,_,_,_,_,_,hlb⟩:=l7 hy
    have aen:=aar s 44 (l:=bm s 44) rfl
    match TP:bm s 44,hl with
    |[w,x,y,z],_=>
     rw [TP] at he hlb h2 hy aen
     have hi:∀t∈[w,x,y,z],bc (qQ t)=t:=λt ht=>VO (h2 t ht)
     injection he with ea he;injection he with eb he;injection he with ec he;injection he with ed he
     rw [←ea,←eb,←ec,←ed,hi w (by simp),hi x (by simp),hi y (by simp),hi z (by simp)] at hlb
     have e1:(bE (List.map qQ [w,x,y,z])).1=s:=vx (by rw [hlb,←aen];rfl)
     rw [←e1,←hy]
theorem XO {s:ByteArray}{n:Nat}(hn:n<(bm s 44).length) (h:(!(bP (nth ab (bm s 44) n)).2)=true):(bl s).2=false:=by
 cases h2:(bl s).2 with
 |false=>rfl
 |true=>
  obtain⟨_,_,h3,_⟩:=yT h2
  have:=h3 _ (bR (ek:=ab) hn)
  rw [this] at h;cases h
theorem T5 {s:ByteArray}(h:(bm s 44).length≠4):(bl s).2=false:=by
 cases h2:(bl s).2 with
 |false=>rfl
 |true=>exact absurd (yT h2).1 h
theorem XN {s:ByteArray}{l:List Pt}(hl:l=(bm s 44).map qQ) (h:(bE l).2=false∨(bE l).1≠s):(bl s).2=false:=by
 cases h2:(bl s).2 with
 |false=>rfl
 |true=>
  have e:=(yT h2).2.2.2
  rw [←hl] at e
  rcases h with h |h
  ·rw [e] at h;cases h
  ·rw [e] at h;exact absurd rfl h
theorem MQ {l:List ByteArray}{n:Nat}(h:n<l.length):(l.take (n+1)).map qQ=(l.take n).map qQ++[qQ (nth ab l n)]:=by
 rw [List.take_succ,oD (ek:=ab) h,List.map_append];rfl
def q8 (s:ByteArray):Prop:=s.size≤1000000
def RT (s:ByteArray) (z:Bool):Prop:=z=(bl s).2
def cU (s:ByteArray) (z:Bool):AV:=.t [match z with |true=>.s (.xs 0 5 0 (bl s).1.length) |false=>.s (.v (.slice none 0 0)),.s (.q z)]
def dv (s:ByteArray) (z:Bool):List AV:=match z with |true=>[.rs ae (bl s).1] |false=>[.zz]
def DG:cn where
 A:=[.s .str]
 B:=[]
 pre:=λx b=>q8 x
 α:=λ_ _=>Bool
 φ:=λx b z=>RT x z
 r:=λx b z=>cU x z
 o:=λx b z=>dv x z
 nf:=1
theorem abN:Has Tryz.prog 151 DG:=by
 refine Has.WR zT zF zF (l:=[(192,AF),(193,pq),(116,pv)]) ⟨FH,MF,MH,aa⟩ Tryz.func151 ?_
 rintro (s:ByteArray) _ (hp:q8 s)
 show vc _ _ _ _ (entry [.str s] []) _
 unfold q8 at hp
 have hsp:ia s ⟨#[44]⟩=bm s 44:=QO s 44
 have hL:(ia s ⟨#[44]⟩).length≤s.size+1:=by rw [hsp];exact (tW s 44).2
 refine⟨⟨tv3,?_,?_⟩,λx1 w2=>?_⟩
 all_goals first|refine aw ?_|refine ax ?_|exact a8|(dsimp only [pq,ld,pv,nN];omega)|exact a7|(show 1≤(1:Nat);omega)|skip
 have dj:∀n,n<(ia s ⟨#[44]⟩).length→(nth ab (ia s ⟨#[44]⟩) n).size≤1000000:=λn h=>by rw [hsp] at *;exact ZB0 (oX (s:=s) (c:=44) _ (bR (ek:=ab) h)) hp
 have iC:∀n,n<(ia s ⟨#[44]⟩).length→(!(bP (nth ab (ia s ⟨#[44]⟩) n)).2)=true→false=(bl s).2:=λn hn h=>by rw [hsp] at *;exact (XO hn h).symm
 have ajn:(ia s ⟨#[44]⟩).length≠4→false=(bl s).2:=λh=>by rw [hsp] at h;exact (T5 h).symm
 have I1:∀l,l=(ia s ⟨#[44]⟩).map qQ→((bE l).2=false∨(bE l).1≠s)→false=(bl s).2:=λl hl h=>by rw [hsp] at hl;exact (XN hl h).symm
 refine lW (l:=[(192,AF),(193,pq),(116,pv)]) (ex:=zT) (wr:=zF) (pt:=zF) ⟨FH,MF,MH,aa⟩ [.s 0,.s 12,.s 13] (λy:Nat×List Pt=>match y.1 with |0=>[(.s 4,.s (.v (.slice none 0 0))),(.s 14,.int 0)] |n+1=>[(.s 4,.s (.xs 1019 5 0 y.2.length)),(.s 14,.int ((n+1:Nat):Int)),(.b 1019,.rs ae y.2)]) (λy=>y.1≤(ia s ⟨#[44]⟩).length∧y.1≤4∧y.2=((ia s ⟨#[44]⟩).take y.1).map qQ) (λy=>4-y.1) (0,[]) [] ⟨ZA7 _,ZA7 _,rfl⟩ dM ?_
 rintro⟨n,T⟩ ⟨(hn:n≤(ia s ⟨#[44]⟩).length),(hn4:n≤4),(hT:T=((ia s ⟨#[44]⟩).take n).map qQ)⟩
 have hlen:T.length=n:=by rw [hT,ZG5,ZB9];omega
 have cm:∀m:Nat,decide ((m:Int)<((ia s ⟨#[44]⟩).length:Int))=true→m<(ia s ⟨#[44]⟩).length:=λm h=>by have:=aJ h;omega
 have ob:decide ((n:Int)<((ia s ⟨#[44]⟩).length:Int))=false→T=(ia s ⟨#[44]⟩).map qQ:=λh=>by
  have:=aA h
  rw [hT,ZD1 (by omega)]
 have ajt:(!(bE T).2)=false→decide ((bE T).1≠s)=false→bl s=(T,true):=λh h2=>by
  have e:(bE T).1=s:=ZE9.1 (aA (p:=¬(bE T).1=s) h2)
  rw [←e];exact EC (cL h)
 cases n with
 |zero=>
  have hT0:T=[]:=hT
  subst hT0
  refine⟨λw1=>⟨⟨?_,?_⟩,⟨tv2,?_⟩,λx2 w3=>⟨aa,λw4=>?_,λw5=>⟨λw6=>?_,λw7=>⟨aa,⟨⟨?_,?_⟩,?_,?_⟩,⟨?_,?_⟩,?_⟩⟩⟩⟩,λw8=>⟨⟨tv2,aa⟩,λx9 dy=>⟨aa,λkA=>?_,λdJ=>⟨λiU=>?_,λgO=>?_⟩⟩⟩⟩
  all_goals first|(exfalso;simp only [decide_eq_true_eq,decide_eq_false_iff_not] at *;omega)|refine aw ?_|refine ax ?_|exact a8|(dsimp only [pq,ld,pv,nN];omega)|exact a7|exact dj 0 (cm 0 w1)|skip
  ·refine⟨[],[],_,_,_,ζ,az,false,1,(iC 0 (cm 0 w1) w4),?_,?_,ζ⟩
   ·(show _=cU s false);unfold cU;first|(rw [rfl];rfl)|rfl
   ·(show _=dv s false);unfold dv;first|(rw [rfl];rfl)|rfl
  ·refine⟨(1,[qQ (nth ab (ia s ⟨#[44]⟩) 0)]),[(1019,1033)],?_,?_,?_⟩
   rotate_right
   ·exact bV
   ·exact⟨cm 0 w1,by show 1≤4;omega,by show _=((ia s ⟨#[44]⟩).take (0+1)).map qQ;rw [MQ (cm 0 w1)];rfl⟩
   ·show 4-1<4-0;omega
  ·refine⟨[],[],_,_,_,ζ,az,false,1,(I1 [] (ob w8) (.inl (uv kA))),?_,?_,ζ⟩
   ·(show _=cU s false);unfold cU;first|(rw [rfl];rfl)|rfl
   ·(show _=dv s false);unfold dv;first|(rw [rfl];rfl)|rfl
  ·refine⟨[],[],_,_,_,ζ,az,false,1,(I1 [] (ob w8) (.inr (aJ iU))),?_,?_,ζ⟩
   ·(show _=cU s false);unfold cU;first|(rw [rfl];rfl)|rfl
   ·(show _=dv s false);unfold dv;first|(rw [rfl];rfl)|rfl
  ·exact absurd dJ (by decide)
 |succ n=>
  refine⟨λw1=>⟨⟨?_,?_⟩,⟨tv2,?_⟩,λx2 w3=>⟨aa,λw4=>?_,λw5=>⟨λw6=>?_,λw7=>⟨aa,⟨⟨?_,?_⟩,?_,?_⟩,⟨?_,?_⟩,?_⟩⟩⟩⟩,λw8=>⟨⟨⟨⟨?_,?_⟩,aa⟩,aa⟩,λx9 dy=>⟨aa,λkA=>?_,λdJ=>⟨λiU=>?_,λgO=>?_⟩⟩⟩⟩
  all_goals first|(exfalso;simp only [decide_eq_true_eq,decide_eq_false_iff_not] at *;omega)|refine aw ?_|refine ax ?_|exact a8|(dsimp only [pq,ld,pv,nN];omega)|exact a7|exact dj (n+1) (cm (n+1) w1)|skip
  ·refine⟨[],[],_,_,_,ζ,az,false,1,(iC (n+1) (cm (n+1) w1) w4),?_,?_,ζ⟩
   ·(show _=cU s false);unfold cU;first|(rw [rfl];rfl)|rfl
   ·(show _=dv s false);unfold dv;first|(rw [rfl];rfl)|rfl
  ·have h4:T.length=4:=by have:=aJ (p:=(T.length:Int)=4) w6;omega
   refine⟨[],[],_,_,_,ζ,az,false,1,(ajn (by have:=cm (n+1) w1;omega)),?_,?_,ζ⟩
   ·(show _=cU s false);unfold cU;first|(rw [rfl];rfl)|rfl
   ·(show _=dv s false);unfold dv;first|(rw [rfl];rfl)|rfl
  ·have h4:T.length≠4:=by have:=aA (p:=(T.length:Int)=4) w7;omega
   refine⟨(n+2,T++[qQ (nth ab (ia s ⟨#[44]⟩) (n+1))]),[(1019,1033)],?_,?_,?_⟩
   rotate_right
   ·exact bV
   ·exact⟨cm (n+1) w1,by show n+2≤4;omega,by show _=((ia s ⟨#[44]⟩).take (n+1+1)).map qQ;rw [MQ (cm (n+1) w1),hT]⟩
   ·show 4-(n+2)<4-(n+1);omega
  ·refine⟨[],[],_,_,_,ζ,az,false,1,(I1 T (ob w8) (.inl (uv kA))),?_,?_,ζ⟩
   ·(show _=cU s false);unfold cU;first|(rw [rfl];rfl)|rfl
   ·(show _=dv s false);unfold dv;first|(rw [rfl];rfl)|rfl
  ·refine⟨[],[],_,_,_,ζ,az,false,1,(I1 T (ob w8) (.inr (aJ iU))),?_,?_,ζ⟩
   ·(show _=cU s false);unfold cU;first|(rw [rfl];rfl)|rfl
   ·(show _=dv s false);unfold dv;first|(rw [rfl];rfl)|rfl
  ·have e:=ajt dJ gO
   refine⟨[1019],[],_,_,_,ζ,az,true,0,(show true=(bl s).2 by rw [e]),?_,?_,ζ⟩
   ·(show _=cU s true);unfold cU;first|(rw [e];rfl)|rfl
   ·(show _=dv s true);unfold dv;first|(rw [e];rfl)|rfl
end GL
namespace GL
def iv (n:Int):Prop:=True
def s6 (n:Int):AV:=.int (bj n)
def R3 (n:Int):List AV:=[]
def gM:cn where
 A:=[.s .int]
 B:=[]
 pre:=λx b=>iv x
 r:=λx b _=>s6 x
 o:=λx b _=>R3 x
theorem tJ:Has Tryz.prog 54 gM:=by
 refine Has.zB zT zF zF (l:=[]) trivial Tryz.func54 ?_
 rintro (n:Int) _ (hp:iv n)
 show vc _ _ _ _ (entry [.int n] []) _
 refine⟨λw1=>?_,λw2=>⟨λw3=>?_,λw4=>?_⟩⟩
 all_goals first|refine aw ?_|refine ax ?_|exact a8|exact a7|skip
 all_goals
  refine⟨[],[],_,_,_,ζ,az,(),aa,?_,?_,ζ⟩
  ·(show _=s6 n);unfold s6;first|((simp only [bj, *];rfl))|rfl
  ·rfl
def k9 (S:ay) (p:Pt):Prop:=S.szs∧S.rows.length=64∧aZ p=true
def mH (S:ay) (p:Pt):AV:=.t [.s (.str (bF S p).1),.s (.q (bF S p).2)]
def ada (S:ay) (p:Pt):List AV:=[]
def kF:cn where
 A:=[.vs xv,.a [.int,.int,.int,.int,.int]]
 B:=[]
 pre:=λx b=>k9 (x.1) (x.2)
 r:=λx b _=>mH (x.1) (x.2)
 o:=λx b _=>ada (x.1) (x.2)
theorem zJ:Has Tryz.prog 33 kF:=by
 refine Has.zB zT zF zF (l:=[(56,bG),(68,yY)]) ⟨eO,W8,aa⟩ Tryz.func33 ?_
 rintro⟨⟨(aj:List ByteArray),(ak:List Int),(an:List Int),(ao:Int),(ah:List Pt),(aq:Int),(ai:List Pt),(ar:Bool)⟩,⟨(p1:Int),(p2:Int),(p3:Int),(p4:Int),(p5:Int)⟩⟩ _ (hp:k9 (aj,ak,an,ao,ah,aq,ai,ar) (p1,p2,p3,p4,p5))
 show vc _ _ _ _ (entry [.s (.vs [.vz ab aj,.vz ag ak,.vz ag an,.v (.int .i64 ao),.vz ae ah,.v (.int .i64 aq),.vz ae ai,.q ar] 0),.a [.int p1,.int p2,.int p3,.int p4,.int p5]] []) _
 obtain⟨h1,(hlen:aj.length=64),cG⟩:=hp
 have cG:aZ (p1,p2,p3,p4,p5)=true:=cG
 have xD:au (p1,p2,p3,p4,p5)=false→0≤p1∧p1<64:=λh=>by
  have:=pT cG;dsimp only at this;omega
 have dj:au (p1,p2,p3,p4,p5)=false→(nth ab aj p1.toNat).size≤1000000000:=λh=>ZB0 (h1 _ (bR (ek:=ab) (show p1.toNat<aj.length by have:=xD h;omega))) (by omega)
 refine⟨⟨⟨tv6,aa⟩,aa⟩,λx1 w2=>⟨λw3=>?_,λw4=>⟨[.s 3,.b 1003],Sq10,ζ,Sq0,Sq11,ζ,Sq11,Sq12,ζ,Sq12,Sq13,ζ,Sq13,Sq14,ζ,Sq3,Sq15,ζ,[.s 15,.b 1003],Sq16,ζ,[.s 14,.s 16],Sq17,ζ,⟨?_,?_⟩,Sq17,Sq18,ζ,[.s 10,.s 18],Sq19,ζ,⟨⟨tv6,tv2⟩,?_⟩,?_,λx5 w6=>⟨Sq19,Sq20,ζ,Sq20,Sq9,ζ,λw7=>?_,λw8=>⟨Sq0,Sq21,ζ,Sq21,Sq22,ζ,Sq22,Sq23,ζ,Sq23,Sq24,ζ,Sq3,Sq25,ζ,[.s 25,.b 1003],Sq26,ζ,[.s 24,.s 26],Sq27,ζ,⟨?_,?_⟩,Sq27,Sq28,ζ,Sq28,Sq4,ζ,[],Sq5,ζ,?_⟩⟩⟩⟩⟩
 all_goals first|refine aw ?_|refine ax ?_|exact a8|(dsimp only [bG,cb,yY,tm];omega)|exact a7|exact dj w4|exact (xD w4).1|(have:=(xD w4).2;show p1<(aj.length:Int);omega)|skip
 ·refine⟨[],[],_,_,_,ζ,az,(),aa,?_,?_,ζ⟩
  ·(show _=mH (aj,ak,an,ao,ah,aq,ai,ar) (p1,p2,p3,p4,p5));unfold mH;first|(rw [fT w3];rfl)|rfl
  ·rfl
 ·refine⟨[],[],_,_,_,ζ,az,(),aa,?_,?_,ζ⟩
  ·(show _=mH (aj,ak,an,ao,ah,aq,ai,ar) (p1,p2,p3,p4,p5));unfold mH;first|(rw [LP w4 (KA w7)];rfl)|rfl
  ·rfl
 ·refine⟨[],[],_,_,_,ζ,az,(),aa,?_,?_,ζ⟩
  ·(show _=mH (aj,ak,an,ao,ah,aq,ai,ar) (p1,p2,p3,p4,p5));unfold mH;first|(rw [yc w4 (oH w8)];rfl)|rfl
  ·rfl
def wF (k:Pt) (p:Pt):Prop:=True
def BI (k:Pt) (p:Pt):AV:=.s (.q (late p k))
def HJ (k:Pt) (p:Pt):List AV:=[.a [.int p.1,.int p.2.1,.int p.2.2.1,.int p.2.2.2.1,.int p.2.2.2.2]]
def AD:cn where
 A:=[.a [.int,.int,.int,.int,.int],.b 0]
 B:=[.a [.int,.int,.int,.int,.int]]
 pre:=λx b=>wF (x.1) b
 r:=λx b _=>BI (x.1) b
 o:=λx b _=>HJ (x.1) b
 ro:=true
theorem ZU:Has Tryz.prog 153 AD:=by
 refine Has.zB zT zF zF (l:=[]) trivial Tryz.func153 ?_
 rintro⟨⟨(k1:Int),(k2:Int),(k3:Int),(k4:Int),(k5:Int)⟩,_⟩ ⟨(p1:Int),(p2:Int),(p3:Int),(p4:Int),(p5:Int)⟩ (hp:wF (k1,k2,k3,k4,k5) (p1,p2,p3,p4,p5))
 show vc _ _ _ _ (entry [.a [.int k1,.int k2,.int k3,.int k4,.int k5],.s (.bp 0 0)] [.a [.int p1,.int p2,.int p3,.int p4,.int p5]]) _
 refine ?_
 all_goals first|refine aw ?_|refine ax ?_|exact a8|exact a7|skip
 refine⟨[],[],_,_,_,ζ,az,(),aa,?_,?_,ζ⟩
 ·(show _=BI (k1,k2,k3,k4,k5) (p1,p2,p3,p4,p5));unfold BI;first|rfl
 ·(show _=HJ (k1,k2,k3,k4,k5) (p1,p2,p3,p4,p5));unfold HJ;first|rfl
def ux (p:Pt):List Pt→Nat→Int
 |[],_=> -1
 |q::l,i=>bif late p q then i else ux p l (i+1)
def qc (l:List Pt) (f:Pt):Prop:=l.length≤1000000
def ji (l:List Pt) (f:Pt):AV:=.s (.int (ux f l 0))
def km (l:List Pt) (f:Pt):List AV:=[.a [.int f.1,.int f.2.1,.int f.2.2.1,.int f.2.2.2.1,.int f.2.2.2.2]]
def ug:cn where
 A:=[.s (.vz ae),.fn 153 [0]]
 B:=[.a [.int,.int,.int,.int,.int]]
 pre:=λx b=>qc (x.1) b
 r:=λx b _=>ji (x.1) b
 o:=λx b _=>km (x.1) b
 ro:=true
theorem PH:Has Tryz.prog 194 ug:=by
 refine Has.zB zT zF zF (l:=[(153,AD)]) ⟨ZU,aa⟩ Tryz.func194 ?_
 rintro⟨(l:List Pt),_⟩ ⟨(f1:Int),(f2:Int),(f3:Int),(f4:Int),(f5:Int)⟩ (hp:qc l (f1,f2,f3,f4,f5))
 show vc _ _ _ _ (entry [.s (.vz ae l),.fn 153 [(0,0)]] [.a [.int f1,.int f2,.int f3,.int f4,.int f5]]) _
 let g':=(f1,f2,f3,f4,f5)
 have hp:l.length≤1000000:=hp
 refine ?_
 all_goals first|refine aw ?_|refine ax ?_|exact a8|(dsimp only [AD,wF];omega)|exact a7|skip
 refine lW (l:=[(153,AD)]) (ex:=zT) (wr:=zF) (pt:=zF) ⟨ZU,aa⟩ [.s 0,.s 1,.s 6,.s 7,.b 0] (λi:Nat=>[(.s 8,.int i)]) (λi=>i≤l.length∧ux g' (l.drop i) i=ux g' l 0) (λi=>l.length-i) 0 [] ⟨ZA7 _,rfl⟩ dM ?_
 rintro i ⟨(hi:i≤l.length),(hr:ux g' (l.drop i) i=ux g' l 0)⟩
 have cO:i<l.length→l.drop i=nth ae l i::l.drop (i+1):=λh=>bW (ek:=ae) h
 have cm:decide ((i:Int)<(l.length:Int))=true→i<l.length:=λh=>by have:=aJ h;omega
 refine⟨λw1=>⟨⟨?_,?_⟩,⟨⟨⟨tv6,tv2⟩,aa⟩,λx2 w3=>?_⟩,λx4 w5=>⟨λw6=>?_,λw7=>⟨⟨?_,?_⟩,?_⟩⟩⟩,λw8=>?_⟩
 all_goals first|refine aw ?_|refine ax ?_|exact a8|(dsimp only [AD,wF];omega)|exact a7|(show (i:Int)+1≤9223372036854775807;omega)|skip
 ·have e:ux g' l 0=(i:Int):=by rw [←hr,cO (cm w1),ux,show late g' (nth ae l i)=true from w6];rfl
  refine⟨[],[],_,_,_,ζ,az,(),aa,?_,?_,ζ⟩
  ·(show _=ji l g');unfold ji;first|(rw [e];rfl)|rfl
  ·(show _=km l g');unfold km;first|(rw [e];rfl)|rfl
 ·refine⟨(i+1),[],?_,?_,?_⟩
  rotate_right
  ·exact bV
  ·refine⟨cm w1,?_⟩
   rw [←hr,cO (cm w1),ux,show late g' (nth ae l i)=false from w7];rfl
  ·show l.length-(i+1)<l.length-i;have:=cm w1;omega
 ·have e:ux g' l 0= -1:=by rw [←hr,ZB3 (by have:=aA w8;omega)];rfl
  refine⟨[],[],_,_,_,ζ,az,(),aa,?_,?_,ζ⟩
  ·(show _=ji l g');unfold ji;first|(rw [e];rfl)|rfl
  ·(show _=km l g');unfold km;first|(rw [e];rfl)|rfl
theorem CM (p:Pt):∀(l:List Pt) (i:Nat),decide (ux p l i≥0)=l.any (late p)
 |[],_=>rfl
 |q::l,i=>by
  rw [ux,List.any_cons]
  cases late p q with
  |false=>exact CM p l (i+1)
  |true=>show decide ((i:Int)≥0)=true;exact decide_eq_true (Int.natCast_nonneg i)
def tn (l:List Pt) (f:Pt):Prop:=l.length≤1000000
def tb (l:List Pt) (f:Pt):AV:=.s (.q (l.any (late f)))
def vl (l:List Pt) (f:Pt):List AV:=[.a [.int f.1,.int f.2.1,.int f.2.2.1,.int f.2.2.2.1,.int f.2.2.2.2]]
def y0:cn where
 A:=[.s (.vz ae),.fn 153 [0]]
 B:=[.a [.int,.int,.int,.int,.int]]
 pre:=λx b=>tn (x.1) b
 r:=λx b _=>tb (x.1) b
 o:=λx b _=>vl (x.1) b
 ro:=true
theorem XA:Has Tryz.prog 152 y0:=by
 refine Has.zB zT zF zF (l:=[(194,ug)]) ⟨PH,aa⟩ Tryz.func152 ?_
 rintro⟨(l:List Pt),_⟩ ⟨(f1:Int),(f2:Int),(f3:Int),(f4:Int),(f5:Int)⟩ (hp:tn l (f1,f2,f3,f4,f5))
 show vc _ _ _ _ (entry [.s (.vz ae l),.fn 153 [(0,0)]] [.a [.int f1,.int f2,.int f3,.int f4,.int f5]]) _
 let g':=(f1,f2,f3,f4,f5)
 have hp:l.length≤1000000:=hp
 refine⟨⟨⟨tv3,?_⟩,λx1 w2=>?_⟩,λx3 w4=>?_⟩
 all_goals first|refine aw ?_|refine ax ?_|exact a8|(dsimp only [ug,qc];omega)|exact a7|exact hp|skip
 refine⟨[],[],_,_,_,ζ,az,(),aa,?_,?_,ζ⟩
 ·(show _=tb l g');unfold tb;first|(rw [←CM g' l 0];rfl)|rfl
 ·(show _=vl l g');unfold vl;first|(rw [←CM g' l 0];rfl)|rfl
end GL
namespace GL
def xq (s:ay) (p:Pt):List Pt:=bif au p then cu 4 else (bl (bF s p).1).1
def qu (s:ay) (p:Pt) (lv:Int):Bool:=bif au p then true else bif !(bF s p).2 then false else bif decide (p.2.2.2.2≠lv) then false else (bl (bF s p).1).2&& !((bl (bF s p).1).1.any (late p))
section
variable {s:ay}{p:Pt}{lv:Int}
theorem XS (h:au p=true):qu s p lv=true:=by unfold qu;rw [h];rfl
theorem XR (h:au p=false) (h1:(!(bF s p).2)=true):qu s p lv=false:=by unfold qu;rw [h,h1];rfl
theorem aeG (h:au p=false) (h1:(!(bF s p).2)=false) (h2:decide (p.2.2.2.2≠lv)=true):qu s p lv=false:=by unfold qu;rw [h,h1,h2];rfl
theorem aeF (h:au p=false) (h1:(!(bF s p).2)=false) (h2:decide (p.2.2.2.2≠lv)=false) (h3:false=(bl (bF s p).1).2):qu s p lv=false:=by unfold qu;rw [h,h1,h2,←h3];rfl
theorem aeE (h:au p=false) (h1:(!(bF s p).2)=false) (h2:decide (p.2.2.2.2≠lv)=false) (h3:true=(bl (bF s p).1).2):qu s p lv= !((bl (bF s p).1).1.any (late p)):=by unfold qu;rw [h,h1,h2,←h3];rfl
theorem JH (h:au p=true):xq s p=cu 4:=by unfold xq;rw [h];rfl
theorem aeC (h:au p=false):xq s p=(bl (bF s p).1).1:=by unfold xq;rw [h];rfl
theorem ab0 (cG:aZ p=true) (hb:au p=false→p.2.1≤s.cg):qu s p lv=(bg s p lv).2∧(qu s p lv=true→xq s p=(bg s p lv).1):=by
 cases hh:au p with
 |true=>rw [XS hh,kt hh];exact⟨rfl,λ_=>JH hh⟩
 |false=>
  have hb:=hb hh
  cases hl:decide (p.2.2.2.2≠lv) with
  |true=>
   rw [v8 hh hl]
   cases hr: !(bF s p).2 with
   |true=>rw [XR hh hr];exact⟨rfl,λh=>by cases h⟩
   |false=>rw [aeG hh hr hl];exact⟨rfl,λh=>by cases h⟩
  |false=>
   have h1:(!(aZ p))=false:=by rw [cG];rfl
   have h3:decide (p.2.1>s.cg)=false:=decide_eq_false (by omega)
   cases hr: !(bF s p).2 with
   |true=>rw [XR hh hr,v7 hh h1 hl h3 hr];exact⟨rfl,λh=>by cases h⟩
   |false=>
    rw [vZ hh h1 hl h3 hr]
    cases hf:(bl (bF s p).1).2 with
    |false=>
     rw [aeF hh hr hl hf.symm,XQ hf];exact⟨rfl,λh=>by cases h⟩
    |true=>
     rw [aeE hh hr hl hf.symm,aeC hh]
     cases ha:(bl (bF s p).1).1.any (late p) with
     |true=>rw [wa ha];exact⟨rfl,λh=>by cases h⟩
     |false=>rw [sQ ha];exact⟨by rw [hf];rfl,λ_=>rfl⟩
end
def kK (S:ay) (p:Pt) (lv:Int):Prop:=S.rd∧aZ p=true
def VR (S:ay) (p:Pt) (lv:Int) (z:Bool):Prop:=qu S p lv=true→z=true
def fR (S:ay) (p:Pt) (lv:Int) (z:Bool):AV:=.t [match z with |true=>.s (.xs 0 5 0 (xq S p).length) |false=>.s (.v (.slice none 0 0)),.s (.q (qu S p lv))]
def gV (S:ay) (p:Pt) (lv:Int) (z:Bool):List AV:=match z with |true=>[.rs ae (xq S p)] |false=>[.zz]
def kr:cn where
 A:=[.vs xv,.a [.int,.int,.int,.int,.int],.s .int]
 B:=[]
 pre:=λx b=>kK (x.1) (x.2.1) (x.2.2)
 α:=λ_ _=>Bool
 φ:=λx b z=>VR (x.1) (x.2.1) (x.2.2) z
 r:=λx b z=>fR (x.1) (x.2.1) (x.2.2) z
 o:=λx b z=>gV (x.1) (x.2.1) (x.2.2) z
 nf:=1
theorem zL:Has Tryz.prog 103 kr:=by
 refine Has.WR zT zF zF (l:=[(56,bG),(33,kF),(151,DG),(152,y0)]) ⟨eO,zJ,abN,XA,aa⟩ Tryz.func103 ?_
 rintro⟨⟨(aj:List ByteArray),(ak:List Int),(an:List Int),(ao:Int),(ah:List Pt),(aq:Int),(ai:List Pt),(ar:Bool)⟩,⟨(p1:Int),(p2:Int),(p3:Int),(p4:Int),(p5:Int)⟩,(lv:Int)⟩ _ (hp:kK (aj,ak,an,ao,ah,aq,ai,ar) (p1,p2,p3,p4,p5) lv)
 show vc _ _ _ _ (entry [.s (.vs [.vz ab aj,.vz ag ak,.vz ag an,.v (.int .i64 ao),.vz ae ah,.v (.int .i64 aq),.vz ae ai,.q ar] 0),.a [.int p1,.int p2,.int p3,.int p4,.int p5],.int lv] []) _
 obtain⟨dF,cG⟩:=hp
 have dF:ay.rd (aj,ak,an,ao,ah,aq,ai,ar):=dF
 have cG:aZ (p1,p2,p3,p4,p5)=true:=cG
 have dj:∀q,(bF (aj,ak,an,ao,ah,aq,ai,ar) q).1.size≤1000000:=λq=>zp dF
 have hF:=(vL (bF (aj,ak,an,ao,ah,aq,ai,ar) (p1,p2,p3,p4,p5)).1).1
 refine⟨⟨⟨tv6,aa⟩,aa⟩,λx1 w2=>⟨λw3=>⟨⟨?_,?_,?_⟩,?_⟩,λw4=>⟨⟨⟨aa,tv6,aa⟩,λx5 w6=>?_,?_,?_⟩,λx7 w8=>⟨aa,λw9=>?_,λdy=>⟨λkA=>?_,λdJ=>⟨⟨tv2,?_⟩,λ|false=>λiU=>⟨aa,λgO=>⟨⟨⟨tv3,?_⟩,λky kg=>?_⟩,λx17 rS=>?_⟩,λoL=>?_⟩ |true=>λuI=>⟨aa,λA4=>⟨⟨⟨⟨⟨?_,?_⟩,tv2⟩,?_⟩,λx22 xK=>?_⟩,λx24 w25=>?_⟩,λw26=>?_⟩⟩⟩⟩⟩⟩⟩
 all_goals first|refine aw ?_|refine ax ?_|exact a8|(dsimp only [bG,cb,kF,k9,DG,q8,y0,tn];omega)|exact a7|exact dF.1|exact cG|exact dF.2 _ w6|exact dF.2 _ (by assumption)|exact ZA7 _|exact dj _|(show (bl (bF (aj,ak,an,ao,ah,aq,ai,ar) (p1,p2,p3,p4,p5)).1).1.length≤1000000;omega)|skip
 ·refine⟨[1014],[],_,_,_,ζ,az,true,0,(λ_=>rfl),?_,?_,ζ⟩
  ·(show _=fR (aj,ak,an,ao,ah,aq,ai,ar) (p1,p2,p3,p4,p5) lv true);unfold fR;first|(rw [XS (s:=(aj,ak,an,ao,ah,aq,ai,ar)) (lv:=lv) w3,JH (s:=(aj,ak,an,ao,ah,aq,ai,ar)) w3];rfl)|(rw [JH (s:=(aj,ak,an,ao,ah,aq,ai,ar)) w3];rfl)|rfl
  ·(show _=gV (aj,ak,an,ao,ah,aq,ai,ar) (p1,p2,p3,p4,p5) lv true);unfold gV;first|(rw [XS (s:=(aj,ak,an,ao,ah,aq,ai,ar)) (lv:=lv) w3,JH (s:=(aj,ak,an,ao,ah,aq,ai,ar)) w3];rfl)|(rw [JH (s:=(aj,ak,an,ao,ah,aq,ai,ar)) w3];rfl)|rfl
 ·have e:=XR (s:=(aj,ak,an,ao,ah,aq,ai,ar)) (lv:=lv) w4 w9
  refine⟨[],[],_,_,_,ζ,az,false,1,(λh:qu (aj,ak,an,ao,ah,aq,ai,ar) (p1,p2,p3,p4,p5) lv=true=>absurd (e.symm.trans h) (by decide)),?_,?_,ζ⟩
  ·(show _=fR (aj,ak,an,ao,ah,aq,ai,ar) (p1,p2,p3,p4,p5) lv false);unfold fR;first|(rw [e];rfl)|rfl
  ·(show _=gV (aj,ak,an,ao,ah,aq,ai,ar) (p1,p2,p3,p4,p5) lv false);unfold gV;first|(rw [e];rfl)|rfl
 ·have e:=aeG (s:=(aj,ak,an,ao,ah,aq,ai,ar)) (lv:=lv) w4 dy kA
  refine⟨[],[],_,_,_,ζ,az,false,1,(λh:qu (aj,ak,an,ao,ah,aq,ai,ar) (p1,p2,p3,p4,p5) lv=true=>absurd (e.symm.trans h) (by decide)),?_,?_,ζ⟩
  ·(show _=fR (aj,ak,an,ao,ah,aq,ai,ar) (p1,p2,p3,p4,p5) lv false);unfold fR;first|(rw [e];rfl)|rfl
  ·(show _=gV (aj,ak,an,ao,ah,aq,ai,ar) (p1,p2,p3,p4,p5) lv false);unfold gV;first|(rw [e];rfl)|rfl
 ·cases gO
 ·have e:=aeF (s:=(aj,ak,an,ao,ah,aq,ai,ar)) (lv:=lv) w4 dy dJ (show false=(bl (bF (aj,ak,an,ao,ah,aq,ai,ar) (p1,p2,p3,p4,p5)).1).2 from iU)
  refine⟨[],[],_,_,_,ζ,az,false,1,(λh:qu (aj,ak,an,ao,ah,aq,ai,ar) (p1,p2,p3,p4,p5) lv=true=>absurd (e.symm.trans h) (by decide)),?_,?_,ζ⟩
  ·(show _=fR (aj,ak,an,ao,ah,aq,ai,ar) (p1,p2,p3,p4,p5) lv false);unfold fR;first|(rw [e];rfl)|rfl
  ·(show _=gV (aj,ak,an,ao,ah,aq,ai,ar) (p1,p2,p3,p4,p5) lv false);unfold gV;first|(rw [e];rfl)|rfl
 ·have e:=aeE (s:=(aj,ak,an,ao,ah,aq,ai,ar)) (lv:=lv) w4 dy dJ (show true=(bl (bF (aj,ak,an,ao,ah,aq,ai,ar) (p1,p2,p3,p4,p5)).1).2 from uI)
  have e2:=aeC (s:=(aj,ak,an,ao,ah,aq,ai,ar)) w4
  refine⟨[320000],[],_,_,_,ζ,az,true,0,(λ_=>rfl),?_,?_,ζ⟩
  ·(show _=fR (aj,ak,an,ao,ah,aq,ai,ar) (p1,p2,p3,p4,p5) lv true);unfold fR;first|(rw [e,e2];rfl)|(rw [e2];rfl)|rfl
  ·(show _=gV (aj,ak,an,ao,ah,aq,ai,ar) (p1,p2,p3,p4,p5) lv true);unfold gV;first|(rw [e,e2];rfl)|(rw [e2];rfl)|rfl
 ·cases w26
