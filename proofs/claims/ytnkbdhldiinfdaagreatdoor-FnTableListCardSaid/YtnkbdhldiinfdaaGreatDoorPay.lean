/- Part 25 of the proof of a drawn law. -/
import Derived.Test.YtnkbdhldiinfdaaGreatDoorPao
import Derived.Test.YtnkbdhldiinfdaaGreatDoorPav
import Derived.Test.YtnkbdhldiinfdaaGreatDoorPax
set_option maxHeartbeats 20000000
set_option maxRecDepth 100000
set_option linter.all false
namespace Go.Proofs.YtnkbdhldiinfdaaGreatDoor
namespace GL
structure ay.fit (s:ay) (p:Pt):Prop where
 ok:aZ p=true
 b:p.2.1≤s.cg
theorem acb {s:ay}{p:Pt}{lv:Int}(h0:0≤s.cg) (hp:s.fit p):∀q∈(bg s p lv).1,s.fit q:=by
 intro q hq
 refine⟨sP s p lv q hq,?_⟩
 cases hh:au p with
 |true=>
  rw [kt hh] at hq
  rw [(ZD6.1 hq).2];exact h0
 |false=>
  have nil:∀{b:Bool},bg s p lv=([],b)→False:=λe=>by rw [e] at hq;cases hq
  have h1:(!(aZ p))=false:=by rw [hp.ok];rfl
  have h3:decide (p.2.1>s.cg)=false:=decide_eq_false (by have:=hp.b;omega)
  cases hl:decide (p.2.2.2.2≠lv) with
  |true=>exact (nil (v8 hh hl)).elim
  |false=>
   cases hr: !(bF s p).2 with
   |true=>exact (nil (v7 hh h1 hl h3 hr)).elim
   |false=>
    rw [vZ hh h1 hl h3 hr] at hq
    cases ha:(bl (bF s p).1).1.any (late p) with
    |true=>rw [wa ha] at hq;cases hq
    |false=>
     rw [sQ ha] at hq
     have:=List.any_eq_false.1 ha q hq
     have h2:¬(q.2.1>p.2.1):=by simpa [late] using this
     have:=hp.b;omega
theorem QK {s:ay}{lv:Int}(h0:0≤s.cg):∀{l acc n:List Pt},(∀q∈l,s.fit q)→(∀q∈acc,s.fit q)→fx s lv l acc=some n→∀q∈n,s.fit q
 |[],acc,n,_,h2,h=>by cases h;exact h2
 |p::l,acc,n,h1,h2,h=>by
  unfold fx at h
  cases hb:(bg s p lv).2 with
  |true=>
   rw [hb,cond_true] at h
   refine QK h0 (λq hq=>h1 q (by simp [hq])) (λq hq=>?_) h
   rcases ZB4.1 hq with hq |hq
   ·exact h2 q hq
   ·exact acb h0 (h1 p (by simp)) q hq
  |false=>rw [hb] at h;cases h
theorem SW {n:Int}{d:Nat}(h0:ik n 0 16=true) (h:d=4 ^ (bj n).toNat):n.toNat≤d:=by
 obtain⟨h1,h2⟩:=cC.1 h0
 rw [h]
 unfold bj
 cases hc:decide (n≤1) with
 |true=>have:=aJ hc;show n.toNat≤1;omega
 |false=>
  cases hd:decide (n≤4) with
  |true=>have:=aJ hd;show n.toNat≤4;omega
  |false=>show n.toNat≤16;omega
theorem XG {p:Pt}(h:au p=true):p.2.1=0:=by rw [iu h];rfl
theorem XF {p:Pt}(h:au p=true):p.2.2.2.2=0:=by rw [iu h];rfl
theorem abz {s:ay}{t:bf}(h0:0≤s.cg) (h:decide (t.root.2.1>s.cg)=true):qJ s t=false:=by
 have hh:au t.root=false:=by
  cases hh:au t.root with
  |false=>rfl
  |true=>have:=aJ h;rw [XG hh] at this;omega
 cases hb:lV t with
 |true=>exact DV hb
 |false=>
  cases hd:decide (t.depth>0) with
  |false=>
   have e:bA s t=([t.root],true):=vt hd
   rw [Y9 hb (by rw [e];rfl),e]
   exact wJ hh (ZM h)
  |true=>
   have e:bA s t=([],false):=H5 hd (by rw [NZ (by rw [AG hh h];rfl)])
   exact ZA hb (by rw [e];rfl)
def vh (S:ay) (t:bf):Prop:=S.rd∧0≤S.cg
def RS (S:ay) (t:bf) (z:Bool):Prop:=z=qJ S t
def bS (S:ay) (t:bf) (z:Bool):AV:=.t [match z with |true=>.s (.xs 0 5 0 t.many.toNat) |false=>.s (.v (.slice none 0 0)),.s (.q z)]
def cl (S:ay) (t:bf) (z:Bool):List AV:=match z with |true=>[.rs ae (bA S t).1] |false=>[.zz]
def DF:cn where
 A:=[.vs xv,.a [.int,.int,.int,.int,.int,.int,.int]]
 B:=[]
 pre:=λx b=>vh (x.1) (x.2)
 α:=λ_ _=>Bool
 φ:=λx b z=>RS (x.1) (x.2) z
 r:=λx b z=>bS (x.1) (x.2) z
 o:=λx b z=>cl (x.1) (x.2) z
 nf:=1
theorem abM:Has Tryz.prog 66 DF:=by
 refine Has.WR zT zF zF (l:=[(32,cr),(54,gM),(55,cB),(103,kr),(33,kF),(56,bG)]) ⟨fM,tJ,jt,zL,zJ,eO,aa⟩ Tryz.func66 ?_
 rintro⟨⟨(aj:List ByteArray),(ak:List Int),(an:List Int),(ao:Int),(ah:List Pt),(aq:Int),(ai:List Pt),(ar:Bool)⟩,⟨(t1:Int),(t2:Int),(t3:Int),(t4:Int),(t5:Int),(t6:Int),(t7:Int)⟩⟩ _ (hp:vh (aj,ak,an,ao,ah,aq,ai,ar) (t1,t2,t3,t4,t5,t6,t7))
 show vc _ _ _ _ (entry [.s (.vs [.vz ab aj,.vz ag ak,.vz ag an,.v (.int .i64 ao),.vz ae ah,.v (.int .i64 aq),.vz ae ai,.q ar] 0),.a [.int t1,.int t2,.int t3,.int t4,.int t5,.int t6,.int t7]] []) _
 let g':=(aj,ak,an,ao,ah,aq,ai,ar)
 let A':=(t1,t2,t3,t4,t5,t6,t7)
 obtain⟨dF,(h0:0≤ao)⟩:=hp
 have dF:ay.rd g':=dF
 refine⟨Sq3,Sq17,ζ,[.s 17,.b 1003],Sq18,ζ,Sq18,Sq19,ζ,⟨tv4,aa⟩,?_,λx1 w2=>⟨Sq19,Sq20,ζ,Sq20,Sq21,ζ,aa,λw3=>⟨Sq21,Sq22,ζ,Sq21,Sq23,ζ,Sq21,Sq24,ζ,Sq21,Sq25,ζ,Sq21,Sq26,ζ,Sq21,Sq27,ζ,[.s 21,.s 27],Sq28,ζ,Sq28,Sq29,ζ,Sq29,Sq30,ζ,Sq29,Sq31,ζ,Sq29,Sq32,ζ,Sq29,Sq33,ζ,[.s 29,.s 33],Sq34,ζ,Sq34,Sq35,ζ,Sq35,Sq36,ζ,Sq35,Sq37,ζ,Sq35,Sq38,ζ,Sq35,Sq39,ζ,Sq35,Sq40,ζ,Sq35,Sq41,ζ,Sq35,Sq42,ζ,Sq35,Sq43,ζ,[.s 35,.s 43],Sq44,ζ,?_⟩,λw4=>⟨[.s 21,.s 3],Sq22,ζ,[.s 21,.s 22,.b 1003],Sq23,ζ,[.s 21,.s 3],Sq24,ζ,[.s 21,.s 24,.b 1003],Sq25,ζ,[.s 21,.s 25],Sq26,ζ,⟨tv2,aa⟩,?_,λx5 w6=>⟨[.s 21,.s 23,.s 26],Sq27,ζ,[.s 21,.s 27],Sq28,ζ,Sq28,Sq29,ζ,aa,λw7=>⟨Sq29,Sq30,ζ,Sq29,Sq31,ζ,Sq29,Sq32,ζ,Sq29,Sq33,ζ,[.s 29,.s 33],Sq34,ζ,Sq34,Sq35,ζ,Sq35,Sq36,ζ,Sq35,Sq37,ζ,Sq35,Sq38,ζ,Sq35,Sq39,ζ,Sq35,Sq40,ζ,Sq35,Sq41,ζ,Sq35,Sq42,ζ,Sq35,Sq43,ζ,[.s 35,.s 43],Sq44,ζ,?_⟩,λw8=>⟨[.s 29,.s 3],Sq30,ζ,[.s 29,.s 30,.b 1003],Sq31,ζ,[.s 29,.s 31],Sq32,ζ,⟨⟨tv6,aa⟩,aa⟩,?_,λx9 dy=>⟨[.s 29,.s 32],Sq33,ζ,[.s 29,.s 33],Sq34,ζ,Sq34,Sq35,ζ,aa,λkA=>⟨Sq35,Sq36,ζ,Sq35,Sq37,ζ,Sq35,Sq38,ζ,Sq35,Sq39,ζ,Sq35,Sq40,ζ,Sq35,Sq41,ζ,Sq35,Sq42,ζ,Sq35,Sq43,ζ,[.s 35,.s 43],Sq44,ζ,?_⟩,λdJ=>⟨[.s 35,.s 3],Sq36,ζ,[.s 35,.s 36],Sq37,ζ,[.s 35,.s 37,.b 1003],Sq38,ζ,[.s 35,.s 0],Sq39,ζ,[.s 35,.s 39],Sq40,ζ,[.s 35,.s 40],Sq41,ζ,[.s 35,.s 41],Sq42,ζ,[.s 35,.s 38,.s 42],Sq43,ζ,[.s 35,.s 43],Sq44,ζ,λiU=>?_,λgO=>⟨aa,?_⟩⟩⟩⟩⟩⟩⟩⟩
 all_goals first|refine aw ?_|refine ax ?_|exact a8|(dsimp only [cr,df,gM,iv,cB,cR,kr,kK,kF,k9,bG,cb];omega)|exact a7|skip
 ·refine⟨[],[],_,_,_,ζ,az,false,1,(show false=qJ g' A' from (DV (s:=g') (t:=A') (ZD w3)).symm),?_,?_,ζ⟩
  ·(show _=bS g' A' false);unfold bS;first|(rw [rfl];rfl)|rfl
  ·(show _=cl g' A' false);unfold cl;first|(rw [rfl];rfl)|rfl
 ·refine⟨[],[],_,_,_,ζ,az,false,1,(show false=qJ g' A' from (DV (s:=g') (t:=A') (ZC w7)).symm),?_,?_,ζ⟩
  ·(show _=bS g' A' false);unfold bS;first|(rw [rfl];rfl)|rfl
  ·(show _=cl g' A' false);unfold cl;first|(rw [rfl];rfl)|rfl
 ·refine⟨[],[],_,_,_,ζ,az,false,1,(show false=qJ g' A' from (DV (s:=g') (t:=A') (ZB kA)).symm),?_,?_,ζ⟩
  ·(show _=bS g' A' false);unfold bS;first|(rw [rfl];rfl)|rfl
  ·(show _=cl g' A' false);unfold cl;first|(rw [rfl];rfl)|rfl
 ·refine⟨[],[],_,_,_,ζ,az,false,1,(show false=qJ g' A' from (abz (s:=g') (t:=A') h0 iU).symm),?_,?_,ζ⟩
  ·(show _=bS g' A' false);unfold bS;first|(rw [rfl];rfl)|rfl
  ·(show _=cl g' A' false);unfold cl;first|(rw [rfl];rfl)|rfl
 have aeh:ik t7 0 16=true:=cL w4
 have hdp:t6=bj t7:=ZE9.1 (aA (p:=¬t6=bj t7) w8)
 have hB:lV A'=false:=zA (t:=A') w4 w8 dJ
 have hd2:=pn t7
 rw [←hdp] at hd2
 have ZW:ay.fit g' (t1,t2,t3,t4,t5):=⟨cL dJ,by have:=aA gO;show t2≤ao;omega⟩
 refine lW (l:=[(32,cr),(54,gM),(55,cB),(103,kr),(33,kF),(56,bG)]) (ex:=zT) (wr:=zF) (pt:=zF) ⟨fM,tJ,jt,zL,zJ,eO,trivial⟩ [.s 0,.s 3,.b 1003] (λy:Int×List Pt×Nat=>[(.s 6,.s (.xs 1019 5 0 y.2.1.length)),(.s 7,.int y.1),(.b 1019,.rs ae y.2.1)]) (λy=>(0≤y.1∧y.1≤t6)∧y.2.1.length=4 ^ (t6-y.1).toNat∧y.1<y.2.2∧tF g' y.2.2 y.1 y.2.1=bA g' A'∧∀q∈y.2.1,ay.fit g' q) (λy=>y.1.toNat) (t6,[(t1,t2,t3,t4,t5)],3) [(1019,1047)] ⟨⟨hd2.1,ZC1 _⟩,by show 1=4 ^ (t6-t6).toNat;rw [Int.sub_self];rfl,by show t6<(3:Nat);omega,rfl,λq hq=>by rw [ZC7.1 hq];exact ZW⟩ dM ?_
 rintro⟨lv,l,f⟩ ⟨⟨(FK:0≤lv),(bU:lv≤t6)⟩,(hl:l.length=4 ^ (t6-lv).toNat),(hf:lv<(f:Int)),(hr:tF g' f lv l=bA g' A'),(TO:∀q∈l,ay.fit g' q)⟩
 have ak7:l.length≤16:=by
  rw [hl]
  have:(t6-lv).toNat=0∨(t6-lv).toNat=1∨(t6-lv).toNat=2:=by omega
  rcases this with h |h |h<;>rw [h]<;>decide
 refine⟨λw1=>?_,λw2=>?_⟩
 all_goals first|refine aw ?_|refine ax ?_|exact a8|(dsimp only [cr,df,gM,iv,cB,cR,kr,kK,kF,k9,bG,cb];omega)|exact a7|skip
 ·have oU:decide (lv>0)=true:=w1
  obtain⟨g,rfl⟩:∃g,f=g+1:=⟨f-1,by have:=aJ oU;omega⟩
  refine lW (l:=[(32,cr),(54,gM),(55,cB),(103,kr),(33,kF),(56,bG)]) (ex:=zT) (wr:=zF) (pt:=zF) ⟨fM,tJ,jt,zL,zJ,eO,aa⟩ [.s 0,.s 3,.b 1003,.s 6,.s 7,.b 1019,.s 54,.s 55] (λy:Nat×List Pt=>match y.1 with |0=>[(.s 8,.s (.v (.slice none 0 0))),(.s 56,.int 0)] |n+1=>[(.s 8,.s (.xs 1021 5 0 y.2.length)),(.s 56,.int ((n+1:Nat):Int)),(.b 1021,.rs ae y.2)]) (λy=>y.1≤l.length∧y.2.length=4*y.1∧fx g' lv (l.drop y.1) y.2=fx g' lv l []) (λy=>l.length-y.1) (0,[]) [] ⟨ZA7 _,rfl,rfl⟩ dM ?_
  rintro⟨i,acc⟩ ⟨(hi:i≤l.length),(abV:acc.length=4*i),(hs:fx g' lv (l.drop i) acc=fx g' lv l [])⟩
  have cm:decide ((i:Int)<(l.length:Int))=true→i<l.length:=λh=>by have:=aJ h;omega
  have cO:i<l.length→l.drop i=nth ae l i::l.drop (i+1):=λh=>bW (ek:=ae) h
  have hft:i<l.length→ay.fit g' (nth ae l i):=λh=>TO _ (bR (ek:=ae) h)
  have hfb:i<l.length→qu g' (nth ae l i) lv=(bg g' (nth ae l i) lv).2∧(qu g' (nth ae l i) lv=true→xq g' (nth ae l i)=(bg g' (nth ae l i) lv).1):=λh=>ab0 (hft h).ok (λ_=>(hft h).b)
  have iC:i<l.length→(!(qu g' (nth ae l i) lv))=true→false=qJ g' A':=λh h2=>by
   rw [(hfb h).1] at h2
   have e:fx g' lv l []=none:=by rw [←hs,cO h,NZ (s:=g') (lv:=lv) (p:=nth ae l i) h2]
   exact (ZA hB (by rw [←hr,H5 oU e];rfl)).symm
  have hgo:i<l.length→(!(qu g' (nth ae l i) lv))=false→(xq g' (nth ae l i)).length=4∧fx g' lv (l.drop (i+1)) (acc++xq g' (nth ae l i))=fx g' lv l []:=λh h2=>by
   have e:=(hfb h).2 (cL h2)
   have h3:=h2
   rw [(hfb h).1] at h3
   rw [e]
   exact⟨(iG g' (nth ae l i) lv).2 (cL h3),by rw [←hs,cO h,NY (s:=g') (lv:=lv) (p:=nth ae l i) h3]⟩
  have za:0<l.length:=by rw [hl];exact Nat.pow_pos (by decide)
  cases i with
  |zero=>
   have ha0:acc=[]:=ZD4.1 (by rw [abV])
   subst ha0
   refine⟨λw1=>⟨⟨?_,?_⟩,?_,⟨⟨aa,tv6,tv2⟩,?_,?_⟩,λ|false=>λw2=>⟨λw3=>?_,λw4=>⟨⟨⟨?_,?_⟩,aa⟩,⟨?_,?_⟩,?_⟩⟩ |true=>λw5=>⟨λw6=>?_,λw7=>⟨⟨⟨?_,?_⟩,?_,?_⟩,⟨?_,?_⟩,?_⟩⟩⟩,λw8=>⟨⟨?_,?_⟩,?_⟩⟩
   all_goals first|refine aw ?_|refine ax ?_|exact a8|(dsimp only [cr,df,gM,iv,cB,cR,kr,kK,kF,k9,bG,cb];omega)|exact a7|exact dF|exact (hft (cm w1)).ok|exact absurd ((show qu g' (nth ae l 0) lv=true→false=true from w2) (cL w4)) (by decide)|(show 0<(xq g' (nth ae l 0)).length;rw [(hgo (cm w1) w7).1];decide)|(show (xq g' (nth ae l 0)).length≤1048576;rw [(hgo (cm w1) w7).1];decide)|(exfalso;have h9:¬((0:Int)<(l.length:Int)):=aA w8;omega)|skip
   ·refine⟨[],[],_,_,_,ζ,az,false,1,(iC (cm w1) w3),?_,?_,ζ⟩
    ·(show _=bS g' A' false);unfold bS;first|(rw [rfl];rfl)|rfl
    ·(show _=cl g' A' false);unfold cl;first|(rw [rfl];rfl)|rfl
   ·refine⟨[],[],_,_,_,ζ,az,false,1,(iC (cm w1) w6),?_,?_,ζ⟩
    ·(show _=bS g' A' false);unfold bS;first|(rw [rfl];rfl)|rfl
    ·(show _=cl g' A' false);unfold cl;first|(rw [rfl];rfl)|rfl
   ·refine⟨(1,xq g' (nth ae l 0)),[(1021,1071)],?_,?_,?_⟩
    rotate_right
    ·exact bV
    ·exact⟨za,by show (xq g' (nth ae l 0)).length=4*1;rw [(hgo (cm w1) w7).1],(hgo (cm w1) w7).2⟩
    ·show l.length-1<l.length-0;omega
  |succ i=>
   refine⟨λw1=>⟨⟨?_,?_⟩,?_,⟨⟨aa,tv6,tv2⟩,?_,?_⟩,λ|false=>λw2=>⟨λw3=>?_,λw4=>⟨⟨⟨?_,?_⟩,aa⟩,⟨?_,?_⟩,?_⟩⟩ |true=>λw5=>⟨λw6=>?_,λw7=>⟨⟨⟨?_,?_⟩,?_,?_⟩,⟨?_,?_⟩,?_⟩⟩⟩,λw8=>⟨⟨?_,?_⟩,?_⟩⟩
   all_goals first|refine aw ?_|refine ax ?_|exact a8|(dsimp only [cr,df,gM,iv,cB,cR,kr,kK,kF,k9,bG,cb];omega)|exact a7|exact dF|exact (hft (cm w1)).ok|exact absurd ((show qu g' (nth ae l (i+1)) lv=true→false=true from w2) (cL w4)) (by decide)|(show acc.length+(xq g' (nth ae l (i+1))).length≤1048576;rw [(hgo (cm w1) w7).1,abV];omega)|skip
   ·refine⟨[],[],_,_,_,ζ,az,false,1,(iC (cm w1) w3),?_,?_,ζ⟩
    ·(show _=bS g' A' false);unfold bS;first|(rw [rfl];rfl)|rfl
    ·(show _=cl g' A' false);unfold cl;first|(rw [rfl];rfl)|rfl
   ·refine⟨[],[],_,_,_,ζ,az,false,1,(iC (cm w1) w6),?_,?_,ζ⟩
    ·(show _=bS g' A' false);unfold bS;first|(rw [rfl];rfl)|rfl
    ·(show _=cl g' A' false);unfold cl;first|(rw [rfl];rfl)|rfl
   ·refine⟨(i+2,acc++xq g' (nth ae l (i+1))),[(1021,1071)],?_,?_,?_⟩
    rotate_right
    ·exact bV
    ·exact⟨cm w1,by show List.length (_++_)=4*(i+2);rw [ZA0,(hgo (cm w1) w7).1,abV];omega,(hgo (cm w1) w7).2⟩
    ·show l.length-(i+2)<l.length-(i+1);have:=cm w1;omega
   ·have FL:¬i+1<l.length:=by have:=aA (p:=((i+1:Nat):Int)<(l.length:Int)) w8;omega
    have e:fx g' lv l []=some acc:=by rw [←hs,ZB3 (by omega)];rfl
    have h1:lv>0:=aJ oU
    refine⟨(lv-1,acc,g),[(1019,1021)],?_,?_,?_⟩
    rotate_right
    ·exact bV
    ·refine⟨⟨by show 0≤lv-1;omega,by show lv-1≤t6;omega⟩,?_,by show lv-1<(g:Int);omega,by rw [←hr,CI oU e],QK h0 TO (λq hq=>by cases hq) e⟩
     show acc.length=4 ^ (t6-(lv-1)).toNat
     rw [r3 e,hl,show (t6-(lv-1)).toNat=(t6-lv).toNat+1 by omega,Nat.pow_succ]
     show 0+4*_=_;omega
    ·show (lv-1).toNat<lv.toNat;omega
 ·refine lW (l:=[(32,cr),(54,gM),(55,cB),(103,kr),(33,kF),(56,bG)]) (ex:=zT) (wr:=zF) (pt:=zF) ⟨fM,tJ,jt,zL,zJ,eO,aa⟩ [.s 0,.s 3,.b 1003,.s 6,.b 1019,.s 74,.s 75] (λi:Nat=>[(.s 76,.int i)]) (λi=>i≤l.length∧j9 g' t7 i (l.drop i)=j9 g' t7 0 l) (λi=>l.length-i) 0 [] ⟨ZA7 _,rfl⟩ dM ?_
  rintro i ⟨(hi:i≤l.length),(hs:j9 g' t7 i (l.drop i)=j9 g' t7 0 l)⟩
  have cm:decide ((i:Int)<(l.length:Int))=true→i<l.length:=λh=>by have:=aJ h;omega
  have cO:i<l.length→l.drop i=nth ae l i::l.drop (i+1):=λh=>bW (ek:=ae) h
  have hft:i<l.length→ay.fit g' (nth ae l i):=λh=>TO _ (bR (ek:=ae) h)
  have ak3:lv=0:=by have:=aA (p:=lv>0) w2;omega
  have hE:bA g' A'=(l,true):=by
   rw [←hr]
   cases f with
   |zero=>rfl
   |succ g=>exact vt w2
  have hM:qJ g' A'=j9 g' t7 0 l:=by rw [Y9 hB (by rw [hE];rfl),hE]
  have hlm:t7≤(l.length:Int):=by
   have h1:=SW (n:=t7) (d:=l.length) aeh (by rw [hl,ak3,Int.sub_zero,hdp])
   have:=(cC.1 aeh).1;omega
  have h70:=(cC.1 aeh).1
  have iC:i<l.length→au (nth ae l i)=false→ri g' t7 i (nth ae l i)=true→false=qJ g' A':=λh h2 h3=>by rw [hM,←hs,cO h,wJ (s:=g') (p:=nth ae l i) h2 h3]
  have hnh:(!(bF g' (nth ae l i)).2)=true→au (nth ae l i)=false:=λh=>by
   cases hh:au (nth ae l i) with
   |false=>rfl
   |true=>rw [fT hh] at h;cases h
  have hnl:decide ((nth ae l i).2.2.2.2≠0)=true→au (nth ae l i)=false:=λh=>by
   cases hh:au (nth ae l i) with
   |false=>rfl
   |true=>exact absurd (XF hh) (aJ (p:=¬(nth ae l i).2.2.2.2=0) h)
  refine⟨λw1=>⟨⟨?_,?_⟩,?_,⟨⟨aa,tv6,aa⟩,λx2 w3=>?_,?_,?_⟩,λx4 w5=>⟨aa,λw6=>?_,λw7=>⟨aa,λw8=>?_,λw9=>⟨aa,λdy=>⟨⟨⟨tv6,aa⟩,aa⟩,λkz dJ=>⟨λiU=>?_,λgO=>⟨⟨?_,?_⟩,?_⟩⟩⟩,λqK=>⟨⟨?_,?_⟩,?_⟩⟩⟩⟩⟩,λkg=>⟨⟨?_,?_,?_,?_⟩,?_⟩⟩
  all_goals first|refine aw ?_|refine ax ?_|exact a8|(dsimp only [cr,df,gM,iv,cB,cR,kr,kK,kF,k9,bG,cb];omega)|exact a7|exact dF.2|exact dF.1|exact (hft (cm w1)).ok|exact dF.2 _ (by assumption)|exact h70|exact hlm|skip
  ·refine⟨[],[],_,_,_,ζ,az,false,1,(iC (cm w1) (hnh w6) (ZO (s:=g') w6)),?_,?_,ζ⟩
   ·(show _=bS g' A' false);unfold bS;first|(rw [rfl];rfl)|rfl
   ·(show _=cl g' A' false);unfold cl;first|(rw [rfl];rfl)|rfl
  ·refine⟨[],[],_,_,_,ζ,az,false,1,(iC (cm w1) (hnl w8) (ZN (s:=g') w8)),?_,?_,ζ⟩
   ·(show _=bS g' A' false);unfold bS;first|(rw [rfl];rfl)|rfl
   ·(show _=cl g' A' false);unfold cl;first|(rw [rfl];rfl)|rfl
  ·refine⟨[],[],_,_,_,ζ,az,false,1,(iC (cm w1) (uv iU) (ZL (s:=g') dy)),?_,?_,ζ⟩
   ·(show _=bS g' A' false);unfold bS;first|(rw [rfl];rfl)|rfl
   ·(show _=cl g' A' false);unfold cl;first|(rw [rfl];rfl)|rfl
  ·refine⟨(i+1),[],?_,?_,?_⟩
   rotate_right
   ·exact bV
   ·exact⟨cm w1,by rw [←hs,cO (cm w1),FD (s:=g') (p:=nth ae l i) (cL gO)];rfl⟩
   ·show l.length-(i+1)<l.length-i;have:=cm w1;omega
  ·refine⟨(i+1),[],?_,?_,?_⟩
   rotate_right
   ·exact bV
   ·refine⟨cm w1,?_⟩
    rw [←hs,cO (cm w1)]
    cases hh:au (nth ae l i) with
    |true=>rw [FD (s:=g') (p:=nth ae l i) hh];rfl
    |false=>rw [O1 (s:=g') (p:=nth ae l i) hh (O2 (s:=g') w7 w9 (decide_eq_false (by have:=(hft (cm w1)).b;omega)) qK)];rfl
   ·show l.length-(i+1)<l.length-i;have:=cm w1;omega
  ·have FL:¬i<l.length:=by have:=aA (p:=(i:Int)<(l.length:Int)) kg;omega
   have e:qJ g' A'=true:=by rw [hM,←hs,ZB3 (by omega)];rfl
   have e2:(bA g' A').1=l:=by rw [hE]
   refine⟨[1019],[],_,_,_,ζ,az,true,0,(show true=qJ g' A' from e.symm),?_,?_,ζ⟩
   ·(show _=bS g' A' true);unfold bS;first|(rw [e2];rfl)|rfl
   ·(show _=cl g' A' true);unfold cl;first|(rw [e2];rfl)|rfl
end GL
namespace GL
section
variable {n l:Int}{k:Nat}
theorem aiK (h:(!(ik n 0 900))=true):KP n l k=false:=decide_eq_false (by rw [ZF8,IW] at h;omega)
theorem aiJ (h:(!(ik l n 900))=true):KP n l k=false:=decide_eq_false (by rw [ZF8,IW] at h;omega)
theorem agE (h:decide (n>0)=true) (h2:decide ((k:Int)<8)=true):KP n l k=false:=decide_eq_false (by have:=aJ h;have:=aJ h2;omega)
theorem acC (h:(!(ik n 0 900))=false) (h2:(!(ik l n 900))=false) (h3:decide (n=0)=false∨decide (l≠0)=false) (h4:decide (n>0)=false∨decide ((k:Int)<8)=false):KP n l k=true:=decide_eq_true (by
 have a1:=cC.1 (cL h);have a2:=cC.1 (cL h2)
 refine⟨by omega,?_,?_⟩
 ·rcases h3 with h3 |h3
  ·have:=aA h3;omega
  ·have:=aA h3;omega
 ·rcases h4 with h4 |h4
  ·have:=aA h4;omega
  ·have:=aA h4;omega)
end
def lO (sp:List Int×List Int):Prop:=True
def cH (sp:List Int×List Int):AV:=.s (.q (rC sp))
def R5 (sp:List Int×List Int):List AV:=[]
def kS:cn where
 A:=[.a [.vz ag,.vz ag]]
 B:=[]
 pre:=λx b=>lO x
 r:=λx b _=>cH x
 o:=λx b _=>R5 x
theorem yG:Has Tryz.prog 100 kS:=by
 refine Has.zB zT zF zF (l:=[(32,cr)]) ⟨fM,aa⟩ Tryz.func100 ?_
 rintro⟨(dA:List Int),(eI:List Int)⟩ _ (hp:lO (dA,eI))
 show vc _ _ _ _ (entry [.a [.vz ag dA,.vz ag eI]] []) _
 refine⟨aa,λw1=>?_,λw2=>⟨λw3=>?_,λw4=>?_⟩⟩
 all_goals first|refine aw ?_|refine ax ?_|exact a8|(dsimp only [cr,df];omega)|exact a7|skip
 ·refine⟨[],[],_,_,_,ζ,az,(),aa,?_,?_,ζ⟩
  ·(show _=cH (dA,eI));unfold cH;first|(rw [N1 (p:=(dA,eI)) w1];rfl)|rfl
  ·rfl
 ·refine⟨[],[],_,_,_,ζ,az,(),aa,?_,?_,ζ⟩
  ·(show _=cH (dA,eI));unfold cH;first|(rw [N0 (p:=(dA,eI)) w3];rfl)|rfl
  ·rfl
 ·have l1:dA.length=64:=by have:=aA w2;omega
  have l2:eI.length=64:=by have:=aA w4;omega
  have hE:=U1 (p:=(dA,eI)) w2 w4
  refine lW (l:=[(32,cr)]) (ex:=zT) (wr:=zF) (pt:=zF) ⟨fM,trivial⟩ [.s 1,.b 1001,.s 17,.s 18] (λi:Nat=>[(.s 19,.int i)]) (λi=>i≤64∧∀j,j<i→xw dA eI j=true) (λi=>64-i) 0 [] ⟨ZA7 _,λj hj=>absurd hj (by omega)⟩ dM ?_
  rintro i ⟨(hi:i≤64),hj⟩
  have cm:decide ((i:Int)<(dA.length:Int))=true→i<64:=λh=>by have:=aJ h;omega
  have bU:∀l:List Int,l.length=64→decide ((i:Int)<(dA.length:Int))=true→(i:Int)<(l.length:Int):=λl hl h=>by rw [hl,←l1];exact aJ h
  have iC:i<64→xw dA eI i=false→rC (dA,eI)=false:=λh h2=>by rw [hE];exact T8 h h2
  have hgo:xw dA eI i=true→∀j,j<i+1→xw dA eI j=true:=λh j yK=>by
   by_cases e:j=i
   ·rw [e];exact h
   ·exact hj j (by omega)
  refine⟨λw1=>⟨⟨?_,?_⟩,⟨?_,?_⟩,⟨tv4,aa⟩,λx2 w3=>⟨aa,λw4=>?_,λw5=>⟨⟨tv4,aa⟩,λx6 w7=>⟨aa,λw8=>?_,λw9=>⟨aa,λdy=>⟨aa,λkA=>?_,λdJ=>⟨aa,λiU=>⟨λgO=>?_,λqK=>⟨⟨?_,?_⟩,?_⟩⟩,λkg=>⟨⟨?_,?_⟩,?_⟩⟩⟩,λxh=>⟨aa,λrS=>⟨λoL=>?_,λuI=>⟨⟨?_,?_⟩,?_⟩⟩,λA4=>⟨⟨?_,?_⟩,?_⟩⟩⟩⟩⟩⟩⟩,λA3=>?_⟩
  all_goals first|refine aw ?_|refine ax ?_|exact a8|(dsimp only [cr,df];omega)|exact a7|exact bU _ l1 w1|exact bU _ l2 w1|skip
  ·refine⟨[],[],_,_,_,ζ,az,(),aa,?_,?_,ζ⟩
   ·(show _=cH (dA,eI));unfold cH;first|(rw [iC (cm w1) (aiK w4)];rfl)|rfl
   ·rfl
  ·refine⟨[],[],_,_,_,ζ,az,(),aa,?_,?_,ζ⟩
   ·(show _=cH (dA,eI));unfold cH;first|(rw [iC (cm w1) (aiJ w8)];rfl)|rfl
   ·rfl
  ·refine⟨[],[],_,_,_,ζ,az,(),aa,?_,?_,ζ⟩
   ·(show _=cH (dA,eI));unfold cH;first|(rw [iC (cm w1) (agG dy kA)];rfl)|rfl
   ·rfl
  ·refine⟨[],[],_,_,_,ζ,az,(),aa,?_,?_,ζ⟩
   ·(show _=cH (dA,eI));unfold cH;first|(rw [iC (cm w1) (agE iU gO)];rfl)|rfl
   ·rfl
  ·refine⟨(i+1),[],?_,?_,?_⟩
   rotate_right
   ·exact bV
   ·exact⟨cm w1,hgo (acC w5 w9 (.inr dJ) (.inl kg))⟩
   ·show 64-(i+1)<64-i;have:=cm w1;omega
  ·refine⟨[],[],_,_,_,ζ,az,(),aa,?_,?_,ζ⟩
   ·(show _=cH (dA,eI));unfold cH;first|(rw [iC (cm w1) (agE rS oL)];rfl)|rfl
   ·rfl
  ·refine⟨(i+1),[],?_,?_,?_⟩
   rotate_right
   ·exact bV
   ·exact⟨cm w1,hgo (acC w5 w9 (.inl xh) (.inr uI))⟩
   ·show 64-(i+1)<64-i;have:=cm w1;omega
  ·refine⟨(i+1),[],?_,?_,?_⟩
   rotate_right
   ·exact bV
   ·exact⟨cm w1,hgo (acC w5 w9 (.inl xh) (.inl A4))⟩
   ·show 64-(i+1)<64-i;have:=cm w1;omega
  ·have e:rC (dA,eI)=true:=by rw [hE];exact M7 λj yK=>hj j (by have:=aA A3;omega)
   refine⟨[],[],_,_,_,ζ,az,(),aa,?_,?_,ζ⟩
   ·(show _=cH (dA,eI));unfold cH;first|(rw [e];rfl)|rfl
   ·rfl
end GL
namespace GL
def vi (l:List Int):Prop:=0<l.length∧l.length≤1000000
def acR (l:List Int) (z:Int):Prop:=(∀j,j<l.length→nth ag l j≤z)∧∃j,j<l.length∧nth ag l j=z
def GV (l:List Int) (z:Int):AV:=.int z
def OO (l:List Int) (z:Int):List AV:=[]
def yZ:cn where
 A:=[.s (.vz ag)]
 B:=[]
 pre:=λx b=>vi x
 α:=λ_ _=>Int
 φ:=λx b z=>acR x z
 r:=λx b z=>GV x z
 o:=λx b z=>OO x z
theorem W9:Has Tryz.prog 101 yZ:=by
 refine Has.WR zT zF zF (l:=[]) trivial Tryz.func101 ?_
 rintro (l:List Int) _ (hp:vi l)
 show vc _ _ _ _ (entry [.s (.vz ag l)] []) _
 obtain⟨(h0:0<l.length),(h1:l.length≤1000000)⟩:=hp
 refine⟨λw1=>?_,λw2=>⟨⟨?_,?_⟩,?_⟩⟩
 all_goals first|(exfalso;simp only [decide_eq_true_eq,decide_eq_false_iff_not] at *;omega)|refine aw ?_|refine ax ?_|exact a8|exact a7|skip
 refine lW (l:=[]) (ex:=zT) (wr:=zF) (pt:=zF) trivial [.s 0] (λy:Nat×Int=>[(.s 3,.int y.2),(.s 4,.int ((y.1+1:Nat):Int))]) (λy=>y.1+1≤l.length∧(∀j,j<y.1+1→nth ag l j≤y.2)∧∃j,j<y.1+1∧nth ag l j=y.2) (λy=>l.length-y.1) (0,nth ag l 0) [] ⟨h0,λj hj=>by rw [show j=0 by omega];exact ZC1 _,0,by omega,rfl⟩ dM ?_
 rintro⟨i,m⟩ ⟨(hi:i+1≤l.length),hj,hx⟩
 refine⟨λw1=>⟨⟨?_,?_⟩,⟨⟨?_,?_⟩,?_⟩⟩,λw2=>?_⟩
 all_goals first|refine aw ?_|refine ax ?_|exact a8|exact a7|skip
 ·have bU:i+1<l.length:=by have:=aJ w1;simp only [] at this;omega
  refine⟨(i+1,max m (nth ag l (i+1))),[],?_,?_,?_⟩
  rotate_right
  ·exact bV
  ·refine⟨bU,λj yK=>?_,?_⟩
   ·by_cases e:j=i+1
    ·rw [e];exact Int.le_max_right _ _
    ·exact ZE0 (hj j (by omega)) (Int.le_max_left _ _)
   ·obtain⟨j,h2,h3⟩:=hx
    by_cases e:nth ag l (i+1)≤m
    ·exact⟨j,by omega,by rw [h3];exact (Int.max_eq_left e).symm⟩
    ·exact⟨i+1,by omega,(Int.max_eq_right (by have:=Int.not_le.1 e;exact Int.le_of_lt this)).symm⟩
  ·show l.length-(i+1)<l.length-i;omega
 ·have FL:¬(i+1<l.length):=by have:=aA w2;simp only [] at this;omega
  obtain⟨j,h2,h3⟩:=hx
  refine⟨[],[],_,_,_,ζ,az,m,0,(⟨λj yK=>hj j (by omega),j,by omega,h3⟩),?_,?_,ζ⟩
  ·(show _=GV l m);unfold GV;first|(rw [rfl];rfl)|rfl
  ·(show _=OO l m);unfold OO;first|(rw [rfl];rfl)|rfl
def fh (s:ay) (iy:Int) (p:Pt):Bool:=aZ p&&(!(au p)&&(!(decide (p.2.1>iy))&& !(decide (nth ag s.refs p.1.toNat=(0:Int)))))
section
variable {s:ay}{iy:Int}{p:Pt}
theorem aht (h:(!(aZ p))=true):fh s iy p=false:=by unfold fh;rw [uv h];rfl
theorem ahs (h:au p=true):fh s iy p=false:=by unfold fh;rw [h];cases aZ p<;>rfl
theorem ahr (h:decide (p.2.1>iy)=true):fh s iy p=false:=by unfold fh;rw [h];cases aZ p<;>cases au p<;>rfl
theorem ahq (h:decide (nth ag s.refs p.1.toNat=(0:Int))=true):fh s iy p=false:=by unfold fh;rw [h];cases aZ p<;>cases au p<;>cases decide (p.2.1>iy)<;>rfl
theorem ahn (h:(!(aZ p))=false) (h2:au p=false) (h3:decide (p.2.1>iy)=false) (h4:decide (nth ag s.refs p.1.toNat=(0:Int))=false):fh s iy p=true:=by unfold fh;rw [cL h,h2,h3,h4];rfl
end
theorem NV {l:List Pt}{n:Nat}(h:n<l.length):l.take (n+1)=l.take n++[nth ae l n]:=by
 rw [List.take_succ,oD (ek:=ae) h];rfl
def sf (l:List Pt) (iy:Int) (S:ay) (o:List Int):Prop:=o.length=64∧S.refs.length=64∧l.length≤1000000∧∀r,(0:Int)≤nth ag o r∧nth ag o r≤(1000000:Int)
def LQ (l:List Pt) (iy:Int) (S:ay) (o:List Int) (z:List Int):Prop:=z.length=64∧(∀r,(0:Int)≤nth ag z r∧nth ag z r≤(nth ag o r+(l.length:Int):Int))∧(l.all (fh S iy)=true→∀r,nth ag z r=(nth ag o r+(bn l r:Int):Int))
def gT (l:List Pt) (iy:Int) (S:ay) (o:List Int) (z:List Int):AV:=.q (l.all (fh S iy))
def js (l:List Pt) (iy:Int) (S:ay) (o:List Int) (z:List Int):List AV:=[.a [.xs 1 1 0 o.length],.rs ag z]
def uf:cn where
 A:=[.s (.vz ae),.s .int,.vs xv,.b 0]
 B:=[.a [.xb 1 ag],.r ag]
 pre:=λx b=>US (b.1) (b.2)∧sf (x.1) (x.2.1) (x.2.2.1) (b.2)
 α:=λ_ _=>List Int
 φ:=λx b z=>LQ (x.1) (x.2.1) (x.2.2.1) (b.2) z
 r:=λx b z=>gT (x.1) (x.2.1) (x.2.2.1) (b.2) z
 o:=λx b z=>js (x.1) (x.2.1) (x.2.2.1) (b.2) z
theorem PG:Has Tryz.prog 102 uf:=by
 refine Has.WR zT zF zF (l:=[(55,cB),(56,bG)]) ⟨jt,eO,aa⟩ Tryz.func102 ?_
 rintro⟨(l:List Pt),(iy:Int),⟨(aj:List ByteArray),(ak:List Int),(an:List Int),(ao:Int),(ah:List Pt),(aq:Int),(ai:List Pt),(ar:Bool)⟩,_⟩ ⟨(om:Nat),(o:List Int)⟩ ⟨(akM:om=List.length o),(hp:sf l iy (aj,ak,an,ao,ah,aq,ai,ar) o)⟩
 subst akM
 show vc _ _ _ _ (entry [.s (.vz ae l),.int iy,.s (.vs [.vz ab aj,.vz ag ak,.vz ag an,.v (.int .i64 ao),.vz ae ah,.v (.int .i64 aq),.vz ae ai,.q ar] 0),.s (.bp 0 0)] [.a [.xs 1 1 0 o.length],.rs ag o]) _
 let g':=(aj,ak,an,ao,ah,aq,ai,ar)
 obtain⟨(ho:List.length o=64),(hrf:ak.length=64),(hl:l.length≤1000000),hb⟩:=hp
 refine ?_
 all_goals first|refine aw ?_|refine ax ?_|exact a8|(dsimp only [cB,cR,bG,cb];omega)|exact a7|skip
 refine lW (l:=[(55,cB),(56,bG)]) (ex:=zT) (wr:=zF) (pt:=zF) ⟨jt,eO,aa⟩ [.s 1,.s 2,.s 3,.s 9,.s 10,.b 0] (λy:Nat×List Int=>[(.s 11,.int y.1),(.b 1,.rs ag y.2)]) (λy=>y.1≤l.length∧y.2.length=64∧(∀r,nth ag y.2 r=(nth ag o r+(bn (l.take y.1) r:Int):Int))∧(l.take y.1).all (fh g' iy)=true) (λy=>l.length-y.1) (0,o) [] ⟨ZA7 _,ho,λr=>(Int.add_zero _).symm,rfl⟩ dM ?_
 rintro⟨i,z⟩ ⟨(hi:i≤l.length),(hz:z.length=64),(hc:∀r,nth ag z r=(nth ag o r+(bn (l.take i) r:Int):Int)),(ha:(l.take i).all (fh g' iy)=true)⟩
 have cm:decide ((i:Int)<(l.length:Int))=true→i<l.length:=λh=>by have:=aJ h;omega
 have hq:(!(aZ (nth ae l i)))=false→0≤(nth ae l i).1∧(nth ae l i).1<64:=λh=>nT (cL h)
 have hci:∀r,bn (l.take i) r≤i:=λr=>ZB0 List.countP_le_length (by rw [ZB9];omega)
 have hzb:∀r,(0:Int)≤nth ag z r∧nth ag z r≤(nth ag o r+(l.length:Int):Int)∧nth ag z r≤(2000000:Int):=λr=>by
  have h1:=hb r;have h2:=hci r
  rw [hc r]
  refine⟨?_,?_,?_⟩
  ·show (0:Int)≤nth ag o r+(bn (l.take i) r:Int);have h3:(0:Int)≤nth ag o r:=h1.1;omega
  ·exact Int.add_le_add_left (by omega:((bn (l.take i) r:Nat):Int)≤(l.length:Int)) _
  ·exact ZE0 (Int.add_le_add h1.2 (by omega:((bn (l.take i) r:Nat):Int)≤1000000)) (by decide)
 have iC:i<l.length→fh g' iy (nth ae l i)=false→l.all (fh g' iy)=false:=λh h2=>by
  rw [Bool.eq_false_iff];intro h3
  rw [ZC9.1 h3 _ (bR (ek:=ae) h)] at h2;cases h2
 have vD:∀b:Bool,l.all (fh g' iy)=b→b=false→LQ l iy g' o z:=λb h h2=>⟨hz,λr=>⟨(hzb r).1,(hzb r).2.1⟩,λh3=>by rw [h,h2] at h3;cases h3⟩
 refine⟨λw1=>⟨⟨?_,?_⟩,⟨⟨tv6,aa⟩,aa⟩,λx2 w3=>⟨aa,λw4=>?_,λw5=>⟨⟨⟨tv6,aa⟩,aa⟩,λx6 w7=>⟨aa,λw8=>?_,λw9=>⟨aa,λdy=>?_,λkA=>⟨⟨?_,?_⟩,λdJ=>?_,λiU=>⟨⟨?_,?_⟩,?_,⟨?_,?_⟩,⟨?_,?_⟩,?_,⟨?_,?_⟩,?_⟩⟩⟩⟩⟩⟩⟩,λgO=>?_⟩
 all_goals first|refine aw ?_|refine ax ?_|exact a8|(dsimp only [cB,cR,bG,cb];omega)|exact a7|exact (hq w5).1|(show _<(ak.length:Int);rw [hrf];exact (hq w5).2)|(show _<(List.length o:Int);rw [ho];exact (hq w5).2)|(show (nth ae l i).1.toNat<z.length;rw [hz];exact sr (cL w5))|(have h8:=(hzb (nth ae l i).1.toNat).1;show (-9223372036854775808:Int)≤nth ag z (nth ae l i).1.toNat+1;have h9:(0:Int)≤nth ag z (nth ae l i).1.toNat:=h8;omega)|exact ZE0 (Int.add_le_add_right (hzb (nth ae l i).1.toNat).2.2 1) (by decide)|skip
 ·have e:=iC (cm w1) (aht w4)
  refine⟨[],[],_,_,_,ζ,az,z,0,(vD _ e rfl),?_,?_,ζ⟩
  ·(show _=gT l iy g' o z);unfold gT;first|(rw [e];rfl)|rfl
  ·(show _=js l iy g' o z);unfold js;first|(rw [e];rfl)|rfl
 ·have e:=iC (cm w1) (ahs w8)
  refine⟨[],[],_,_,_,ζ,az,z,0,(vD _ e rfl),?_,?_,ζ⟩
  ·(show _=gT l iy g' o z);unfold gT;first|(rw [e];rfl)|rfl
  ·(show _=js l iy g' o z);unfold js;first|(rw [e];rfl)|rfl
 ·have e:=iC (cm w1) (ahr dy)
  refine⟨[],[],_,_,_,ζ,az,z,0,(vD _ e rfl),?_,?_,ζ⟩
  ·(show _=gT l iy g' o z);unfold gT;first|(rw [e];rfl)|rfl
  ·(show _=js l iy g' o z);unfold js;first|(rw [e];rfl)|rfl
 ·have e:=iC (cm w1) (ahq (s:=g') dJ)
  refine⟨[],[],_,_,_,ζ,az,z,0,(vD _ e rfl),?_,?_,ζ⟩
  ·(show _=gT l iy g' o z);unfold gT;first|(rw [e];rfl)|rfl
  ·(show _=js l iy g' o z);unfold js;first|(rw [e];rfl)|rfl
 ·have bU:=cm w1
  have hk:(nth ae l i).1.toNat<z.length:=by rw [hz];exact sr (cL w5)
  refine⟨(i+1,z.set (nth ae l i).1.toNat (nth ag z (nth ae l i).1.toNat+1:Int)),[],?_,?_,?_⟩
  rotate_right
  ·exact bV
  ·refine⟨bU,by show (List.set _ _ _).length=64;rw [ZC3,hz],λr=>?_,?_⟩
   ·show nth ag (List.set z _ _) r=(nth ag o r+(bn (l.take (i+1)) r:Int):Int)
    rw [NV bU,bI]
    by_cases e:(nth ae l i).1.toNat=r
    ·subst e
     rw [nu (ek:=ag) hk,hc,rM (p:=nth ae l i) w9]
     exact Int.add_assoc _ _ _
    ·rw [ix (ek:=ag) e,hc,yU e];rfl
   ·show (l.take (i+1)).all _=true
    rw [NV bU,List.all_append,ha]
    show (true&&(fh g' iy (nth ae l i)&&true))=true
    rw [ahn (s:=g') (p:=nth ae l i) w5 w9 kA iU];rfl
  ·show l.length-(i+1)<l.length-i;omega
 ·have FL:i=l.length:=by have:=aA (p:=(i:Int)<(l.length:Int)) gO;omega
  have ht:l.take i=l:=ZD1 (by omega)
  rw [ht] at ha
  refine⟨[],[],_,_,_,ζ,az,z,0,(⟨hz,λr=>⟨(hzb r).1,(hzb r).2.1⟩,λ_ r=>by rw [hc r,ht]⟩),?_,?_,ζ⟩
  ·(show _=gT l iy g' o z);unfold gT;first|(rw [ha];rfl)|rfl
  ·(show _=js l iy g' o z);unfold js;first|(rw [ha];rfl)|rfl
end GL
namespace GL
noncomputable section
structure KK (s:ay):Prop where
 len:s.rows.length=64
 sp:rC (s.refs,s.last)=true
 cg:1≤s.cg∧s.cg≤900
 bZ:0≤s.bZ∧s.bZ≤s.cg-1
 P9:∀i,i<64→nth ag s.last i≤s.cg
 row:∀i,i<64→(nth ab s.rows i).size≤128∧decide (nth ab s.rows i=⟨#[]⟩)=decide (nth ag s.refs i=(0:Int))
 gone:∀p∈s.gone,aZ p=true∧au p=false∧p.2.1≤s.cg-1
 dead:∀p∈s.dead,aZ p=true∧au p=false∧p.2.1≤s.bZ
 bn:∀r,r<64→((bn s.gone r+bn s.dead r:Nat):Int)≤qI s r
def iI (s:ay):Bool:= @decide (KK s) (Classical.propDecidable _)
theorem U0 {s:ay}(h:KK s):iI s=true:=by unfold iI;exact @decide_eq_true _ (Classical.propDecidable _) h
theorem mC {s:ay}(h:¬KK s):iI s=false:=by unfold iI;exact @decide_eq_false _ (Classical.propDecidable _) h
theorem QM {s:ay}:iI s=true↔KK s:=by unfold iI;exact @decide_eq_true_iff _ (Classical.propDecidable _)
theorem QQ {p:List Int×List Int}(h:rC p=true):p.1.length=64∧p.2.length=64:=by
 cases h1:decide ((p.1.length:Int)≠64) with
 |true=>rw [N1 h1] at h;cases h
 |false=>
  cases h2:decide ((p.2.length:Int)≠64) with
  |true=>rw [N0 h2] at h;cases h
  |false=>
   have:=aA (p:=¬(p.1.length:Int)=64) h1;have:=aA (p:=¬(p.2.length:Int)=64) h2
   omega
theorem adB:∀(l:List Int),0<l.length→∃z:Int,(∀j,j<l.length→nth ag l j≤z)∧∃j,j<l.length∧nth ag l j=z
 |[a],_=>⟨a,λj hj=>by rw [show j=0 by simpa using hj];exact ZC1 _,0,by simp,rfl⟩
 |a::b::l,_=>by
  obtain⟨z,h1,k,h2,h3⟩:=adB (b::l) (by simp)
  by_cases e:a≤z
  ·refine⟨z,λj hj=>?_,k+1,by simpa using h2,h3⟩
   cases j with
   |zero=>exact e
   |succ j=>exact h1 j (by simpa using hj)
  ·refine⟨a,λj hj=>?_,0,by simp,ζ⟩
   cases j with
   |zero=>exact ZC1 _
   |succ j=>exact ZE0 (h1 j (by simpa using hj)) (by omega)
section
variable {s:ay}
theorem aiI (h:decide ((s.rows.length:Int)≠64)=true):iI s=false:=mC λk=>by have:=aJ h;have:=k.len;omega
theorem aiH (h:(!(rC (s.refs,s.last)))=true):iI s=false:=mC λk=>by rw [k.sp] at h;cases h
theorem aiG (h:(!(ik s.cg 1 900))=true):iI s=false:=mC λk=>by rw [cC.2 k.cg] at h;cases h
theorem aiF (h:(!(ik s.bZ 0 (s.cg-1)))=true):iI s=false:=mC λk=>by rw [cC.2 k.bZ] at h;cases h
theorem akB {m:Int}(hl:s.last.length=64) (hx:∃j,j<s.last.length∧nth ag s.last j=m) (h:decide (m>s.cg)=true):iI s=false:=mC λk=>by
 obtain⟨j,h1,h2⟩:=hx
 have h3:=k.P9 j (by omega)
 rw [h2] at h3
 have:=aJ h
 exact absurd h3 (Int.not_le.2 this)
end
def BC (s:ay) (i:Nat):Bool:=bif decide (((nth ab s.rows i).size:Int)>128) then false else !(bne (decide (nth ab s.rows i=⟨#[]⟩)) (decide (nth ag s.refs i=(0:Int))))
theorem uN (n r:Nat):nth ag (List.replicate n (EK.zero ag)) r=(0:Int):=by
 by_cases h:r<(List.replicate n (EK.zero ag)).length
 ·exact (ZD6.1 (bR (ek:=ag) h)).2
 ·exact tz (ek:=ag) (by omega)
section
variable {s:ay}{i:Nat}
theorem acG (h:decide (((nth ab s.rows i).size:Int)>128)=true):BC s i=false:=by unfold BC;rw [h];rfl
theorem acF (h:bne (decide (nth ab s.rows i=⟨#[]⟩)) (decide (nth ag s.refs i=(0:Int)))=true):BC s i=false:=by unfold BC;rw [h];cases decide (((nth ab s.rows i).size:Int)>128)<;>rfl
theorem acE (h:decide (((nth ab s.rows i).size:Int)>128)=false) (h2:bne (decide (nth ab s.rows i=⟨#[]⟩)) (decide (nth ag s.refs i=(0:Int)))=false):BC s i=true:=by unfold BC;rw [h,h2];rfl
theorem GP:BC s i=true↔(nth ab s.rows i).size≤128∧decide (nth ab s.rows i=⟨#[]⟩)=decide (nth ag s.refs i=(0:Int)):=by
 unfold BC
 cases h:decide (((nth ab s.rows i).size:Int)>128) with
 |true=>have:=aJ h;exact⟨λh=>(by cases h),λh=>absurd h.1 (by omega)⟩
 |false=>
  have:=aA h
  rw [cond_false]
  cases decide (nth ab s.rows i=⟨#[]⟩)<;>cases decide (nth ag s.refs i=(0:Int))<;>simp<;>omega
theorem zx {iy:Int}{p:Pt}:fh s iy p=true↔aZ p=true∧au p=false∧p.2.1≤iy∧nth ag s.refs p.1.toNat≠(0:Int):=by
 unfold fh
 simp only [ZA9,ZF8,decide_eq_false_iff_not,ZH1]
theorem UG {l:List Pt}{p:Pt}(h:p∈l) (hh:au p=false):0<bn l (at' p):=List.countP_pos_iff.2 ⟨p,h,by simp [K2,hh]⟩
theorem KK.aho (k:KK s):s.gone.all (fh s (s.cg-1))=true:=ZC9.2 λp hp=>by
 obtain⟨h1,h2,h3⟩:=k.gone p hp
 refine zx.2 ⟨h1,h2,h3,λh=>?_⟩
 have h4:=k.bn (at' p) (sr h1);have h5:=UG hp h2
 rw [show qI s (at' p)=0 from h] at h4;omega
theorem KK.ahp (k:KK s):s.dead.all (fh s s.bZ)=true:=ZC9.2 λp hp=>by
 obtain⟨h1,h2,h3⟩:=k.dead p hp
 refine zx.2 ⟨h1,h2,h3,λh=>?_⟩
 have h4:=k.bn (at' p) (sr h1);have h5:=UG hp h2
 rw [show qI s (at' p)=0 from h] at h4;omega
theorem afA (hi:i<64) (h:BC s i=false):iI s=false:=mC λk=>by rw [GP.2 (k.row i hi)] at h;cases h
theorem akA (h:s.gone.all (fh s (s.cg-1))=false):iI s=false:=mC λk=>by rw [k.aho] at h;cases h
theorem akz (h:s.dead.all (fh s s.bZ)=false):iI s=false:=mC λk=>by rw [k.ahp] at h;cases h
theorem aky {r:Nat}(hr:r<64) (h:¬((bn s.gone r+bn s.dead r:Nat):Int)≤qI s r):iI s=false:=mC λk=>h (k.bn r hr)
end
def tl (S:ay):Prop:=S.gone.length≤1000000∧S.dead.length≤1000000
def bO (S:ay):AV:=.s (.q (iI S))
def R4 (S:ay):List AV:=[]
def yX:cn where
 A:=[.a xv]
 B:=[]
 pre:=λx b=>tl x
 r:=λx b _=>bO x
 o:=λx b _=>R4 x
theorem W7:Has Tryz.prog 65 yX:=by
 refine Has.zB zT zF zF (l:=[(100,kS),(32,cr),(101,yZ),(102,uf)]) ⟨yG,fM,W9,PG,aa⟩ Tryz.func65 ?_
 rintro⟨(aj:List ByteArray),(ak:List Int),(an:List Int),(ao:Int),(ah:List Pt),(aq:Int),(ai:List Pt),(ar:Bool)⟩ _ (hp:tl (aj,ak,an,ao,ah,aq,ai,ar))
 show vc _ _ _ _ (entry [.a [.vz ab aj,.vz ag ak,.vz ag an,.int ao,.vz ae ah,.int aq,.vz ae ai,.q ar]] []) _
 let g':=(aj,ak,an,ao,ah,aq,ai,ar)
 obtain⟨(hg:ah.length≤1000000),(hd:ai.length≤1000000)⟩:=hp
 have hla:(!(rC (ak,an)))=false→ak.length=64∧an.length=64:=λh=>QQ (cL h)
 have hxt:(!(ik ao 1 900))=false→1≤ao∧ao≤900:=λh=>cC.1 (cL h)
 have hxk:(!(ik aq 0 (ao-1)))=false→0≤aq∧aq≤ao-1:=λh=>cC.1 (cL h)
 refine⟨Sq1,Sq9,ζ,[.s 9,.b 1001],Sq10,ζ,Sq10,Sq11,ζ,Sq11,Sq12,ζ,Sq12,Sq13,ζ,aa,λw1=>⟨Sq13,Sq14,ζ,Sq13,Sq15,ζ,Sq13,Sq16,ζ,Sq13,Sq17,ζ,[.s 13,.s 17],Sq18,ζ,Sq18,Sq19,ζ,Sq19,Sq20,ζ,Sq19,Sq21,ζ,Sq19,Sq22,ζ,Sq19,Sq23,ζ,[.s 19,.s 23],Sq24,ζ,Sq24,Sq25,ζ,Sq25,Sq26,ζ,Sq25,Sq27,ζ,Sq25,Sq28,ζ,Sq25,Sq29,ζ,Sq25,Sq30,ζ,Sq25,Sq31,ζ,Sq25,Sq32,ζ,[.s 25,.s 32],Sq33,ζ,Sq33,Sq34,ζ,Sq34,Sq35,ζ,Sq34,Sq36,ζ,Sq34,Sq37,ζ,Sq34,Sq38,ζ,Sq34,Sq39,ζ,Sq34,Sq40,ζ,Sq34,Sq41,ζ,[.s 34,.s 41],Sq42,ζ,?_⟩,λw2=>⟨[.s 13,.s 1],Sq14,ζ,[.s 13,.s 14,.b 1001],Sq15,ζ,[.s 13,.s 15],Sq16,ζ,⟨⟨tv3,aa⟩,aa⟩,?_,λx3 w4=>⟨[.s 13,.s 16],Sq17,ζ,[.s 13,.s 17],Sq18,ζ,Sq18,Sq19,ζ,aa,λw5=>⟨Sq19,Sq20,ζ,Sq19,Sq21,ζ,Sq19,Sq22,ζ,Sq19,Sq23,ζ,[.s 19,.s 23],Sq24,ζ,Sq24,Sq25,ζ,Sq25,Sq26,ζ,Sq25,Sq27,ζ,Sq25,Sq28,ζ,Sq25,Sq29,ζ,Sq25,Sq30,ζ,Sq25,Sq31,ζ,Sq25,Sq32,ζ,[.s 25,.s 32],Sq33,ζ,Sq33,Sq34,ζ,Sq34,Sq35,ζ,Sq34,Sq36,ζ,Sq34,Sq37,ζ,Sq34,Sq38,ζ,Sq34,Sq39,ζ,Sq34,Sq40,ζ,Sq34,Sq41,ζ,[.s 34,.s 41],Sq42,ζ,?_⟩,λw6=>⟨[.s 19,.s 1],Sq20,ζ,[.s 19,.s 20,.b 1001],Sq21,ζ,[.s 19,.s 21],Sq22,ζ,⟨tv4,aa⟩,?_,λx7 w8=>⟨[.s 19,.s 22],Sq23,ζ,[.s 19,.s 23],Sq24,ζ,Sq24,Sq25,ζ,aa,λw9=>⟨Sq25,Sq26,ζ,Sq25,Sq27,ζ,Sq25,Sq28,ζ,Sq25,Sq29,ζ,Sq25,Sq30,ζ,Sq25,Sq31,ζ,Sq25,Sq32,ζ,[.s 25,.s 32],Sq33,ζ,Sq33,Sq34,ζ,Sq34,Sq35,ζ,Sq34,Sq36,ζ,Sq34,Sq37,ζ,Sq34,Sq38,ζ,Sq34,Sq39,ζ,Sq34,Sq40,ζ,Sq34,Sq41,ζ,[.s 34,.s 41],Sq42,ζ,?_⟩,λdy=>⟨[.s 25,.s 1],Sq26,ζ,[.s 25,.s 26,.b 1001],Sq27,ζ,[.s 25,.s 1],Sq28,ζ,[.s 25,.s 28,.b 1001],Sq29,ζ,[.s 25,.s 29],Sq30,ζ,⟨?_,?_⟩,[.s 25,.s 27,.s 30],Sq31,ζ,⟨tv4,aa⟩,?_,λkz dJ=>⟨[.s 25,.s 31],Sq32,ζ,[.s 25,.s 32],Sq33,ζ,Sq33,Sq34,ζ,aa,λiU=>⟨Sq34,Sq35,ζ,Sq34,Sq36,ζ,Sq34,Sq37,ζ,Sq34,Sq38,ζ,Sq34,Sq39,ζ,Sq34,Sq40,ζ,Sq34,Sq41,ζ,[.s 34,.s 41],Sq42,ζ,?_⟩,λgO=>⟨[.s 34,.s 1],Sq35,ζ,[.s 34,.s 35],Sq36,ζ,[.s 34,.s 36,.b 1001],Sq37,ζ,[.s 34,.s 37],Sq38,ζ,⟨tv2,?_,?_⟩,?_,λky kg=>⟨[.s 34,.s 1],Sq39,ζ,[.s 34,.s 39,.b 1001],Sq40,ζ,[.s 34,.s 38,.s 40],Sq41,ζ,[.s 34,.s 41],Sq42,ζ,λxh=>?_,λrS=>?_⟩⟩⟩⟩⟩⟩⟩⟩⟩
 all_goals first|refine aw ?_|refine ax ?_|exact a8|(dsimp only [kS,lO,cr,df,yZ,vi,uf,sf];omega)|exact a7|(show (-9223372036854775808:Int)≤ao-1;have:=hxt dy;omega)|(show ao-1≤(9223372036854775807:Int);have:=hxt dy;omega)|(show 0<an.length;rw [(hla w6).2];decide)|(show an.length≤1000000;rw [(hla w6).2];decide)|exact adB an (by rw [(hla w6).2];decide)|skip
 ·refine⟨[],[],_,_,_,ζ,az,(),aa,?_,?_,ζ⟩
  ·(show _=bO g');unfold bO;first|(rw [aiI (s:=g') w1];rfl)|rfl
  ·rfl
 ·refine⟨[],[],_,_,_,ζ,az,(),aa,?_,?_,ζ⟩
  ·(show _=bO g');unfold bO;first|(rw [aiH (s:=g') w5];rfl)|rfl
  ·rfl
 ·refine⟨[],[],_,_,_,ζ,az,(),aa,?_,?_,ζ⟩
  ·(show _=bO g');unfold bO;first|(rw [aiG (s:=g') w9];rfl)|rfl
  ·rfl
 ·refine⟨[],[],_,_,_,ζ,az,(),aa,?_,?_,ζ⟩
  ·(show _=bO g');unfold bO;first|(rw [aiF (s:=g') iU];rfl)|rfl
  ·rfl
 ·refine⟨[],[],_,_,_,ζ,az,(),aa,?_,?_,ζ⟩
  ·(show _=bO g');unfold bO;first|(rw [akB (s:=g') (hla w6).2 kg.2 xh];rfl)|rfl
  ·rfl
 have hlen:aj.length=64:=by have:=aA w2;omega
 have hrl:=hla w6
 have hsp:rC (ak,an)=true:=cL w6
 have htx:=hxt dy
 have hkp:=hxk gO
 have hyo:∀i,i<64→nth ag an i≤ao:=λi hi=>ZE0 (kg.1 i (show i<an.length by rw [hrl.2];exact hi)) (ZH1.1 (aA (p:=(show Int from ky)>ao) rS))
 have hz0:∀r,nth ag (List.replicate (Int.toNat 64) (EK.zero ag)) r=(0:Int):=λr=>uN _ r
 have hz1:∀r,(0:Int)≤nth ag (List.replicate (Int.toNat 64) (EK.zero ag)) r:=λr=>by rw [hz0];exact ZC1 _
 have hz2:∀r,nth ag (List.replicate (Int.toNat 64) (EK.zero ag)) r≤(1000000:Int):=λr=>by rw [hz0];decide
 have hz3:∀r,(nth ag (List.replicate (Int.toNat 64) (EK.zero ag)) r+(ah.length:Int):Int)≤(1000000:Int):=λr=>by rw [hz0];show (0:Int)+_≤_;omega
 refine lW (l:=[(100,kS),(32,cr),(101,yZ),(102,uf)]) (ex:=zT) (wr:=zF) (pt:=zF) ⟨yG,fM,W9,PG,trivial⟩ [.s 1,.b 1001,.s 44,.s 45] (λi:Nat=>[(.s 46,.int i)]) (λi=>i≤64∧∀j,j<i→BC g' j=true) (λi=>64-i) 0 [] ⟨ZA7 _,λj hj=>absurd hj (by omega)⟩ dM ?_
 rintro i ⟨(hi:i≤64),hj⟩
 have cm:decide ((i:Int)<(aj.length:Int))=true→i<64:=λh=>by have:=aJ h;omega
 refine⟨λw1=>⟨⟨?_,?_⟩,aa,λw2=>?_,λw3=>⟨⟨?_,?_⟩,λw4=>?_,λw5=>⟨⟨?_,?_⟩,?_⟩⟩⟩,λw6=>⟨⟨?_,?_,?_⟩,⟨?_,?_⟩,⟨tv5,?_,?_,?_,?_,λx7=>⟨?_,?_⟩⟩,λx8 w9=>⟨aa,λdy=>?_,λkA=>⟨⟨tv5,?_,?_,?_,?_,λx12=>⟨?_,?_⟩⟩,λrW gO=>⟨λqK=>?_,λkg=>?_⟩⟩⟩⟩⟩
 all_goals first|refine aw ?_|refine ax ?_|exact a8|(dsimp only [kS,lO,cr,df,yZ,vi,uf,sf];omega)|exact a7|(show (i:Int)<(ak.length:Int);rw [hrl.1];exact Int.ofNat_lt.2 (cm w1))|exact hrl.1|exact hz1 _|exact hz2 _|exact w9.1.symm|exact w9.1|exact (w9.2.1 _).1|exact ZE0 (w9.2.1 _).2 (hz3 _)|exact hg|exact hd|skip
 ·refine⟨[],[],_,_,_,ζ,az,(),aa,?_,?_,ζ⟩
  ·(show _=bO g');unfold bO;first|(rw [afA (s:=g') (cm w1) (acG (s:=g') w2)];rfl)|rfl
  ·rfl
 ·refine⟨[],[],_,_,_,ζ,az,(),aa,?_,?_,ζ⟩
  ·(show _=bO g');unfold bO;first|(rw [afA (s:=g') (cm w1) (acF (s:=g') w4)];rfl)|rfl
  ·rfl
 ·refine⟨(i+1),[],?_,?_,?_⟩
  rotate_right
  ·exact bV
  ·refine⟨cm w1,λj yK=>?_⟩
   by_cases e:j=i
   ·rw [e];exact acE (s:=g') w3 w5
   ·exact hj j (by omega)
  ·show 64-(i+1)<64-i;have:=cm w1;omega
 ·refine⟨[],[],_,_,_,ζ,az,(),aa,?_,?_,ζ⟩
  ·(show _=bO g');unfold bO;first|(rw [akA (s:=g') (uv dy)];rfl)|rfl
  ·rfl
 ·refine⟨[],[],_,_,_,ζ,az,(),aa,?_,?_,ζ⟩
  ·(show _=bO g');unfold bO;first|(rw [akz (s:=g') (uv qK)];rfl)|rfl
  ·rfl
 ·have abR:∀j,j<64→BC g' j=true:=λj yK=>hj j (by have:=aA w6;omega)
  have hgo:ah.all (fh g' (ao-1))=true:=cL kA
  have hde:ai.all (fh g' aq)=true:=cL kg
  have hc1:∀r,(nth ag (show List Int from x8) r:Int)=(bn ah r:Int):=λr=>(w9.2.2 hgo r).trans (show (nth ag (List.replicate (Int.toNat 64) (EK.zero ag)) r+(bn ah r:Int):Int)=_ by rw [hz0,Int.zero_add])
  have hcn:∀r,(nth ag (show List Int from rW) r:Int)=((bn ah r+bn ai r:Nat):Int):=λr=>(gO.2.2 hde r).trans (show (nth ag (show List Int from x8) r+(bn ai r:Int):Int)=_ by rw [hc1];rfl)
  have hx8:List.length (show List Int from x8)=64:=w9.1
  have hx:List.length (show List Int from rW)=64:=gO.1
  refine lW (l:=[(100,kS),(32,cr),(101,yZ),(102,uf)]) (ex:=zT) (wr:=zF) (pt:=zF) ⟨yG,fM,W9,PG,trivial⟩ [.s 1,.b 1001,.s 86,.s 87,.b 1067] (λi:Nat=>[(.s 88,.int i)]) (λi=>i≤64∧∀j,j<i→(nth ag rW j:Int)≤nth ag ak j) (λi=>64-i) 0 [] ⟨ZA7 _,λj hj=>absurd hj (by omega)⟩ dM ?_
  clear hj cm hi
  rintro i ⟨(hi:i≤64),hj⟩
  have cm:decide ((i:Int)<(List.length (show List Int from x8):Int))=true→i<64:=λh=>by have:=aJ h;omega
  have ob:decide ((i:Int)<(List.length (show List Int from x8):Int))=false→i=64:=λh=>by have:=aA h;omega
  refine⟨λw1=>⟨⟨?_,?_⟩,⟨?_,⟨⟨?_,?_⟩,⟨λw2=>?_,λw3=>⟨⟨?_,?_⟩,?_⟩⟩⟩⟩⟩,λw4=>?_⟩
  all_goals first|refine aw ?_|refine ax ?_|exact a8|(dsimp only [kS,lO,cr,df,yZ,vi,uf,sf];omega)|exact a7|(show i<List.length (show List Int from rW);rw [hx];exact cm w1)|(show (i:Int)<(ak.length:Int);rw [hrl.1];exact Int.ofNat_lt.2 (cm w1))|skip
  ·refine⟨[],[],_,_,_,ζ,az,(),aa,?_,?_,ζ⟩
   ·(show _=bO g');unfold bO;first|(rw [aky (s:=g') (cm w1) (λh=>by rw [←hcn i] at h;exact absurd h (Int.not_le.2 (aJ w2)))];rfl)|rfl
   ·rfl
  ·refine⟨(i+1),[],?_,?_,?_⟩
   rotate_right
   ·exact bV
   ·refine⟨cm w1,λj yK=>?_⟩
    by_cases e:j=i
    ·rw [e];exact ZH1.1 (aA w3)
    ·exact hj j (by omega)
   ·show 64-(i+1)<64-i;have:=cm w1;omega
  ·have e:iI g'=true:=U0
    {len:=hlen,sp:=hsp,cg:=htx,bZ:=hkp,P9:=hyo,row:=λj yK=>GP.1 (abR j yK)
     gone:=λp hp=>by
      have:=zx.1 (ZC9.1 hgo p hp)
      exact⟨this.1,this.2.1,this.2.2.1⟩
     dead:=λp hp=>by
      have:=zx.1 (ZC9.1 hde p hp)
      exact⟨this.1,this.2.1,this.2.2.1⟩
     bn:=λr hr=>by rw [←hcn r];exact hj r (by rw [ob w4];exact hr) }
   refine⟨[],[],_,_,_,ζ,az,(),aa,?_,?_,ζ⟩
   ·(show _=bO g');unfold bO;first|(rw [e];rfl)|rfl
   ·rfl
end
end GL
namespace GL
noncomputable section
def yl (l:List Pt):Prop:=l.length≤1000000
def VS (l:List Pt) (z:Bool):Prop:=z=true→l=[]
def pN (l:List Pt) (z:Bool):AV:=match z with |true=>.s (.v (.slice none 0 0)) |false=>.s (.xs 0 5 0 l.length)
def sn (l:List Pt) (z:Bool):List AV:=match z with |true=>[.zz] |false=>[.rs ae l]
def J5:cn where
 A:=[.s (.vz ae)]
 B:=[]
 pre:=λx b=>yl x
 α:=λ_ _=>Bool
 φ:=λx b z=>VS x z
 r:=λx b z=>pN x z
 o:=λx b z=>sn x z
 nf:=1
theorem ad2:Has Tryz.prog 67 J5:=by
 refine Has.WR zT zF zF (l:=[]) trivial Tryz.func67 ?_
 rintro (l:List Pt) _ (hp:yl l)
 show vc _ _ _ _ (entry [.s (.vz ae l)] []) _
 have hp:l.length≤1000000:=hp
 refine⟨?_,λ|false=>λw1=>⟨λw2=>?_,λw3=>⟨aa,⟨⟨?_,?_⟩,aa⟩,?_⟩⟩ |true=>λw4=>⟨λw5=>?_,λw6=>⟨aa,⟨⟨?_,?_⟩,aa⟩,?_⟩⟩⟩
 all_goals first|refine aw ?_|refine ax ?_|exact a8|exact a7|(show 0+l.length≤1048576;omega)|exact⟨false,λh=>by cases h⟩|skip
 ·cases w2
 ·refine⟨[1007],[],_,_,_,ζ,az,false,0,(w1),?_,?_,ζ⟩
  ·(show _=pN l false);unfold pN;first|((show AV.s (.xs 0 5 0 (0+l.length))=AV.s (.xs 0 5 0 l.length);rw [ZA6]))|((show [AV.rs ae ([]++l)]=[AV.rs ae l];rfl))|rfl
  ·(show _=sn l false);unfold sn;first|((show AV.s (.xs 0 5 0 (0+l.length))=AV.s (.xs 0 5 0 l.length);rw [ZA6]))|((show [AV.rs ae ([]++l)]=[AV.rs ae l];rfl))|rfl
 ·refine⟨[],[],_,_,_,ζ,az,true,1,(w4),?_,?_,ζ⟩
  ·(show _=pN l true);unfold pN;first|(rw [rfl];rfl)|rfl
  ·(show _=sn l true);unfold sn;first|(rw [rfl];rfl)|rfl
 ·cases w6
def py (s:ay) (t:bf):List Pt×Bool:=bif iI s&&qJ s t then ((bA s t).1.take t.many.toNat,true) else ([],false)
theorem YI {s:ay}{t:bf}:(py s t).2=(iI s&&qJ s t):=by unfold py;cases iI s&&qJ s t<;>rfl
theorem aaF {s:ay}{t:bf}(h:iI s=false):py s t=([],false):=by unfold py;rw [h];rfl
theorem LA {s:ay}{t:bf}(h:qJ s t=false):py s t=([],false):=by unfold py;rw [h,ZD7];rfl
theorem K9 {s:ay}{t:bf}(h:iI s=true) (h2:qJ s t=true):py s t=((bA s t).1.take t.many.toNat,true):=by unfold py;rw [h,h2];rfl
theorem KK.rd {s:ay}(k:KK s):s.rd:=⟨k.len,λx hx=>by
 obtain⟨i,hi,rfl⟩:=List.getElem_of_mem hx
 have h1:=(k.row i (by have:=k.len;omega)).1
 unfold nth at h1;rw [ZB1 hi] at h1;exact ZB0 h1 (by omega)⟩
theorem Y8 {s:ay}{t:bf}(h:qJ s t=true):lV t=false:=by
 cases hb:lV t with
 |false=>rfl
 |true=>rw [DV hb] at h;cases h
theorem ahx {s:ay}{t:bf}(h:qJ s t=true):t.rd:=HQ (Y8 h)
theorem S0 {s:ay}:∀{f:Nat}{lv:Int}{l:List Pt},lv<(f:Int)→(tF s f lv l).2=true→(tF s f lv l).1.length=l.length*4 ^ lv.toNat
 |0,lv,l,h,_=>by
  rw [show lv.toNat=0 by omega];exact (Nat.mul_one _).symm
 |f+1,lv,l,h,h2=>by
  cases hp:decide (lv>0) with
  |false=>
   have:=aA hp
   rw [vt hp,show lv.toNat=0 by omega];exact (Nat.mul_one _).symm
  |true=>
   have hp':=aJ hp
   match e:fx s lv l [] with
   |none=>rw [H5 hp e] at h2;cases h2
   |some n=>
    rw [CI hp e] at h2 ⊢
    rw [S0 (by omega) h2,r3 e,show lv.toNat=(lv-1).toNat+1 by omega,Nat.pow_succ]
    show (0+4*l.length)*_=_
    rw [ZA6,Nat.mul_comm 4,Nat.mul_assoc,Nat.mul_comm 4]
theorem adt {s:ay}{t:bf}(h:qJ s t=true):t.many.toNat≤(bA s t).1.length:=by
 have hb:=Y8 h
 have hl:(bA s t).2=true:=by
  cases hl: !(bA s t).2 with
  |false=>exact cL hl
  |true=>rw [ZA hb hl] at h;cases h
 unfold lV at hb
 simp only [ZE1,decide_eq_false_iff_not,ZE9] at hb
 obtain⟨h1,h2,h3⟩:=hb
 have:=pn t.many
 refine SW (cL h1) ?_
 have e:=S0 (s:=s) (f:=3) (lv:=t.depth) (l:=[t.root]) (by omega) hl
 rw [←h2];exact e.trans (Nat.one_mul _)
def oA (S:ay) (t:bf):Prop:=S.gone.length≤1000000∧S.dead.length≤1000000
def ER (S:ay) (t:bf) (z:Bool):Prop:=z=true→(py S t).1=[]
def cZ (S:ay) (t:bf) (z:Bool):AV:=.t [match z with |true=>.s (.v (.slice none 0 0)) |false=>.s (.xs 0 5 0 (py S t).1.length),.s (.q (py S t).2)]
def du (S:ay) (t:bf) (z:Bool):List AV:=match z with |true=>[.zz] |false=>[.rs ae (py S t).1]
def rN:cn where
 A:=[.a xv,.a [.int,.int,.int,.int,.int,.int,.int]]
 B:=[]
 pre:=λx b=>oA (x.1) (x.2)
 α:=λ_ _=>Bool
 φ:=λx b z=>ER (x.1) (x.2) z
 r:=λx b z=>cZ (x.1) (x.2) z
 o:=λx b z=>du (x.1) (x.2) z
 nf:=1
theorem K0:Has Tryz.prog 31 rN:=by
 refine Has.WR zT zF (λd=>d==17) (l:=[(65,yX),(66,DF),(67,J5)]) ⟨W7,abM,ad2,aa⟩ Tryz.func31 ?_
 rintro⟨⟨(aj:List ByteArray),(ak:List Int),(an:List Int),(ao:Int),(ah:List Pt),(aq:Int),(ai:List Pt),(ar:Bool)⟩,⟨(t1:Int),(t2:Int),(t3:Int),(t4:Int),(t5:Int),(t6:Int),(t7:Int)⟩⟩ _ (hp:oA (aj,ak,an,ao,ah,aq,ai,ar) (t1,t2,t3,t4,t5,t6,t7))
 show vc _ _ _ _ (entry [.a [.vz ab aj,.vz ag ak,.vz ag an,.int ao,.vz ae ah,.int aq,.vz ae ai,.q ar],.a [.int t1,.int t2,.int t3,.int t4,.int t5,.int t6,.int t7]] []) _
 let g':=(aj,ak,an,ao,ah,aq,ai,ar)
 let A':=(t1,t2,t3,t4,t5,t6,t7)
 obtain⟨hg,hd⟩:=hp
 have hk:(!(iI g'))=false→KK g':=λh=>QM.1 (cL h)
 have dF:(!(iI g'))=false→ay.rd g':=λh=>(hk h).rd
 have hlen:∀b:Bool,b=qJ g' A'→b=true→(bA g' A').1.length≤16:=λb h h2=>rh (ahx (h ▸ h2))
 refine⟨⟨⟨tv9,aa⟩,?_,?_⟩,λx1 w2=>⟨λw3=>?_,λw4=>⟨⟨⟨aa,tv8,aa⟩,?_,?_⟩,λ|false=>λw5=>⟨⟨tv2,?_⟩,λ|false=>λw6=>?_ |true=>λw7=>?_⟩ |true=>λw8=>⟨⟨⟨?_,aa⟩,?_⟩,λ|false=>λw9=>?_ |true=>λdy=>?_⟩⟩⟩⟩
 all_goals first|refine aw ?_|refine ax ?_|exact a8|(dsimp only [yX,tl,DF,vh,J5,yl];omega)|exact a7|exact hg|exact hd|exact dF w4|(show 0≤ao;have h:1≤ao∧ao≤900:=(hk w4).cg;omega)|exact ZA7 _|(show 0+t7.toNat≤_;rw [ZA6];exact adt (s:=g') (t:=A') (show true=qJ g' A' from w8).symm)|(show (List.take _ _).length≤1000000;have:=hlen true w8 rfl;rw [ZB9];exact ZB0 (Nat.min_le_right _ _) (ZB0 this (by decide)))|skip
 ·have e:=aaF (s:=g') (t:=A') (uv w3)
  refine⟨[],[],_,_,_,ζ,az,true,1,(λ_=>show (py g' A').1=[] by rw [e]),?_,?_,ζ⟩
  ·(show _=cZ g' A' true);unfold cZ;first|(rw [e];rfl)|rfl
  ·(show _=du g' A' true);unfold du;first|(rw [e];rfl)|rfl
 ·have e:=LA (s:=g') (t:=A') (show false=qJ g' A' from w5).symm
  refine⟨[180000],[],_,_,_,ζ,az,false,0,(λh=>by cases h),?_,?_,ζ⟩
  ·(show _=cZ g' A' false);unfold cZ;first|(rw [e];rfl)|rfl
  ·(show _=du g' A' false);unfold du;first|(rw [e];rfl)|rfl
 ·have e:=LA (s:=g') (t:=A') (show false=qJ g' A' from w5).symm
  refine⟨[],[],_,_,_,ζ,az,true,1,(λ_=>show (py g' A').1=[] by rw [e]),?_,?_,ζ⟩
  ·(show _=cZ g' A' true);unfold cZ;first|(rw [e];rfl)|rfl
  ·(show _=du g' A' true);unfold du;first|(rw [e];rfl)|rfl
 ·have e:=K9 (s:=g') (t:=A') (cL w4) (show true=qJ g' A' from w8).symm
  refine⟨[180000],[],_,_,_,ζ,az,false,0,(λh=>by cases h),?_,?_,ζ⟩
  ·(show _=cZ g' A' false);unfold cZ;first|(rw [e];rfl)|rfl
  ·(show _=du g' A' false);unfold du;first|(rw [e];rfl)|rfl
 ·have e:=K9 (s:=g') (t:=A') (cL w4) (show true=qJ g' A' from w8).symm
  refine⟨[],[],_,_,_,ζ,az,true,1,(λ_=>show (py g' A').1=[] by rw [e];exact dy rfl),?_,?_,ζ⟩
  ·(show _=cZ g' A' true);unfold cZ;first|(rw [e];rfl)|rfl
  ·(show _=du g' A' true);unfold du;first|(rw [e];rfl)|rfl
def DU (S:ay) (t:bf):Prop:=S.gone.length≤1000000∧S.dead.length≤1000000
def nG (S:ay) (t:bf):AV:=.s (.q (iI S&&qJ S t))
def WB (S:ay) (t:bf):List AV:=[]
def ab9:cn where
 A:=[.a xv,.a [.int,.int,.int,.int,.int,.int,.int]]
 B:=[]
 pre:=λx b=>DU (x.1) (x.2)
 r:=λx b _=>nG (x.1) (x.2)
 o:=λx b _=>WB (x.1) (x.2)
theorem aiz:Has Tryz.prog 37 ab9:=by
 refine Has.zB zT zF zF (l:=[(31,rN)]) ⟨K0,aa⟩ Tryz.func37 ?_
 rintro⟨⟨(aj:List ByteArray),(ak:List Int),(an:List Int),(ao:Int),(ah:List Pt),(aq:Int),(ai:List Pt),(ar:Bool)⟩,⟨(t1:Int),(t2:Int),(t3:Int),(t4:Int),(t5:Int),(t6:Int),(t7:Int)⟩⟩ _ (hp:DU (aj,ak,an,ao,ah,aq,ai,ar) (t1,t2,t3,t4,t5,t6,t7))
 show vc _ _ _ _ (entry [.a [.vz ab aj,.vz ag ak,.vz ag an,.int ao,.vz ae ah,.int aq,.vz ae ai,.q ar],.a [.int t1,.int t2,.int t3,.int t4,.int t5,.int t6,.int t7]] []) _
 let g':=(aj,ak,an,ao,ah,aq,ai,ar)
 let A':=(t1,t2,t3,t4,t5,t6,t7)
 obtain⟨hg,hd⟩:=hp
 refine⟨⟨⟨tv9,tv8,aa⟩,?_,?_⟩,λ|false=>λw1=>?_ |true=>λw2=>?_⟩
 all_goals first|refine aw ?_|refine ax ?_|exact a8|(dsimp only [rN,oA];omega)|exact a7|exact hg|exact hd|skip
 ·refine⟨[],[],_,_,_,ζ,az,(),aa,?_,?_,ζ⟩
  ·(show _=nG g' A');unfold nG;first|(rw [←YI (s:=g') (t:=A')];rfl)|rfl
  ·rfl
 ·refine⟨[],[],_,_,_,ζ,az,(),aa,?_,?_,ζ⟩
  ·(show _=nG g' A');unfold nG;first|(rw [←YI (s:=g') (t:=A')];rfl)|rfl
  ·rfl
