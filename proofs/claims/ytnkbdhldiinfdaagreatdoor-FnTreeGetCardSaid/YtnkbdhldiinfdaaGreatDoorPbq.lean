/- A drawn law returns true for every code (its row lists package variables, tied by the card): part 43. -/
import Derived.Test.YtnkbdhldiinfdaaGreatDoorPaz
import Derived.Test.YtnkbdhldiinfdaaGreatDoorPbm
import Derived.Test.YtnkbdhldiinfdaaGreatDoorPbp
set_option maxHeartbeats 20000000
set_option maxRecDepth 100000
set_option linter.all false
namespace Go.Proofs.YtnkbdhldiinfdaaGreatDoor
namespace GL
structure ay.fit (s:ay) (p:Pt):Prop where
 ok:aZ p=true
 b:p.2.1≤s.cg
theorem ajG {s:ay}(h:0≤s.cg):s.fit bM:=⟨rfl,h⟩
theorem acb {s:ay}{p:Pt}{lv:Int}(h0:0≤s.cg) (hp:s.fit p):∀q∈(bg s p lv).1,s.fit q:=by
 intro q hq
 refine⟨sP s p lv q hq,?_⟩
 cases hh:au p with
 |true=>
  rw [kt hh] at hq
  rw [(ZD6.1 hq).2];exact h0
 |false=>
  have nil:∀{b:Bool},bg s p lv=([],b)→False:=fun e=>by rw [e] at hq;cases hq
  have h1:(!(aZ p))=false:=by rw [hp.ok];rfl
  have h3:decide (p.2.1>s.cg)=false:=decide_eq_false (by have:=hp.b;omega)
  cases hl:decide (p.2.2.2.2≠lv) with
  |true=>exact (nil (v8 hh hl)).elim
  |false=>
   cases hr: !(bF s p).2 with
   |true=>exact (nil (v7 hh h1 hl h3 hr)).elim
   |false=>
    rw [vZ hh h1 hl h3 hr] at hq
    cases ha:(bl (bF s p).1).1.any (late p) with
    |true=>rw [wa ha] at hq;cases hq
    |false=>
     rw [sQ ha] at hq
     have:=List.any_eq_false.1 ha q hq
     have h2:¬(q.2.1>p.2.1):=by simpa [late] using this
     have:=hp.b;omega
theorem QK {s:ay}{lv:Int}(h0:0≤s.cg):∀{l acc n:List Pt},(∀q∈l,s.fit q)→(∀q∈acc,s.fit q)→fx s lv l acc=some n→∀q∈n,s.fit q
 |[],acc,n,_,h2,h=>by cases h;exact h2
 |p::l,acc,n,h1,h2,h=>by
  unfold fx at h
  cases hb:(bg s p lv).2 with
  |true=>
   rw [hb,cond_true] at h
   refine QK h0 (fun q hq=>h1 q (by simp [hq])) (fun q hq=>?_) h
   rcases ZB4.1 hq with hq |hq
   ·exact h2 q hq
   ·exact acb h0 (h1 p (by simp)) q hq
  |false=>rw [hb] at h;cases h
theorem SW {n:Int}{d:Nat}(h0:ik n 0 16=true) (h:d=4 ^ (bj n).toNat):n.toNat≤d:=by
 obtain⟨h1,h2⟩:=cC.1 h0
 rw [h]
 unfold bj
 cases hc:decide (n≤1) with
 |true=>have:=aJ hc;show n.toNat≤1;omega
 |false=>
  cases hd:decide (n≤4) with
  |true=>have:=aJ hd;show n.toNat≤4;omega
  |false=>show n.toNat≤16;omega
theorem XG {p:Pt}(h:au p=true):p.2.1=0:=by rw [iu h];rfl
theorem XF {p:Pt}(h:au p=true):p.2.2.2.2=0:=by rw [iu h];rfl
theorem abz {s:ay}{t:bf}(h0:0≤s.cg) (h:decide (t.root.2.1>s.cg)=true):qJ s t=false:=by
 have hh:au t.root=false:=by
  cases hh:au t.root with
  |false=>rfl
  |true=>have:=aJ h;rw [XG hh] at this;omega
 cases hb:lV t with
 |true=>exact DV hb
 |false=>
  cases hd:decide (t.depth>0) with
  |false=>
   have e:bA s t=([t.root],true):=vt hd
   rw [Y9 hb (by rw [e];rfl),e]
   exact wJ hh (ZM h)
  |true=>
   have e:bA s t=([],false):=H5 hd (by rw [NZ (by rw [AG hh h];rfl)])
   exact ZA hb (by rw [e];rfl)
def vh (S:ay) (t:bf):Prop:=S.rd∧0≤S.cg
def RS (S:ay) (t:bf) (z:Bool):Prop:=z=qJ S t
def bS (S:ay) (t:bf) (z:Bool):AV:=.t [match z with |true=>.s (.xs 0 5 0 t.many.toNat) |false=>.s (.v (.slice none 0 0)),.s (.q z)]
def cl (S:ay) (t:bf) (z:Bool):List AV:=match z with |true=>[.rs ae (bA S t).1] |false=>[.zz]
def DF:cn where
 A:=[.vs xv,.a [.int,.int,.int,.int,.int,.int,.int]]
 B:=[]
 pre:=fun x b=>vh (x.1) (x.2)
 α:=fun _ _=>Bool
 φ:=fun x b z=>RS (x.1) (x.2) z
 r:=fun x b z=>bS (x.1) (x.2) z
 o:=fun x b z=>cl (x.1) (x.2) z
 nf:=1
theorem abM:Has Tryz.prog 66 DF:=by
 refine Has.WR zT zF zF (l:=[(32,cr),(54,gM),(55,cB),(103,kr),(33,kF),(56,bG)]) ⟨fM,tJ,jt,zL,zJ,eO,aa⟩ Tryz.func66 ?_
 rintro⟨⟨(aj:List ByteArray),(ak:List Int),(an:List Int),(ao:Int),(ah:List Pt),(aq:Int),(ai:List Pt),(ar:Bool)⟩,⟨(t1:Int),(t2:Int),(t3:Int),(t4:Int),(t5:Int),(t6:Int),(t7:Int)⟩⟩ _ (hp:vh (aj,ak,an,ao,ah,aq,ai,ar) (t1,t2,t3,t4,t5,t6,t7))
 show vc _ _ _ _ (entry [.s (.vs [.vz ab aj,.vz ag ak,.vz ag an,.v (.int .i64 ao),.vz ae ah,.v (.int .i64 aq),.vz ae ai,.q ar] 0),.a [.int t1,.int t2,.int t3,.int t4,.int t5,.int t6,.int t7]] []) _
 let g':=(aj,ak,an,ao,ah,aq,ai,ar)
 let A':=(t1,t2,t3,t4,t5,t6,t7)
 obtain⟨dF,(h0:0≤ao)⟩:=hp
 have dF:ay.rd g':=dF
 refine⟨Sq3,Sq17,rfl,[.s 17,.b 1003],Sq18,rfl,Sq18,Sq19,rfl,⟨tv4,aa⟩,?_,fun x1 w2=>⟨Sq19,Sq20,rfl,Sq20,Sq21,rfl,aa,fun w3=>⟨Sq21,Sq22,rfl,Sq21,Sq23,rfl,Sq21,Sq24,rfl,Sq21,Sq25,rfl,Sq21,Sq26,rfl,Sq21,Sq27,rfl,[.s 21,.s 27],Sq28,rfl,Sq28,Sq29,rfl,Sq29,Sq30,rfl,Sq29,Sq31,rfl,Sq29,Sq32,rfl,Sq29,Sq33,rfl,[.s 29,.s 33],Sq34,rfl,Sq34,Sq35,rfl,Sq35,Sq36,rfl,Sq35,Sq37,rfl,Sq35,Sq38,rfl,Sq35,Sq39,rfl,Sq35,Sq40,rfl,Sq35,Sq41,rfl,Sq35,Sq42,rfl,Sq35,Sq43,rfl,[.s 35,.s 43],Sq44,rfl,?_⟩,fun w4=>⟨[.s 21,.s 3],Sq22,rfl,[.s 21,.s 22,.b 1003],Sq23,rfl,[.s 21,.s 3],Sq24,rfl,[.s 21,.s 24,.b 1003],Sq25,rfl,[.s 21,.s 25],Sq26,rfl,⟨tv2,aa⟩,?_,fun x5 w6=>⟨[.s 21,.s 23,.s 26],Sq27,rfl,[.s 21,.s 27],Sq28,rfl,Sq28,Sq29,rfl,aa,fun w7=>⟨Sq29,Sq30,rfl,Sq29,Sq31,rfl,Sq29,Sq32,rfl,Sq29,Sq33,rfl,[.s 29,.s 33],Sq34,rfl,Sq34,Sq35,rfl,Sq35,Sq36,rfl,Sq35,Sq37,rfl,Sq35,Sq38,rfl,Sq35,Sq39,rfl,Sq35,Sq40,rfl,Sq35,Sq41,rfl,Sq35,Sq42,rfl,Sq35,Sq43,rfl,[.s 35,.s 43],Sq44,rfl,?_⟩,fun w8=>⟨[.s 29,.s 3],Sq30,rfl,[.s 29,.s 30,.b 1003],Sq31,rfl,[.s 29,.s 31],Sq32,rfl,⟨⟨tv6,aa⟩,aa⟩,?_,fun x9 dy=>⟨[.s 29,.s 32],Sq33,rfl,[.s 29,.s 33],Sq34,rfl,Sq34,Sq35,rfl,aa,fun kA=>⟨Sq35,Sq36,rfl,Sq35,Sq37,rfl,Sq35,Sq38,rfl,Sq35,Sq39,rfl,Sq35,Sq40,rfl,Sq35,Sq41,rfl,Sq35,Sq42,rfl,Sq35,Sq43,rfl,[.s 35,.s 43],Sq44,rfl,?_⟩,fun dJ=>⟨[.s 35,.s 3],Sq36,rfl,[.s 35,.s 36],Sq37,rfl,[.s 35,.s 37,.b 1003],Sq38,rfl,[.s 35,.s 0],Sq39,rfl,[.s 35,.s 39],Sq40,rfl,[.s 35,.s 40],Sq41,rfl,[.s 35,.s 41],Sq42,rfl,[.s 35,.s 38,.s 42],Sq43,rfl,[.s 35,.s 43],Sq44,rfl,fun iU=>?_,fun gO=>⟨aa,?_⟩⟩⟩⟩⟩⟩⟩⟩
 all_goals first|refine aw ?_|refine ax ?_|exact a8|(dsimp only [cr,df,gM,iv,cB,cR,kr,kK,kF,k9,bG,cb];omega)|exact a7|skip
 ·refine⟨[],[],_,_,_,rfl,az,false,1,(show false=qJ g' A' from (DV (s:=g') (t:=A') (ZD w3)).symm),?_,?_,rfl⟩
  ·(show _=bS g' A' false);unfold bS;first|(rw [rfl];rfl)|rfl
  ·(show _=cl g' A' false);unfold cl;first|(rw [rfl];rfl)|rfl
 ·refine⟨[],[],_,_,_,rfl,az,false,1,(show false=qJ g' A' from (DV (s:=g') (t:=A') (ZC w7)).symm),?_,?_,rfl⟩
  ·(show _=bS g' A' false);unfold bS;first|(rw [rfl];rfl)|rfl
  ·(show _=cl g' A' false);unfold cl;first|(rw [rfl];rfl)|rfl
 ·refine⟨[],[],_,_,_,rfl,az,false,1,(show false=qJ g' A' from (DV (s:=g') (t:=A') (ZB kA)).symm),?_,?_,rfl⟩
  ·(show _=bS g' A' false);unfold bS;first|(rw [rfl];rfl)|rfl
  ·(show _=cl g' A' false);unfold cl;first|(rw [rfl];rfl)|rfl
 ·refine⟨[],[],_,_,_,rfl,az,false,1,(show false=qJ g' A' from (abz (s:=g') (t:=A') h0 iU).symm),?_,?_,rfl⟩
  ·(show _=bS g' A' false);unfold bS;first|(rw [rfl];rfl)|rfl
  ·(show _=cl g' A' false);unfold cl;first|(rw [rfl];rfl)|rfl
 have aeh:ik t7 0 16=true:=cL w4
 have hdp:t6=bj t7:=ZE9.1 (aA (p:=¬t6=bj t7) w8)
 have hB:lV A'=false:=zA (t:=A') w4 w8 dJ
 have hd2:=pn t7
 rw [←hdp] at hd2
 have ZW:ay.fit g' (t1,t2,t3,t4,t5):=⟨cL dJ,by have:=aA gO;show t2≤ao;omega⟩
 refine lW (l:=[(32,cr),(54,gM),(55,cB),(103,kr),(33,kF),(56,bG)]) (ex:=zT) (wr:=zF) (pt:=zF) ⟨fM,tJ,jt,zL,zJ,eO,trivial⟩ [.s 0,.s 3,.b 1003] (fun y:Int×List Pt×Nat=>[(.s 6,.s (.xs 1019 5 0 y.2.1.length)),(.s 7,.int y.1),(.b 1019,.rs ae y.2.1)]) (fun y=>(0≤y.1∧y.1≤t6)∧y.2.1.length=4 ^ (t6-y.1).toNat∧y.1<y.2.2∧tF g' y.2.2 y.1 y.2.1=bA g' A'∧∀q∈y.2.1,ay.fit g' q) (fun y=>y.1.toNat) (t6,[(t1,t2,t3,t4,t5)],3) [(1019,1047)] ⟨⟨hd2.1,ZC1 _⟩,by show 1=4 ^ (t6-t6).toNat;rw [Int.sub_self];rfl,by show t6<(3:Nat);omega,rfl,fun q hq=>by rw [ZC7.1 hq];exact ZW⟩ dM ?_
 rintro⟨lv,l,f⟩ ⟨⟨(FK:0≤lv),(bU:lv≤t6)⟩,(hl:l.length=4 ^ (t6-lv).toNat),(hf:lv<(f:Int)),(hr:tF g' f lv l=bA g' A'),(TO:∀q∈l,ay.fit g' q)⟩
 have ak7:l.length≤16:=by
  rw [hl]
  have:(t6-lv).toNat=0∨(t6-lv).toNat=1∨(t6-lv).toNat=2:=by omega
  rcases this with h |h |h<;>rw [h]<;>decide
 refine⟨fun w1=>?_,fun w2=>?_⟩
 all_goals first|refine aw ?_|refine ax ?_|exact a8|(dsimp only [cr,df,gM,iv,cB,cR,kr,kK,kF,k9,bG,cb];omega)|exact a7|skip
 ·have oU:decide (lv>0)=true:=w1
  obtain⟨g,rfl⟩:∃g,f=g+1:=⟨f-1,by have:=aJ oU;omega⟩
  refine lW (l:=[(32,cr),(54,gM),(55,cB),(103,kr),(33,kF),(56,bG)]) (ex:=zT) (wr:=zF) (pt:=zF) ⟨fM,tJ,jt,zL,zJ,eO,aa⟩ [.s 0,.s 3,.b 1003,.s 6,.s 7,.b 1019,.s 54,.s 55] (fun y:Nat×List Pt=>match y.1 with |0=>[(.s 8,.s (.v (.slice none 0 0))),(.s 56,.int 0)] |n+1=>[(.s 8,.s (.xs 1021 5 0 y.2.length)),(.s 56,.int ((n+1:Nat):Int)),(.b 1021,.rs ae y.2)]) (fun y=>y.1≤l.length∧y.2.length=4*y.1∧fx g' lv (l.drop y.1) y.2=fx g' lv l []) (fun y=>l.length-y.1) (0,[]) [] ⟨ZA7 _,rfl,rfl⟩ dM ?_
  rintro⟨i,acc⟩ ⟨(hi:i≤l.length),(abV:acc.length=4*i),(hs:fx g' lv (l.drop i) acc=fx g' lv l [])⟩
  have cm:decide ((i:Int)<(l.length:Int))=true→i<l.length:=fun h=>by have:=aJ h;omega
  have cO:i<l.length→l.drop i=nth ae l i::l.drop (i+1):=fun h=>bW (ek:=ae) h
  have hft:i<l.length→ay.fit g' (nth ae l i):=fun h=>TO _ (bR (ek:=ae) h)
  have hfb:i<l.length→qu g' (nth ae l i) lv=(bg g' (nth ae l i) lv).2∧(qu g' (nth ae l i) lv=true→xq g' (nth ae l i)=(bg g' (nth ae l i) lv).1):=fun h=>ab0 (hft h).ok (fun _=>(hft h).b)
  have iC:i<l.length→(!(qu g' (nth ae l i) lv))=true→false=qJ g' A':=fun h h2=>by
   rw [(hfb h).1] at h2
   have e:fx g' lv l []=none:=by rw [←hs,cO h,NZ (s:=g') (lv:=lv) (p:=nth ae l i) h2]
   exact (ZA hB (by rw [←hr,H5 oU e];rfl)).symm
  have hgo:i<l.length→(!(qu g' (nth ae l i) lv))=false→(xq g' (nth ae l i)).length=4∧fx g' lv (l.drop (i+1)) (acc++xq g' (nth ae l i))=fx g' lv l []:=fun h h2=>by
   have e:=(hfb h).2 (cL h2)
   have h3:=h2
   rw [(hfb h).1] at h3
   rw [e]
   exact⟨(iG g' (nth ae l i) lv).2 (cL h3),by rw [←hs,cO h,NY (s:=g') (lv:=lv) (p:=nth ae l i) h3]⟩
  have za:0<l.length:=by rw [hl];exact Nat.pow_pos (by decide)
  cases i with
  |zero=>
   have ha0:acc=[]:=ZD4.1 (by rw [abV])
   subst ha0
   refine⟨fun w1=>⟨⟨?_,?_⟩,?_,⟨⟨aa,tv6,tv2⟩,?_,?_⟩,fun |false=>fun w2=>⟨fun w3=>?_,fun w4=>⟨⟨⟨?_,?_⟩,aa⟩,⟨?_,?_⟩,?_⟩⟩ |true=>fun w5=>⟨fun w6=>?_,fun w7=>⟨⟨⟨?_,?_⟩,?_,?_⟩,⟨?_,?_⟩,?_⟩⟩⟩,fun w8=>⟨⟨?_,?_⟩,?_⟩⟩
   all_goals first|refine aw ?_|refine ax ?_|exact a8|(dsimp only [cr,df,gM,iv,cB,cR,kr,kK,kF,k9,bG,cb];omega)|exact a7|exact dF|exact (hft (cm w1)).ok|exact absurd ((show qu g' (nth ae l 0) lv=true→false=true from w2) (cL w4)) (by decide)|(show 0<(xq g' (nth ae l 0)).length;rw [(hgo (cm w1) w7).1];decide)|(show (xq g' (nth ae l 0)).length≤1048576;rw [(hgo (cm w1) w7).1];decide)|(exfalso;have h9:¬((0:Int)<(l.length:Int)):=aA w8;omega)|skip
   ·refine⟨[],[],_,_,_,rfl,az,false,1,(iC (cm w1) w3),?_,?_,rfl⟩
    ·(show _=bS g' A' false);unfold bS;first|(rw [rfl];rfl)|rfl
    ·(show _=cl g' A' false);unfold cl;first|(rw [rfl];rfl)|rfl
   ·refine⟨[],[],_,_,_,rfl,az,false,1,(iC (cm w1) w6),?_,?_,rfl⟩
    ·(show _=bS g' A' false);unfold bS;first|(rw [rfl];rfl)|rfl
    ·(show _=cl g' A' false);unfold cl;first|(rw [rfl];rfl)|rfl
   ·refine⟨(1,xq g' (nth ae l 0)),[(1021,1071)],?_,?_,?_⟩
    rotate_right
    ·exact bV
    ·exact⟨za,by show (xq g' (nth ae l 0)).length=4*1;rw [(hgo (cm w1) w7).1],(hgo (cm w1) w7).2⟩
    ·show l.length-1<l.length-0;omega
  |succ i=>
   refine⟨fun w1=>⟨⟨?_,?_⟩,?_,⟨⟨aa,tv6,tv2⟩,?_,?_⟩,fun |false=>fun w2=>⟨fun w3=>?_,fun w4=>⟨⟨⟨?_,?_⟩,aa⟩,⟨?_,?_⟩,?_⟩⟩ |true=>fun w5=>⟨fun w6=>?_,fun w7=>⟨⟨⟨?_,?_⟩,?_,?_⟩,⟨?_,?_⟩,?_⟩⟩⟩,fun w8=>⟨⟨?_,?_⟩,?_⟩⟩
   all_goals first|refine aw ?_|refine ax ?_|exact a8|(dsimp only [cr,df,gM,iv,cB,cR,kr,kK,kF,k9,bG,cb];omega)|exact a7|exact dF|exact (hft (cm w1)).ok|exact absurd ((show qu g' (nth ae l (i+1)) lv=true→false=true from w2) (cL w4)) (by decide)|(show acc.length+(xq g' (nth ae l (i+1))).length≤1048576;rw [(hgo (cm w1) w7).1,abV];omega)|skip
   ·refine⟨[],[],_,_,_,rfl,az,false,1,(iC (cm w1) w3),?_,?_,rfl⟩
    ·(show _=bS g' A' false);unfold bS;first|(rw [rfl];rfl)|rfl
    ·(show _=cl g' A' false);unfold cl;first|(rw [rfl];rfl)|rfl
   ·refine⟨[],[],_,_,_,rfl,az,false,1,(iC (cm w1) w6),?_,?_,rfl⟩
    ·(show _=bS g' A' false);unfold bS;first|(rw [rfl];rfl)|rfl
    ·(show _=cl g' A' false);unfold cl;first|(rw [rfl];rfl)|rfl
   ·refine⟨(i+2,acc++xq g' (nth ae l (i+1))),[(1021,1071)],?_,?_,?_⟩
    rotate_right
    ·exact bV
    ·exact⟨cm w1,by show List.length (_++_)=4*(i+2);rw [ZA0,(hgo (cm w1) w7).1,abV];omega,(hgo (cm w1) w7).2⟩
    ·show l.length-(i+2)<l.length-(i+1);have:=cm w1;omega
   ·have FL:¬i+1<l.length:=by have:=aA (p:=((i+1:Nat):Int)<(l.length:Int)) w8;omega
    have e:fx g' lv l []=some acc:=by rw [←hs,ZB3 (by omega)];rfl
    have h1:lv>0:=aJ oU
    refine⟨(lv-1,acc,g),[(1019,1021)],?_,?_,?_⟩
    rotate_right
    ·exact bV
    ·refine⟨⟨by show 0≤lv-1;omega,by show lv-1≤t6;omega⟩,?_,by show lv-1<(g:Int);omega,by rw [←hr,CI oU e],QK h0 TO (fun q hq=>by cases hq) e⟩
     show acc.length=4 ^ (t6-(lv-1)).toNat
     rw [r3 e,hl,show (t6-(lv-1)).toNat=(t6-lv).toNat+1 by omega,Nat.pow_succ]
     show 0+4*_=_;omega
    ·show (lv-1).toNat<lv.toNat;omega
 ·refine lW (l:=[(32,cr),(54,gM),(55,cB),(103,kr),(33,kF),(56,bG)]) (ex:=zT) (wr:=zF) (pt:=zF) ⟨fM,tJ,jt,zL,zJ,eO,aa⟩ [.s 0,.s 3,.b 1003,.s 6,.b 1019,.s 74,.s 75] (fun i:Nat=>[(.s 76,.int i)]) (fun i=>i≤l.length∧j9 g' t7 i (l.drop i)=j9 g' t7 0 l) (fun i=>l.length-i) 0 [] ⟨ZA7 _,rfl⟩ dM ?_
  rintro i ⟨(hi:i≤l.length),(hs:j9 g' t7 i (l.drop i)=j9 g' t7 0 l)⟩
  have cm:decide ((i:Int)<(l.length:Int))=true→i<l.length:=fun h=>by have:=aJ h;omega
  have cO:i<l.length→l.drop i=nth ae l i::l.drop (i+1):=fun h=>bW (ek:=ae) h
  have hft:i<l.length→ay.fit g' (nth ae l i):=fun h=>TO _ (bR (ek:=ae) h)
  have ak3:lv=0:=by have:=aA (p:=lv>0) w2;omega
  have hE:bA g' A'=(l,true):=by
   rw [←hr]
   cases f with
   |zero=>rfl
   |succ g=>exact vt w2
  have hM:qJ g' A'=j9 g' t7 0 l:=by rw [Y9 hB (by rw [hE];rfl),hE]
  have hlm:t7≤(l.length:Int):=by
   have h1:=SW (n:=t7) (d:=l.length) aeh (by rw [hl,ak3,Int.sub_zero,hdp])
   have:=(cC.1 aeh).1;omega
  have h70:=(cC.1 aeh).1
  have iC:i<l.length→au (nth ae l i)=false→ri g' t7 i (nth ae l i)=true→false=qJ g' A':=fun h h2 h3=>by rw [hM,←hs,cO h,wJ (s:=g') (p:=nth ae l i) h2 h3]
  have hnh:(!(bF g' (nth ae l i)).2)=true→au (nth ae l i)=false:=fun h=>by
   cases hh:au (nth ae l i) with
   |false=>rfl
   |true=>rw [fT hh] at h;cases h
  have hnl:decide ((nth ae l i).2.2.2.2≠0)=true→au (nth ae l i)=false:=fun h=>by
   cases hh:au (nth ae l i) with
   |false=>rfl
   |true=>exact absurd (XF hh) (aJ (p:=¬(nth ae l i).2.2.2.2=0) h)
  refine⟨fun w1=>⟨⟨?_,?_⟩,?_,⟨⟨aa,tv6,aa⟩,fun x2 w3=>?_,?_,?_⟩,fun x4 w5=>⟨aa,fun w6=>?_,fun w7=>⟨aa,fun w8=>?_,fun w9=>⟨aa,fun dy=>⟨⟨⟨tv6,aa⟩,aa⟩,fun kz dJ=>⟨fun iU=>?_,fun gO=>⟨⟨?_,?_⟩,?_⟩⟩⟩,fun qK=>⟨⟨?_,?_⟩,?_⟩⟩⟩⟩⟩,fun kg=>⟨⟨?_,?_,?_,?_⟩,?_⟩⟩
  all_goals first|refine aw ?_|refine ax ?_|exact a8|(dsimp only [cr,df,gM,iv,cB,cR,kr,kK,kF,k9,bG,cb];omega)|exact a7|exact dF.2|exact dF.1|exact (hft (cm w1)).ok|exact dF.2 _ (by assumption)|exact h70|exact hlm|skip
  ·refine⟨[],[],_,_,_,rfl,az,false,1,(iC (cm w1) (hnh w6) (ZO (s:=g') w6)),?_,?_,rfl⟩
   ·(show _=bS g' A' false);unfold bS;first|(rw [rfl];rfl)|rfl
   ·(show _=cl g' A' false);unfold cl;first|(rw [rfl];rfl)|rfl
  ·refine⟨[],[],_,_,_,rfl,az,false,1,(iC (cm w1) (hnl w8) (ZN (s:=g') w8)),?_,?_,rfl⟩
   ·(show _=bS g' A' false);unfold bS;first|(rw [rfl];rfl)|rfl
   ·(show _=cl g' A' false);unfold cl;first|(rw [rfl];rfl)|rfl
  ·refine⟨[],[],_,_,_,rfl,az,false,1,(iC (cm w1) (uv iU) (ZL (s:=g') dy)),?_,?_,rfl⟩
   ·(show _=bS g' A' false);unfold bS;first|(rw [rfl];rfl)|rfl
   ·(show _=cl g' A' false);unfold cl;first|(rw [rfl];rfl)|rfl
  ·refine⟨(i+1),[],?_,?_,?_⟩
   rotate_right
   ·exact bV
   ·exact⟨cm w1,by rw [←hs,cO (cm w1),FD (s:=g') (p:=nth ae l i) (cL gO)];rfl⟩
   ·show l.length-(i+1)<l.length-i;have:=cm w1;omega
  ·refine⟨(i+1),[],?_,?_,?_⟩
   rotate_right
   ·exact bV
   ·refine⟨cm w1,?_⟩
    rw [←hs,cO (cm w1)]
    cases hh:au (nth ae l i) with
    |true=>rw [FD (s:=g') (p:=nth ae l i) hh];rfl
    |false=>rw [O1 (s:=g') (p:=nth ae l i) hh (O2 (s:=g') w7 w9 (decide_eq_false (by have:=(hft (cm w1)).b;omega)) qK)];rfl
   ·show l.length-(i+1)<l.length-i;have:=cm w1;omega
  ·have FL:¬i<l.length:=by have:=aA (p:=(i:Int)<(l.length:Int)) kg;omega
   have e:qJ g' A'=true:=by rw [hM,←hs,ZB3 (by omega)];rfl
   have e2:(bA g' A').1=l:=by rw [hE]
   refine⟨[1019],[],_,_,_,rfl,az,true,0,(show true=qJ g' A' from e.symm),?_,?_,rfl⟩
   ·(show _=bS g' A' true);unfold bS;first|(rw [e2];rfl)|rfl
   ·(show _=cl g' A' true);unfold cl;first|(rw [e2];rfl)|rfl
end GL
namespace GL
section
variable {n l:Int}{k:Nat}
theorem aiK (h:(!(ik n 0 900))=true):KP n l k=false:=decide_eq_false (by rw [ZF8,IW] at h;omega)
theorem aiJ (h:(!(ik l n 900))=true):KP n l k=false:=decide_eq_false (by rw [ZF8,IW] at h;omega)
theorem agE (h:decide (n>0)=true) (h2:decide ((k:Int)<8)=true):KP n l k=false:=decide_eq_false (by have:=aJ h;have:=aJ h2;omega)
theorem acC (h:(!(ik n 0 900))=false) (h2:(!(ik l n 900))=false) (h3:decide (n=0)=false∨decide (l≠0)=false) (h4:decide (n>0)=false∨decide ((k:Int)<8)=false):KP n l k=true:=decide_eq_true (by
 have a1:=cC.1 (cL h);have a2:=cC.1 (cL h2)
 refine⟨by omega,?_,?_⟩
 ·rcases h3 with h3 |h3
  ·have:=aA h3;omega
  ·have:=aA h3;omega
 ·rcases h4 with h4 |h4
  ·have:=aA h4;omega
  ·have:=aA h4;omega)
end
def lO (sp:List Int×List Int):Prop:=True
def cH (sp:List Int×List Int):AV:=.s (.q (rC sp))
def R5 (sp:List Int×List Int):List AV:=[]
def kS:cn where
 A:=[.a [.vz ag,.vz ag]]
 B:=[]
 pre:=fun x b=>lO x
 r:=fun x b _=>cH x
 o:=fun x b _=>R5 x
theorem yG:Has Tryz.prog 100 kS:=by
 refine Has.zB zT zF zF (l:=[(32,cr)]) ⟨fM,aa⟩ Tryz.func100 ?_
 rintro⟨(dA:List Int),(eI:List Int)⟩ _ (hp:lO (dA,eI))
 show vc _ _ _ _ (entry [.a [.vz ag dA,.vz ag eI]] []) _
 refine⟨aa,fun w1=>?_,fun w2=>⟨fun w3=>?_,fun w4=>?_⟩⟩
 all_goals first|refine aw ?_|refine ax ?_|exact a8|(dsimp only [cr,df];omega)|exact a7|skip
 ·refine⟨[],[],_,_,_,rfl,az,(),aa,?_,?_,rfl⟩
  ·(show _=cH (dA,eI));unfold cH;first|(rw [N1 (p:=(dA,eI)) w1];rfl)|rfl
  ·rfl
 ·refine⟨[],[],_,_,_,rfl,az,(),aa,?_,?_,rfl⟩
  ·(show _=cH (dA,eI));unfold cH;first|(rw [N0 (p:=(dA,eI)) w3];rfl)|rfl
  ·rfl
 ·have l1:dA.length=64:=by have:=aA w2;omega
  have l2:eI.length=64:=by have:=aA w4;omega
  have hE:=U1 (p:=(dA,eI)) w2 w4
  refine lW (l:=[(32,cr)]) (ex:=zT) (wr:=zF) (pt:=zF) ⟨fM,trivial⟩ [.s 1,.b 1001,.s 17,.s 18] (fun i:Nat=>[(.s 19,.int i)]) (fun i=>i≤64∧∀j,j<i→xw dA eI j=true) (fun i=>64-i) 0 [] ⟨ZA7 _,fun j hj=>absurd hj (by omega)⟩ dM ?_
  rintro i ⟨(hi:i≤64),hj⟩
  have cm:decide ((i:Int)<(dA.length:Int))=true→i<64:=fun h=>by have:=aJ h;omega
  have bU:∀l:List Int,l.length=64→decide ((i:Int)<(dA.length:Int))=true→(i:Int)<(l.length:Int):=fun l hl h=>by rw [hl,←l1];exact aJ h
  have iC:i<64→xw dA eI i=false→rC (dA,eI)=false:=fun h h2=>by rw [hE];exact T8 h h2
  have hgo:xw dA eI i=true→∀j,j<i+1→xw dA eI j=true:=fun h j yK=>by
   by_cases e:j=i
   ·rw [e];exact h
   ·exact hj j (by omega)
  refine⟨fun w1=>⟨⟨?_,?_⟩,⟨?_,?_⟩,⟨tv4,aa⟩,fun x2 w3=>⟨aa,fun w4=>?_,fun w5=>⟨⟨tv4,aa⟩,fun x6 w7=>⟨aa,fun w8=>?_,fun w9=>⟨aa,fun dy=>⟨aa,fun kA=>?_,fun dJ=>⟨aa,fun iU=>⟨fun gO=>?_,fun qK=>⟨⟨?_,?_⟩,?_⟩⟩,fun kg=>⟨⟨?_,?_⟩,?_⟩⟩⟩,fun xh=>⟨aa,fun rS=>⟨fun oL=>?_,fun uI=>⟨⟨?_,?_⟩,?_⟩⟩,fun A4=>⟨⟨?_,?_⟩,?_⟩⟩⟩⟩⟩⟩⟩,fun A3=>?_⟩
  all_goals first|refine aw ?_|refine ax ?_|exact a8|(dsimp only [cr,df];omega)|exact a7|exact bU _ l1 w1|exact bU _ l2 w1|skip
  ·refine⟨[],[],_,_,_,rfl,az,(),aa,?_,?_,rfl⟩
   ·(show _=cH (dA,eI));unfold cH;first|(rw [iC (cm w1) (aiK w4)];rfl)|rfl
   ·rfl
  ·refine⟨[],[],_,_,_,rfl,az,(),aa,?_,?_,rfl⟩
   ·(show _=cH (dA,eI));unfold cH;first|(rw [iC (cm w1) (aiJ w8)];rfl)|rfl
   ·rfl
  ·refine⟨[],[],_,_,_,rfl,az,(),aa,?_,?_,rfl⟩
   ·(show _=cH (dA,eI));unfold cH;first|(rw [iC (cm w1) (agG dy kA)];rfl)|rfl
   ·rfl
  ·refine⟨[],[],_,_,_,rfl,az,(),aa,?_,?_,rfl⟩
   ·(show _=cH (dA,eI));unfold cH;first|(rw [iC (cm w1) (agE iU gO)];rfl)|rfl
   ·rfl
  ·refine⟨(i+1),[],?_,?_,?_⟩
   rotate_right
   ·exact bV
   ·exact⟨cm w1,hgo (acC w5 w9 (.inr dJ) (.inl kg))⟩
   ·show 64-(i+1)<64-i;have:=cm w1;omega
  ·refine⟨[],[],_,_,_,rfl,az,(),aa,?_,?_,rfl⟩
   ·(show _=cH (dA,eI));unfold cH;first|(rw [iC (cm w1) (agE rS oL)];rfl)|rfl
   ·rfl
  ·refine⟨(i+1),[],?_,?_,?_⟩
   rotate_right
   ·exact bV
   ·exact⟨cm w1,hgo (acC w5 w9 (.inl xh) (.inr uI))⟩
   ·show 64-(i+1)<64-i;have:=cm w1;omega
  ·refine⟨(i+1),[],?_,?_,?_⟩
   rotate_right
   ·exact bV
   ·exact⟨cm w1,hgo (acC w5 w9 (.inl xh) (.inl A4))⟩
   ·show 64-(i+1)<64-i;have:=cm w1;omega
  ·have e:rC (dA,eI)=true:=by rw [hE];exact M7 fun j yK=>hj j (by have:=aA A3;omega)
   refine⟨[],[],_,_,_,rfl,az,(),aa,?_,?_,rfl⟩
   ·(show _=cH (dA,eI));unfold cH;first|(rw [e];rfl)|rfl
   ·rfl
end GL
namespace GL
def vi (l:List Int):Prop:=0<l.length∧l.length≤1000000
def acR (l:List Int) (z:Int):Prop:=(∀j,j<l.length→nth ag l j≤z)∧∃j,j<l.length∧nth ag l j=z
def GV (l:List Int) (z:Int):AV:=.int z
def OO (l:List Int) (z:Int):List AV:=[]
def yZ:cn where
 A:=[.s (.vz ag)]
 B:=[]
 pre:=fun x b=>vi x
 α:=fun _ _=>Int
 φ:=fun x b z=>acR x z
 r:=fun x b z=>GV x z
 o:=fun x b z=>OO x z
theorem W9:Has Tryz.prog 101 yZ:=by
 refine Has.WR zT zF zF (l:=[]) trivial Tryz.func101 ?_
 rintro (l:List Int) _ (hp:vi l)
 show vc _ _ _ _ (entry [.s (.vz ag l)] []) _
 obtain⟨(h0:0<l.length),(h1:l.length≤1000000)⟩:=hp
 refine⟨fun w1=>?_,fun w2=>⟨⟨?_,?_⟩,?_⟩⟩
 all_goals first|(exfalso;simp only [decide_eq_true_eq,decide_eq_false_iff_not] at *;omega)|refine aw ?_|refine ax ?_|exact a8|exact a7|skip
 refine lW (l:=[]) (ex:=zT) (wr:=zF) (pt:=zF) trivial [.s 0] (fun y:Nat×Int=>[(.s 3,.int y.2),(.s 4,.int ((y.1+1:Nat):Int))]) (fun y=>y.1+1≤l.length∧(∀j,j<y.1+1→nth ag l j≤y.2)∧∃j,j<y.1+1∧nth ag l j=y.2) (fun y=>l.length-y.1) (0,nth ag l 0) [] ⟨h0,fun j hj=>by rw [show j=0 by omega];exact ZC1 _,0,by omega,rfl⟩ dM ?_
 rintro⟨i,m⟩ ⟨(hi:i+1≤l.length),hj,hx⟩
 refine⟨fun w1=>⟨⟨?_,?_⟩,⟨⟨?_,?_⟩,?_⟩⟩,fun w2=>?_⟩
 all_goals first|refine aw ?_|refine ax ?_|exact a8|exact a7|skip
 ·have bU:i+1<l.length:=by have:=aJ w1;simp only [] at this;omega
  refine⟨(i+1,max m (nth ag l (i+1))),[],?_,?_,?_⟩
  rotate_right
  ·exact bV
  ·refine⟨bU,fun j yK=>?_,?_⟩
   ·by_cases e:j=i+1
    ·rw [e];exact Int.le_max_right _ _
    ·exact ZE0 (hj j (by omega)) (Int.le_max_left _ _)
   ·obtain⟨j,h2,h3⟩:=hx
    by_cases e:nth ag l (i+1)≤m
    ·exact⟨j,by omega,by rw [h3];exact (Int.max_eq_left e).symm⟩
    ·exact⟨i+1,by omega,(Int.max_eq_right (by have:=Int.not_le.1 e;exact Int.le_of_lt this)).symm⟩
  ·show l.length-(i+1)<l.length-i;omega
 ·have FL:¬(i+1<l.length):=by have:=aA w2;simp only [] at this;omega
  obtain⟨j,h2,h3⟩:=hx
  refine⟨[],[],_,_,_,rfl,az,m,0,(⟨fun j yK=>hj j (by omega),j,by omega,h3⟩),?_,?_,rfl⟩
  ·(show _=GV l m);unfold GV;first|(rw [rfl];rfl)|rfl
  ·(show _=OO l m);unfold OO;first|(rw [rfl];rfl)|rfl
def fh (s:ay) (iy:Int) (p:Pt):Bool:=aZ p&&(!(au p)&&(!(decide (p.2.1>iy))&& !(decide (nth ag s.refs p.1.toNat=(0:Int)))))
section
variable {s:ay}{iy:Int}{p:Pt}
theorem aht (h:(!(aZ p))=true):fh s iy p=false:=by unfold fh;rw [uv h];rfl
theorem ahs (h:au p=true):fh s iy p=false:=by unfold fh;rw [h];cases aZ p<;>rfl
theorem ahr (h:decide (p.2.1>iy)=true):fh s iy p=false:=by unfold fh;rw [h];cases aZ p<;>cases au p<;>rfl
theorem ahq (h:decide (nth ag s.refs p.1.toNat=(0:Int))=true):fh s iy p=false:=by unfold fh;rw [h];cases aZ p<;>cases au p<;>cases decide (p.2.1>iy)<;>rfl
theorem ahn (h:(!(aZ p))=false) (h2:au p=false) (h3:decide (p.2.1>iy)=false) (h4:decide (nth ag s.refs p.1.toNat=(0:Int))=false):fh s iy p=true:=by unfold fh;rw [cL h,h2,h3,h4];rfl
end
theorem NV {l:List Pt}{n:Nat}(h:n<l.length):l.take (n+1)=l.take n++[nth ae l n]:=by
 rw [List.take_succ,oD (ek:=ae) h];rfl
def sf (l:List Pt) (iy:Int) (S:ay) (o:List Int):Prop:=o.length=64∧S.refs.length=64∧l.length≤1000000∧∀r,(0:Int)≤nth ag o r∧nth ag o r≤(1000000:Int)
def LQ (l:List Pt) (iy:Int) (S:ay) (o:List Int) (z:List Int):Prop:=z.length=64∧(∀r,(0:Int)≤nth ag z r∧nth ag z r≤(nth ag o r+(l.length:Int):Int))∧(l.all (fh S iy)=true→∀r,nth ag z r=(nth ag o r+(bn l r:Int):Int))
def gT (l:List Pt) (iy:Int) (S:ay) (o:List Int) (z:List Int):AV:=.q (l.all (fh S iy))
def js (l:List Pt) (iy:Int) (S:ay) (o:List Int) (z:List Int):List AV:=[.a [.xs 1 1 0 o.length],.rs ag z]
def uf:cn where
 A:=[.s (.vz ae),.s .int,.vs xv,.b 0]
 B:=[.a [.xb 1 ag],.r ag]
 pre:=fun x b=>US (b.1) (b.2)∧sf (x.1) (x.2.1) (x.2.2.1) (b.2)
 α:=fun _ _=>List Int
 φ:=fun x b z=>LQ (x.1) (x.2.1) (x.2.2.1) (b.2) z
 r:=fun x b z=>gT (x.1) (x.2.1) (x.2.2.1) (b.2) z
 o:=fun x b z=>js (x.1) (x.2.1) (x.2.2.1) (b.2) z
theorem PG:Has Tryz.prog 102 uf:=by
 refine Has.WR zT zF zF (l:=[(55,cB),(56,bG)]) ⟨jt,eO,aa⟩ Tryz.func102 ?_
 rintro⟨(l:List Pt),(iy:Int),⟨(aj:List ByteArray),(ak:List Int),(an:List Int),(ao:Int),(ah:List Pt),(aq:Int),(ai:List Pt),(ar:Bool)⟩,_⟩ ⟨(om:Nat),(o:List Int)⟩ ⟨(akM:om=List.length o),(hp:sf l iy (aj,ak,an,ao,ah,aq,ai,ar) o)⟩
 subst akM
 show vc _ _ _ _ (entry [.s (.vz ae l),.int iy,.s (.vs [.vz ab aj,.vz ag ak,.vz ag an,.v (.int .i64 ao),.vz ae ah,.v (.int .i64 aq),.vz ae ai,.q ar] 0),.s (.bp 0 0)] [.a [.xs 1 1 0 o.length],.rs ag o]) _
 let g':=(aj,ak,an,ao,ah,aq,ai,ar)
 obtain⟨(ho:List.length o=64),(hrf:ak.length=64),(hl:l.length≤1000000),hb⟩:=hp
 refine ?_
 all_goals first|refine aw ?_|refine ax ?_|exact a8|(dsimp only [cB,cR,bG,cb];omega)|exact a7|skip
 refine lW (l:=[(55,cB),(56,bG)]) (ex:=zT) (wr:=zF) (pt:=zF) ⟨jt,eO,aa⟩ [.s 1,.s 2,.s 3,.s 9,.s 10,.b 0] (fun y:Nat×List Int=>[(.s 11,.int y.1),(.b 1,.rs ag y.2)]) (fun y=>y.1≤l.length∧y.2.length=64∧(∀r,nth ag y.2 r=(nth ag o r+(bn (l.take y.1) r:Int):Int))∧(l.take y.1).all (fh g' iy)=true) (fun y=>l.length-y.1) (0,o) [] ⟨ZA7 _,ho,fun r=>(Int.add_zero _).symm,rfl⟩ dM ?_
 rintro⟨i,z⟩ ⟨(hi:i≤l.length),(hz:z.length=64),(hc:∀r,nth ag z r=(nth ag o r+(bn (l.take i) r:Int):Int)),(ha:(l.take i).all (fh g' iy)=true)⟩
 have cm:decide ((i:Int)<(l.length:Int))=true→i<l.length:=fun h=>by have:=aJ h;omega
 have hq:(!(aZ (nth ae l i)))=false→0≤(nth ae l i).1∧(nth ae l i).1<64:=fun h=>nT (cL h)
 have hci:∀r,bn (l.take i) r≤i:=fun r=>ZB0 List.countP_le_length (by rw [ZB9];omega)
 have hzb:∀r,(0:Int)≤nth ag z r∧nth ag z r≤(nth ag o r+(l.length:Int):Int)∧nth ag z r≤(2000000:Int):=fun r=>by
  have h1:=hb r;have h2:=hci r
  rw [hc r]
  refine⟨?_,?_,?_⟩
  ·show (0:Int)≤nth ag o r+(bn (l.take i) r:Int);have h3:(0:Int)≤nth ag o r:=h1.1;omega
  ·exact Int.add_le_add_left (by omega:((bn (l.take i) r:Nat):Int)≤(l.length:Int)) _
  ·exact ZE0 (Int.add_le_add h1.2 (by omega:((bn (l.take i) r:Nat):Int)≤1000000)) (by decide)
 have iC:i<l.length→fh g' iy (nth ae l i)=false→l.all (fh g' iy)=false:=fun h h2=>by
  rw [Bool.eq_false_iff];intro h3
  rw [ZC9.1 h3 _ (bR (ek:=ae) h)] at h2;cases h2
 have vD:∀b:Bool,l.all (fh g' iy)=b→b=false→LQ l iy g' o z:=fun b h h2=>⟨hz,fun r=>⟨(hzb r).1,(hzb r).2.1⟩,fun h3=>by rw [h,h2] at h3;cases h3⟩
 refine⟨fun w1=>⟨⟨?_,?_⟩,⟨⟨tv6,aa⟩,aa⟩,fun x2 w3=>⟨aa,fun w4=>?_,fun w5=>⟨⟨⟨tv6,aa⟩,aa⟩,fun x6 w7=>⟨aa,fun w8=>?_,fun w9=>⟨aa,fun dy=>?_,fun kA=>⟨⟨?_,?_⟩,fun dJ=>?_,fun iU=>⟨⟨?_,?_⟩,?_,⟨?_,?_⟩,⟨?_,?_⟩,?_,⟨?_,?_⟩,?_⟩⟩⟩⟩⟩⟩⟩,fun gO=>?_⟩
 all_goals first|refine aw ?_|refine ax ?_|exact a8|(dsimp only [cB,cR,bG,cb];omega)|exact a7|exact (hq w5).1|(show _<(ak.length:Int);rw [hrf];exact (hq w5).2)|(show _<(List.length o:Int);rw [ho];exact (hq w5).2)|(show (nth ae l i).1.toNat<z.length;rw [hz];exact sr (cL w5))|(have h8:=(hzb (nth ae l i).1.toNat).1;show (-9223372036854775808:Int)≤nth ag z (nth ae l i).1.toNat+1;have h9:(0:Int)≤nth ag z (nth ae l i).1.toNat:=h8;omega)|exact ZE0 (Int.add_le_add_right (hzb (nth ae l i).1.toNat).2.2 1) (by decide)|skip
 ·have e:=iC (cm w1) (aht w4)
  refine⟨[],[],_,_,_,rfl,az,z,0,(vD _ e rfl),?_,?_,rfl⟩
  ·(show _=gT l iy g' o z);unfold gT;first|(rw [e];rfl)|rfl
  ·(show _=js l iy g' o z);unfold js;first|(rw [e];rfl)|rfl
 ·have e:=iC (cm w1) (ahs w8)
  refine⟨[],[],_,_,_,rfl,az,z,0,(vD _ e rfl),?_,?_,rfl⟩
  ·(show _=gT l iy g' o z);unfold gT;first|(rw [e];rfl)|rfl
  ·(show _=js l iy g' o z);unfold js;first|(rw [e];rfl)|rfl
 ·have e:=iC (cm w1) (ahr dy)
  refine⟨[],[],_,_,_,rfl,az,z,0,(vD _ e rfl),?_,?_,rfl⟩
  ·(show _=gT l iy g' o z);unfold gT;first|(rw [e];rfl)|rfl
  ·(show _=js l iy g' o z);unfold js;first|(rw [e];rfl)|rfl
 ·have e:=iC (cm w1) (ahq (s:=g') dJ)
  refine⟨[],[],_,_,_,rfl,az,z,0,(vD _ e rfl),?_,?_,rfl⟩
  ·(show _=gT l iy g' o z);unfold gT;first|(rw [e];rfl)|rfl
  ·(show _=js l iy g' o z);unfold js;first|(rw [e];rfl)|rfl
 ·have bU:=cm w1
  have hk:(nth ae l i).1.toNat<z.length:=by rw [hz];exact sr (cL w5)
  refine⟨(i+1,z.set (nth ae l i).1.toNat (nth ag z (nth ae l i).1.toNat+1:Int)),[],?_,?_,?_⟩
  rotate_right
  ·exact bV
  ·refine⟨bU,by show (List.set _ _ _).length=64;rw [ZC3,hz],fun r=>?_,?_⟩
   ·show nth ag (List.set z _ _) r=(nth ag o r+(bn (l.take (i+1)) r:Int):Int)
    rw [NV bU,bI]
    by_cases e:(nth ae l i).1.toNat=r
    ·subst e
     rw [nu (ek:=ag) hk,hc,rM (p:=nth ae l i) w9]
     exact Int.add_assoc _ _ _
    ·rw [ix (ek:=ag) e,hc,yU e];rfl
   ·show (l.take (i+1)).all _=true
    rw [NV bU,List.all_append,ha]
    show (true&&(fh g' iy (nth ae l i)&&true))=true
    rw [ahn (s:=g') (p:=nth ae l i) w5 w9 kA iU];rfl
  ·show l.length-(i+1)<l.length-i;omega
 ·have FL:i=l.length:=by have:=aA (p:=(i:Int)<(l.length:Int)) gO;omega
  have ht:l.take i=l:=ZD1 (by omega)
  rw [ht] at ha
  refine⟨[],[],_,_,_,rfl,az,z,0,(⟨hz,fun r=>⟨(hzb r).1,(hzb r).2.1⟩,fun _ r=>by rw [hc r,ht]⟩),?_,?_,rfl⟩
  ·(show _=gT l iy g' o z);unfold gT;first|(rw [ha];rfl)|rfl
  ·(show _=js l iy g' o z);unfold js;first|(rw [ha];rfl)|rfl
end GL
end Go.Proofs.YtnkbdhldiinfdaaGreatDoor
