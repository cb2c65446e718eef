/- A drawn law returns true for every code (its row lists package variables, tied by the card): part 43. -/
import Derived.Test.YtclcgjhhehbdeaaGreatDoorPaz
import Derived.Test.YtclcgjhhehbdeaaGreatDoorPbm
import Derived.Test.YtclcgjhhehbdeaaGreatDoorPbp
set_option maxHeartbeats 20000000
set_option maxRecDepth 100000
set_option linter.all false
namespace Go.Proofs.YtclcgjhhehbdeaaGreatDoor
namespace GL
structure ay.fit (s:ay) (p:Pt):Prop where
 ok:aZ p=true
 b:p.2.1≤s.cg
theorem ajy {s:ay}(h:0≤s.cg):s.fit bM:=⟨rfl,h⟩
theorem ab4 {s:ay}{p:Pt}{lv:Int}(h0:0≤s.cg) (hp:s.fit p):∀q∈(bg s p lv).1,s.fit q:=by
 intro q hq
 refine⟨sL s p lv q hq,?_⟩
 cases hh:au p with
 |true=>
  rw [ko hh] at hq
  rw [(ZD6.1 hq).2];exact h0
 |false=>
  have nil:∀{b:Bool},bg s p lv=([],b)→False:=fun e=>by rw [e] at hq;cases hq
  have h1:(!(aZ p))=false:=by rw [hp.ok];rfl
  have h3:decide (p.2.1>s.cg)=false:=decide_eq_false (by have:=hp.b;omega)
  cases hl:decide (p.2.2.2.2≠lv) with
  |true=>exact (nil (vX hh hl)).elim
  |false=>
   cases hr: !(bF s p).2 with
   |true=>exact (nil (vW hh h1 hl h3 hr)).elim
   |false=>
    rw [vV hh h1 hl h3 hr] at hq
    cases ha:(bl (bF s p).1).1.any (late p) with
    |true=>rw [vY ha] at hq;cases hq
    |false=>
     rw [sM ha] at hq
     have:=List.any_eq_false.1 ha q hq
     have h2:¬(q.2.1>p.2.1):=by simpa [late] using this
     have:=hp.b;omega
theorem QE {s:ay}{lv:Int}(h0:0≤s.cg):∀{l acc n:List Pt},(∀q∈l,s.fit q)→(∀q∈acc,s.fit q)→fw s lv l acc=some n→∀q∈n,s.fit q
 |[],acc,n,_,h2,h=>by cases h;exact h2
 |p::l,acc,n,h1,h2,h=>by
  unfold fw at h
  cases hb:(bg s p lv).2 with
  |true=>
   rw [hb,cond_true] at h
   refine QE h0 (fun q hq=>h1 q (by simp [hq])) (fun q hq=>?_) h
   rcases ZB4.1 hq with hq |hq
   ·exact h2 q hq
   ·exact ab4 h0 (h1 p (by simp)) q hq
  |false=>rw [hb] at h;cases h
theorem SN {n:Int}{d:Nat}(h0:ig n 0 16=true) (h:d=4 ^ (bj n).toNat):n.toNat≤d:=by
 obtain⟨h1,h2⟩:=cC.1 h0
 rw [h]
 unfold bj
 cases hc:decide (n≤1) with
 |true=>have:=aJ hc;show n.toNat≤1;omega
 |false=>
  cases hd:decide (n≤4) with
  |true=>have:=aJ hd;show n.toNat≤4;omega
  |false=>show n.toNat≤16;omega
theorem XA {p:Pt}(h:au p=true):p.2.1=0:=by rw [iq h];rfl
theorem W9 {p:Pt}(h:au p=true):p.2.2.2.2=0:=by rw [iq h];rfl
theorem abr {s:ay}{t:bf}(h0:0≤s.cg) (h:decide (t.root.2.1>s.cg)=true):qF s t=false:=by
 have hh:au t.root=false:=by
  cases hh:au t.root with
  |false=>rfl
  |true=>have:=aJ h;rw [XA hh] at this;omega
 cases hb:lS t with
 |true=>exact DR hb
 |false=>
  cases hd:decide (t.depth>0) with
  |false=>
   have e:bA s t=([t.root],true):=vn hd
   rw [Y2 hb (by rw [e];rfl),e]
   exact wF hh (ZF h)
  |true=>
   have e:bA s t=([],false):=HY hd (by rw [NT (by rw [AA hh h];rfl)])
   exact Y3 hb (by rw [e];rfl)
def vd (S:ay) (t:bf):Prop:=S.rd∧0≤S.cg
def RM (S:ay) (t:bf) (z:Bool):Prop:=z=qF S t
def bS (S:ay) (t:bf) (z:Bool):AV:=.t [match z with |true=>.s (.xs 0 5 0 t.many.toNat) |false=>.s (.v (.slice none 0 0)),.s (.q z)]
def cl (S:ay) (t:bf) (z:Bool):List AV:=match z with |true=>[.rs ae (bA S t).1] |false=>[.zz]
def DB:cn where
 A:=[.vs xq,.a [.int,.int,.int,.int,.int,.int,.int]]
 B:=[]
 pre:=fun x b=>vd (x.1) (x.2)
 α:=fun _ _=>Bool
 φ:=fun x b z=>RM (x.1) (x.2) z
 r:=fun x b z=>bS (x.1) (x.2) z
 o:=fun x b z=>cl (x.1) (x.2) z
 nf:=1
theorem abF:Has Tryz.prog 65 DB:=by
 refine Has.WK zT zF zF (l:=[(31,cr),(102,gL),(101,cB),(103,kn),(32,kC),(67,bG)]) ⟨fL,tF,jr,zG,zD,eN,aa⟩ Tryz.func65 ?_
 rintro⟨⟨(aj:List ByteArray),(ak:List Int),(an:List Int),(ao:Int),(ah:List Pt),(aq:Int),(ai:List Pt),(ar:Bool)⟩,⟨(t1:Int),(t2:Int),(t3:Int),(t4:Int),(t5:Int),(t6:Int),(t7:Int)⟩⟩ _ (hp:vd (aj,ak,an,ao,ah,aq,ai,ar) (t1,t2,t3,t4,t5,t6,t7))
 show vc _ _ _ _ (entry [.s (.vs [.vz ab aj,.vz ag ak,.vz ag an,.v (.int .i64 ao),.vz ae ah,.v (.int .i64 aq),.vz ae ai,.q ar] 0),.a [.int t1,.int t2,.int t3,.int t4,.int t5,.int t6,.int t7]] []) _
 let g':=(aj,ak,an,ao,ah,aq,ai,ar)
 let A':=(t1,t2,t3,t4,t5,t6,t7)
 obtain⟨dE,(h0:0≤ao)⟩:=hp
 have dE:ay.rd g':=dE
 refine⟨Sq3,Sq17,rfl,[.s 17,.b 1003],Sq18,rfl,Sq18,Sq19,rfl,⟨tv4,aa⟩,?_,fun x1 w2=>⟨Sq19,Sq20,rfl,Sq20,Sq21,rfl,aa,fun w3=>⟨Sq21,Sq22,rfl,Sq21,Sq23,rfl,Sq21,Sq24,rfl,Sq21,Sq25,rfl,Sq21,Sq26,rfl,Sq21,Sq27,rfl,[.s 21,.s 27],Sq28,rfl,Sq28,Sq29,rfl,Sq29,Sq30,rfl,Sq29,Sq31,rfl,Sq29,Sq32,rfl,Sq29,Sq33,rfl,[.s 29,.s 33],Sq34,rfl,Sq34,Sq35,rfl,Sq35,Sq36,rfl,Sq35,Sq37,rfl,Sq35,Sq38,rfl,Sq35,Sq39,rfl,Sq35,Sq40,rfl,Sq35,Sq41,rfl,Sq35,Sq42,rfl,Sq35,Sq43,rfl,[.s 35,.s 43],Sq44,rfl,?_⟩,fun w4=>⟨[.s 21,.s 3],Sq22,rfl,[.s 21,.s 22,.b 1003],Sq23,rfl,[.s 21,.s 3],Sq24,rfl,[.s 21,.s 24,.b 1003],Sq25,rfl,[.s 21,.s 25],Sq26,rfl,⟨tv2,aa⟩,?_,fun x5 w6=>⟨[.s 21,.s 23,.s 26],Sq27,rfl,[.s 21,.s 27],Sq28,rfl,Sq28,Sq29,rfl,aa,fun w7=>⟨Sq29,Sq30,rfl,Sq29,Sq31,rfl,Sq29,Sq32,rfl,Sq29,Sq33,rfl,[.s 29,.s 33],Sq34,rfl,Sq34,Sq35,rfl,Sq35,Sq36,rfl,Sq35,Sq37,rfl,Sq35,Sq38,rfl,Sq35,Sq39,rfl,Sq35,Sq40,rfl,Sq35,Sq41,rfl,Sq35,Sq42,rfl,Sq35,Sq43,rfl,[.s 35,.s 43],Sq44,rfl,?_⟩,fun w8=>⟨[.s 29,.s 3],Sq30,rfl,[.s 29,.s 30,.b 1003],Sq31,rfl,[.s 29,.s 31],Sq32,rfl,⟨⟨tv6,aa⟩,aa⟩,?_,fun x9 dx=>⟨[.s 29,.s 32],Sq33,rfl,[.s 29,.s 33],Sq34,rfl,Sq34,Sq35,rfl,aa,fun kx=>⟨Sq35,Sq36,rfl,Sq35,Sq37,rfl,Sq35,Sq38,rfl,Sq35,Sq39,rfl,Sq35,Sq40,rfl,Sq35,Sq41,rfl,Sq35,Sq42,rfl,Sq35,Sq43,rfl,[.s 35,.s 43],Sq44,rfl,?_⟩,fun dI=>⟨[.s 35,.s 3],Sq36,rfl,[.s 35,.s 36],Sq37,rfl,[.s 35,.s 37,.b 1003],Sq38,rfl,[.s 35,.s 0],Sq39,rfl,[.s 35,.s 39],Sq40,rfl,[.s 35,.s 40],Sq41,rfl,[.s 35,.s 41],Sq42,rfl,[.s 35,.s 38,.s 42],Sq43,rfl,[.s 35,.s 43],Sq44,rfl,fun iS=>?_,fun gN=>⟨aa,?_⟩⟩⟩⟩⟩⟩⟩⟩
 all_goals first|refine aw ?_|refine ax ?_|exact a8|(dsimp only [cr,df,gL,ir,cB,cR,kn,kH,kC,k6,bG,cb];omega)|exact a7|skip
 ·refine⟨[],[],_,_,_,rfl,az,false,1,(show false=qF g' A' from (DR (s:=g') (t:=A') (Y6 w3)).symm),?_,?_,rfl⟩
  ·(show _=bS g' A' false);unfold bS;first|(rw [rfl];rfl)|rfl
  ·(show _=cl g' A' false);unfold cl;first|(rw [rfl];rfl)|rfl
 ·refine⟨[],[],_,_,_,rfl,az,false,1,(show false=qF g' A' from (DR (s:=g') (t:=A') (Y5 w7)).symm),?_,?_,rfl⟩
  ·(show _=bS g' A' false);unfold bS;first|(rw [rfl];rfl)|rfl
  ·(show _=cl g' A' false);unfold cl;first|(rw [rfl];rfl)|rfl
 ·refine⟨[],[],_,_,_,rfl,az,false,1,(show false=qF g' A' from (DR (s:=g') (t:=A') (Y4 kx)).symm),?_,?_,rfl⟩
  ·(show _=bS g' A' false);unfold bS;first|(rw [rfl];rfl)|rfl
  ·(show _=cl g' A' false);unfold cl;first|(rw [rfl];rfl)|rfl
 ·refine⟨[],[],_,_,_,rfl,az,false,1,(show false=qF g' A' from (abr (s:=g') (t:=A') h0 iS).symm),?_,?_,rfl⟩
  ·(show _=bS g' A' false);unfold bS;first|(rw [rfl];rfl)|rfl
  ·(show _=cl g' A' false);unfold cl;first|(rw [rfl];rfl)|rfl
 have ad9:ig t7 0 16=true:=cL w4
 have hdp:t6=bj t7:=ZE9.1 (aA (p:=¬t6=bj t7) w8)
 have hB:lS A'=false:=zu (t:=A') w4 w8 dI
 have hd2:=pe t7
 rw [←hdp] at hd2
 have ZP:ay.fit g' (t1,t2,t3,t4,t5):=⟨cL dI,by have:=aA gN;show t2≤ao;omega⟩
 refine lT (l:=[(31,cr),(102,gL),(101,cB),(103,kn),(32,kC),(67,bG)]) (ex:=zT) (wr:=zF) (pt:=zF) ⟨fL,tF,jr,zG,zD,eN,trivial⟩ [.s 0,.s 3,.b 1003] (fun y:Int×List Pt×Nat=>[(.s 6,.s (.xs 1019 5 0 y.2.1.length)),(.s 7,.int y.1),(.b 1019,.rs ae y.2.1)]) (fun y=>(0≤y.1∧y.1≤t6)∧y.2.1.length=4 ^ (t6-y.1).toNat∧y.1<y.2.2∧tB g' y.2.2 y.1 y.2.1=bA g' A'∧∀q∈y.2.1,ay.fit g' q) (fun y=>y.1.toNat) (t6,[(t1,t2,t3,t4,t5)],3) [(1019,1047)] ⟨⟨hd2.1,ZC1 _⟩,by show 1=4 ^ (t6-t6).toNat;rw [Int.sub_self];rfl,by show t6<(3:Nat);omega,rfl,fun q hq=>by rw [ZC7.1 hq];exact ZP⟩ dL ?_
 rintro⟨lv,l,f⟩ ⟨⟨(FE:0≤lv),(bU:lv≤t6)⟩,(hl:l.length=4 ^ (t6-lv).toNat),(hf:lv<(f:Int)),(hr:tB g' f lv l=bA g' A'),(TH:∀q∈l,ay.fit g' q)⟩
 have akY:l.length≤16:=by
  rw [hl]
  have:(t6-lv).toNat=0∨(t6-lv).toNat=1∨(t6-lv).toNat=2:=by omega
  rcases this with h |h |h<;>rw [h]<;>decide
 refine⟨fun w1=>?_,fun w2=>?_⟩
 all_goals first|refine aw ?_|refine ax ?_|exact a8|(dsimp only [cr,df,gL,ir,cB,cR,kn,kH,kC,k6,bG,cb];omega)|exact a7|skip
 ·have oQ:decide (lv>0)=true:=w1
  obtain⟨g,rfl⟩:∃g,f=g+1:=⟨f-1,by have:=aJ oQ;omega⟩
  refine lT (l:=[(31,cr),(102,gL),(101,cB),(103,kn),(32,kC),(67,bG)]) (ex:=zT) (wr:=zF) (pt:=zF) ⟨fL,tF,jr,zG,zD,eN,aa⟩ [.s 0,.s 3,.b 1003,.s 6,.s 7,.b 1019,.s 54,.s 55] (fun y:Nat×List Pt=>match y.1 with |0=>[(.s 8,.s (.v (.slice none 0 0))),(.s 56,.int 0)] |n+1=>[(.s 8,.s (.xs 1021 5 0 y.2.length)),(.s 56,.int ((n+1:Nat):Int)),(.b 1021,.rs ae y.2)]) (fun y=>y.1≤l.length∧y.2.length=4*y.1∧fw g' lv (l.drop y.1) y.2=fw g' lv l []) (fun y=>l.length-y.1) (0,[]) [] ⟨ZA7 _,rfl,rfl⟩ dL ?_
  rintro⟨i,acc⟩ ⟨(hi:i≤l.length),(abO:acc.length=4*i),(hs:fw g' lv (l.drop i) acc=fw g' lv l [])⟩
  have cm:decide ((i:Int)<(l.length:Int))=true→i<l.length:=fun h=>by have:=aJ h;omega
  have cO:i<l.length→l.drop i=nth ae l i::l.drop (i+1):=fun h=>bW (ek:=ae) h
  have hft:i<l.length→ay.fit g' (nth ae l i):=fun h=>TH _ (bR (ek:=ae) h)
  have hfb:i<l.length→qo g' (nth ae l i) lv=(bg g' (nth ae l i) lv).2∧(qo g' (nth ae l i) lv=true→xl g' (nth ae l i)=(bg g' (nth ae l i) lv).1):=fun h=>abT (hft h).ok (fun _=>(hft h).b)
  have iA:i<l.length→(!(qo g' (nth ae l i) lv))=true→false=qF g' A':=fun h h2=>by
   rw [(hfb h).1] at h2
   have e:fw g' lv l []=none:=by rw [←hs,cO h,NT (s:=g') (lv:=lv) (p:=nth ae l i) h2]
   exact (Y3 hB (by rw [←hr,HY oQ e];rfl)).symm
  have hgo:i<l.length→(!(qo g' (nth ae l i) lv))=false→(xl g' (nth ae l i)).length=4∧fw g' lv (l.drop (i+1)) (acc++xl g' (nth ae l i))=fw g' lv l []:=fun h h2=>by
   have e:=(hfb h).2 (cL h2)
   have h3:=h2
   rw [(hfb h).1] at h3
   rw [e]
   exact⟨(iE g' (nth ae l i) lv).2 (cL h3),by rw [←hs,cO h,NS (s:=g') (lv:=lv) (p:=nth ae l i) h3]⟩
  have y0:0<l.length:=by rw [hl];exact Nat.pow_pos (by decide)
  cases i with
  |zero=>
   have ha0:acc=[]:=ZD4.1 (by rw [abO])
   subst ha0
   refine⟨fun w1=>⟨⟨?_,?_⟩,?_,⟨⟨aa,tv6,tv2⟩,?_,?_⟩,fun |false=>fun w2=>⟨fun w3=>?_,fun w4=>⟨⟨⟨?_,?_⟩,aa⟩,⟨?_,?_⟩,?_⟩⟩ |true=>fun w5=>⟨fun w6=>?_,fun w7=>⟨⟨⟨?_,?_⟩,?_,?_⟩,⟨?_,?_⟩,?_⟩⟩⟩,fun w8=>⟨⟨?_,?_⟩,?_⟩⟩
   all_goals first|refine aw ?_|refine ax ?_|exact a8|(dsimp only [cr,df,gL,ir,cB,cR,kn,kH,kC,k6,bG,cb];omega)|exact a7|exact dE|exact (hft (cm w1)).ok|exact absurd ((show qo g' (nth ae l 0) lv=true→false=true from w2) (cL w4)) (by decide)|(show 0<(xl g' (nth ae l 0)).length;rw [(hgo (cm w1) w7).1];decide)|(show (xl g' (nth ae l 0)).length≤1048576;rw [(hgo (cm w1) w7).1];decide)|(exfalso;have h9:¬((0:Int)<(l.length:Int)):=aA w8;omega)|skip
   ·refine⟨[],[],_,_,_,rfl,az,false,1,(iA (cm w1) w3),?_,?_,rfl⟩
    ·(show _=bS g' A' false);unfold bS;first|(rw [rfl];rfl)|rfl
    ·(show _=cl g' A' false);unfold cl;first|(rw [rfl];rfl)|rfl
   ·refine⟨[],[],_,_,_,rfl,az,false,1,(iA (cm w1) w6),?_,?_,rfl⟩
    ·(show _=bS g' A' false);unfold bS;first|(rw [rfl];rfl)|rfl
    ·(show _=cl g' A' false);unfold cl;first|(rw [rfl];rfl)|rfl
   ·refine⟨(1,xl g' (nth ae l 0)),[(1021,1071)],?_,?_,?_⟩
    rotate_right
    ·exact bV
    ·exact⟨y0,by show (xl g' (nth ae l 0)).length=4*1;rw [(hgo (cm w1) w7).1],(hgo (cm w1) w7).2⟩
    ·show l.length-1<l.length-0;omega
  |succ i=>
   refine⟨fun w1=>⟨⟨?_,?_⟩,?_,⟨⟨aa,tv6,tv2⟩,?_,?_⟩,fun |false=>fun w2=>⟨fun w3=>?_,fun w4=>⟨⟨⟨?_,?_⟩,aa⟩,⟨?_,?_⟩,?_⟩⟩ |true=>fun w5=>⟨fun w6=>?_,fun w7=>⟨⟨⟨?_,?_⟩,?_,?_⟩,⟨?_,?_⟩,?_⟩⟩⟩,fun w8=>⟨⟨?_,?_⟩,?_⟩⟩
   all_goals first|refine aw ?_|refine ax ?_|exact a8|(dsimp only [cr,df,gL,ir,cB,cR,kn,kH,kC,k6,bG,cb];omega)|exact a7|exact dE|exact (hft (cm w1)).ok|exact absurd ((show qo g' (nth ae l (i+1)) lv=true→false=true from w2) (cL w4)) (by decide)|(show acc.length+(xl g' (nth ae l (i+1))).length≤1048576;rw [(hgo (cm w1) w7).1,abO];omega)|skip
   ·refine⟨[],[],_,_,_,rfl,az,false,1,(iA (cm w1) w3),?_,?_,rfl⟩
    ·(show _=bS g' A' false);unfold bS;first|(rw [rfl];rfl)|rfl
    ·(show _=cl g' A' false);unfold cl;first|(rw [rfl];rfl)|rfl
   ·refine⟨[],[],_,_,_,rfl,az,false,1,(iA (cm w1) w6),?_,?_,rfl⟩
    ·(show _=bS g' A' false);unfold bS;first|(rw [rfl];rfl)|rfl
    ·(show _=cl g' A' false);unfold cl;first|(rw [rfl];rfl)|rfl
   ·refine⟨(i+2,acc++xl g' (nth ae l (i+1))),[(1021,1071)],?_,?_,?_⟩
    rotate_right
    ·exact bV
    ·exact⟨cm w1,by show List.length (_++_)=4*(i+2);rw [ZA0,(hgo (cm w1) w7).1,abO];omega,(hgo (cm w1) w7).2⟩
    ·show l.length-(i+2)<l.length-(i+1);have:=cm w1;omega
   ·have FF:¬i+1<l.length:=by have:=aA (p:=((i+1:Nat):Int)<(l.length:Int)) w8;omega
    have e:fw g' lv l []=some acc:=by rw [←hs,ZB3 (by omega)];rfl
    have h1:lv>0:=aJ oQ
    refine⟨(lv-1,acc,g),[(1019,1021)],?_,?_,?_⟩
    rotate_right
    ·exact bV
    ·refine⟨⟨by show 0≤lv-1;omega,by show lv-1≤t6;omega⟩,?_,by show lv-1<(g:Int);omega,by rw [←hr,CD oQ e],QE h0 TH (fun q hq=>by cases hq) e⟩
     show acc.length=4 ^ (t6-(lv-1)).toNat
     rw [rW e,hl,show (t6-(lv-1)).toNat=(t6-lv).toNat+1 by omega,Nat.pow_succ]
     show 0+4*_=_;omega
    ·show (lv-1).toNat<lv.toNat;omega
 ·refine lT (l:=[(31,cr),(102,gL),(101,cB),(103,kn),(32,kC),(67,bG)]) (ex:=zT) (wr:=zF) (pt:=zF) ⟨fL,tF,jr,zG,zD,eN,aa⟩ [.s 0,.s 3,.b 1003,.s 6,.b 1019,.s 74,.s 75] (fun i:Nat=>[(.s 76,.int i)]) (fun i=>i≤l.length∧j6 g' t7 i (l.drop i)=j6 g' t7 0 l) (fun i=>l.length-i) 0 [] ⟨ZA7 _,rfl⟩ dL ?_
  rintro i ⟨(hi:i≤l.length),(hs:j6 g' t7 i (l.drop i)=j6 g' t7 0 l)⟩
  have cm:decide ((i:Int)<(l.length:Int))=true→i<l.length:=fun h=>by have:=aJ h;omega
  have cO:i<l.length→l.drop i=nth ae l i::l.drop (i+1):=fun h=>bW (ek:=ae) h
  have hft:i<l.length→ay.fit g' (nth ae l i):=fun h=>TH _ (bR (ek:=ae) h)
  have akU:lv=0:=by have:=aA (p:=lv>0) w2;omega
  have hE:bA g' A'=(l,true):=by
   rw [←hr]
   cases f with
   |zero=>rfl
   |succ g=>exact vn w2
  have hM:qF g' A'=j6 g' t7 0 l:=by rw [Y2 hB (by rw [hE];rfl),hE]
  have hlm:t7≤(l.length:Int):=by
   have h1:=SN (n:=t7) (d:=l.length) ad9 (by rw [hl,akU,Int.sub_zero,hdp])
   have:=(cC.1 ad9).1;omega
  have h70:=(cC.1 ad9).1
  have iA:i<l.length→au (nth ae l i)=false→q9 g' t7 i (nth ae l i)=true→false=qF g' A':=fun h h2 h3=>by rw [hM,←hs,cO h,wF (s:=g') (p:=nth ae l i) h2 h3]
  have hnh:(!(bF g' (nth ae l i)).2)=true→au (nth ae l i)=false:=fun h=>by
   cases hh:au (nth ae l i) with
   |false=>rfl
   |true=>rw [fS hh] at h;cases h
  have hnl:decide ((nth ae l i).2.2.2.2≠0)=true→au (nth ae l i)=false:=fun h=>by
   cases hh:au (nth ae l i) with
   |false=>rfl
   |true=>exact absurd (W9 hh) (aJ (p:=¬(nth ae l i).2.2.2.2=0) h)
  refine⟨fun w1=>⟨⟨?_,?_⟩,?_,⟨⟨aa,tv6,aa⟩,fun x2 w3=>?_,?_,?_⟩,fun x4 w5=>⟨aa,fun w6=>?_,fun w7=>⟨aa,fun w8=>?_,fun w9=>⟨aa,fun dx=>⟨⟨⟨tv6,aa⟩,aa⟩,fun ku dI=>⟨fun iS=>?_,fun gN=>⟨⟨?_,?_⟩,?_⟩⟩⟩,fun qG=>⟨⟨?_,?_⟩,?_⟩⟩⟩⟩⟩,fun kc=>⟨⟨?_,?_,?_,?_⟩,?_⟩⟩
  all_goals first|refine aw ?_|refine ax ?_|exact a8|(dsimp only [cr,df,gL,ir,cB,cR,kn,kH,kC,k6,bG,cb];omega)|exact a7|exact dE.2|exact dE.1|exact (hft (cm w1)).ok|exact dE.2 _ (by assumption)|exact h70|exact hlm|skip
  ·refine⟨[],[],_,_,_,rfl,az,false,1,(iA (cm w1) (hnh w6) (ZH (s:=g') w6)),?_,?_,rfl⟩
   ·(show _=bS g' A' false);unfold bS;first|(rw [rfl];rfl)|rfl
   ·(show _=cl g' A' false);unfold cl;first|(rw [rfl];rfl)|rfl
  ·refine⟨[],[],_,_,_,rfl,az,false,1,(iA (cm w1) (hnl w8) (ZG (s:=g') w8)),?_,?_,rfl⟩
   ·(show _=bS g' A' false);unfold bS;first|(rw [rfl];rfl)|rfl
   ·(show _=cl g' A' false);unfold cl;first|(rw [rfl];rfl)|rfl
  ·refine⟨[],[],_,_,_,rfl,az,false,1,(iA (cm w1) (uo iS) (ZE (s:=g') dx)),?_,?_,rfl⟩
   ·(show _=bS g' A' false);unfold bS;first|(rw [rfl];rfl)|rfl
   ·(show _=cl g' A' false);unfold cl;first|(rw [rfl];rfl)|rfl
  ·refine⟨(i+1),[],?_,?_,?_⟩
   rotate_right
   ·exact bV
   ·exact⟨cm w1,by rw [←hs,cO (cm w1),E8 (s:=g') (p:=nth ae l i) (cL gN)];rfl⟩
   ·show l.length-(i+1)<l.length-i;have:=cm w1;omega
  ·refine⟨(i+1),[],?_,?_,?_⟩
   rotate_right
   ·exact bV
   ·refine⟨cm w1,?_⟩
    rw [←hs,cO (cm w1)]
    cases hh:au (nth ae l i) with
    |true=>rw [E8 (s:=g') (p:=nth ae l i) hh];rfl
    |false=>rw [OU (s:=g') (p:=nth ae l i) hh (OV (s:=g') w7 w9 (decide_eq_false (by have:=(hft (cm w1)).b;omega)) qG)];rfl
   ·show l.length-(i+1)<l.length-i;have:=cm w1;omega
  ·have FF:¬i<l.length:=by have:=aA (p:=(i:Int)<(l.length:Int)) kc;omega
   have e:qF g' A'=true:=by rw [hM,←hs,ZB3 (by omega)];rfl
   have e2:(bA g' A').1=l:=by rw [hE]
   refine⟨[1019],[],_,_,_,rfl,az,true,0,(show true=qF g' A' from e.symm),?_,?_,rfl⟩
   ·(show _=bS g' A' true);unfold bS;first|(rw [e2];rfl)|rfl
   ·(show _=cl g' A' true);unfold cl;first|(rw [e2];rfl)|rfl
end GL
namespace GL
section
variable {n l:Int}{k:Nat}
theorem aiC (h:(!(ig n 0 900))=true):KJ n l k=false:=decide_eq_false (by rw [ZF8,IP] at h;omega)
theorem aiB (h:(!(ig l n 900))=true):KJ n l k=false:=decide_eq_false (by rw [ZF8,IP] at h;omega)
theorem agw (h:decide (n>0)=true) (h2:decide ((k:Int)<8)=true):KJ n l k=false:=decide_eq_false (by have:=aJ h;have:=aJ h2;omega)
theorem acu (h:(!(ig n 0 900))=false) (h2:(!(ig l n 900))=false) (h3:decide (n=0)=false∨decide (l≠0)=false) (h4:decide (n>0)=false∨decide ((k:Int)<8)=false):KJ n l k=true:=decide_eq_true (by
 have a1:=cC.1 (cL h);have a2:=cC.1 (cL h2)
 refine⟨by omega,?_,?_⟩
 ·rcases h3 with h3 |h3
  ·have:=aA h3;omega
  ·have:=aA h3;omega
 ·rcases h4 with h4 |h4
  ·have:=aA h4;omega
  ·have:=aA h4;omega)
end
def lL (sp:List Int×List Int):Prop:=True
def cH (sp:List Int×List Int):AV:=.s (.q (ry sp))
def RZ (sp:List Int×List Int):List AV:=[]
def kP:cn where
 A:=[.a [.vz ag,.vz ag]]
 B:=[]
 pre:=fun x b=>lL x
 r:=fun x b _=>cH x
 o:=fun x b _=>RZ x
theorem yB:Has Tryz.prog 98 kP:=by
 refine Has.zv zT zF zF (l:=[(31,cr)]) ⟨fL,aa⟩ Tryz.func98 ?_
 rintro⟨(dz:List Int),(eH:List Int)⟩ _ (hp:lL (dz,eH))
 show vc _ _ _ _ (entry [.a [.vz ag dz,.vz ag eH]] []) _
 refine⟨aa,fun w1=>?_,fun w2=>⟨fun w3=>?_,fun w4=>?_⟩⟩
 all_goals first|refine aw ?_|refine ax ?_|exact a8|(dsimp only [cr,df];omega)|exact a7|skip
 ·refine⟨[],[],_,_,_,rfl,az,(),aa,?_,?_,rfl⟩
  ·(show _=cH (dz,eH));unfold cH;first|(rw [NV (p:=(dz,eH)) w1];rfl)|rfl
  ·rfl
 ·refine⟨[],[],_,_,_,rfl,az,(),aa,?_,?_,rfl⟩
  ·(show _=cH (dz,eH));unfold cH;first|(rw [NU (p:=(dz,eH)) w3];rfl)|rfl
  ·rfl
 ·have l1:dz.length=64:=by have:=aA w2;omega
  have l2:eH.length=64:=by have:=aA w4;omega
  have hE:=UT (p:=(dz,eH)) w2 w4
  refine lT (l:=[(31,cr)]) (ex:=zT) (wr:=zF) (pt:=zF) ⟨fL,trivial⟩ [.s 1,.b 1001,.s 17,.s 18] (fun i:Nat=>[(.s 19,.int i)]) (fun i=>i≤64∧∀j,j<i→xr dz eH j=true) (fun i=>64-i) 0 [] ⟨ZA7 _,fun j hj=>absurd hj (by omega)⟩ dL ?_
  rintro i ⟨(hi:i≤64),hj⟩
  have cm:decide ((i:Int)<(dz.length:Int))=true→i<64:=fun h=>by have:=aJ h;omega
  have bU:∀l:List Int,l.length=64→decide ((i:Int)<(dz.length:Int))=true→(i:Int)<(l.length:Int):=fun l hl h=>by rw [hl,←l1];exact aJ h
  have iA:i<64→xr dz eH i=false→ry (dz,eH)=false:=fun h h2=>by rw [hE];exact T1 h h2
  have hgo:xr dz eH i=true→∀j,j<i+1→xr dz eH j=true:=fun h j yF=>by
   by_cases e:j=i
   ·rw [e];exact h
   ·exact hj j (by omega)
  refine⟨fun w1=>⟨⟨?_,?_⟩,⟨?_,?_⟩,⟨tv4,aa⟩,fun x2 w3=>⟨aa,fun w4=>?_,fun w5=>⟨⟨tv4,aa⟩,fun x6 w7=>⟨aa,fun w8=>?_,fun w9=>⟨aa,fun dx=>⟨aa,fun kx=>?_,fun dI=>⟨aa,fun iS=>⟨fun gN=>?_,fun qG=>⟨⟨?_,?_⟩,?_⟩⟩,fun kc=>⟨⟨?_,?_⟩,?_⟩⟩⟩,fun xd=>⟨aa,fun rO=>⟨fun oH=>?_,fun uE=>⟨⟨?_,?_⟩,?_⟩⟩,fun AY=>⟨⟨?_,?_⟩,?_⟩⟩⟩⟩⟩⟩⟩,fun AX=>?_⟩
  all_goals first|refine aw ?_|refine ax ?_|exact a8|(dsimp only [cr,df];omega)|exact a7|exact bU _ l1 w1|exact bU _ l2 w1|skip
  ·refine⟨[],[],_,_,_,rfl,az,(),aa,?_,?_,rfl⟩
   ·(show _=cH (dz,eH));unfold cH;first|(rw [iA (cm w1) (aiC w4)];rfl)|rfl
   ·rfl
  ·refine⟨[],[],_,_,_,rfl,az,(),aa,?_,?_,rfl⟩
   ·(show _=cH (dz,eH));unfold cH;first|(rw [iA (cm w1) (aiB w8)];rfl)|rfl
   ·rfl
  ·refine⟨[],[],_,_,_,rfl,az,(),aa,?_,?_,rfl⟩
   ·(show _=cH (dz,eH));unfold cH;first|(rw [iA (cm w1) (agy dx kx)];rfl)|rfl
   ·rfl
  ·refine⟨[],[],_,_,_,rfl,az,(),aa,?_,?_,rfl⟩
   ·(show _=cH (dz,eH));unfold cH;first|(rw [iA (cm w1) (agw iS gN)];rfl)|rfl
   ·rfl
  ·refine⟨(i+1),[],?_,?_,?_⟩
   rotate_right
   ·exact bV
   ·exact⟨cm w1,hgo (acu w5 w9 (.inr dI) (.inl kc))⟩
   ·show 64-(i+1)<64-i;have:=cm w1;omega
  ·refine⟨[],[],_,_,_,rfl,az,(),aa,?_,?_,rfl⟩
   ·(show _=cH (dz,eH));unfold cH;first|(rw [iA (cm w1) (agw rO oH)];rfl)|rfl
   ·rfl
  ·refine⟨(i+1),[],?_,?_,?_⟩
   rotate_right
   ·exact bV
   ·exact⟨cm w1,hgo (acu w5 w9 (.inl xd) (.inr uE))⟩
   ·show 64-(i+1)<64-i;have:=cm w1;omega
  ·refine⟨(i+1),[],?_,?_,?_⟩
   rotate_right
   ·exact bV
   ·exact⟨cm w1,hgo (acu w5 w9 (.inl xd) (.inl AY))⟩
   ·show 64-(i+1)<64-i;have:=cm w1;omega
  ·have e:ry (dz,eH)=true:=by rw [hE];exact M0 fun j yF=>hj j (by have:=aA AX;omega)
   refine⟨[],[],_,_,_,rfl,az,(),aa,?_,?_,rfl⟩
   ·(show _=cH (dz,eH));unfold cH;first|(rw [e];rfl)|rfl
   ·rfl
end GL
namespace GL
def ve (l:List Int):Prop:=0<l.length∧l.length≤1000000
def acJ (l:List Int) (z:Int):Prop:=(∀j,j<l.length→nth ag l j≤z)∧∃j,j<l.length∧nth ag l j=z
def GP (l:List Int) (z:Int):AV:=.int z
def OI (l:List Int) (z:Int):List AV:=[]
def yU:cn where
 A:=[.s (.vz ag)]
 B:=[]
 pre:=fun x b=>ve x
 α:=fun _ _=>Int
 φ:=fun x b z=>acJ x z
 r:=fun x b z=>GP x z
 o:=fun x b z=>OI x z
theorem W3:Has Tryz.prog 99 yU:=by
 refine Has.WK zT zF zF (l:=[]) trivial Tryz.func99 ?_
 rintro (l:List Int) _ (hp:ve l)
 show vc _ _ _ _ (entry [.s (.vz ag l)] []) _
 obtain⟨(h0:0<l.length),(h1:l.length≤1000000)⟩:=hp
 refine⟨fun w1=>?_,fun w2=>⟨⟨?_,?_⟩,?_⟩⟩
 all_goals first|(exfalso;simp only [decide_eq_true_eq,decide_eq_false_iff_not] at *;omega)|refine aw ?_|refine ax ?_|exact a8|exact a7|skip
 refine lT (l:=[]) (ex:=zT) (wr:=zF) (pt:=zF) trivial [.s 0] (fun y:Nat×Int=>[(.s 3,.int y.2),(.s 4,.int ((y.1+1:Nat):Int))]) (fun y=>y.1+1≤l.length∧(∀j,j<y.1+1→nth ag l j≤y.2)∧∃j,j<y.1+1∧nth ag l j=y.2) (fun y=>l.length-y.1) (0,nth ag l 0) [] ⟨h0,fun j hj=>by rw [show j=0 by omega];exact ZC1 _,0,by omega,rfl⟩ dL ?_
 rintro⟨i,m⟩ ⟨(hi:i+1≤l.length),hj,hx⟩
 refine⟨fun w1=>⟨⟨?_,?_⟩,⟨⟨?_,?_⟩,?_⟩⟩,fun w2=>?_⟩
 all_goals first|refine aw ?_|refine ax ?_|exact a8|exact a7|skip
 ·have bU:i+1<l.length:=by have:=aJ w1;simp only [] at this;omega
  refine⟨(i+1,max m (nth ag l (i+1))),[],?_,?_,?_⟩
  rotate_right
  ·exact bV
  ·refine⟨bU,fun j yF=>?_,?_⟩
   ·by_cases e:j=i+1
    ·rw [e];exact Int.le_max_right _ _
    ·exact ZE0 (hj j (by omega)) (Int.le_max_left _ _)
   ·obtain⟨j,h2,h3⟩:=hx
    by_cases e:nth ag l (i+1)≤m
    ·exact⟨j,by omega,by rw [h3];exact (Int.max_eq_left e).symm⟩
    ·exact⟨i+1,by omega,(Int.max_eq_right (by have:=Int.not_le.1 e;exact Int.le_of_lt this)).symm⟩
  ·show l.length-(i+1)<l.length-i;omega
 ·have FF:¬(i+1<l.length):=by have:=aA w2;simp only [] at this;omega
  obtain⟨j,h2,h3⟩:=hx
  refine⟨[],[],_,_,_,rfl,az,m,0,(⟨fun j yF=>hj j (by omega),j,by omega,h3⟩),?_,?_,rfl⟩
  ·(show _=GP l m);unfold GP;first|(rw [rfl];rfl)|rfl
  ·(show _=OI l m);unfold OI;first|(rw [rfl];rfl)|rfl
def fg (s:ay) (iw:Int) (p:Pt):Bool:=aZ p&&(!(au p)&&(!(decide (p.2.1>iw))&& !(decide (nth ag s.refs p.1.toNat=(0:Int)))))
section
variable {s:ay}{iw:Int}{p:Pt}
theorem ahl (h:(!(aZ p))=true):fg s iw p=false:=by unfold fg;rw [uo h];rfl
theorem ahk (h:au p=true):fg s iw p=false:=by unfold fg;rw [h];cases aZ p<;>rfl
theorem ahj (h:decide (p.2.1>iw)=true):fg s iw p=false:=by unfold fg;rw [h];cases aZ p<;>cases au p<;>rfl
theorem ahi (h:decide (nth ag s.refs p.1.toNat=(0:Int))=true):fg s iw p=false:=by unfold fg;rw [h];cases aZ p<;>cases au p<;>cases decide (p.2.1>iw)<;>rfl
theorem ahf (h:(!(aZ p))=false) (h2:au p=false) (h3:decide (p.2.1>iw)=false) (h4:decide (nth ag s.refs p.1.toNat=(0:Int))=false):fg s iw p=true:=by unfold fg;rw [cL h,h2,h3,h4];rfl
end
theorem NP {l:List Pt}{n:Nat}(h:n<l.length):l.take (n+1)=l.take n++[nth ae l n]:=by
 rw [List.take_succ,oz (ek:=ae) h];rfl
def sb (l:List Pt) (iw:Int) (S:ay) (o:List Int):Prop:=o.length=64∧S.refs.length=64∧l.length≤1000000∧∀r,(0:Int)≤nth ag o r∧nth ag o r≤(1000000:Int)
def LK (l:List Pt) (iw:Int) (S:ay) (o:List Int) (z:List Int):Prop:=z.length=64∧(∀r,(0:Int)≤nth ag z r∧nth ag z r≤(nth ag o r+(l.length:Int):Int))∧(l.all (fg S iw)=true→∀r,nth ag z r=(nth ag o r+(bn l r:Int):Int))
def gS (l:List Pt) (iw:Int) (S:ay) (o:List Int) (z:List Int):AV:=.q (l.all (fg S iw))
def jq (l:List Pt) (iw:Int) (S:ay) (o:List Int) (z:List Int):List AV:=[.a [.xs 1 1 0 o.length],.rs ag z]
def ub:cn where
 A:=[.s (.vz ae),.s .int,.vs xq,.b 0]
 B:=[.a [.xb 1 ag],.r ag]
 pre:=fun x b=>UL (b.1) (b.2)∧sb (x.1) (x.2.1) (x.2.2.1) (b.2)
 α:=fun _ _=>List Int
 φ:=fun x b z=>LK (x.1) (x.2.1) (x.2.2.1) (b.2) z
 r:=fun x b z=>gS (x.1) (x.2.1) (x.2.2.1) (b.2) z
 o:=fun x b z=>jq (x.1) (x.2.1) (x.2.2.1) (b.2) z
theorem PA:Has Tryz.prog 100 ub:=by
 refine Has.WK zT zF zF (l:=[(101,cB),(67,bG)]) ⟨jr,eN,aa⟩ Tryz.func100 ?_
 rintro⟨(l:List Pt),(iw:Int),⟨(aj:List ByteArray),(ak:List Int),(an:List Int),(ao:Int),(ah:List Pt),(aq:Int),(ai:List Pt),(ar:Bool)⟩,_⟩ ⟨(om:Nat),(o:List Int)⟩ ⟨(akD:om=List.length o),(hp:sb l iw (aj,ak,an,ao,ah,aq,ai,ar) o)⟩
 subst akD
 show vc _ _ _ _ (entry [.s (.vz ae l),.int iw,.s (.vs [.vz ab aj,.vz ag ak,.vz ag an,.v (.int .i64 ao),.vz ae ah,.v (.int .i64 aq),.vz ae ai,.q ar] 0),.s (.bp 0 0)] [.a [.xs 1 1 0 o.length],.rs ag o]) _
 let g':=(aj,ak,an,ao,ah,aq,ai,ar)
 obtain⟨(ho:List.length o=64),(hrf:ak.length=64),(hl:l.length≤1000000),hb⟩:=hp
 refine ?_
 all_goals first|refine aw ?_|refine ax ?_|exact a8|(dsimp only [cB,cR,bG,cb];omega)|exact a7|skip
 refine lT (l:=[(101,cB),(67,bG)]) (ex:=zT) (wr:=zF) (pt:=zF) ⟨jr,eN,aa⟩ [.s 1,.s 2,.s 3,.s 9,.s 10,.b 0] (fun y:Nat×List Int=>[(.s 11,.int y.1),(.b 1,.rs ag y.2)]) (fun y=>y.1≤l.length∧y.2.length=64∧(∀r,nth ag y.2 r=(nth ag o r+(bn (l.take y.1) r:Int):Int))∧(l.take y.1).all (fg g' iw)=true) (fun y=>l.length-y.1) (0,o) [] ⟨ZA7 _,ho,fun r=>(Int.add_zero _).symm,rfl⟩ dL ?_
 rintro⟨i,z⟩ ⟨(hi:i≤l.length),(hz:z.length=64),(hc:∀r,nth ag z r=(nth ag o r+(bn (l.take i) r:Int):Int)),(ha:(l.take i).all (fg g' iw)=true)⟩
 have cm:decide ((i:Int)<(l.length:Int))=true→i<l.length:=fun h=>by have:=aJ h;omega
 have hq:(!(aZ (nth ae l i)))=false→0≤(nth ae l i).1∧(nth ae l i).1<64:=fun h=>nP (cL h)
 have hci:∀r,bn (l.take i) r≤i:=fun r=>ZB0 List.countP_le_length (by rw [ZC0];omega)
 have hzb:∀r,(0:Int)≤nth ag z r∧nth ag z r≤(nth ag o r+(l.length:Int):Int)∧nth ag z r≤(2000000:Int):=fun r=>by
  have h1:=hb r;have h2:=hci r
  rw [hc r]
  refine⟨?_,?_,?_⟩
  ·show (0:Int)≤nth ag o r+(bn (l.take i) r:Int);have h3:(0:Int)≤nth ag o r:=h1.1;omega
  ·exact Int.add_le_add_left (by omega:((bn (l.take i) r:Nat):Int)≤(l.length:Int)) _
  ·exact ZE0 (Int.add_le_add h1.2 (by omega:((bn (l.take i) r:Nat):Int)≤1000000)) (by decide)
 have iA:i<l.length→fg g' iw (nth ae l i)=false→l.all (fg g' iw)=false:=fun h h2=>by
  rw [Bool.eq_false_iff];intro h3
  rw [ZC8.1 h3 _ (bR (ek:=ae) h)] at h2;cases h2
 have vy:∀b:Bool,l.all (fg g' iw)=b→b=false→LK l iw g' o z:=fun b h h2=>⟨hz,fun r=>⟨(hzb r).1,(hzb r).2.1⟩,fun h3=>by rw [h,h2] at h3;cases h3⟩
 refine⟨fun w1=>⟨⟨?_,?_⟩,⟨⟨tv6,aa⟩,aa⟩,fun x2 w3=>⟨aa,fun w4=>?_,fun w5=>⟨⟨⟨tv6,aa⟩,aa⟩,fun x6 w7=>⟨aa,fun w8=>?_,fun w9=>⟨aa,fun dx=>?_,fun kx=>⟨⟨?_,?_⟩,fun dI=>?_,fun iS=>⟨⟨?_,?_⟩,?_,⟨?_,?_⟩,⟨?_,?_⟩,?_,⟨?_,?_⟩,?_⟩⟩⟩⟩⟩⟩⟩,fun gN=>?_⟩
 all_goals first|refine aw ?_|refine ax ?_|exact a8|(dsimp only [cB,cR,bG,cb];omega)|exact a7|exact (hq w5).1|(show _<(ak.length:Int);rw [hrf];exact (hq w5).2)|(show _<(List.length o:Int);rw [ho];exact (hq w5).2)|(show (nth ae l i).1.toNat<z.length;rw [hz];exact sk (cL w5))|(have h8:=(hzb (nth ae l i).1.toNat).1;show (-9223372036854775808:Int)≤nth ag z (nth ae l i).1.toNat+1;have h9:(0:Int)≤nth ag z (nth ae l i).1.toNat:=h8;omega)|exact ZE0 (Int.add_le_add_right (hzb (nth ae l i).1.toNat).2.2 1) (by decide)|skip
 ·have e:=iA (cm w1) (ahl w4)
  refine⟨[],[],_,_,_,rfl,az,z,0,(vy _ e rfl),?_,?_,rfl⟩
  ·(show _=gS l iw g' o z);unfold gS;first|(rw [e];rfl)|rfl
  ·(show _=jq l iw g' o z);unfold jq;first|(rw [e];rfl)|rfl
 ·have e:=iA (cm w1) (ahk w8)
  refine⟨[],[],_,_,_,rfl,az,z,0,(vy _ e rfl),?_,?_,rfl⟩
  ·(show _=gS l iw g' o z);unfold gS;first|(rw [e];rfl)|rfl
  ·(show _=jq l iw g' o z);unfold jq;first|(rw [e];rfl)|rfl
 ·have e:=iA (cm w1) (ahj dx)
  refine⟨[],[],_,_,_,rfl,az,z,0,(vy _ e rfl),?_,?_,rfl⟩
  ·(show _=gS l iw g' o z);unfold gS;first|(rw [e];rfl)|rfl
  ·(show _=jq l iw g' o z);unfold jq;first|(rw [e];rfl)|rfl
 ·have e:=iA (cm w1) (ahi (s:=g') dI)
  refine⟨[],[],_,_,_,rfl,az,z,0,(vy _ e rfl),?_,?_,rfl⟩
  ·(show _=gS l iw g' o z);unfold gS;first|(rw [e];rfl)|rfl
  ·(show _=jq l iw g' o z);unfold jq;first|(rw [e];rfl)|rfl
 ·have bU:=cm w1
  have hk:(nth ae l i).1.toNat<z.length:=by rw [hz];exact sk (cL w5)
  refine⟨(i+1,z.set (nth ae l i).1.toNat (nth ag z (nth ae l i).1.toNat+1:Int)),[],?_,?_,?_⟩
  rotate_right
  ·exact bV
  ·refine⟨bU,by show (List.set _ _ _).length=64;rw [ZC3,hz],fun r=>?_,?_⟩
   ·show nth ag (List.set z _ _) r=(nth ag o r+(bn (l.take (i+1)) r:Int):Int)
    rw [NP bU,bI]
    by_cases e:(nth ae l i).1.toNat=r
    ·subst e
     rw [nq (ek:=ag) hk,hc,rI (p:=nth ae l i) w9]
     exact Int.add_assoc _ _ _
    ·rw [iv (ek:=ag) e,hc,yP e];rfl
   ·show (l.take (i+1)).all _=true
    rw [NP bU,List.all_append,ha]
    show (true&&(fg g' iw (nth ae l i)&&true))=true
    rw [ahf (s:=g') (p:=nth ae l i) w5 w9 kx iS];rfl
  ·show l.length-(i+1)<l.length-i;omega
 ·have FF:i=l.length:=by have:=aA (p:=(i:Int)<(l.length:Int)) gN;omega
  have ht:l.take i=l:=ZD1 (by omega)
  rw [ht] at ha
  refine⟨[],[],_,_,_,rfl,az,z,0,(⟨hz,fun r=>⟨(hzb r).1,(hzb r).2.1⟩,fun _ r=>by rw [hc r,ht]⟩),?_,?_,rfl⟩
  ·(show _=gS l iw g' o z);unfold gS;first|(rw [ha];rfl)|rfl
  ·(show _=jq l iw g' o z);unfold jq;first|(rw [ha];rfl)|rfl
end GL
end Go.Proofs.YtclcgjhhehbdeaaGreatDoor
