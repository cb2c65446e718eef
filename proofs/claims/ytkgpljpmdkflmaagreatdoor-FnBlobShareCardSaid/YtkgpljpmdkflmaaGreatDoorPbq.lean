/- Part 43 of A drawn law. -/
import Derived.Test.YtkgpljpmdkflmaaGreatDoorPaz
import Derived.Test.YtkgpljpmdkflmaaGreatDoorPbm
import Derived.Test.YtkgpljpmdkflmaaGreatDoorPbp
set_option maxHeartbeats 20000000
set_option maxRecDepth 100000
set_option linter.all false
namespace Go.Proofs.YtkgpljpmdkflmaaGreatDoor
namespace GL
structure ay.fit (s:ay) (p:Pt):Prop where
 ok:aZ p=true
 b:p.2.1≤s.cj
theorem ab8 {s:ay}{p:Pt}{lv:Int}(h0:0≤s.cj) (hp:s.fit p):∀q∈(bg s p lv).1,s.fit q:=by
 intro q hq
 refine⟨sS s p lv q hq,?_⟩
 cases hh:au p with
 |true=>
  rw [kx hh] at hq
  rw [(ZD6.1 hq).2];exact h0
 |false=>
  have nil:∀{b:Bool},bg s p lv=([],b)→False:=fun e=>by rw [e] at hq;cases hq
  have h1:(!(aZ p))=false:=by rw [hp.ok];rfl
  have h3:decide (p.2.1>s.cj)=false:=decide_eq_false (by have:=hp.b;omega)
  cases hl:decide (p.2.2.2.2≠lv) with
  |true=>exact (nil (wc hh hl)).elim
  |false=>
   cases hr: !(bG s p).2 with
   |true=>exact (nil (wb hh h1 hl h3 hr)).elim
   |false=>
    rw [wa hh h1 hl h3 hr] at hq
    cases ha:(bm (bG s p).1).1.any (late p) with
    |true=>rw [we ha] at hq;cases hq
    |false=>
     rw [sT ha] at hq
     have:=List.any_eq_false.1 ha q hq
     have h2:¬(q.2.1>p.2.1):=by simpa [late] using this
     have:=hp.b;omega
theorem QI {s:ay}{lv:Int}(h0:0≤s.cj):∀{l acc n:List Pt},(∀q∈l,s.fit q)→(∀q∈acc,s.fit q)→fy s lv l acc=some n→∀q∈n,s.fit q
 |[],acc,n,_,h2,h=>by cases h;exact h2
 |p::l,acc,n,h1,h2,h=>by
  unfold fy at h
  cases hb:(bg s p lv).2 with
  |true=>
   rw [hb,cond_true] at h
   refine QI h0 (fun q hq=>h1 q (by simp [hq])) (fun q hq=>?_) h
   rcases ZB4.1 hq with hq |hq
   ·exact h2 q hq
   ·exact ab8 h0 (h1 p (by simp)) q hq
  |false=>rw [hb] at h;cases h
theorem SR {n:Int}{d:Nat}(h0:iB n 0 16=true) (h:d=4 ^ (bj n).toNat):n.toNat≤d:=by
 obtain⟨h1,h2⟩:=cD.1 h0
 rw [h]
 unfold bj
 cases hc:decide (n≤1) with
 |true=>have:=aJ hc;show n.toNat≤1;omega
 |false=>
  cases hd:decide (n≤4) with
  |true=>have:=aJ hd;show n.toNat≤4;omega
  |false=>show n.toNat≤16;omega
theorem XD {p:Pt}(h:au p=true):p.2.1=0:=by rw [ir h];rfl
theorem XC {p:Pt}(h:au p=true):p.2.2.2.2=0:=by rw [ir h];rfl
theorem abw {s:ay}{t:bf}(h0:0≤s.cj) (h:decide (t.root.2.1>s.cj)=true):qM s t=false:=by
 have hh:au t.root=false:=by
  cases hh:au t.root with
  |false=>rfl
  |true=>have:=aJ h;rw [XD hh] at this;omega
 cases hb:lZ t with
 |true=>exact DW hb
 |false=>
  cases hd:decide (t.depth>0) with
  |false=>
   have e:bB s t=([t.root],true):=vy hd
   rw [Y6 hb (by rw [e];rfl),e]
   exact wM hh (ZJ h)
  |true=>
   have e:bB s t=([],false):=H4 hd (by rw [NX (by rw [AG hh h];rfl)])
   exact Y7 hb (by rw [e];rfl)
def vk (S:ay) (t:bf):Prop:=S.rd∧0≤S.cj
def RQ (S:ay) (t:bf) (z:Bool):Prop:=z=qM S t
def bT (S:ay) (t:bf) (z:Bool):AV:=.t [match z with |true=>.s (.xs 0 5 0 t.many.toNat) |false=>.s (.v (.slice none 0 0)),.s (.q z)]
def cn (S:ay) (t:bf) (z:Bool):List AV:=match z with |true=>[.rs ae (bB S t).1] |false=>[.zz]
def DG:ct where
 A:=[.vs xy,.a [.int,.int,.int,.int,.int,.int,.int]]
 B:=[]
 pre:=fun x b=>vk (x.1) (x.2)
 α:=fun _ _=>Bool
 φ:=fun x b z=>RQ (x.1) (x.2) z
 r:=fun x b z=>bT (x.1) (x.2) z
 o:=fun x b z=>cn (x.1) (x.2) z
 nf:=1
theorem abJ:Has Tryz.prog 60 DG:=by
 refine Has.WN zT zF zF (l:=[(66,cB),(107,gN),(64,cC),(108,ku),(65,kH),(23,bH)]) ⟨gn,tL,jv,zM,zK,eP,aa⟩ Tryz.func60 ?_
 rintro⟨⟨(aj:List ByteArray),(ak:List Int),(an:List Int),(ao:Int),(ah:List Pt),(aq:Int),(ai:List Pt),(ar:Bool)⟩,⟨(t1:Int),(t2:Int),(t3:Int),(t4:Int),(t5:Int),(t6:Int),(t7:Int)⟩⟩ _ (hp:vk (aj,ak,an,ao,ah,aq,ai,ar) (t1,t2,t3,t4,t5,t6,t7))
 show vc _ _ _ _ (entry [.s (.vs [.vz ab aj,.vz ag ak,.vz ag an,.v (.int .i64 ao),.vz ae ah,.v (.int .i64 aq),.vz ae ai,.q ar] 0),.a [.int t1,.int t2,.int t3,.int t4,.int t5,.int t6,.int t7]] []) _
 obtain⟨dG,(h0:0≤ao)⟩:=hp
 have dG:ay.rd (aj,ak,an,ao,ah,aq,ai,ar):=dG
 refine⟨Sq3,Sq17,rfl,[.s 17,.b 1003],Sq18,rfl,Sq18,Sq19,rfl,⟨⟨aa,aa,aa,aa⟩,aa⟩,?_,fun x1 w2=>⟨Sq19,Sq20,rfl,Sq20,Sq21,rfl,aa,fun w3=>⟨Sq21,Sq22,rfl,Sq21,Sq23,rfl,Sq21,Sq24,rfl,Sq21,Sq25,rfl,Sq21,Sq26,rfl,Sq21,Sq27,rfl,[.s 21,.s 27],Sq28,rfl,Sq28,Sq29,rfl,Sq29,Sq30,rfl,Sq29,Sq31,rfl,Sq29,Sq32,rfl,Sq29,Sq33,rfl,[.s 29,.s 33],Sq34,rfl,Sq34,Sq35,rfl,Sq35,Sq36,rfl,Sq35,Sq37,rfl,Sq35,Sq38,rfl,Sq35,Sq39,rfl,Sq35,Sq40,rfl,Sq35,Sq41,rfl,Sq35,Sq42,rfl,Sq35,Sq43,rfl,[.s 35,.s 43],Sq44,rfl,?_⟩,fun w4=>⟨[.s 21,.s 3],Sq22,rfl,[.s 21,.s 22,.b 1003],Sq23,rfl,[.s 21,.s 3],Sq24,rfl,[.s 21,.s 24,.b 1003],Sq25,rfl,[.s 21,.s 25],Sq26,rfl,⟨⟨aa,aa⟩,aa⟩,?_,fun x5 w6=>⟨[.s 21,.s 23,.s 26],Sq27,rfl,[.s 21,.s 27],Sq28,rfl,Sq28,Sq29,rfl,aa,fun w7=>⟨Sq29,Sq30,rfl,Sq29,Sq31,rfl,Sq29,Sq32,rfl,Sq29,Sq33,rfl,[.s 29,.s 33],Sq34,rfl,Sq34,Sq35,rfl,Sq35,Sq36,rfl,Sq35,Sq37,rfl,Sq35,Sq38,rfl,Sq35,Sq39,rfl,Sq35,Sq40,rfl,Sq35,Sq41,rfl,Sq35,Sq42,rfl,Sq35,Sq43,rfl,[.s 35,.s 43],Sq44,rfl,?_⟩,fun w8=>⟨[.s 29,.s 3],Sq30,rfl,[.s 29,.s 30,.b 1003],Sq31,rfl,[.s 29,.s 31],Sq32,rfl,⟨⟨⟨aa,aa,aa,aa,aa,aa⟩,aa⟩,aa⟩,?_,fun x9 dy=>⟨[.s 29,.s 32],Sq33,rfl,[.s 29,.s 33],Sq34,rfl,Sq34,Sq35,rfl,aa,fun kC=>⟨Sq35,Sq36,rfl,Sq35,Sq37,rfl,Sq35,Sq38,rfl,Sq35,Sq39,rfl,Sq35,Sq40,rfl,Sq35,Sq41,rfl,Sq35,Sq42,rfl,Sq35,Sq43,rfl,[.s 35,.s 43],Sq44,rfl,?_⟩,fun dK=>⟨[.s 35,.s 3],Sq36,rfl,[.s 35,.s 36],Sq37,rfl,[.s 35,.s 37,.b 1003],Sq38,rfl,[.s 35,.s 0],Sq39,rfl,[.s 35,.s 39],Sq40,rfl,[.s 35,.s 40],Sq41,rfl,[.s 35,.s 41],Sq42,rfl,[.s 35,.s 38,.s 42],Sq43,rfl,[.s 35,.s 43],Sq44,rfl,fun iV=>?_,fun gP=>⟨aa,?_⟩⟩⟩⟩⟩⟩⟩⟩
 all_goals first|refine aw ?_|refine ax ?_|exact a8|(dsimp only [cB,dq,gN,iu,cC,cS,ku,kM,kH,lg,bH,cc];omega)|exact a7|skip
 ·refine⟨[],[],_,_,_,rfl,az,false,1,(show false=qM (aj,ak,an,ao,ah,aq,ai,ar) (t1,t2,t3,t4,t5,t6,t7) from (DW (s:=(aj,ak,an,ao,ah,aq,ai,ar)) (t:=(t1,t2,t3,t4,t5,t6,t7)) (ZA w3)).symm),?_,?_,rfl⟩
  ·(show _=bT (aj,ak,an,ao,ah,aq,ai,ar) (t1,t2,t3,t4,t5,t6,t7) false);unfold bT;first|(rw [rfl];rfl)|rfl
  ·(show _=cn (aj,ak,an,ao,ah,aq,ai,ar) (t1,t2,t3,t4,t5,t6,t7) false);unfold cn;first|(rw [rfl];rfl)|rfl
 ·refine⟨[],[],_,_,_,rfl,az,false,1,(show false=qM (aj,ak,an,ao,ah,aq,ai,ar) (t1,t2,t3,t4,t5,t6,t7) from (DW (s:=(aj,ak,an,ao,ah,aq,ai,ar)) (t:=(t1,t2,t3,t4,t5,t6,t7)) (Y9 w7)).symm),?_,?_,rfl⟩
  ·(show _=bT (aj,ak,an,ao,ah,aq,ai,ar) (t1,t2,t3,t4,t5,t6,t7) false);unfold bT;first|(rw [rfl];rfl)|rfl
  ·(show _=cn (aj,ak,an,ao,ah,aq,ai,ar) (t1,t2,t3,t4,t5,t6,t7) false);unfold cn;first|(rw [rfl];rfl)|rfl
 ·refine⟨[],[],_,_,_,rfl,az,false,1,(show false=qM (aj,ak,an,ao,ah,aq,ai,ar) (t1,t2,t3,t4,t5,t6,t7) from (DW (s:=(aj,ak,an,ao,ah,aq,ai,ar)) (t:=(t1,t2,t3,t4,t5,t6,t7)) (Y8 kC)).symm),?_,?_,rfl⟩
  ·(show _=bT (aj,ak,an,ao,ah,aq,ai,ar) (t1,t2,t3,t4,t5,t6,t7) false);unfold bT;first|(rw [rfl];rfl)|rfl
  ·(show _=cn (aj,ak,an,ao,ah,aq,ai,ar) (t1,t2,t3,t4,t5,t6,t7) false);unfold cn;first|(rw [rfl];rfl)|rfl
 ·refine⟨[],[],_,_,_,rfl,az,false,1,(show false=qM (aj,ak,an,ao,ah,aq,ai,ar) (t1,t2,t3,t4,t5,t6,t7) from (abw (s:=(aj,ak,an,ao,ah,aq,ai,ar)) (t:=(t1,t2,t3,t4,t5,t6,t7)) h0 iV).symm),?_,?_,rfl⟩
  ·(show _=bT (aj,ak,an,ao,ah,aq,ai,ar) (t1,t2,t3,t4,t5,t6,t7) false);unfold bT;first|(rw [rfl];rfl)|rfl
  ·(show _=cn (aj,ak,an,ao,ah,aq,ai,ar) (t1,t2,t3,t4,t5,t6,t7) false);unfold cn;first|(rw [rfl];rfl)|rfl
 have aed:iB t7 0 16=true:=cM w4
 have hdp:t6=bj t7:=ZE9.1 (aA (p:=¬t6=bj t7) w8)
 have hB:lZ (t1,t2,t3,t4,t5,t6,t7)=false:=zB (t:=(t1,t2,t3,t4,t5,t6,t7)) w4 w8 dK
 have hd2:=pq t7
 rw [←hdp] at hd2
 have ZT:ay.fit (aj,ak,an,ao,ah,aq,ai,ar) (t1,t2,t3,t4,t5):=⟨cM dK,by have:=aA gP;show t2≤ao;omega⟩
 refine l4 (l:=[(66,cB),(107,gN),(64,cC),(108,ku),(65,kH),(23,bH)]) (ex:=zT) (wr:=zF) (pt:=zF) ⟨gn,tL,jv,zM,zK,eP,trivial⟩ [.s 0,.s 3,.b 1003] (fun y:Int×List Pt×Nat=>[(.s 6,.s (.xs 1019 5 0 y.2.1.length)),(.s 7,.int y.1),(.b 1019,.rs ae y.2.1)]) (fun y=>(0≤y.1∧y.1≤t6)∧y.2.1.length=4 ^ (t6-y.1).toNat∧y.1<y.2.2∧tH (aj,ak,an,ao,ah,aq,ai,ar) y.2.2 y.1 y.2.1=bB (aj,ak,an,ao,ah,aq,ai,ar) (t1,t2,t3,t4,t5,t6,t7)∧∀q∈y.2.1,ay.fit (aj,ak,an,ao,ah,aq,ai,ar) q) (fun y=>y.1.toNat) (t6,[(t1,t2,t3,t4,t5)],3) [(1019,1047)] ⟨⟨hd2.1,ZC1 _⟩,by show 1=4 ^ (t6-t6).toNat;rw [Int.sub_self];rfl,by show t6<(3:Nat);omega,rfl,fun q hq=>by rw [ZC7.1 hq];exact ZT⟩ dN ?_
 rintro⟨lv,l,f⟩ ⟨⟨(FJ:0≤lv),(bV:lv≤t6)⟩,(hl:l.length=4 ^ (t6-lv).toNat),(hf:lv<(f:Int)),(hr:tH (aj,ak,an,ao,ah,aq,ai,ar) f lv l=bB (aj,ak,an,ao,ah,aq,ai,ar) (t1,t2,t3,t4,t5,t6,t7)),(TL:∀q∈l,ay.fit (aj,ak,an,ao,ah,aq,ai,ar) q)⟩
 have ak1:l.length≤16:=by
  rw [hl]
  have:(t6-lv).toNat=0∨(t6-lv).toNat=1∨(t6-lv).toNat=2:=by omega
  rcases this with h |h |h<;>rw [h]<;>decide
 refine⟨fun w1=>?_,fun w2=>?_⟩
 all_goals first|refine aw ?_|refine ax ?_|exact a8|(dsimp only [cB,dq,gN,iu,cC,cS,ku,kM,kH,lg,bH,cc];omega)|exact a7|skip
 ·have oW:decide (lv>0)=true:=w1
  obtain⟨g,rfl⟩:∃g,f=g+1:=⟨f-1,by have:=aJ oW;omega⟩
  refine l4 (l:=[(66,cB),(107,gN),(64,cC),(108,ku),(65,kH),(23,bH)]) (ex:=zT) (wr:=zF) (pt:=zF) ⟨gn,tL,jv,zM,zK,eP,aa⟩ [.s 0,.s 3,.b 1003,.s 6,.s 7,.b 1019,.s 54,.s 55] (fun y:Nat×List Pt=>match y.1 with |0=>[(.s 8,.s (.v (.slice none 0 0))),(.s 56,.int 0)] |n+1=>[(.s 8,.s (.xs 1021 5 0 y.2.length)),(.s 56,.int ((n+1:Nat):Int)),(.b 1021,.rs ae y.2)]) (fun y=>y.1≤l.length∧y.2.length=4*y.1∧fy (aj,ak,an,ao,ah,aq,ai,ar) lv (l.drop y.1) y.2=fy (aj,ak,an,ao,ah,aq,ai,ar) lv l []) (fun y=>l.length-y.1) (0,[]) [] ⟨ZA7 _,rfl,rfl⟩ dN ?_
  rintro⟨i,acc⟩ ⟨(hi:i≤l.length),(abS:acc.length=4*i),(hs:fy (aj,ak,an,ao,ah,aq,ai,ar) lv (l.drop i) acc=fy (aj,ak,an,ao,ah,aq,ai,ar) lv l [])⟩
  have cq:decide ((i:Int)<(l.length:Int))=true→i<l.length:=fun h=>by have:=aJ h;omega
  have cP:i<l.length→l.drop i=nth ae l i::l.drop (i+1):=fun h=>bX (ek:=ae) h
  have hft:i<l.length→ay.fit (aj,ak,an,ao,ah,aq,ai,ar) (nth ae l i):=fun h=>TL _ (bS (ek:=ae) h)
  have hfb:i<l.length→qw (aj,ak,an,ao,ah,aq,ai,ar) (nth ae l i) lv=(bg (aj,ak,an,ao,ah,aq,ai,ar) (nth ae l i) lv).2∧(qw (aj,ak,an,ao,ah,aq,ai,ar) (nth ae l i) lv=true→xu (aj,ak,an,ao,ah,aq,ai,ar) (nth ae l i)=(bg (aj,ak,an,ao,ah,aq,ai,ar) (nth ae l i) lv).1):=fun h=>abX (hft h).ok (fun _=>(hft h).b)
  have iC:i<l.length→(!(qw (aj,ak,an,ao,ah,aq,ai,ar) (nth ae l i) lv))=true→false=qM (aj,ak,an,ao,ah,aq,ai,ar) (t1,t2,t3,t4,t5,t6,t7):=fun h h2=>by
   rw [(hfb h).1] at h2
   have e:fy (aj,ak,an,ao,ah,aq,ai,ar) lv l []=none:=by rw [←hs,cP h,NX (s:=(aj,ak,an,ao,ah,aq,ai,ar)) (lv:=lv) (p:=nth ae l i) h2]
   exact (Y7 hB (by rw [←hr,H4 oW e];rfl)).symm
  have hgo:i<l.length→(!(qw (aj,ak,an,ao,ah,aq,ai,ar) (nth ae l i) lv))=false→(xu (aj,ak,an,ao,ah,aq,ai,ar) (nth ae l i)).length=4∧fy (aj,ak,an,ao,ah,aq,ai,ar) lv (l.drop (i+1)) (acc++xu (aj,ak,an,ao,ah,aq,ai,ar) (nth ae l i))=fy (aj,ak,an,ao,ah,aq,ai,ar) lv l []:=fun h h2=>by
   have e:=(hfb h).2 (cM h2)
   have h3:=h2
   rw [(hfb h).1] at h3
   rw [e]
   exact⟨(iH (aj,ak,an,ao,ah,aq,ai,ar) (nth ae l i) lv).2 (cM h3),by rw [←hs,cP h,NW (s:=(aj,ak,an,ao,ah,aq,ai,ar)) (lv:=lv) (p:=nth ae l i) h3]⟩
  have zd:0<l.length:=by rw [hl];exact Nat.pow_pos (by decide)
  cases i with
  |zero=>
   have ha0:acc=[]:=ZD4.1 (by rw [abS])
   subst ha0
   refine⟨fun w1=>⟨⟨?_,?_⟩,?_,⟨⟨aa,⟨aa,aa,aa,aa,aa,aa⟩,aa,aa⟩,?_,?_⟩,fun |false=>fun w2=>⟨fun w3=>?_,fun w4=>⟨⟨⟨?_,?_⟩,aa⟩,⟨?_,?_⟩,?_⟩⟩ |true=>fun w5=>⟨fun w6=>?_,fun w7=>⟨⟨⟨?_,?_⟩,?_,?_⟩,⟨?_,?_⟩,?_⟩⟩⟩,fun w8=>⟨⟨?_,?_⟩,?_⟩⟩
   all_goals first|refine aw ?_|refine ax ?_|exact a8|(dsimp only [cB,dq,gN,iu,cC,cS,ku,kM,kH,lg,bH,cc];omega)|exact a7|exact dG|exact (hft (cq w1)).ok|exact absurd ((show qw (aj,ak,an,ao,ah,aq,ai,ar) (nth ae l 0) lv=true→false=true from w2) (cM w4)) (by decide)|(show 0<(xu (aj,ak,an,ao,ah,aq,ai,ar) (nth ae l 0)).length;rw [(hgo (cq w1) w7).1];decide)|(show (xu (aj,ak,an,ao,ah,aq,ai,ar) (nth ae l 0)).length≤1048576;rw [(hgo (cq w1) w7).1];decide)|(exfalso;have h9:¬((0:Int)<(l.length:Int)):=aA w8;omega)|skip
   ·refine⟨[],[],_,_,_,rfl,az,false,1,(iC (cq w1) w3),?_,?_,rfl⟩
    ·(show _=bT (aj,ak,an,ao,ah,aq,ai,ar) (t1,t2,t3,t4,t5,t6,t7) false);unfold bT;first|(rw [rfl];rfl)|rfl
    ·(show _=cn (aj,ak,an,ao,ah,aq,ai,ar) (t1,t2,t3,t4,t5,t6,t7) false);unfold cn;first|(rw [rfl];rfl)|rfl
   ·refine⟨[],[],_,_,_,rfl,az,false,1,(iC (cq w1) w6),?_,?_,rfl⟩
    ·(show _=bT (aj,ak,an,ao,ah,aq,ai,ar) (t1,t2,t3,t4,t5,t6,t7) false);unfold bT;first|(rw [rfl];rfl)|rfl
    ·(show _=cn (aj,ak,an,ao,ah,aq,ai,ar) (t1,t2,t3,t4,t5,t6,t7) false);unfold cn;first|(rw [rfl];rfl)|rfl
   ·refine⟨(1,xu (aj,ak,an,ao,ah,aq,ai,ar) (nth ae l 0)),[(1021,1071)],?_,?_,?_⟩
    rotate_right
    ·exact bW
    ·exact⟨zd,by show (xu (aj,ak,an,ao,ah,aq,ai,ar) (nth ae l 0)).length=4*1;rw [(hgo (cq w1) w7).1],(hgo (cq w1) w7).2⟩
    ·show l.length-1<l.length-0;omega
  |succ i=>
   refine⟨fun w1=>⟨⟨?_,?_⟩,?_,⟨⟨aa,⟨aa,aa,aa,aa,aa,aa⟩,aa,aa⟩,?_,?_⟩,fun |false=>fun w2=>⟨fun w3=>?_,fun w4=>⟨⟨⟨?_,?_⟩,aa⟩,⟨?_,?_⟩,?_⟩⟩ |true=>fun w5=>⟨fun w6=>?_,fun w7=>⟨⟨⟨?_,?_⟩,?_,?_⟩,⟨?_,?_⟩,?_⟩⟩⟩,fun w8=>⟨⟨?_,?_⟩,?_⟩⟩
   all_goals first|refine aw ?_|refine ax ?_|exact a8|(dsimp only [cB,dq,gN,iu,cC,cS,ku,kM,kH,lg,bH,cc];omega)|exact a7|exact dG|exact (hft (cq w1)).ok|exact absurd ((show qw (aj,ak,an,ao,ah,aq,ai,ar) (nth ae l (i+1)) lv=true→false=true from w2) (cM w4)) (by decide)|(show acc.length+(xu (aj,ak,an,ao,ah,aq,ai,ar) (nth ae l (i+1))).length≤1048576;rw [(hgo (cq w1) w7).1,abS];omega)|skip
   ·refine⟨[],[],_,_,_,rfl,az,false,1,(iC (cq w1) w3),?_,?_,rfl⟩
    ·(show _=bT (aj,ak,an,ao,ah,aq,ai,ar) (t1,t2,t3,t4,t5,t6,t7) false);unfold bT;first|(rw [rfl];rfl)|rfl
    ·(show _=cn (aj,ak,an,ao,ah,aq,ai,ar) (t1,t2,t3,t4,t5,t6,t7) false);unfold cn;first|(rw [rfl];rfl)|rfl
   ·refine⟨[],[],_,_,_,rfl,az,false,1,(iC (cq w1) w6),?_,?_,rfl⟩
    ·(show _=bT (aj,ak,an,ao,ah,aq,ai,ar) (t1,t2,t3,t4,t5,t6,t7) false);unfold bT;first|(rw [rfl];rfl)|rfl
    ·(show _=cn (aj,ak,an,ao,ah,aq,ai,ar) (t1,t2,t3,t4,t5,t6,t7) false);unfold cn;first|(rw [rfl];rfl)|rfl
   ·refine⟨(i+2,acc++xu (aj,ak,an,ao,ah,aq,ai,ar) (nth ae l (i+1))),[(1021,1071)],?_,?_,?_⟩
    rotate_right
    ·exact bW
    ·exact⟨cq w1,by show List.length (_++_)=4*(i+2);rw [ZA0,(hgo (cq w1) w7).1,abS];omega,(hgo (cq w1) w7).2⟩
    ·show l.length-(i+2)<l.length-(i+1);have:=cq w1;omega
   ·have FK:¬i+1<l.length:=by have:=aA (p:=((i+1:Nat):Int)<(l.length:Int)) w8;omega
    have e:fy (aj,ak,an,ao,ah,aq,ai,ar) lv l []=some acc:=by rw [←hs,ZB3 (by omega)];rfl
    have h1:lv>0:=aJ oW
    refine⟨(lv-1,acc,g),[(1019,1021)],?_,?_,?_⟩
    rotate_right
    ·exact bW
    ·refine⟨⟨by show 0≤lv-1;omega,by show lv-1≤t6;omega⟩,?_,by show lv-1<(g:Int);omega,by rw [←hr,CI oW e],QI h0 TL (fun q hq=>by cases hq) e⟩
     show acc.length=4 ^ (t6-(lv-1)).toNat
     rw [r6 e,hl,show (t6-(lv-1)).toNat=(t6-lv).toNat+1 by omega,Nat.pow_succ]
     show 0+4*_=_;omega
    ·show (lv-1).toNat<lv.toNat;omega
 ·refine l4 (l:=[(66,cB),(107,gN),(64,cC),(108,ku),(65,kH),(23,bH)]) (ex:=zT) (wr:=zF) (pt:=zF) ⟨gn,tL,jv,zM,zK,eP,aa⟩ [.s 0,.s 3,.b 1003,.s 6,.b 1019,.s 74,.s 75] (fun i:Nat=>[(.s 76,.int i)]) (fun i=>i≤l.length∧kb (aj,ak,an,ao,ah,aq,ai,ar) t7 i (l.drop i)=kb (aj,ak,an,ao,ah,aq,ai,ar) t7 0 l) (fun i=>l.length-i) 0 [] ⟨ZA7 _,rfl⟩ dN ?_
  rintro i ⟨(hi:i≤l.length),(hs:kb (aj,ak,an,ao,ah,aq,ai,ar) t7 i (l.drop i)=kb (aj,ak,an,ao,ah,aq,ai,ar) t7 0 l)⟩
  have cq:decide ((i:Int)<(l.length:Int))=true→i<l.length:=fun h=>by have:=aJ h;omega
  have cP:i<l.length→l.drop i=nth ae l i::l.drop (i+1):=fun h=>bX (ek:=ae) h
  have hft:i<l.length→ay.fit (aj,ak,an,ao,ah,aq,ai,ar) (nth ae l i):=fun h=>TL _ (bS (ek:=ae) h)
  have akX:lv=0:=by have:=aA (p:=lv>0) w2;omega
  have hE:bB (aj,ak,an,ao,ah,aq,ai,ar) (t1,t2,t3,t4,t5,t6,t7)=(l,true):=by
   rw [←hr]
   cases f with
   |zero=>rfl
   |succ g=>exact vy w2
  have hM:qM (aj,ak,an,ao,ah,aq,ai,ar) (t1,t2,t3,t4,t5,t6,t7)=kb (aj,ak,an,ao,ah,aq,ai,ar) t7 0 l:=by rw [Y6 hB (by rw [hE];rfl),hE]
  have hlm:t7≤(l.length:Int):=by
   have h1:=SR (n:=t7) (d:=l.length) aed (by rw [hl,akX,Int.sub_zero,hdp])
   have:=(cD.1 aed).1;omega
  have h70:=(cD.1 aed).1
  have iC:i<l.length→au (nth ae l i)=false→rl (aj,ak,an,ao,ah,aq,ai,ar) t7 i (nth ae l i)=true→false=qM (aj,ak,an,ao,ah,aq,ai,ar) (t1,t2,t3,t4,t5,t6,t7):=fun h h2 h3=>by rw [hM,←hs,cP h,wM (s:=(aj,ak,an,ao,ah,aq,ai,ar)) (p:=nth ae l i) h2 h3]
  have hnh:(!(bG (aj,ak,an,ao,ah,aq,ai,ar) (nth ae l i)).2)=true→au (nth ae l i)=false:=fun h=>by
   cases hh:au (nth ae l i) with
   |false=>rfl
   |true=>rw [fT hh] at h;cases h
  have hnl:decide ((nth ae l i).2.2.2.2≠0)=true→au (nth ae l i)=false:=fun h=>by
   cases hh:au (nth ae l i) with
   |false=>rfl
   |true=>exact absurd (XC hh) (aJ (p:=¬(nth ae l i).2.2.2.2=0) h)
  refine⟨fun w1=>⟨⟨?_,?_⟩,?_,⟨⟨aa,⟨aa,aa,aa,aa,aa,aa⟩,aa⟩,fun x2 w3=>?_,?_,?_⟩,fun x4 w5=>⟨aa,fun w6=>?_,fun w7=>⟨aa,fun w8=>?_,fun w9=>⟨aa,fun dy=>⟨⟨⟨⟨aa,aa,aa,aa,aa,aa⟩,aa⟩,aa⟩,fun kB dK=>⟨fun iV=>?_,fun gP=>⟨⟨?_,?_⟩,?_⟩⟩⟩,fun qN=>⟨⟨?_,?_⟩,?_⟩⟩⟩⟩⟩,fun ki=>⟨⟨?_,?_,?_,?_⟩,?_⟩⟩
  all_goals first|refine aw ?_|refine ax ?_|exact a8|(dsimp only [cB,dq,gN,iu,cC,cS,ku,kM,kH,lg,bH,cc];omega)|exact a7|exact dG.2|exact dG.1|exact (hft (cq w1)).ok|exact dG.2 _ (by assumption)|exact h70|exact hlm|skip
  ·refine⟨[],[],_,_,_,rfl,az,false,1,(iC (cq w1) (hnh w6) (ZL (s:=(aj,ak,an,ao,ah,aq,ai,ar)) w6)),?_,?_,rfl⟩
   ·(show _=bT (aj,ak,an,ao,ah,aq,ai,ar) (t1,t2,t3,t4,t5,t6,t7) false);unfold bT;first|(rw [rfl];rfl)|rfl
   ·(show _=cn (aj,ak,an,ao,ah,aq,ai,ar) (t1,t2,t3,t4,t5,t6,t7) false);unfold cn;first|(rw [rfl];rfl)|rfl
  ·refine⟨[],[],_,_,_,rfl,az,false,1,(iC (cq w1) (hnl w8) (ZK (s:=(aj,ak,an,ao,ah,aq,ai,ar)) w8)),?_,?_,rfl⟩
   ·(show _=bT (aj,ak,an,ao,ah,aq,ai,ar) (t1,t2,t3,t4,t5,t6,t7) false);unfold bT;first|(rw [rfl];rfl)|rfl
   ·(show _=cn (aj,ak,an,ao,ah,aq,ai,ar) (t1,t2,t3,t4,t5,t6,t7) false);unfold cn;first|(rw [rfl];rfl)|rfl
  ·refine⟨[],[],_,_,_,rfl,az,false,1,(iC (cq w1) (ux iV) (ZI (s:=(aj,ak,an,ao,ah,aq,ai,ar)) dy)),?_,?_,rfl⟩
   ·(show _=bT (aj,ak,an,ao,ah,aq,ai,ar) (t1,t2,t3,t4,t5,t6,t7) false);unfold bT;first|(rw [rfl];rfl)|rfl
   ·(show _=cn (aj,ak,an,ao,ah,aq,ai,ar) (t1,t2,t3,t4,t5,t6,t7) false);unfold cn;first|(rw [rfl];rfl)|rfl
  ·refine⟨(i+1),[],?_,?_,?_⟩
   rotate_right
   ·exact bW
   ·exact⟨cq w1,by rw [←hs,cP (cq w1),FC (s:=(aj,ak,an,ao,ah,aq,ai,ar)) (p:=nth ae l i) (cM gP)];rfl⟩
   ·show l.length-(i+1)<l.length-i;have:=cq w1;omega
  ·refine⟨(i+1),[],?_,?_,?_⟩
   rotate_right
   ·exact bW
   ·refine⟨cq w1,?_⟩
    rw [←hs,cP (cq w1)]
    cases hh:au (nth ae l i) with
    |true=>rw [FC (s:=(aj,ak,an,ao,ah,aq,ai,ar)) (p:=nth ae l i) hh];rfl
    |false=>rw [OY (s:=(aj,ak,an,ao,ah,aq,ai,ar)) (p:=nth ae l i) hh (OZ (s:=(aj,ak,an,ao,ah,aq,ai,ar)) w7 w9 (decide_eq_false (by have:=(hft (cq w1)).b;omega)) qN)];rfl
   ·show l.length-(i+1)<l.length-i;have:=cq w1;omega
  ·have FK:¬i<l.length:=by have:=aA (p:=(i:Int)<(l.length:Int)) ki;omega
   have e:qM (aj,ak,an,ao,ah,aq,ai,ar) (t1,t2,t3,t4,t5,t6,t7)=true:=by rw [hM,←hs,ZB3 (by omega)];rfl
   have e2:(bB (aj,ak,an,ao,ah,aq,ai,ar) (t1,t2,t3,t4,t5,t6,t7)).1=l:=by rw [hE]
   refine⟨[1019],[],_,_,_,rfl,az,true,0,(show true=qM (aj,ak,an,ao,ah,aq,ai,ar) (t1,t2,t3,t4,t5,t6,t7) from e.symm),?_,?_,rfl⟩
   ·(show _=bT (aj,ak,an,ao,ah,aq,ai,ar) (t1,t2,t3,t4,t5,t6,t7) true);unfold bT;first|(rw [e2];rfl)|rfl
   ·(show _=cn (aj,ak,an,ao,ah,aq,ai,ar) (t1,t2,t3,t4,t5,t6,t7) true);unfold cn;first|(rw [e2];rfl)|rfl
end GL
namespace GL
section
variable {n l:Int}{k:Nat}
theorem aiD (h:(!(iB n 0 900))=true):KN n l k=false:=decide_eq_false (by rw [ZF8,IV] at h;omega)
theorem aiC (h:(!(iB l n 900))=true):KN n l k=false:=decide_eq_false (by rw [ZF8,IV] at h;omega)
theorem agy (h:decide (n>0)=true) (h2:decide ((k:Int)<8)=true):KN n l k=false:=decide_eq_false (by have:=aJ h;have:=aJ h2;omega)
theorem acy (h:(!(iB n 0 900))=false) (h2:(!(iB l n 900))=false) (h3:decide (n=0)=false∨decide (l≠0)=false) (h4:decide (n>0)=false∨decide ((k:Int)<8)=false):KN n l k=true:=decide_eq_true (by
 have a1:=cD.1 (cM h);have a2:=cD.1 (cM h2)
 refine⟨by omega,?_,?_⟩
 ·rcases h3 with h3 |h3
  ·have:=aA h3;omega
  ·have:=aA h3;omega
 ·rcases h4 with h4 |h4
  ·have:=aA h4;omega
  ·have:=aA h4;omega)
end
def lR (sp:List Int×List Int):Prop:=True
def cI (sp:List Int×List Int):AV:=.s (.q (rF sp))
def R2 (sp:List Int×List Int):List AV:=[]
def kU:ct where
 A:=[.a [.vz ag,.vz ag]]
 B:=[]
 pre:=fun x b=>lR x
 r:=fun x b _=>cI x
 o:=fun x b _=>R2 x
theorem yI:Has Tryz.prog 104 kU:=by
 refine Has.zC zT zF zF (l:=[(66,cB)]) ⟨gn,aa⟩ Tryz.func104 ?_
 rintro⟨(dA:List Int),(eJ:List Int)⟩ _ (hp:lR (dA,eJ))
 show vc _ _ _ _ (entry [.a [.vz ag dA,.vz ag eJ]] []) _
 refine⟨aa,fun w1=>?_,fun w2=>⟨fun w3=>?_,fun w4=>?_⟩⟩
 all_goals first|refine aw ?_|refine ax ?_|exact a8|(dsimp only [cB,dq];omega)|exact a7|skip
 ·refine⟨[],[],_,_,_,rfl,az,(),aa,?_,?_,rfl⟩
  ·(show _=cI (dA,eJ));unfold cI;first|(rw [NZ (p:=(dA,eJ)) w1];rfl)|rfl
  ·rfl
 ·refine⟨[],[],_,_,_,rfl,az,(),aa,?_,?_,rfl⟩
  ·(show _=cI (dA,eJ));unfold cI;first|(rw [NY (p:=(dA,eJ)) w3];rfl)|rfl
  ·rfl
 ·have l1:dA.length=64:=by have:=aA w2;omega
  have l2:eJ.length=64:=by have:=aA w4;omega
  have hE:=UX (p:=(dA,eJ)) w2 w4
  refine l4 (l:=[(66,cB)]) (ex:=zT) (wr:=zF) (pt:=zF) ⟨gn,trivial⟩ [.s 1,.b 1001,.s 17,.s 18] (fun i:Nat=>[(.s 19,.int i)]) (fun i=>i≤64∧∀j,j<i→xz dA eJ j=true) (fun i=>64-i) 0 [] ⟨ZA7 _,fun j hj=>absurd hj (by omega)⟩ dN ?_
  rintro i ⟨(hi:i≤64),hj⟩
  have cq:decide ((i:Int)<(dA.length:Int))=true→i<64:=fun h=>by have:=aJ h;omega
  have bV:∀l:List Int,l.length=64→decide ((i:Int)<(dA.length:Int))=true→(i:Int)<(l.length:Int):=fun l hl h=>by rw [hl,←l1];exact aJ h
  have iC:i<64→xz dA eJ i=false→rF (dA,eJ)=false:=fun h h2=>by rw [hE];exact T4 h h2
  have hgo:xz dA eJ i=true→∀j,j<i+1→xz dA eJ j=true:=fun h j yM=>by
   by_cases e:j=i
   ·rw [e];exact h
   ·exact hj j (by omega)
  refine⟨fun w1=>⟨⟨?_,?_⟩,⟨?_,?_⟩,⟨⟨aa,aa,aa,aa⟩,aa⟩,fun x2 w3=>⟨aa,fun w4=>?_,fun w5=>⟨⟨⟨aa,aa,aa,aa⟩,aa⟩,fun x6 w7=>⟨aa,fun w8=>?_,fun w9=>⟨aa,fun dy=>⟨aa,fun kC=>?_,fun dK=>⟨aa,fun iV=>⟨fun gP=>?_,fun qN=>⟨⟨?_,?_⟩,?_⟩⟩,fun ki=>⟨⟨?_,?_⟩,?_⟩⟩⟩,fun xk=>⟨aa,fun rV=>⟨fun oN=>?_,fun uL=>⟨⟨?_,?_⟩,?_⟩⟩,fun A4=>⟨⟨?_,?_⟩,?_⟩⟩⟩⟩⟩⟩⟩,fun A3=>?_⟩
  all_goals first|refine aw ?_|refine ax ?_|exact a8|(dsimp only [cB,dq];omega)|exact a7|exact bV _ l1 w1|exact bV _ l2 w1|skip
  ·refine⟨[],[],_,_,_,rfl,az,(),aa,?_,?_,rfl⟩
   ·(show _=cI (dA,eJ));unfold cI;first|(rw [iC (cq w1) (aiD w4)];rfl)|rfl
   ·rfl
  ·refine⟨[],[],_,_,_,rfl,az,(),aa,?_,?_,rfl⟩
   ·(show _=cI (dA,eJ));unfold cI;first|(rw [iC (cq w1) (aiC w8)];rfl)|rfl
   ·rfl
  ·refine⟨[],[],_,_,_,rfl,az,(),aa,?_,?_,rfl⟩
   ·(show _=cI (dA,eJ));unfold cI;first|(rw [iC (cq w1) (agA dy kC)];rfl)|rfl
   ·rfl
  ·refine⟨[],[],_,_,_,rfl,az,(),aa,?_,?_,rfl⟩
   ·(show _=cI (dA,eJ));unfold cI;first|(rw [iC (cq w1) (agy iV gP)];rfl)|rfl
   ·rfl
  ·refine⟨(i+1),[],?_,?_,?_⟩
   rotate_right
   ·exact bW
   ·exact⟨cq w1,hgo (acy w5 w9 (.inr dK) (.inl ki))⟩
   ·show 64-(i+1)<64-i;have:=cq w1;omega
  ·refine⟨[],[],_,_,_,rfl,az,(),aa,?_,?_,rfl⟩
   ·(show _=cI (dA,eJ));unfold cI;first|(rw [iC (cq w1) (agy rV oN)];rfl)|rfl
   ·rfl
  ·refine⟨(i+1),[],?_,?_,?_⟩
   rotate_right
   ·exact bW
   ·exact⟨cq w1,hgo (acy w5 w9 (.inl xk) (.inr uL))⟩
   ·show 64-(i+1)<64-i;have:=cq w1;omega
  ·refine⟨(i+1),[],?_,?_,?_⟩
   rotate_right
   ·exact bW
   ·exact⟨cq w1,hgo (acy w5 w9 (.inl xk) (.inl A4))⟩
   ·show 64-(i+1)<64-i;have:=cq w1;omega
  ·have e:rF (dA,eJ)=true:=by rw [hE];exact M5 fun j yM=>hj j (by have:=aA A3;omega)
   refine⟨[],[],_,_,_,rfl,az,(),aa,?_,?_,rfl⟩
   ·(show _=cI (dA,eJ));unfold cI;first|(rw [e];rfl)|rfl
   ·rfl
end GL
namespace GL
def vl (l:List Int):Prop:=0<l.length∧l.length≤1000000
def acN (l:List Int) (z:Int):Prop:=(∀j,j<l.length→nth ag l j≤z)∧∃j,j<l.length∧nth ag l j=z
def GU (l:List Int) (z:Int):AV:=.int z
def OM (l:List Int) (z:Int):List AV:=[]
def y5:ct where
 A:=[.s (.vz ag)]
 B:=[]
 pre:=fun x b=>vl x
 α:=fun _ _=>Int
 φ:=fun x b z=>acN x z
 r:=fun x b z=>GU x z
 o:=fun x b z=>OM x z
theorem W6:Has Tryz.prog 105 y5:=by
 refine Has.WN zT zF zF (l:=[]) trivial Tryz.func105 ?_
 rintro (l:List Int) _ (hp:vl l)
 show vc _ _ _ _ (entry [.s (.vz ag l)] []) _
 obtain⟨(h0:0<l.length),(h1:l.length≤1000000)⟩:=hp
 refine⟨fun w1=>?_,fun w2=>⟨⟨?_,?_⟩,?_⟩⟩
 all_goals first|(exfalso;simp only [decide_eq_true_eq,decide_eq_false_iff_not] at *;omega)|refine aw ?_|refine ax ?_|exact a8|exact a7|skip
 refine l4 (l:=[]) (ex:=zT) (wr:=zF) (pt:=zF) trivial [.s 0] (fun y:Nat×Int=>[(.s 3,.int y.2),(.s 4,.int ((y.1+1:Nat):Int))]) (fun y=>y.1+1≤l.length∧(∀j,j<y.1+1→nth ag l j≤y.2)∧∃j,j<y.1+1∧nth ag l j=y.2) (fun y=>l.length-y.1) (0,nth ag l 0) [] ⟨h0,fun j hj=>by rw [show j=0 by omega];exact ZC1 _,0,by omega,rfl⟩ dN ?_
 rintro⟨i,m⟩ ⟨(hi:i+1≤l.length),hj,hx⟩
 refine⟨fun w1=>⟨⟨?_,?_⟩,⟨⟨?_,?_⟩,?_⟩⟩,fun w2=>?_⟩
 all_goals first|refine aw ?_|refine ax ?_|exact a8|exact a7|skip
 ·have bV:i+1<l.length:=by have:=aJ w1;simp only [] at this;omega
  refine⟨(i+1,max m (nth ag l (i+1))),[],?_,?_,?_⟩
  rotate_right
  ·exact bW
  ·refine⟨bV,fun j yM=>?_,?_⟩
   ·by_cases e:j=i+1
    ·rw [e];exact Int.le_max_right _ _
    ·exact ZE0 (hj j (by omega)) (Int.le_max_left _ _)
   ·obtain⟨j,h2,h3⟩:=hx
    by_cases e:nth ag l (i+1)≤m
    ·exact⟨j,by omega,by rw [h3];exact (Int.max_eq_left e).symm⟩
    ·exact⟨i+1,by omega,(Int.max_eq_right (by have:=Int.not_le.1 e;exact Int.le_of_lt this)).symm⟩
  ·show l.length-(i+1)<l.length-i;omega
 ·have FK:¬(i+1<l.length):=by have:=aA w2;simp only [] at this;omega
  obtain⟨j,h2,h3⟩:=hx
  refine⟨[],[],_,_,_,rfl,az,m,0,(⟨fun j yM=>hj j (by omega),j,by omega,h3⟩),?_,?_,rfl⟩
  ·(show _=GU l m);unfold GU;first|(rw [rfl];rfl)|rfl
  ·(show _=OM l m);unfold OM;first|(rw [rfl];rfl)|rfl
def fj (s:ay) (ix:Int) (p:Pt):Bool:=aZ p&&(!(au p)&&(!(decide (p.2.1>ix))&& !(decide (nth ag s.refs p.1.toNat=(0:Int)))))
section
variable {s:ay}{ix:Int}{p:Pt}
theorem ahn (h:(!(aZ p))=true):fj s ix p=false:=by unfold fj;rw [ux h];rfl
theorem ahm (h:au p=true):fj s ix p=false:=by unfold fj;rw [h];cases aZ p<;>rfl
theorem ahl (h:decide (p.2.1>ix)=true):fj s ix p=false:=by unfold fj;rw [h];cases aZ p<;>cases au p<;>rfl
theorem ahk (h:decide (nth ag s.refs p.1.toNat=(0:Int))=true):fj s ix p=false:=by unfold fj;rw [h];cases aZ p<;>cases au p<;>cases decide (p.2.1>ix)<;>rfl
theorem ahh (h:(!(aZ p))=false) (h2:au p=false) (h3:decide (p.2.1>ix)=false) (h4:decide (nth ag s.refs p.1.toNat=(0:Int))=false):fj s ix p=true:=by unfold fj;rw [cM h,h2,h3,h4];rfl
end
theorem NT {l:List Pt}{n:Nat}(h:n<l.length):l.take (n+1)=l.take n++[nth ae l n]:=by
 rw [List.take_succ,oF (ek:=ae) h];rfl
def sk (l:List Pt) (ix:Int) (S:ay) (o:List Int):Prop:=o.length=64∧S.refs.length=64∧l.length≤1000000∧∀r,(0:Int)≤nth ag o r∧nth ag o r≤(1000000:Int)
def LO (l:List Pt) (ix:Int) (S:ay) (o:List Int) (z:List Int):Prop:=z.length=64∧(∀r,(0:Int)≤nth ag z r∧nth ag z r≤(nth ag o r+(l.length:Int):Int))∧(l.all (fj S ix)=true→∀r,nth ag z r=(nth ag o r+(bo l r:Int):Int))
def gU (l:List Pt) (ix:Int) (S:ay) (o:List Int) (z:List Int):AV:=.q (l.all (fj S ix))
def ju (l:List Pt) (ix:Int) (S:ay) (o:List Int) (z:List Int):List AV:=[.a [.xs 1 1 0 o.length],.rs ag z]
def uh:ct where
 A:=[.s (.vz ae),.s .int,.vs xy,.b 0]
 B:=[.a [.xb 1 ag],.r ag]
 pre:=fun x b=>UO (b.1) (b.2)∧sk (x.1) (x.2.1) (x.2.2.1) (b.2)
 α:=fun _ _=>List Int
 φ:=fun x b z=>LO (x.1) (x.2.1) (x.2.2.1) (b.2) z
 r:=fun x b z=>gU (x.1) (x.2.1) (x.2.2.1) (b.2) z
 o:=fun x b z=>ju (x.1) (x.2.1) (x.2.2.1) (b.2) z
theorem PE:Has Tryz.prog 106 uh:=by
 refine Has.WN zT zF zF (l:=[(64,cC),(23,bH)]) ⟨jv,eP,aa⟩ Tryz.func106 ?_
 rintro⟨(l:List Pt),(ix:Int),⟨(aj:List ByteArray),(ak:List Int),(an:List Int),(ao:Int),(ah:List Pt),(aq:Int),(ai:List Pt),(ar:Bool)⟩,_⟩ ⟨(om:Nat),(o:List Int)⟩ ⟨(akG:om=List.length o),(hp:sk l ix (aj,ak,an,ao,ah,aq,ai,ar) o)⟩
 subst akG
 show vc _ _ _ _ (entry [.s (.vz ae l),.int ix,.s (.vs [.vz ab aj,.vz ag ak,.vz ag an,.v (.int .i64 ao),.vz ae ah,.v (.int .i64 aq),.vz ae ai,.q ar] 0),.s (.bp 0 0)] [.a [.xs 1 1 0 o.length],.rs ag o]) _
 obtain⟨(ho:List.length o=64),(hrf:ak.length=64),(hl:l.length≤1000000),hb⟩:=hp
 refine ?_
 all_goals first|refine aw ?_|refine ax ?_|exact a8|(dsimp only [cC,cS,bH,cc];omega)|exact a7|skip
 refine l4 (l:=[(64,cC),(23,bH)]) (ex:=zT) (wr:=zF) (pt:=zF) ⟨jv,eP,aa⟩ [.s 1,.s 2,.s 3,.s 9,.s 10,.b 0] (fun y:Nat×List Int=>[(.s 11,.int y.1),(.b 1,.rs ag y.2)]) (fun y=>y.1≤l.length∧y.2.length=64∧(∀r,nth ag y.2 r=(nth ag o r+(bo (l.take y.1) r:Int):Int))∧(l.take y.1).all (fj (aj,ak,an,ao,ah,aq,ai,ar) ix)=true) (fun y=>l.length-y.1) (0,o) [] ⟨ZA7 _,ho,fun r=>(Int.add_zero _).symm,rfl⟩ dN ?_
 rintro⟨i,z⟩ ⟨(hi:i≤l.length),(hz:z.length=64),(hc:∀r,nth ag z r=(nth ag o r+(bo (l.take i) r:Int):Int)),(ha:(l.take i).all (fj (aj,ak,an,ao,ah,aq,ai,ar) ix)=true)⟩
 have cq:decide ((i:Int)<(l.length:Int))=true→i<l.length:=fun h=>by have:=aJ h;omega
 have hq:(!(aZ (nth ae l i)))=false→0≤(nth ae l i).1∧(nth ae l i).1<64:=fun h=>nW (cM h)
 have hci:∀r,bo (l.take i) r≤i:=fun r=>ZB0 List.countP_le_length (by rw [ZC0];omega)
 have hzb:∀r,(0:Int)≤nth ag z r∧nth ag z r≤(nth ag o r+(l.length:Int):Int)∧nth ag z r≤(2000000:Int):=fun r=>by
  have h1:=hb r;have h2:=hci r
  rw [hc r]
  refine⟨?_,?_,?_⟩
  ·show (0:Int)≤nth ag o r+(bo (l.take i) r:Int);have h3:(0:Int)≤nth ag o r:=h1.1;omega
  ·exact Int.add_le_add_left (by omega:((bo (l.take i) r:Nat):Int)≤(l.length:Int)) _
  ·exact ZE0 (Int.add_le_add h1.2 (by omega:((bo (l.take i) r:Nat):Int)≤1000000)) (by decide)
 have iC:i<l.length→fj (aj,ak,an,ao,ah,aq,ai,ar) ix (nth ae l i)=false→l.all (fj (aj,ak,an,ao,ah,aq,ai,ar) ix)=false:=fun h h2=>by
  rw [Bool.eq_false_iff];intro h3
  rw [ZC8.1 h3 _ (bS (ek:=ae) h)] at h2;cases h2
 have vG:∀b:Bool,l.all (fj (aj,ak,an,ao,ah,aq,ai,ar) ix)=b→b=false→LO l ix (aj,ak,an,ao,ah,aq,ai,ar) o z:=fun b h h2=>⟨hz,fun r=>⟨(hzb r).1,(hzb r).2.1⟩,fun h3=>by rw [h,h2] at h3;cases h3⟩
 refine⟨fun w1=>⟨⟨?_,?_⟩,⟨⟨⟨aa,aa,aa,aa,aa,aa⟩,aa⟩,aa⟩,fun x2 w3=>⟨aa,fun w4=>?_,fun w5=>⟨⟨⟨⟨aa,aa,aa,aa,aa,aa⟩,aa⟩,aa⟩,fun x6 w7=>⟨aa,fun w8=>?_,fun w9=>⟨aa,fun dy=>?_,fun kC=>⟨⟨?_,?_⟩,fun dK=>?_,fun iV=>⟨⟨?_,?_⟩,?_,⟨?_,?_⟩,⟨?_,?_⟩,?_,⟨?_,?_⟩,?_⟩⟩⟩⟩⟩⟩⟩,fun gP=>?_⟩
 all_goals first|refine aw ?_|refine ax ?_|exact a8|(dsimp only [cC,cS,bH,cc];omega)|exact a7|exact (hq w5).1|(show _<(ak.length:Int);rw [hrf];exact (hq w5).2)|(show _<(List.length o:Int);rw [ho];exact (hq w5).2)|(show (nth ae l i).1.toNat<z.length;rw [hz];exact sw (cM w5))|(have h8:=(hzb (nth ae l i).1.toNat).1;show (-9223372036854775808:Int)≤nth ag z (nth ae l i).1.toNat+1;have h9:(0:Int)≤nth ag z (nth ae l i).1.toNat:=h8;omega)|exact ZE0 (Int.add_le_add_right (hzb (nth ae l i).1.toNat).2.2 1) (by decide)|skip
 ·have e:=iC (cq w1) (ahn w4)
  refine⟨[],[],_,_,_,rfl,az,z,0,(vG _ e rfl),?_,?_,rfl⟩
  ·(show _=gU l ix (aj,ak,an,ao,ah,aq,ai,ar) o z);unfold gU;first|(rw [e];rfl)|rfl
  ·(show _=ju l ix (aj,ak,an,ao,ah,aq,ai,ar) o z);unfold ju;first|(rw [e];rfl)|rfl
 ·have e:=iC (cq w1) (ahm w8)
  refine⟨[],[],_,_,_,rfl,az,z,0,(vG _ e rfl),?_,?_,rfl⟩
  ·(show _=gU l ix (aj,ak,an,ao,ah,aq,ai,ar) o z);unfold gU;first|(rw [e];rfl)|rfl
  ·(show _=ju l ix (aj,ak,an,ao,ah,aq,ai,ar) o z);unfold ju;first|(rw [e];rfl)|rfl
 ·have e:=iC (cq w1) (ahl dy)
  refine⟨[],[],_,_,_,rfl,az,z,0,(vG _ e rfl),?_,?_,rfl⟩
  ·(show _=gU l ix (aj,ak,an,ao,ah,aq,ai,ar) o z);unfold gU;first|(rw [e];rfl)|rfl
  ·(show _=ju l ix (aj,ak,an,ao,ah,aq,ai,ar) o z);unfold ju;first|(rw [e];rfl)|rfl
 ·have e:=iC (cq w1) (ahk (s:=(aj,ak,an,ao,ah,aq,ai,ar)) dK)
  refine⟨[],[],_,_,_,rfl,az,z,0,(vG _ e rfl),?_,?_,rfl⟩
  ·(show _=gU l ix (aj,ak,an,ao,ah,aq,ai,ar) o z);unfold gU;first|(rw [e];rfl)|rfl
  ·(show _=ju l ix (aj,ak,an,ao,ah,aq,ai,ar) o z);unfold ju;first|(rw [e];rfl)|rfl
 ·have bV:=cq w1
  have hk:(nth ae l i).1.toNat<z.length:=by rw [hz];exact sw (cM w5)
  refine⟨(i+1,z.set (nth ae l i).1.toNat (nth ag z (nth ae l i).1.toNat+1:Int)),[],?_,?_,?_⟩
  rotate_right
  ·exact bW
  ·refine⟨bV,by show (List.set _ _ _).length=64;rw [ZC3,hz],fun r=>?_,?_⟩
   ·show nth ag (List.set z _ _) r=(nth ag o r+(bo (l.take (i+1)) r:Int):Int)
    rw [NT bV,bJ]
    by_cases e:(nth ae l i).1.toNat=r
    ·subst e
     rw [ny (ek:=ag) hk,hc,rP (p:=nth ae l i) w9]
     exact Int.add_assoc _ _ _
    ·rw [iw (ek:=ag) e,hc,yW e];rfl
   ·show (l.take (i+1)).all _=true
    rw [NT bV,List.all_append,ha]
    show (true&&(fj (aj,ak,an,ao,ah,aq,ai,ar) ix (nth ae l i)&&true))=true
    rw [ahh (s:=(aj,ak,an,ao,ah,aq,ai,ar)) (p:=nth ae l i) w5 w9 kC iV];rfl
  ·show l.length-(i+1)<l.length-i;omega
 ·have FK:i=l.length:=by have:=aA (p:=(i:Int)<(l.length:Int)) gP;omega
  have ht:l.take i=l:=ZD1 (by omega)
  rw [ht] at ha
  refine⟨[],[],_,_,_,rfl,az,z,0,(⟨hz,fun r=>⟨(hzb r).1,(hzb r).2.1⟩,fun _ r=>by rw [hc r,ht]⟩),?_,?_,rfl⟩
  ·(show _=gU l ix (aj,ak,an,ao,ah,aq,ai,ar) o z);unfold gU;first|(rw [ha];rfl)|rfl
  ·(show _=ju l ix (aj,ak,an,ao,ah,aq,ai,ar) o z);unfold ju;first|(rw [ha];rfl)|rfl
end GL
end Go.Proofs.YtkgpljpmdkflmaaGreatDoor
