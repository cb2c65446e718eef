/- FnTreeOk returns true for every code (its row lists package variables, tied by the card): part 40. -/
import Derived.Test.YtbfgjadbfjkcdaaGreatDoorPaw
import Derived.Test.YtbfgjadbfjkcdaaGreatDoorPbj
import Derived.Test.YtbfgjadbfjkcdaaGreatDoorPbm
set_option maxHeartbeats 20000000
set_option linter.all false
namespace Go.Proofs.YtbfgjadbfjkcdaaGreatDoor
namespace GL
structure ay.fit (s:ay) (p:Pt):Prop where
 ok:a6 p=true
 b:p.2.1≤s.ck
theorem ajZ {s:ay}(h:0≤s.ck):s.fit bO:=⟨rfl,h⟩
theorem acx {s:ay}{p:Pt}{lv:Int}(h0:0≤s.ck) (hp:s.fit p):∀q∈(bh s p lv).1,s.fit q:=by
 intro q hq
 refine⟨sU s p lv q hq,?_⟩
 cases hh:au p with
 |true=>
  rw [kA hh] at hq
  rw [(ZD6.1 hq).2];exact h0
 |false=>
  have nil:∀{b:Bool},bh s p lv=([],b)→False:=fun e=>by rw [e] at hq;cases hq
  have h1:(!(a6 p))=false:=by rw [hp.ok];rfl
  have h3:decide (p.2.1>s.ck)=false:=decide_eq_false (by have:=hp.b;omega)
  cases hl:decide (p.2.2.2.2≠lv) with
  |true=>exact (nil (wj hh hl)).elim
  |false=>
   cases hr: !(bH s p).2 with
   |true=>exact (nil (wi hh h1 hl h3 hr)).elim
   |false=>
    rw [wh hh h1 hl h3 hr] at hq
    cases ha:(bn (bH s p).1).1.any (late p) with
    |true=>rw [wk ha] at hq;cases hq
    |false=>
     rw [sV ha] at hq
     have:=List.any_eq_false.1 ha q hq
     have h2:¬(q.2.1>p.2.1):=by simpa [late] using this
     have:=hp.b;omega
theorem QZ {s:ay}{lv:Int}(h0:0≤s.ck):∀{l acc n:List Pt},(∀q∈l,s.fit q)→(∀q∈acc,s.fit q)→fy s lv l acc=some n→∀q∈n,s.fit q
 |[],acc,n,_,h2,h=>by cases h;exact h2
 |p::l,acc,n,h1,h2,h=>by
  unfold fy at h
  cases hb:(bh s p lv).2 with
  |true=>
   rw [hb,cond_true] at h
   refine QZ h0 (fun q hq=>h1 q (by simp [hq])) (fun q hq=>?_) h
   rcases ZB5.1 hq with hq |hq
   ·exact h2 q hq
   ·exact acx h0 (h1 p (by simp)) q hq
  |false=>rw [hb] at h;cases h
theorem TE {n:Int}{d:Nat}(h0:iC n 0 16=true) (h:d=4 ^ (bl n).toNat):n.toNat≤d:=by
 obtain⟨h1,h2⟩:=cz.1 h0
 rw [h]
 unfold bl
 cases hc:decide (n≤1) with
 |true=>have:=aE hc;show n.toNat≤1;omega
 |false=>
  cases hd:decide (n≤4) with
  |true=>have:=aE hd;show n.toNat≤4;omega
  |false=>show n.toNat≤16;omega
theorem XY {p:Pt}(h:au p=true):p.2.1=0:=by rw [iu h];rfl
theorem XX {p:Pt}(h:au p=true):p.2.2.2.2=0:=by rw [iu h];rfl
theorem abQ {s:ay}{t:bf}(h0:0≤s.ck) (h:decide (t.root.2.1>s.ck)=true):oI s t=false:=by
 have hh:au t.root=false:=by
  cases hh:au t.root with
  |false=>rfl
  |true=>have:=aE h;rw [XY hh] at this;omega
 cases hb:lu t with
 |true=>exact D4 hb
 |false=>
  cases hd:decide (t.depth>0) with
  |false=>
   have e:bC s t=([t.root],true):=vD hd
   rw [ZQ hb (by rw [e];rfl),e]
   exact wR hh (Z3 h)
  |true=>
   have e:bC s t=([],false):=IF hd (by rw [OA (by rw [AN hh h];rfl)])
   exact ZR hb (by rw [e];rfl)
def vn (S:ay) (t:bf):Prop:=S.rd∧0≤S.ck
def R7 (S:ay) (t:bf) (z:Bool):Prop:=z=oI S t
def bV (S:ay) (t:bf) (z:Bool):AV:=.t [match z with |true=>.s (.xs 0 5 0 t.many.toNat) |false=>.s (.v (.slice none 0 0)),.s (.q z)]
def cq (S:ay) (t:bf) (z:Bool):List AV:=match z with |true=>[.rs ae (bC S t).1] |false=>[.zz]
def DN:Con where
 A:=[.vs xE,.a [.int,.int,.int,.int,.int,.int,.int]]
 B:=[]
 pre:=fun x b=>vn (x.1) (x.2)
 α:=fun _ _=>Bool
 φ:=fun x b z=>R7 (x.1) (x.2) z
 r:=fun x b z=>bV (x.1) (x.2) z
 o:=fun x b z=>cq (x.1) (x.2) z
 nf:=1
set_option maxRecDepth 100000 in
theorem ab6:Has Tryz.prog 13 DN:=by
 refine Has.ofZI (fun _=>true) (fun _=>false) (fun _=>false) (l:=[(31,cD),(36,gQ),(34,cE),(37,ky),(38,kK),(35,bI)]) ⟨gp,tN,jv,zV,zT,eQ,trivial⟩ (fn:=Tryz.f13) Tryz.func13 rfl (by decide) (aZ rfl) ?_
 rintro⟨⟨(aj:List ByteArray),(ak:List Int),(an:List Int),(ao:Int),(ah:List Pt),(aq:Int),(ai:List Pt),(ar:Bool)⟩,⟨(t1:Int),(t2:Int),(t3:Int),(t4:Int),(t5:Int),(t6:Int),(t7:Int)⟩⟩ _ (hp:vn (aj,ak,an,ao,ah,aq,ai,ar) (t1,t2,t3,t4,t5,t6,t7))
 show vc _ _ _ _ (entry [.s (.vs [.vz ab aj,.vz ag ak,.vz ag an,.v (.int .i64 ao),.vz ae ah,.v (.int .i64 aq),.vz ae ai,.q ar] 0),.a [.int t1,.int t2,.int t3,.int t4,.int t5,.int t6,.int t7]] []) _
 obtain⟨dG,(h0:0≤ao)⟩:=hp
 have dG:ay.rd (aj,ak,an,ao,ah,aq,ai,ar):=dG
 refine⟨[.s 3],[.s 17],rfl,[.s 17,.b 1003],[.s 18],rfl,[.s 18],[.s 19],rfl,⟨⟨aa,aa,aa,aa⟩,aa⟩,?_,fun x1 w2=>⟨[.s 19],[.s 20],rfl,[.s 20],[.s 21],rfl,aa,fun w3=>⟨[.s 21],[.s 22],rfl,[.s 21],[.s 23],rfl,[.s 21],[.s 24],rfl,[.s 21],[.s 25],rfl,[.s 21],[.s 26],rfl,[.s 21],[.s 27],rfl,[.s 21,.s 27],[.s 28],rfl,[.s 28],[.s 29],rfl,[.s 29],[.s 30],rfl,[.s 29],[.s 31],rfl,[.s 29],[.s 32],rfl,[.s 29],[.s 33],rfl,[.s 29,.s 33],[.s 34],rfl,[.s 34],[.s 35],rfl,[.s 35],[.s 36],rfl,[.s 35],[.s 37],rfl,[.s 35],[.s 38],rfl,[.s 35],[.s 39],rfl,[.s 35],[.s 40],rfl,[.s 35],[.s 41],rfl,[.s 35],[.s 42],rfl,[.s 35],[.s 43],rfl,[.s 35,.s 43],[.s 44],rfl,?_⟩,fun w4=>⟨[.s 21,.s 3],[.s 22],rfl,[.s 21,.s 22,.b 1003],[.s 23],rfl,[.s 21,.s 3],[.s 24],rfl,[.s 21,.s 24,.b 1003],[.s 25],rfl,[.s 21,.s 25],[.s 26],rfl,⟨⟨aa,aa⟩,aa⟩,?_,fun x5 w6=>⟨[.s 21,.s 23,.s 26],[.s 27],rfl,[.s 21,.s 27],[.s 28],rfl,[.s 28],[.s 29],rfl,aa,fun w7=>⟨[.s 29],[.s 30],rfl,[.s 29],[.s 31],rfl,[.s 29],[.s 32],rfl,[.s 29],[.s 33],rfl,[.s 29,.s 33],[.s 34],rfl,[.s 34],[.s 35],rfl,[.s 35],[.s 36],rfl,[.s 35],[.s 37],rfl,[.s 35],[.s 38],rfl,[.s 35],[.s 39],rfl,[.s 35],[.s 40],rfl,[.s 35],[.s 41],rfl,[.s 35],[.s 42],rfl,[.s 35],[.s 43],rfl,[.s 35,.s 43],[.s 44],rfl,?_⟩,fun w8=>⟨[.s 29,.s 3],[.s 30],rfl,[.s 29,.s 30,.b 1003],[.s 31],rfl,[.s 29,.s 31],[.s 32],rfl,⟨⟨⟨aa,aa,aa,aa,aa,aa⟩,aa⟩,aa⟩,?_,fun x9 dq=>⟨[.s 29,.s 32],[.s 33],rfl,[.s 29,.s 33],[.s 34],rfl,[.s 34],[.s 35],rfl,aa,fun kk=>⟨[.s 35],[.s 36],rfl,[.s 35],[.s 37],rfl,[.s 35],[.s 38],rfl,[.s 35],[.s 39],rfl,[.s 35],[.s 40],rfl,[.s 35],[.s 41],rfl,[.s 35],[.s 42],rfl,[.s 35],[.s 43],rfl,[.s 35,.s 43],[.s 44],rfl,?_⟩,fun dI=>⟨[.s 35,.s 3],[.s 36],rfl,[.s 35,.s 36],[.s 37],rfl,[.s 35,.s 37,.b 1003],[.s 38],rfl,[.s 35,.s 0],[.s 39],rfl,[.s 35,.s 39],[.s 40],rfl,[.s 35,.s 40],[.s 41],rfl,[.s 35,.s 41],[.s 42],rfl,[.s 35,.s 38,.s 42],[.s 43],rfl,[.s 35,.s 43],[.s 44],rfl,fun iJ=>?_,fun gI=>⟨aa,?_⟩⟩⟩⟩⟩⟩⟩⟩
 all_goals first|refine aw ?_|refine ax ?_|exact ba|(dsimp only [cD,dv];omega)|(dsimp only [gQ,iv];omega)|(dsimp only [cE,cS];omega)|(dsimp only [ky,kQ];omega)|(dsimp only [kK,ll];omega)|(dsimp only [bI,cf];omega)|exact a8|skip
 ·refine⟨[],[],_,_,_,rfl,az,false,1,(show false=oI (aj,ak,an,ao,ah,aq,ai,ar) (t1,t2,t3,t4,t5,t6,t7) from (D4 (s:=(aj,ak,an,ao,ah,aq,ai,ar)) (t:=(t1,t2,t3,t4,t5,t6,t7)) (ZU w3)).symm),?_,?_,rfl⟩
  ·(show _=bV (aj,ak,an,ao,ah,aq,ai,ar) (t1,t2,t3,t4,t5,t6,t7) false);unfold bV;first|(rw [rfl];rfl)|rfl
  ·(show _=cq (aj,ak,an,ao,ah,aq,ai,ar) (t1,t2,t3,t4,t5,t6,t7) false);unfold cq;first|(rw [rfl];rfl)|rfl
 ·refine⟨[],[],_,_,_,rfl,az,false,1,(show false=oI (aj,ak,an,ao,ah,aq,ai,ar) (t1,t2,t3,t4,t5,t6,t7) from (D4 (s:=(aj,ak,an,ao,ah,aq,ai,ar)) (t:=(t1,t2,t3,t4,t5,t6,t7)) (ZT w7)).symm),?_,?_,rfl⟩
  ·(show _=bV (aj,ak,an,ao,ah,aq,ai,ar) (t1,t2,t3,t4,t5,t6,t7) false);unfold bV;first|(rw [rfl];rfl)|rfl
  ·(show _=cq (aj,ak,an,ao,ah,aq,ai,ar) (t1,t2,t3,t4,t5,t6,t7) false);unfold cq;first|(rw [rfl];rfl)|rfl
 ·refine⟨[],[],_,_,_,rfl,az,false,1,(show false=oI (aj,ak,an,ao,ah,aq,ai,ar) (t1,t2,t3,t4,t5,t6,t7) from (D4 (s:=(aj,ak,an,ao,ah,aq,ai,ar)) (t:=(t1,t2,t3,t4,t5,t6,t7)) (ZS kk)).symm),?_,?_,rfl⟩
  ·(show _=bV (aj,ak,an,ao,ah,aq,ai,ar) (t1,t2,t3,t4,t5,t6,t7) false);unfold bV;first|(rw [rfl];rfl)|rfl
  ·(show _=cq (aj,ak,an,ao,ah,aq,ai,ar) (t1,t2,t3,t4,t5,t6,t7) false);unfold cq;first|(rw [rfl];rfl)|rfl
 ·refine⟨[],[],_,_,_,rfl,az,false,1,(show false=oI (aj,ak,an,ao,ah,aq,ai,ar) (t1,t2,t3,t4,t5,t6,t7) from (abQ (s:=(aj,ak,an,ao,ah,aq,ai,ar)) (t:=(t1,t2,t3,t4,t5,t6,t7)) h0 iJ).symm),?_,?_,rfl⟩
  ·(show _=bV (aj,ak,an,ao,ah,aq,ai,ar) (t1,t2,t3,t4,t5,t6,t7) false);unfold bV;first|(rw [rfl];rfl)|rfl
  ·(show _=cq (aj,ak,an,ao,ah,aq,ai,ar) (t1,t2,t3,t4,t5,t6,t7) false);unfold cq;first|(rw [rfl];rfl)|rfl
 have aeB:iC t7 0 16=true:=cI w4
 have hdp:t6=bl t7:=ZF0.1 (aA (p:=¬t6=bl t7) w8)
 have hB:lu (t1,t2,t3,t4,t5,t6,t7)=false:=zM (t:=(t1,t2,t3,t4,t5,t6,t7)) w4 w8 dI
 have hd2:=py t7
 rw [←hdp] at hd2
 have aae:ay.fit (aj,ak,an,ao,ah,aq,ai,ar) (t1,t2,t3,t4,t5):=⟨cI dI,by have:=aA gI;show t2≤ao;omega⟩
 refine l9 (l:=[(31,cD),(36,gQ),(34,cE),(37,ky),(38,kK),(35,bI)]) (ex:=fun _=>true) (wr:=fun _=>false) (pt:=fun _=>false) ⟨gp,tN,jv,zV,zT,eQ,trivial⟩ [.s 0,.s 3,.b 1003] (fun y:Int×List Pt×Nat=>[(.s 6,.s (.xs 1019 5 0 y.2.1.length)),(.s 7,.int y.1),(.b 1019,.rs ae y.2.1)]) (fun y=>(0≤y.1∧y.1≤t6)∧y.2.1.length=4 ^ (t6-y.1).toNat∧y.1<y.2.2∧tJ (aj,ak,an,ao,ah,aq,ai,ar) y.2.2 y.1 y.2.1=bC (aj,ak,an,ao,ah,aq,ai,ar) (t1,t2,t3,t4,t5,t6,t7)∧∀q∈y.2.1,ay.fit (aj,ak,an,ao,ah,aq,ai,ar) q) (fun y=>y.1.toNat) (t6,[(t1,t2,t3,t4,t5)],3) [(1019,1047)] ⟨⟨hd2.1,ZC1 _⟩,by show 1=4 ^ (t6-t6).toNat;rw [Int.sub_self];rfl,by show t6<(3:Nat);omega,rfl,fun q hq=>by rw [ZC7.1 hq];exact aae⟩ dN ?_
 rintro⟨lv,l,f⟩ ⟨⟨(FW:0≤lv),(bU:lv≤t6)⟩,(hl:l.length=4 ^ (t6-lv).toNat),(hf:lv<(f:Int)),(hr:tJ (aj,ak,an,ao,ah,aq,ai,ar) f lv l=bC (aj,ak,an,ao,ah,aq,ai,ar) (t1,t2,t3,t4,t5,t6,t7)),(T6:∀q∈l,ay.fit (aj,ak,an,ao,ah,aq,ai,ar) q)⟩
 have alq:l.length≤16:=by
  rw [hl]
  have:(t6-lv).toNat=0∨(t6-lv).toNat=1∨(t6-lv).toNat=2:=by omega
  rcases this with h |h |h<;>rw [h]<;>decide
 refine⟨fun w1=>?_,fun w2=>?_⟩
 all_goals first|refine aw ?_|refine ax ?_|exact ba|(dsimp only [cD,dv];omega)|(dsimp only [gQ,iv];omega)|(dsimp only [cE,cS];omega)|(dsimp only [ky,kQ];omega)|(dsimp only [kK,ll];omega)|(dsimp only [bI,cf];omega)|exact a8|skip
 ·have nc:decide (lv>0)=true:=w1
  obtain⟨g,rfl⟩:∃g,f=g+1:=⟨f-1,by have:=aE nc;omega⟩
  refine l9 (l:=[(31,cD),(36,gQ),(34,cE),(37,ky),(38,kK),(35,bI)]) (ex:=fun _=>true) (wr:=fun _=>false) (pt:=fun _=>false) ⟨gp,tN,jv,zV,zT,eQ,aa⟩ [.s 0,.s 3,.b 1003,.s 6,.s 7,.b 1019,.s 54,.s 55] (fun y:Nat×List Pt=>match y.1 with |0=>[(.s 8,.s (.v (.slice none 0 0))),(.s 56,.int 0)] |n+1=>[(.s 8,.s (.xs 1021 5 0 y.2.length)),(.s 56,.int ((n+1:Nat):Int)),(.b 1021,.rs ae y.2)]) (fun y=>y.1≤l.length∧y.2.length=4*y.1∧fy (aj,ak,an,ao,ah,aq,ai,ar) lv (l.drop y.1) y.2=fy (aj,ak,an,ao,ah,aq,ai,ar) lv l []) (fun y=>l.length-y.1) (0,[]) [] ⟨ZA8 _,rfl,rfl⟩ dN ?_
  rintro⟨i,acc⟩ ⟨(hi:i≤l.length),(ach:acc.length=4*i),(hs:fy (aj,ak,an,ao,ah,aq,ai,ar) lv (l.drop i) acc=fy (aj,ak,an,ao,ah,aq,ai,ar) lv l [])⟩
  have cr:decide ((i:Int)<(l.length:Int))=true→i<l.length:=fun h=>by have:=aE h;omega
  have cP:i<l.length→l.drop i=nth ae l i::l.drop (i+1):=fun h=>bZ (ek:=ae) h
  have hft:i<l.length→ay.fit (aj,ak,an,ao,ah,aq,ai,ar) (nth ae l i):=fun h=>T6 _ (bT (ek:=ae) h)
  have hfb:i<l.length→qz (aj,ak,an,ao,ah,aq,ai,ar) (nth ae l i) lv=(bh (aj,ak,an,ao,ah,aq,ai,ar) (nth ae l i) lv).2∧(qz (aj,ak,an,ao,ah,aq,ai,ar) (nth ae l i) lv=true→xy (aj,ak,an,ao,ah,aq,ai,ar) (nth ae l i)=(bh (aj,ak,an,ao,ah,aq,ai,ar) (nth ae l i) lv).1):=fun h=>acn (hft h).ok (fun _=>(hft h).b)
  have iD:i<l.length→(!(qz (aj,ak,an,ao,ah,aq,ai,ar) (nth ae l i) lv))=true→false=oI (aj,ak,an,ao,ah,aq,ai,ar) (t1,t2,t3,t4,t5,t6,t7):=fun h h2=>by
   rw [(hfb h).1] at h2
   have e:fy (aj,ak,an,ao,ah,aq,ai,ar) lv l []=none:=by rw [←hs,cP h,OA (s:=(aj,ak,an,ao,ah,aq,ai,ar)) (lv:=lv) (p:=nth ae l i) h2]
   exact (ZR hB (by rw [←hr,IF nc e];rfl)).symm
  have hgo:i<l.length→(!(qz (aj,ak,an,ao,ah,aq,ai,ar) (nth ae l i) lv))=false→(xy (aj,ak,an,ao,ah,aq,ai,ar) (nth ae l i)).length=4∧fy (aj,ak,an,ao,ah,aq,ai,ar) lv (l.drop (i+1)) (acc++xy (aj,ak,an,ao,ah,aq,ai,ar) (nth ae l i))=fy (aj,ak,an,ao,ah,aq,ai,ar) lv l []:=fun h h2=>by
   have e:=(hfb h).2 (cI h2)
   have h3:=h2
   rw [(hfb h).1] at h3
   rw [e]
   exact⟨(iI (aj,ak,an,ao,ah,aq,ai,ar) (nth ae l i) lv).2 (cI h3),by rw [←hs,cP h,N9 (s:=(aj,ak,an,ao,ah,aq,ai,ar)) (lv:=lv) (p:=nth ae l i) h3]⟩
  have zk:0<l.length:=by rw [hl];exact Nat.pow_pos (by decide)
  cases i with
  |zero=>
   have ha0:acc=[]:=ZD4.1 (by rw [ach])
   subst ha0
   refine⟨fun w1=>⟨⟨?_,?_⟩,?_,⟨⟨aa,⟨aa,aa,aa,aa,aa,aa⟩,aa,aa⟩,?_,?_⟩,fun |false=>fun w2=>⟨fun w3=>?_,fun w4=>⟨⟨⟨?_,?_⟩,aa⟩,⟨?_,?_⟩,?_⟩⟩ |true=>fun w5=>⟨fun w6=>?_,fun w7=>⟨⟨⟨?_,?_⟩,?_,?_⟩,⟨?_,?_⟩,?_⟩⟩⟩,fun w8=>⟨⟨?_,?_⟩,?_⟩⟩
   all_goals first|refine aw ?_|refine ax ?_|exact ba|(dsimp only [cD,dv];omega)|(dsimp only [gQ,iv];omega)|(dsimp only [cE,cS];omega)|(dsimp only [ky,kQ];omega)|(dsimp only [kK,ll];omega)|(dsimp only [bI,cf];omega)|exact a8|exact dG|exact (hft (cr w1)).ok|exact absurd ((show qz (aj,ak,an,ao,ah,aq,ai,ar) (nth ae l 0) lv=true→false=true from w2) (cI w4)) (by decide)|(show 0<(xy (aj,ak,an,ao,ah,aq,ai,ar) (nth ae l 0)).length;rw [(hgo (cr w1) w7).1];decide)|(show (xy (aj,ak,an,ao,ah,aq,ai,ar) (nth ae l 0)).length≤1048576;rw [(hgo (cr w1) w7).1];decide)|(exfalso;have h9:¬((0:Int)<(l.length:Int)):=aA w8;omega)|skip
   ·refine⟨[],[],_,_,_,rfl,az,false,1,(iD (cr w1) w3),?_,?_,rfl⟩
    ·(show _=bV (aj,ak,an,ao,ah,aq,ai,ar) (t1,t2,t3,t4,t5,t6,t7) false);unfold bV;first|(rw [rfl];rfl)|rfl
    ·(show _=cq (aj,ak,an,ao,ah,aq,ai,ar) (t1,t2,t3,t4,t5,t6,t7) false);unfold cq;first|(rw [rfl];rfl)|rfl
   ·refine⟨[],[],_,_,_,rfl,az,false,1,(iD (cr w1) w6),?_,?_,rfl⟩
    ·(show _=bV (aj,ak,an,ao,ah,aq,ai,ar) (t1,t2,t3,t4,t5,t6,t7) false);unfold bV;first|(rw [rfl];rfl)|rfl
    ·(show _=cq (aj,ak,an,ao,ah,aq,ai,ar) (t1,t2,t3,t4,t5,t6,t7) false);unfold cq;first|(rw [rfl];rfl)|rfl
   ·refine⟨(1,xy (aj,ak,an,ao,ah,aq,ai,ar) (nth ae l 0)),[(1021,1071)],?_,?_,?_⟩
    rotate_right
    ·exact bX
    ·exact⟨zk,by show (xy (aj,ak,an,ao,ah,aq,ai,ar) (nth ae l 0)).length=4*1;rw [(hgo (cr w1) w7).1],(hgo (cr w1) w7).2⟩
    ·show l.length-1<l.length-0;omega
  |succ i=>
   refine⟨fun w1=>⟨⟨?_,?_⟩,?_,⟨⟨aa,⟨aa,aa,aa,aa,aa,aa⟩,aa,aa⟩,?_,?_⟩,fun |false=>fun w2=>⟨fun w3=>?_,fun w4=>⟨⟨⟨?_,?_⟩,aa⟩,⟨?_,?_⟩,?_⟩⟩ |true=>fun w5=>⟨fun w6=>?_,fun w7=>⟨⟨⟨?_,?_⟩,?_,?_⟩,⟨?_,?_⟩,?_⟩⟩⟩,fun w8=>⟨⟨?_,?_⟩,?_⟩⟩
   all_goals first|refine aw ?_|refine ax ?_|exact ba|(dsimp only [cD,dv];omega)|(dsimp only [gQ,iv];omega)|(dsimp only [cE,cS];omega)|(dsimp only [ky,kQ];omega)|(dsimp only [kK,ll];omega)|(dsimp only [bI,cf];omega)|exact a8|exact dG|exact (hft (cr w1)).ok|exact absurd ((show qz (aj,ak,an,ao,ah,aq,ai,ar) (nth ae l (i+1)) lv=true→false=true from w2) (cI w4)) (by decide)|(show acc.length+(xy (aj,ak,an,ao,ah,aq,ai,ar) (nth ae l (i+1))).length≤1048576;rw [(hgo (cr w1) w7).1,ach];omega)|skip
   ·refine⟨[],[],_,_,_,rfl,az,false,1,(iD (cr w1) w3),?_,?_,rfl⟩
    ·(show _=bV (aj,ak,an,ao,ah,aq,ai,ar) (t1,t2,t3,t4,t5,t6,t7) false);unfold bV;first|(rw [rfl];rfl)|rfl
    ·(show _=cq (aj,ak,an,ao,ah,aq,ai,ar) (t1,t2,t3,t4,t5,t6,t7) false);unfold cq;first|(rw [rfl];rfl)|rfl
   ·refine⟨[],[],_,_,_,rfl,az,false,1,(iD (cr w1) w6),?_,?_,rfl⟩
    ·(show _=bV (aj,ak,an,ao,ah,aq,ai,ar) (t1,t2,t3,t4,t5,t6,t7) false);unfold bV;first|(rw [rfl];rfl)|rfl
    ·(show _=cq (aj,ak,an,ao,ah,aq,ai,ar) (t1,t2,t3,t4,t5,t6,t7) false);unfold cq;first|(rw [rfl];rfl)|rfl
   ·refine⟨(i+2,acc++xy (aj,ak,an,ao,ah,aq,ai,ar) (nth ae l (i+1))),[(1021,1071)],?_,?_,?_⟩
    rotate_right
    ·exact bX
    ·exact⟨cr w1,by show List.length (_++_)=4*(i+2);rw [ZA0,(hgo (cr w1) w7).1,ach];omega,(hgo (cr w1) w7).2⟩
    ·show l.length-(i+2)<l.length-(i+1);have:=cr w1;omega
   ·have FX:¬i+1<l.length:=by have:=aA (p:=((i+1:Nat):Int)<(l.length:Int)) w8;omega
    have e:fy (aj,ak,an,ao,ah,aq,ai,ar) lv l []=some acc:=by rw [←hs,ZB4 (by omega)];rfl
    have h1:lv>0:=aE nc
    refine⟨(lv-1,acc,g),[(1019,1021)],?_,?_,?_⟩
    rotate_right
    ·exact bX
    ·refine⟨⟨by show 0≤lv-1;omega,by show lv-1≤t6;omega⟩,?_,by show lv-1<(g:Int);omega,by rw [←hr,CN nc e],QZ h0 T6 (fun q hq=>by cases hq) e⟩
     show acc.length=4 ^ (t6-(lv-1)).toNat
     rw [r8 e,hl,show (t6-(lv-1)).toNat=(t6-lv).toNat+1 by omega,Nat.pow_succ]
     show 0+4*_=_;omega
    ·show (lv-1).toNat<lv.toNat;omega
 ·refine l9 (l:=[(31,cD),(36,gQ),(34,cE),(37,ky),(38,kK),(35,bI)]) (ex:=fun _=>true) (wr:=fun _=>false) (pt:=fun _=>false) ⟨gp,tN,jv,zV,zT,eQ,aa⟩ [.s 0,.s 3,.b 1003,.s 6,.b 1019,.s 74,.s 75] (fun i:Nat=>[(.s 76,.int i)]) (fun i=>i≤l.length∧kb (aj,ak,an,ao,ah,aq,ai,ar) t7 i (l.drop i)=kb (aj,ak,an,ao,ah,aq,ai,ar) t7 0 l) (fun i=>l.length-i) 0 [] ⟨ZA8 _,rfl⟩ dN ?_
  rintro i ⟨(hi:i≤l.length),(hs:kb (aj,ak,an,ao,ah,aq,ai,ar) t7 i (l.drop i)=kb (aj,ak,an,ao,ah,aq,ai,ar) t7 0 l)⟩
  have cr:decide ((i:Int)<(l.length:Int))=true→i<l.length:=fun h=>by have:=aE h;omega
  have cP:i<l.length→l.drop i=nth ae l i::l.drop (i+1):=fun h=>bZ (ek:=ae) h
  have hft:i<l.length→ay.fit (aj,ak,an,ao,ah,aq,ai,ar) (nth ae l i):=fun h=>T6 _ (bT (ek:=ae) h)
  have alm:lv=0:=by have:=aA (p:=lv>0) w2;omega
  have hE:bC (aj,ak,an,ao,ah,aq,ai,ar) (t1,t2,t3,t4,t5,t6,t7)=(l,true):=by
   rw [←hr]
   cases f with
   |zero=>rfl
   |succ g=>exact vD w2
  have hM:oI (aj,ak,an,ao,ah,aq,ai,ar) (t1,t2,t3,t4,t5,t6,t7)=kb (aj,ak,an,ao,ah,aq,ai,ar) t7 0 l:=by rw [ZQ hB (by rw [hE];rfl),hE]
  have hlm:t7≤(l.length:Int):=by
   have h1:=TE (n:=t7) (d:=l.length) aeB (by rw [hl,alm,Int.sub_zero,hdp])
   have:=(cz.1 aeB).1;omega
  have h70:=(cz.1 aeB).1
  have iD:i<l.length→au (nth ae l i)=false→rr (aj,ak,an,ao,ah,aq,ai,ar) t7 i (nth ae l i)=true→false=oI (aj,ak,an,ao,ah,aq,ai,ar) (t1,t2,t3,t4,t5,t6,t7):=fun h h2 h3=>by rw [hM,←hs,cP h,wR (s:=(aj,ak,an,ao,ah,aq,ai,ar)) (p:=nth ae l i) h2 h3]
  have hnh:(!(bH (aj,ak,an,ao,ah,aq,ai,ar) (nth ae l i)).2)=true→au (nth ae l i)=false:=fun h=>by
   cases hh:au (nth ae l i) with
   |false=>rfl
   |true=>rw [fT hh] at h;cases h
  have hnl:decide ((nth ae l i).2.2.2.2≠0)=true→au (nth ae l i)=false:=fun h=>by
   cases hh:au (nth ae l i) with
   |false=>rfl
   |true=>exact absurd (XX hh) (aE (p:=¬(nth ae l i).2.2.2.2=0) h)
  refine⟨fun w1=>⟨⟨?_,?_⟩,?_,⟨⟨aa,⟨aa,aa,aa,aa,aa,aa⟩,aa⟩,fun x2 w3=>?_,?_,?_⟩,fun x4 w5=>⟨aa,fun w6=>?_,fun w7=>⟨aa,fun w8=>?_,fun w9=>⟨aa,fun dq=>⟨⟨⟨⟨aa,aa,aa,aa,aa,aa⟩,aa⟩,aa⟩,fun kE dI=>⟨fun iJ=>?_,fun gI=>⟨⟨?_,?_⟩,?_⟩⟩⟩,fun pe=>⟨⟨?_,?_⟩,?_⟩⟩⟩⟩⟩,fun kj=>⟨⟨?_,?_,?_,?_⟩,?_⟩⟩
  all_goals first|refine aw ?_|refine ax ?_|exact ba|(dsimp only [cD,dv];omega)|(dsimp only [gQ,iv];omega)|(dsimp only [cE,cS];omega)|(dsimp only [ky,kQ];omega)|(dsimp only [kK,ll];omega)|(dsimp only [bI,cf];omega)|exact a8|exact dG.2|exact dG.1|exact (hft (cr w1)).ok|exact dG.2 _ (by assumption)|exact h70|exact hlm|skip
  ·refine⟨[],[],_,_,_,rfl,az,false,1,(iD (cr w1) (hnh w6) (Z5 (s:=(aj,ak,an,ao,ah,aq,ai,ar)) w6)),?_,?_,rfl⟩
   ·(show _=bV (aj,ak,an,ao,ah,aq,ai,ar) (t1,t2,t3,t4,t5,t6,t7) false);unfold bV;first|(rw [rfl];rfl)|rfl
   ·(show _=cq (aj,ak,an,ao,ah,aq,ai,ar) (t1,t2,t3,t4,t5,t6,t7) false);unfold cq;first|(rw [rfl];rfl)|rfl
  ·refine⟨[],[],_,_,_,rfl,az,false,1,(iD (cr w1) (hnl w8) (Z4 (s:=(aj,ak,an,ao,ah,aq,ai,ar)) w8)),?_,?_,rfl⟩
   ·(show _=bV (aj,ak,an,ao,ah,aq,ai,ar) (t1,t2,t3,t4,t5,t6,t7) false);unfold bV;first|(rw [rfl];rfl)|rfl
   ·(show _=cq (aj,ak,an,ao,ah,aq,ai,ar) (t1,t2,t3,t4,t5,t6,t7) false);unfold cq;first|(rw [rfl];rfl)|rfl
  ·refine⟨[],[],_,_,_,rfl,az,false,1,(iD (cr w1) (rm iJ) (Z2 (s:=(aj,ak,an,ao,ah,aq,ai,ar)) dq)),?_,?_,rfl⟩
   ·(show _=bV (aj,ak,an,ao,ah,aq,ai,ar) (t1,t2,t3,t4,t5,t6,t7) false);unfold bV;first|(rw [rfl];rfl)|rfl
   ·(show _=cq (aj,ak,an,ao,ah,aq,ai,ar) (t1,t2,t3,t4,t5,t6,t7) false);unfold cq;first|(rw [rfl];rfl)|rfl
  ·refine⟨(i+1),[],?_,?_,?_⟩
   rotate_right
   ·exact bX
   ·exact⟨cr w1,by rw [←hs,cP (cr w1),FP (s:=(aj,ak,an,ao,ah,aq,ai,ar)) (p:=nth ae l i) (cI gI)];rfl⟩
   ·show l.length-(i+1)<l.length-i;have:=cr w1;omega
  ·refine⟨(i+1),[],?_,?_,?_⟩
   rotate_right
   ·exact bX
   ·refine⟨cr w1,?_⟩
    rw [←hs,cP (cr w1)]
    cases hh:au (nth ae l i) with
    |true=>rw [FP (s:=(aj,ak,an,ao,ah,aq,ai,ar)) (p:=nth ae l i) hh];rfl
    |false=>rw [PD (s:=(aj,ak,an,ao,ah,aq,ai,ar)) (p:=nth ae l i) hh (PE (s:=(aj,ak,an,ao,ah,aq,ai,ar)) w7 w9 (decide_eq_false (by have:=(hft (cr w1)).b;omega)) pe)];rfl
   ·show l.length-(i+1)<l.length-i;have:=cr w1;omega
  ·have FX:¬i<l.length:=by have:=aA (p:=(i:Int)<(l.length:Int)) kj;omega
   have e:oI (aj,ak,an,ao,ah,aq,ai,ar) (t1,t2,t3,t4,t5,t6,t7)=true:=by rw [hM,←hs,ZB4 (by omega)];rfl
   have e2:(bC (aj,ak,an,ao,ah,aq,ai,ar) (t1,t2,t3,t4,t5,t6,t7)).1=l:=by rw [hE]
   refine⟨[1019],[],_,_,_,rfl,az,true,0,(show true=oI (aj,ak,an,ao,ah,aq,ai,ar) (t1,t2,t3,t4,t5,t6,t7) from e.symm),?_,?_,rfl⟩
   ·(show _=bV (aj,ak,an,ao,ah,aq,ai,ar) (t1,t2,t3,t4,t5,t6,t7) true);unfold bV;first|(rw [e2];rfl)|rfl
   ·(show _=cq (aj,ak,an,ao,ah,aq,ai,ar) (t1,t2,t3,t4,t5,t6,t7) true);unfold cq;first|(rw [e2];rfl)|rfl
end GL
namespace GL
section
variable {n l:Int}{k:Nat}
theorem ai2 (h:(!(iC n 0 900))=true):K0 n l k=false:=decide_eq_false (by rw [ZF9,I6] at h;omega)
theorem ai1 (h:(!(iC l n 900))=true):K0 n l k=false:=decide_eq_false (by rw [ZF9,I6] at h;omega)
theorem agY (h:decide (n>0)=true) (h2:decide ((k:Int)<8)=true):K0 n l k=false:=decide_eq_false (by have:=aE h;have:=aE h2;omega)
theorem acU (h:(!(iC n 0 900))=false) (h2:(!(iC l n 900))=false) (h3:decide (n=0)=false∨decide (l≠0)=false) (h4:decide (n>0)=false∨decide ((k:Int)<8)=false):K0 n l k=true:=decide_eq_true (by
 have a1:=cz.1 (cI h);have a2:=cz.1 (cI h2)
 refine⟨by omega,?_,?_⟩
 ·rcases h3 with h3 |h3
  ·have:=aA h3;omega
  ·have:=aA h3;omega
 ·rcases h4 with h4 |h4
  ·have:=aA h4;omega
  ·have:=aA h4;omega)
end
def lV (sp:List Int×List Int):Prop:=True
def cJ (sp:List Int×List Int):AV:=.s (.q (rK sp))
def SJ (sp:List Int×List Int):List AV:=[]
def kY:Con where
 A:=[.a [.vz ag,.vz ag]]
 B:=[]
 pre:=fun x b=>lV x
 α:=fun _ _=>Unit
 φ:=fun _ _ _=>True
 r:=fun x b _=>cJ x
 o:=fun x b _=>SJ x
 nf:=0
set_option maxRecDepth 100000 in
theorem yQ:Has Tryz.prog 30 kY:=by
 refine Has.ofEI (fun _=>true) (fun _=>false) (fun _=>false) (l:=[(31,cD)]) ⟨gp,trivial⟩ (fn:=Tryz.f30) Tryz.func30 rfl (by decide) (aZ rfl) ?_
 rintro⟨(dB:List Int),(eK:List Int)⟩ _ (hp:lV (dB,eK))
 show vc _ _ _ _ (entry [.a [.vz ag dB,.vz ag eK]] []) _
 refine⟨aa,fun w1=>?_,fun w2=>⟨fun w3=>?_,fun w4=>?_⟩⟩
 all_goals first|refine aw ?_|refine ax ?_|exact ba|(dsimp only [cD,dv];omega)|exact a8|skip
 ·refine⟨[],[],_,_,_,rfl,az,(),aa,?_,?_,rfl⟩
  ·(show _=cJ (dB,eK));unfold cJ;first|(rw [OC (p:=(dB,eK)) w1];rfl)|rfl
  ·rfl
 ·refine⟨[],[],_,_,_,rfl,az,(),aa,?_,?_,rfl⟩
  ·(show _=cJ (dB,eK));unfold cJ;first|(rw [OB (p:=(dB,eK)) w3];rfl)|rfl
  ·rfl
 ·have l1:dB.length=64:=by have:=aA w2;omega
  have l2:eK.length=64:=by have:=aA w4;omega
  have hE:=VH (p:=(dB,eK)) w2 w4
  refine l9 (l:=[(31,cD)]) (ex:=fun _=>true) (wr:=fun _=>false) (pt:=fun _=>false) ⟨gp,trivial⟩ [.s 1,.b 1001,.s 17,.s 18] (fun i:Nat=>[(.s 19,.int i)]) (fun i=>i≤64∧∀j,j<i→xF dB eK j=true) (fun i=>64-i) 0 [] ⟨ZA8 _,fun j hj=>absurd hj (by omega)⟩ dN ?_
  rintro i ⟨(hi:i≤64),hj⟩
  have cr:decide ((i:Int)<(dB.length:Int))=true→i<64:=fun h=>by have:=aE h;omega
  have bU:∀l:List Int,l.length=64→decide ((i:Int)<(dB.length:Int))=true→(i:Int)<(l.length:Int):=fun l hl h=>by rw [hl,←l1];exact aE h
  have iD:i<64→xF dB eK i=false→rK (dB,eK)=false:=fun h h2=>by rw [hE];exact UN h h2
  have hgo:xF dB eK i=true→∀j,j<i+1→xF dB eK j=true:=fun h j yU=>by
   by_cases e:j=i
   ·rw [e];exact h
   ·exact hj j (by omega)
  refine⟨fun w1=>⟨⟨?_,?_⟩,⟨?_,?_⟩,⟨⟨aa,aa,aa,aa⟩,aa⟩,fun x2 w3=>⟨aa,fun w4=>?_,fun w5=>⟨⟨⟨aa,aa,aa,aa⟩,aa⟩,fun x6 w7=>⟨aa,fun w8=>?_,fun w9=>⟨aa,fun dq=>⟨aa,fun kk=>?_,fun dI=>⟨aa,fun iJ=>⟨fun gI=>?_,fun pe=>⟨⟨?_,?_⟩,?_⟩⟩,fun kj=>⟨⟨?_,?_⟩,?_⟩⟩⟩,fun wC=>⟨aa,fun qX=>⟨fun oB=>?_,fun uw=>⟨⟨?_,?_⟩,?_⟩⟩,fun zm=>⟨⟨?_,?_⟩,?_⟩⟩⟩⟩⟩⟩⟩,fun zl=>?_⟩
  all_goals first|refine aw ?_|refine ax ?_|exact ba|(dsimp only [cD,dv];omega)|exact a8|exact bU _ l1 w1|exact bU _ l2 w1|skip
  ·refine⟨[],[],_,_,_,rfl,az,(),aa,?_,?_,rfl⟩
   ·(show _=cJ (dB,eK));unfold cJ;first|(rw [iD (cr w1) (ai2 w4)];rfl)|rfl
   ·rfl
  ·refine⟨[],[],_,_,_,rfl,az,(),aa,?_,?_,rfl⟩
   ·(show _=cJ (dB,eK));unfold cJ;first|(rw [iD (cr w1) (ai1 w8)];rfl)|rfl
   ·rfl
  ·refine⟨[],[],_,_,_,rfl,az,(),aa,?_,?_,rfl⟩
   ·(show _=cJ (dB,eK));unfold cJ;first|(rw [iD (cr w1) (ag0 dq kk)];rfl)|rfl
   ·rfl
  ·refine⟨[],[],_,_,_,rfl,az,(),aa,?_,?_,rfl⟩
   ·(show _=cJ (dB,eK));unfold cJ;first|(rw [iD (cr w1) (agY iJ gI)];rfl)|rfl
   ·rfl
  ·refine⟨(i+1),[],?_,?_,?_⟩
   rotate_right
   ·exact bX
   ·exact⟨cr w1,hgo (acU w5 w9 (.inr dI) (.inl kj))⟩
   ·show 64-(i+1)<64-i;have:=cr w1;omega
  ·refine⟨[],[],_,_,_,rfl,az,(),aa,?_,?_,rfl⟩
   ·(show _=cJ (dB,eK));unfold cJ;first|(rw [iD (cr w1) (agY qX oB)];rfl)|rfl
   ·rfl
  ·refine⟨(i+1),[],?_,?_,?_⟩
   rotate_right
   ·exact bX
   ·exact⟨cr w1,hgo (acU w5 w9 (.inl wC) (.inr uw))⟩
   ·show 64-(i+1)<64-i;have:=cr w1;omega
  ·refine⟨(i+1),[],?_,?_,?_⟩
   rotate_right
   ·exact bX
   ·exact⟨cr w1,hgo (acU w5 w9 (.inl wC) (.inl zm))⟩
   ·show 64-(i+1)<64-i;have:=cr w1;omega
  ·have e:rK (dB,eK)=true:=by rw [hE];exact NJ fun j yU=>hj j (by have:=aA zl;omega)
   refine⟨[],[],_,_,_,rfl,az,(),aa,?_,?_,rfl⟩
   ·(show _=cJ (dB,eK));unfold cJ;first|(rw [e];rfl)|rfl
   ·rfl
end GL
namespace GL
def vq (l:List Int):Prop:=0<l.length∧l.length≤1000000
def ac9 (l:List Int) (z:Int):Prop:=(∀j,j<l.length→nth ag l j≤z)∧∃j,j<l.length∧nth ag l j=z
def G6 (l:List Int) (z:Int):AV:=.int z
def OZ (l:List Int) (z:Int):List AV:=[]
def ze:Con where
 A:=[.s (.vz ag)]
 B:=[]
 pre:=fun x b=>vq x
 α:=fun _ _=>Int
 φ:=fun x b z=>ac9 x z
 r:=fun x b z=>G6 x z
 o:=fun x b z=>OZ x z
 nf:=0
set_option maxRecDepth 100000 in
theorem XP:Has Tryz.prog 32 ze:=by
 refine Has.ofZI (fun _=>true) (fun _=>false) (fun _=>false) (l:=[]) trivial (fn:=Tryz.f32) Tryz.func32 rfl (by decide) (aZ rfl) ?_
 rintro (l:List Int) _ (hp:vq l)
 show vc _ _ _ _ (entry [.s (.vz ag l)] []) _
 obtain⟨(h0:0<l.length),(h1:l.length≤1000000)⟩:=hp
 refine⟨fun w1=>?_,fun w2=>⟨⟨?_,?_⟩,?_⟩⟩
 all_goals first|(exfalso;simp only [decide_eq_true_eq,decide_eq_false_iff_not] at *;omega)|refine aw ?_|refine ax ?_|exact ba|exact a8|skip
 refine l9 (l:=[]) (ex:=fun _=>true) (wr:=fun _=>false) (pt:=fun _=>false) trivial [.s 0] (fun y:Nat×Int=>[(.s 3,.int y.2),(.s 4,.int ((y.1+1:Nat):Int))]) (fun y=>y.1+1≤l.length∧(∀j,j<y.1+1→nth ag l j≤y.2)∧∃j,j<y.1+1∧nth ag l j=y.2) (fun y=>l.length-y.1) (0,nth ag l 0) [] ⟨h0,fun j hj=>by rw [show j=0 by omega];exact ZC1 _,0,by omega,rfl⟩ dN ?_
 rintro⟨i,m⟩ ⟨(hi:i+1≤l.length),hj,hx⟩
 refine⟨fun w1=>⟨⟨?_,?_⟩,⟨⟨?_,?_⟩,?_⟩⟩,fun w2=>?_⟩
 all_goals first|refine aw ?_|refine ax ?_|exact ba|exact a8|skip
 ·have bU:i+1<l.length:=by have:=aE w1;simp only [] at this;omega
  refine⟨(i+1,max m (nth ag l (i+1))),[],?_,?_,?_⟩
  rotate_right
  ·exact bX
  ·refine⟨bU,fun j yU=>?_,?_⟩
   ·by_cases e:j=i+1
    ·rw [e];exact Int.le_max_right _ _
    ·exact ZE1 (hj j (by omega)) (Int.le_max_left _ _)
   ·obtain⟨j,h2,h3⟩:=hx
    by_cases e:nth ag l (i+1)≤m
    ·exact⟨j,by omega,by rw [h3];exact (Int.max_eq_left e).symm⟩
    ·exact⟨i+1,by omega,(Int.max_eq_right (by have:=Int.not_le.1 e;exact Int.le_of_lt this)).symm⟩
  ·show l.length-(i+1)<l.length-i;omega
 ·have FX:¬(i+1<l.length):=by have:=aA w2;simp only [] at this;omega
  obtain⟨j,h2,h3⟩:=hx
  refine⟨[],[],_,_,_,rfl,az,m,0,(⟨fun j yU=>hj j (by omega),j,by omega,h3⟩),?_,?_,rfl⟩
  ·(show _=G6 l m);unfold G6;first|(rw [rfl];rfl)|rfl
  ·(show _=OZ l m);unfold OZ;first|(rw [rfl];rfl)|rfl
def fk (s:ay) (iy:Int) (p:Pt):Bool:=a6 p&&(!(au p)&&(!(decide (p.2.1>iy))&& !(decide (nth ag s.refs p.1.toNat=(0:Int)))))
section
variable {s:ay}{iy:Int}{p:Pt}
theorem ahN (h:(!(a6 p))=true):fk s iy p=false:=by unfold fk;rw [rm h];rfl
theorem ahM (h:au p=true):fk s iy p=false:=by unfold fk;rw [h];cases a6 p<;>rfl
theorem ahL (h:decide (p.2.1>iy)=true):fk s iy p=false:=by unfold fk;rw [h];cases a6 p<;>cases au p<;>rfl
theorem ahK (h:decide (nth ag s.refs p.1.toNat=(0:Int))=true):fk s iy p=false:=by unfold fk;rw [h];cases a6 p<;>cases au p<;>cases decide (p.2.1>iy)<;>rfl
theorem ahH (h:(!(a6 p))=false) (h2:au p=false) (h3:decide (p.2.1>iy)=false) (h4:decide (nth ag s.refs p.1.toNat=(0:Int))=false):fk s iy p=true:=by unfold fk;rw [cI h,h2,h3,h4];rfl
end
theorem N6 {l:List Pt}{n:Nat}(h:n<l.length):l.take (n+1)=l.take n++[nth ae l n]:=by
 rw [List.take_succ,oK (ek:=ae) h];rfl
def so (l:List Pt) (iy:Int) (S:ay) (o:List Int):Prop:=o.length=64∧S.refs.length=64∧l.length≤1000000∧∀r,(0:Int)≤nth ag o r∧nth ag o r≤(1000000:Int)
def L2 (l:List Pt) (iy:Int) (S:ay) (o:List Int) (z:List Int):Prop:=z.length=64∧(∀r,(0:Int)≤nth ag z r∧nth ag z r≤(nth ag o r+(l.length:Int):Int))∧(l.all (fk S iy)=true→∀r,nth ag z r=(nth ag o r+(bq l r:Int):Int))
def gV (l:List Pt) (iy:Int) (S:ay) (o:List Int) (z:List Int):AV:=.q (l.all (fk S iy))
def ju (l:List Pt) (iy:Int) (S:ay) (o:List Int) (z:List Int):List AV:=[.a [.xs 1 1 0 o.length],.rs ag z]
def uj:Con where
 A:=[.s (.vz ae),.s .int,.vs xE,.b 0]
 B:=[.a [.xb 1 ag],.r ag]
 pre:=fun x b=>U8 (b.1) (b.2)∧so (x.1) (x.2.1) (x.2.2.1) (b.2)
 α:=fun _ _=>List Int
 φ:=fun x b z=>L2 (x.1) (x.2.1) (x.2.2.1) (b.2) z
 r:=fun x b z=>gV (x.1) (x.2.1) (x.2.2.1) (b.2) z
 o:=fun x b z=>ju (x.1) (x.2.1) (x.2.2.1) (b.2) z
 nf:=0
set_option maxRecDepth 100000 in
theorem PT:Has Tryz.prog 33 uj:=by
 refine Has.ofZI (fun _=>true) (fun _=>false) (fun _=>false) (l:=[(34,cE),(35,bI)]) ⟨jv,eQ,trivial⟩ (fn:=Tryz.f33) Tryz.func33 rfl (by decide) (aZ rfl) ?_
 rintro⟨(l:List Pt),(iy:Int),⟨(aj:List ByteArray),(ak:List Int),(an:List Int),(ao:Int),(ah:List Pt),(aq:Int),(ai:List Pt),(ar:Bool)⟩,_⟩ ⟨(om:Nat),(o:List Int)⟩ ⟨(ak3:om=List.length o),(hp:so l iy (aj,ak,an,ao,ah,aq,ai,ar) o)⟩
 subst ak3
 show vc _ _ _ _ (entry [.s (.vz ae l),.int iy,.s (.vs [.vz ab aj,.vz ag ak,.vz ag an,.v (.int .i64 ao),.vz ae ah,.v (.int .i64 aq),.vz ae ai,.q ar] 0),.s (.bp 0 0)] [.a [.xs 1 1 0 o.length],.rs ag o]) _
 obtain⟨(ho:List.length o=64),(hrf:ak.length=64),(hl:l.length≤1000000),hb⟩:=hp
 refine ?_
 all_goals first|refine aw ?_|refine ax ?_|exact ba|(dsimp only [cE,cS];omega)|(dsimp only [bI,cf];omega)|exact a8|skip
 refine l9 (l:=[(34,cE),(35,bI)]) (ex:=fun _=>true) (wr:=fun _=>false) (pt:=fun _=>false) ⟨jv,eQ,aa⟩ [.s 1,.s 2,.s 3,.s 9,.s 10,.b 0] (fun y:Nat×List Int=>[(.s 11,.int y.1),(.b 1,.rs ag y.2)]) (fun y=>y.1≤l.length∧y.2.length=64∧(∀r,nth ag y.2 r=(nth ag o r+(bq (l.take y.1) r:Int):Int))∧(l.take y.1).all (fk (aj,ak,an,ao,ah,aq,ai,ar) iy)=true) (fun y=>l.length-y.1) (0,o) [] ⟨ZA8 _,ho,fun r=>(Int.add_zero _).symm,rfl⟩ dN ?_
 rintro⟨i,z⟩ ⟨(hi:i≤l.length),(hz:z.length=64),(hc:∀r,nth ag z r=(nth ag o r+(bq (l.take i) r:Int):Int)),(ha:(l.take i).all (fk (aj,ak,an,ao,ah,aq,ai,ar) iy)=true)⟩
 have cr:decide ((i:Int)<(l.length:Int))=true→i<l.length:=fun h=>by have:=aE h;omega
 have hq:(!(a6 (nth ae l i)))=false→0≤(nth ae l i).1∧(nth ae l i).1<64:=fun h=>n0 (cI h)
 have hci:∀r,bq (l.take i) r≤i:=fun r=>ZB1 List.countP_le_length (by rw [ZB8];omega)
 have hzb:∀r,(0:Int)≤nth ag z r∧nth ag z r≤(nth ag o r+(l.length:Int):Int)∧nth ag z r≤(2000000:Int):=fun r=>by
  have h1:=hb r;have h2:=hci r
  rw [hc r]
  refine⟨?_,?_,?_⟩
  ·show (0:Int)≤nth ag o r+(bq (l.take i) r:Int);have h3:(0:Int)≤nth ag o r:=h1.1;omega
  ·exact Int.add_le_add_left (by omega:((bq (l.take i) r:Nat):Int)≤(l.length:Int)) _
  ·exact ZE1 (Int.add_le_add h1.2 (by omega:((bq (l.take i) r:Nat):Int)≤1000000)) (by decide)
 have iD:i<l.length→fk (aj,ak,an,ao,ah,aq,ai,ar) iy (nth ae l i)=false→l.all (fk (aj,ak,an,ao,ah,aq,ai,ar) iy)=false:=fun h h2=>by
  rw [Bool.eq_false_iff];intro h3
  rw [ZC8.1 h3 _ (bT (ek:=ae) h)] at h2;cases h2
 have vK:∀b:Bool,l.all (fk (aj,ak,an,ao,ah,aq,ai,ar) iy)=b→b=false→L2 l iy (aj,ak,an,ao,ah,aq,ai,ar) o z:=fun b h h2=>⟨hz,fun r=>⟨(hzb r).1,(hzb r).2.1⟩,fun h3=>by rw [h,h2] at h3;cases h3⟩
 refine⟨fun w1=>⟨⟨?_,?_⟩,⟨⟨⟨aa,aa,aa,aa,aa,aa⟩,aa⟩,aa⟩,fun x2 w3=>⟨aa,fun w4=>?_,fun w5=>⟨⟨⟨⟨aa,aa,aa,aa,aa,aa⟩,aa⟩,aa⟩,fun x6 w7=>⟨aa,fun w8=>?_,fun w9=>⟨aa,fun dq=>?_,fun kk=>⟨⟨?_,?_⟩,fun dI=>?_,fun iJ=>⟨⟨?_,?_⟩,?_,⟨?_,?_⟩,⟨?_,?_⟩,?_,⟨?_,?_⟩,?_⟩⟩⟩⟩⟩⟩⟩,fun gI=>?_⟩
 all_goals first|refine aw ?_|refine ax ?_|exact ba|(dsimp only [cE,cS];omega)|(dsimp only [bI,cf];omega)|exact a8|exact (hq w5).1|(show _<(ak.length:Int);rw [hrf];exact (hq w5).2)|(show _<(List.length o:Int);rw [ho];exact (hq w5).2)|(show (nth ae l i).1.toNat<z.length;rw [hz];exact sA (cI w5))|(have h8:=(hzb (nth ae l i).1.toNat).1;show (-9223372036854775808:Int)≤nth ag z (nth ae l i).1.toNat+1;have h9:(0:Int)≤nth ag z (nth ae l i).1.toNat:=h8;omega)|exact ZE1 (Int.add_le_add_right (hzb (nth ae l i).1.toNat).2.2 1) (by decide)|skip
 ·have e:=iD (cr w1) (ahN w4)
  refine⟨[],[],_,_,_,rfl,az,z,0,(vK _ e rfl),?_,?_,rfl⟩
  ·(show _=gV l iy (aj,ak,an,ao,ah,aq,ai,ar) o z);unfold gV;first|(rw [e];rfl)|rfl
  ·(show _=ju l iy (aj,ak,an,ao,ah,aq,ai,ar) o z);unfold ju;first|(rw [e];rfl)|rfl
 ·have e:=iD (cr w1) (ahM w8)
  refine⟨[],[],_,_,_,rfl,az,z,0,(vK _ e rfl),?_,?_,rfl⟩
  ·(show _=gV l iy (aj,ak,an,ao,ah,aq,ai,ar) o z);unfold gV;first|(rw [e];rfl)|rfl
  ·(show _=ju l iy (aj,ak,an,ao,ah,aq,ai,ar) o z);unfold ju;first|(rw [e];rfl)|rfl
 ·have e:=iD (cr w1) (ahL dq)
  refine⟨[],[],_,_,_,rfl,az,z,0,(vK _ e rfl),?_,?_,rfl⟩
  ·(show _=gV l iy (aj,ak,an,ao,ah,aq,ai,ar) o z);unfold gV;first|(rw [e];rfl)|rfl
  ·(show _=ju l iy (aj,ak,an,ao,ah,aq,ai,ar) o z);unfold ju;first|(rw [e];rfl)|rfl
 ·have e:=iD (cr w1) (ahK (s:=(aj,ak,an,ao,ah,aq,ai,ar)) dI)
  refine⟨[],[],_,_,_,rfl,az,z,0,(vK _ e rfl),?_,?_,rfl⟩
  ·(show _=gV l iy (aj,ak,an,ao,ah,aq,ai,ar) o z);unfold gV;first|(rw [e];rfl)|rfl
  ·(show _=ju l iy (aj,ak,an,ao,ah,aq,ai,ar) o z);unfold ju;first|(rw [e];rfl)|rfl
 ·have bU:=cr w1
  have hk:(nth ae l i).1.toNat<z.length:=by rw [hz];exact sA (cI w5)
  refine⟨(i+1,z.set (nth ae l i).1.toNat (nth ag z (nth ae l i).1.toNat+1:Int)),[],?_,?_,?_⟩
  rotate_right
  ·exact bX
  ·refine⟨bU,by show (List.set _ _ _).length=64;rw [ZC3,hz],fun r=>?_,?_⟩
   ·show nth ag (List.set z _ _) r=(nth ag o r+(bq (l.take (i+1)) r:Int):Int)
    rw [N6 bU,bK]
    by_cases e:(nth ae l i).1.toNat=r
    ·subst e
     rw [nC (ek:=ag) hk,hc,rU (p:=nth ae l i) w9]
     exact Int.add_assoc _ _ _
    ·rw [ix (ek:=ag) e,hc,y9 e];rfl
   ·show (l.take (i+1)).all _=true
    rw [N6 bU,List.all_append,ha]
    show (true&&(fk (aj,ak,an,ao,ah,aq,ai,ar) iy (nth ae l i)&&true))=true
    rw [ahH (s:=(aj,ak,an,ao,ah,aq,ai,ar)) (p:=nth ae l i) w5 w9 kk iJ];rfl
  ·show l.length-(i+1)<l.length-i;omega
 ·have FX:i=l.length:=by have:=aA (p:=(i:Int)<(l.length:Int)) gI;omega
  have ht:l.take i=l:=ZD1 (by omega)
  rw [ht] at ha
  refine⟨[],[],_,_,_,rfl,az,z,0,(⟨hz,fun r=>⟨(hzb r).1,(hzb r).2.1⟩,fun _ r=>by rw [hc r,ht]⟩),?_,?_,rfl⟩
  ·(show _=gV l iy (aj,ak,an,ao,ah,aq,ai,ar) o z);unfold gV;first|(rw [ha];rfl)|rfl
  ·(show _=ju l iy (aj,ak,an,ao,ah,aq,ai,ar) o z);unfold ju;first|(rw [ha];rfl)|rfl
end GL
end Go.Proofs.YtbfgjadbfjkcdaaGreatDoor
