/- A drawn law returns true for every code (its row lists package variables, tied by the card): part 18. -/
import Derived.Test.YtkgpljpmdkflmaaGreatDoorPaq
set_option maxHeartbeats 20000000
set_option maxRecDepth 100000
set_option linter.all false
namespace Go.Proofs.YtkgpljpmdkflmaaGreatDoor
namespace GL
def bj (n:Int):Int:=bif decide (n≤1) then 0 else bif decide (n≤4) then 1 else 2
def kr (k:Int):Int:=bif decide (k=1) then 12 else bif decide (k=2) then 128 else 0
def bh (size each:Int):Int:=(size+each-1) / each
def bI (k s:Int):Int:=bif decide (kr k=0)|| !(iB s 0 (16*kr k)) then -1 else bh s (kr k)
theorem vS (k:Int):kr k=12∨kr k=128∨kr k=0:=by
 unfold kr
 cases decide (k=1)<;>cases decide (k=2)<;>simp
def ff (n:Int):Prop:=True
def u3 (n:Int):AV:=.int (bj n)
def VW (n:Int):List AV:=[]
def dD:ct where
 A:=[.s .int]
 B:=[]
 pre:=fun x b=>ff x
 r:=fun x b _=>u3 x
 o:=fun x b _=>VW x
theorem jW:Has Tryz.prog 116 dD:=by
 refine Has.fu zT zF zF (l:=[]) trivial Tryz.func116 ?_
 rintro (n:Int) _ (hp:ff n)
 show vc _ _ _ _ (entry [.int n] []) _
 refine⟨fun w1=>?_,fun w2=>⟨fun w3=>?_,fun w4=>?_⟩⟩
 all_goals first|refine aw ?_|refine ax ?_|exact a8|exact a7|skip
 all_goals
  refine⟨[],[],_,_,_,rfl,az,(),aa,?_,?_,rfl⟩
  ·(show _=u3 n);unfold u3;first|((simp only [bj, *];rfl))|rfl
  ·rfl
def vj (k:Int):Prop:=True
def va (k:Int):AV:=.int (kr k)
def V6 (k:Int):List AV:=[]
def DF:ct where
 A:=[.s .int]
 B:=[]
 pre:=fun x b=>vj x
 r:=fun x b _=>va x
 o:=fun x b _=>V6 x
theorem abI:Has Tryz.prog 208 DF:=by
 refine Has.fu zT zF zF (l:=[]) trivial Tryz.func208 ?_
 rintro (k:Int) _ (hp:vj k)
 show vc _ _ _ _ (entry [.int k] []) _
 refine⟨fun w1=>?_,fun w2=>⟨fun w3=>?_,fun w4=>?_⟩⟩
 all_goals first|refine aw ?_|refine ax ?_|exact a8|exact a7|skip
 all_goals
  refine⟨[],[],_,_,_,rfl,az,(),aa,?_,?_,rfl⟩
  ·(show _=va k);unfold va;first|((simp only [kr, *];rfl))|rfl
  ·rfl
def kl (a:Int) (b:Int):Prop:=0≤a∧a≤1000000∧0<b∧b≤1000000
def rG (a:Int) (b:Int):AV:=.int (bh a b)
def OL (a:Int) (b:Int):List AV:=[]
def lx:ct where
 A:=[.s .int,.s .int]
 B:=[]
 pre:=fun x b=>kl (x.1) (x.2)
 r:=fun x b _=>rG (x.1) (x.2)
 o:=fun x b _=>OL (x.1) (x.2)
theorem D3:Has Tryz.prog 209 lx:=by
 refine Has.fu zT zF zF (l:=[]) trivial Tryz.func209 ?_
 rintro⟨(a:Int),(b:Int)⟩ _ (hp:kl a b)
 show vc _ _ _ _ (entry [.int a,.int b] []) _
 obtain⟨h1,h2,h3,h4⟩:=hp
 refine⟨⟨?_,?_⟩,⟨⟨?_,?_⟩,⟨⟨?_,⟨?_,?_⟩⟩,?_⟩⟩⟩
 all_goals first|refine aw ?_|refine ax ?_|exact a8|exact a7|skip
 refine⟨[],[],_,_,_,rfl,az,(),aa,?_,?_,rfl⟩
 ·(show _=rG a b);unfold rG;first|rfl
 ·rfl
def qg (k:Int) (s:Int):Prop:=True
def pR (k:Int) (s:Int):AV:=.int (bI k s)
def KU (k:Int) (s:Int):List AV:=[]
def uj:ct where
 A:=[.s .int,.s .int]
 B:=[]
 pre:=fun x b=>qg (x.1) (x.2)
 r:=fun x b _=>pR (x.1) (x.2)
 o:=fun x b _=>KU (x.1) (x.2)
theorem PG:Has Tryz.prog 174 uj:=by
 refine Has.fu zT zF zF (l:=[(208,DF),(95,dE),(209,lx)]) ⟨abI,iz,D3,aa⟩ Tryz.func174 ?_
 rintro⟨(k:Int),(s:Int)⟩ _ (hp:qg k s)
 show vc _ _ _ _ (entry [.int k,.int s] []) _
 have hE:=vS k
 have hI:(!(iB s 0 (16*kr k)))=false→0≤s∧s≤2048:=fun h=>by
  have:=cD.1 (cM h)
  omega
 refine⟨⟨⟨aa,aa⟩,aa⟩,fun x1 w2=>⟨aa,fun w3=>?_,fun w4=>⟨⟨?_,?_⟩,⟨⟨aa,aa,aa,aa⟩,aa⟩,fun x5 w6=>⟨fun w7=>?_,fun w8=>⟨⟨⟨aa,aa,aa⟩,?_,?_,?_,?_⟩,fun x9 dy=>?_⟩⟩⟩⟩⟩
 all_goals first|refine aw ?_|refine ax ?_|exact a8|(dsimp only [DF,vj,lx,kl];omega)|exact a7|(have:=hI (by assumption);have:=aA (p:=kr k=0) (by assumption);dsimp only [lx,kl];omega)|skip
 all_goals
  refine⟨[],[],_,_,_,rfl,az,(),aa,?_,?_,rfl⟩
  ·(show _=pR k s);unfold pR;first|((simp only [bI, *];rfl))|rfl
  ·rfl
theorem xC (k s:Int): -1≤bI k s∧bI k s≤16:=by
 unfold bI
 cases h:decide (kr k=0)|| !(iB s 0 (16*kr k)) with
 |true=>simp
 |false=>
  simp only [ZE1,decide_eq_false_iff_not] at h
  have h2:=cD.1 (cM h.2)
  simp only [cond_false,bh]
  rcases vS k with e |e |e
  ·rw [e] at h2 ⊢;omega
  ·rw [e] at h2 ⊢;omega
  ·exact absurd e h.1
abbrev fv.root (n:fv):Pt:=(n.2.2.2.1,n.2.2.2.2.1,n.2.2.2.2.2.1,n.2.2.2.2.2.2.1,n.2.2.2.2.2.2.2.1)
abbrev fv.tree (n:fv):bf:=n.2.2.2
def cy (n:fv):Bool:=
 bif decide (bI n.1 n.2.2.1<0)||(decide (n.2.2.2.2.2.2.2.2.2≠bI n.1 n.2.2.1)||(decide (n.2.2.2.2.2.2.2.2.1≠bj (bI n.1 n.2.2.1))|| !(aZ n.root))) then false
 else iB n.2.1 1 (bif decide (n.1=2) then 1 else 9)&&(au n.root||decide (n.2.2.2.2.2.2.2.1=n.2.2.2.2.2.2.2.2.1))
def qh (n:fv):Prop:=True
def yd (n:fv):AV:=.q (cy n)
def abp (n:fv):List AV:=[]
def qH:ct where
 A:=[.a [.int,.int,.int,.int,.int,.int,.int,.int,.int,.int]]
 B:=[]
 pre:=fun x b=>qh x
 r:=fun x b _=>yd x
 o:=fun x b _=>abp x
theorem IP:Has Tryz.prog 133 qH:=by
 refine Has.fu zT zF zF (l:=[(174,uj),(116,dD),(115,cY),(83,bl),(95,dE)]) ⟨PG,jW,iA,cz,iz,aa⟩ Tryz.func133 ?_
 rintro⟨(n1:Int),(n2:Int),(n3:Int),(n4:Int),(n5:Int),(n6:Int),(n7:Int),(n8:Int),(n9:Int),(cx:Int)⟩ _ (hp:qh (n1,n2,n3,n4,n5,n6,n7,n8,n9,cx))
 show vc _ _ _ _ (entry [.a [.int n1,.int n2,.int n3,.int n4,.int n5,.int n6,.int n7,.int n8,.int n9,.int cx]] []) _
 have hbd:=xC n1 n3
 refine⟨⟨⟨aa,aa,aa⟩,aa⟩,fun x1 w2=>⟨Sq3,Sq10,rfl,Sq10,Sq11,rfl,Sq11,Sq12,rfl,aa,fun w3=>⟨Sq12,Sq13,rfl,Sq12,Sq14,rfl,Sq12,Sq15,rfl,Sq12,Sq16,rfl,Sq12,Sq17,rfl,[.s 12,.s 17],Sq18,rfl,Sq18,Sq19,rfl,Sq19,Sq20,rfl,Sq19,Sq21,rfl,Sq19,Sq22,rfl,Sq19,Sq23,rfl,Sq19,Sq24,rfl,Sq19,Sq25,rfl,[.s 19,.s 25],Sq26,rfl,Sq26,Sq27,rfl,Sq27,Sq28,rfl,Sq27,Sq29,rfl,Sq27,Sq30,rfl,Sq27,Sq31,rfl,Sq27,Sq32,rfl,[.s 27,.s 32],Sq33,rfl,?_⟩,fun w4=>⟨[.s 12,.s 1],Sq13,rfl,[.s 12,.s 13],Sq14,rfl,[.s 12,.s 14,.b 1001],Sq15,rfl,[.s 12,.s 3],Sq16,rfl,[.s 12,.s 15,.s 16],Sq17,rfl,[.s 12,.s 17],Sq18,rfl,Sq18,Sq19,rfl,aa,fun w5=>⟨Sq19,Sq20,rfl,Sq19,Sq21,rfl,Sq19,Sq22,rfl,Sq19,Sq23,rfl,Sq19,Sq24,rfl,Sq19,Sq25,rfl,[.s 19,.s 25],Sq26,rfl,Sq26,Sq27,rfl,Sq27,Sq28,rfl,Sq27,Sq29,rfl,Sq27,Sq30,rfl,Sq27,Sq31,rfl,Sq27,Sq32,rfl,[.s 27,.s 32],Sq33,rfl,?_⟩,fun w6=>⟨[.s 19,.s 1],Sq20,rfl,[.s 19,.s 20],Sq21,rfl,[.s 19,.s 21,.b 1001],Sq22,rfl,[.s 19,.s 3],Sq23,rfl,[.s 19,.s 23],Sq24,rfl,⟨⟨aa,aa⟩,aa⟩,?_,fun x7 w8=>⟨[.s 19,.s 22,.s 24],Sq25,rfl,[.s 19,.s 25],Sq26,rfl,Sq26,Sq27,rfl,aa,fun w9=>⟨Sq27,Sq28,rfl,Sq27,Sq29,rfl,Sq27,Sq30,rfl,Sq27,Sq31,rfl,Sq27,Sq32,rfl,[.s 27,.s 32],Sq33,rfl,?_⟩,fun dy=>⟨[.s 27,.s 1],Sq28,rfl,[.s 27,.s 28],Sq29,rfl,[.s 27,.s 29,.b 1001],Sq30,rfl,[.s 27,.s 30],Sq31,rfl,⟨⟨⟨aa,aa,aa,aa,aa,aa⟩,aa⟩,aa⟩,?_,fun kB dK=>⟨[.s 27,.s 31],Sq32,rfl,[.s 27,.s 32],Sq33,rfl,fun iV=>?_,fun gP=>⟨fun qN=>⟨⟨⟨aa,aa,aa,aa⟩,aa⟩,fun x16 xk=>⟨aa,fun rV=>⟨⟨⟨⟨aa,aa,aa,aa,aa,aa⟩,aa⟩,aa⟩,fun x19 uL=>⟨aa,fun A4=>?_,fun A3=>?_⟩⟩,fun xM=>?_⟩⟩,fun rU=>⟨⟨⟨aa,aa,aa,aa⟩,aa⟩,fun x25 w26=>⟨aa,fun w27=>⟨⟨⟨⟨aa,aa,aa,aa,aa,aa⟩,aa⟩,aa⟩,fun x28 w29=>⟨aa,fun w30=>?_,fun w31=>?_⟩⟩,fun w32=>?_⟩⟩⟩⟩⟩⟩⟩⟩⟩⟩
 all_goals first|refine aw ?_|refine ax ?_|exact a8|(dsimp only [uj,qg,dD,ff,cY,ee];omega)|exact a7|skip
 all_goals
  refine⟨[],[],_,_,_,rfl,az,(),aa,?_,?_,rfl⟩
  ·(show _=yd (n1,n2,n3,n4,n5,n6,n7,n8,n9,cx));unfold yd;first|((simp only [cy, *];rfl))|((simp [cy, *]<;>rfl))|rfl
  ·rfl
theorem pq (n:Int):0≤bj n∧bj n≤2:=by
 unfold bj
 cases decide (n≤1)<;>cases decide (n≤4)<;>simp
theorem ll {n:fv}(h:cy n=true):(1≤n.1∧n.1≤2)∧(1≤n.2.1∧n.2.1≤9)∧(0≤n.2.2.1∧n.2.2.1≤2048)∧(0≤n.2.2.2.2.2.2.2.2.1∧n.2.2.2.2.2.2.2.2.1≤2)∧(0≤n.2.2.2.2.2.2.2.2.2∧n.2.2.2.2.2.2.2.2.2≤16)∧aZ n.root=true∧
  n.2.2.2.2.2.2.2.2.2=bI n.1 n.2.2.1∧n.2.2.2.2.2.2.2.2.1=bj n.2.2.2.2.2.2.2.2.2∧(au n.root=true∨n.2.2.2.2.2.2.2.1=n.2.2.2.2.2.2.2.2.1):=by
 unfold cy at h
 cases hb:decide (bI n.1 n.2.2.1<0)||(decide (n.2.2.2.2.2.2.2.2.2≠bI n.1 n.2.2.1)||(decide (n.2.2.2.2.2.2.2.2.1≠bj (bI n.1 n.2.2.1))|| !(aZ n.root))) with
 |true=>rw [hb] at h;cases h
 |false=>
  rw [hb,cond_false] at h
  simp only [ZE1,decide_eq_false_iff_not,ZE9,Bool.not_eq_false] at hb
  obtain⟨h1,h2,h3,h4⟩:=hb
  have h4:=cM h4
  simp only [ZA9,Bool.or_eq_true,decide_eq_true_eq] at h
  have h5:=cD.1 h.1
  have h6:=xC n.1 n.2.2.1
  have h7:=pq (bI n.1 n.2.2.1)
  have hk:(1≤n.1∧n.1≤2)∧(0≤n.2.2.1∧n.2.2.1≤2048):=by
   unfold bI at h1
   cases hc:decide (kr n.1=0)|| !(iB n.2.2.1 0 (16*kr n.1)) with
   |true=>rw [hc] at h1;exact absurd (show (-1:Int)<0 by decide) h1
   |false=>
    simp only [ZE1,decide_eq_false_iff_not] at hc
    have h8:=cD.1 (cM hc.2)
    have h9:=vS n.1
    refine⟨?_,by omega⟩
    by_cases e1:n.1=1
    ·omega
    ·by_cases e2:n.1=2
     ·omega
     ·exact absurd (by unfold kr;rw [decide_eq_false e1,decide_eq_false e2];rfl) hc.1
  have h10:(bif decide (n.1=2) then (1:Int) else 9)≤9:=by cases decide (n.1=2)<;>simp
  refine⟨hk.1,⟨h5.1,by omega⟩,hk.2,by omega,by omega,h4,by omega,?_,h.2⟩
  rw [show n.2.2.2.2.2.2.2.2.2=bI n.1 n.2.2.1 by omega];omega
def aC (n:fv):ByteArray:=bif cy n then (cF [bY n.1,bY n.2.1,bY n.2.2.1,bc n.root,bY n.2.2.2.2.2.2.2.2.1,bY n.2.2.2.2.2.2.2.2.2,⟨#[101,110,100]⟩]).1 else ⟨#[]⟩
def ri (n:fv):Prop:=True
def nL (n:fv):AV:=.str (aC n)
def WI (n:fv):List AV:=[]
def sR:ct where
 A:=[.a [.int,.int,.int,.int,.int,.int,.int,.int,.int,.int]]
 B:=[]
 pre:=fun x b=>ri x
 r:=fun x b _=>nL x
 o:=fun x b _=>WI x
theorem MI:Has Tryz.prog 168 sR:=by
 refine Has.fu zT zF zF (l:=[(133,qH),(201,j7),(202,qE),(200,jI)]) ⟨IP,wU,IL,vE,aa⟩ Tryz.func168 ?_
 rintro⟨(n1:Int),(n2:Int),(n3:Int),(n4:Int),(n5:Int),(n6:Int),(n7:Int),(n8:Int),(n9:Int),(cx:Int)⟩ _ (hp:ri (n1,n2,n3,n4,n5,n6,n7,n8,n9,cx))
 show vc _ _ _ _ (entry [.a [.int n1,.int n2,.int n3,.int n4,.int n5,.int n6,.int n7,.int n8,.int n9,.int cx]] []) _
 by_cases cH:cy (n1,n2,n3,n4,n5,n6,n7,n8,n9,cx)=true
 ·obtain⟨b1,b2,b3,b4,b5,b6,_,_,_⟩:=ll cH
  dsimp only at b1 b2 b3 b4 b5 b6
  refine⟨⟨⟨⟨aa,aa,aa,aa,aa,aa,aa,aa,aa,aa,aa⟩,aa⟩,aa⟩,fun x1 w2=>⟨fun w3=>?_,fun w4=>⟨Sq1,Sq9,rfl,[.s 9,.b 1001],Sq10,rfl,Sq10,Sq11,rfl,⟨⟨aa,aa⟩,?_,?_⟩,?_,fun x5 w6=>⟨Sq1,Sq12,rfl,[.s 12,.b 1001],Sq13,rfl,Sq13,Sq14,rfl,⟨⟨aa,aa⟩,?_,?_⟩,?_,fun x7 w8=>⟨Sq1,Sq15,rfl,[.s 15,.b 1001],Sq16,rfl,Sq16,Sq17,rfl,⟨⟨aa,aa⟩,?_,?_⟩,?_,fun x9 dy=>⟨Sq1,Sq18,rfl,Sq18,Sq19,rfl,[.s 19,.b 1001],Sq20,rfl,Sq20,Sq21,rfl,⟨⟨⟨aa,aa,aa,aa,aa,aa⟩,aa⟩,aa⟩,?_,fun kB dK=>⟨Sq1,Sq22,rfl,Sq22,Sq23,rfl,[.s 23,.b 1001],Sq24,rfl,Sq24,Sq25,rfl,⟨⟨aa,aa⟩,?_,?_⟩,?_,fun rZ gP=>⟨Sq1,Sq26,rfl,Sq26,Sq27,rfl,[.s 27,.b 1001],Sq28,rfl,Sq28,Sq29,rfl,⟨⟨aa,aa⟩,?_,?_⟩,?_,fun kA ki=>⟨[.s 11,.s 14,.s 17,.s 21,.s 25,.s 29,.b 1030],[.s 30,.b 1030],rfl,aa,[.s 30,.b 1030],Sq31,rfl,⟨⟨⟨?_,?_⟩,aa⟩,aa⟩,?_,fun x17 rV=>⟨Sq31,Sq8,rfl,Sq8,Sq32,rfl,Sq8,Sq33,rfl,Sq32,Sq3,rfl,Sq33,Sq4,rfl,?_⟩⟩⟩⟩⟩⟩⟩⟩⟩⟩
  all_goals first|refine aw ?_|refine ax ?_|exact a8|(dsimp only [qH,qh,j7,mN,qE,qf,jI,kn];omega)|exact a7|skip
  ·rw [cH] at *;contradiction
  ·have e:aC (n1,n2,n3,n4,n5,n6,n7,n8,n9,cx)=(cF [bY n1,bY n2,bY n3,bc (n4,n5,n6,n7,n8),bY n9,bY cx,⟨#[101,110,100]⟩]).1:=by unfold aC;rw [cH];rfl
   refine⟨[],[],_,_,_,rfl,az,(),aa,?_,?_,rfl⟩
   ·(show _=nL (n1,n2,n3,n4,n5,n6,n7,n8,n9,cx));unfold nL;first|(rw [e];rfl)|rfl
   ·rfl
 ·have uA:cy (n1,n2,n3,n4,n5,n6,n7,n8,n9,cx)=false:=by simpa using cH
  refine⟨⟨⟨⟨aa,aa,aa,aa,aa,aa,aa,aa,aa,aa,aa⟩,aa⟩,aa⟩,fun x1 w2=>⟨fun w3=>?_,fun w4=>⟨Sq1,Sq9,rfl,[.s 9,.b 1001],Sq10,rfl,Sq10,Sq11,rfl,⟨⟨aa,aa⟩,?_,?_⟩,?_,fun x5 w6=>⟨Sq1,Sq12,rfl,[.s 12,.b 1001],Sq13,rfl,Sq13,Sq14,rfl,⟨⟨aa,aa⟩,?_,?_⟩,?_,fun x7 w8=>⟨Sq1,Sq15,rfl,[.s 15,.b 1001],Sq16,rfl,Sq16,Sq17,rfl,⟨⟨aa,aa⟩,?_,?_⟩,?_,fun x9 dy=>⟨Sq1,Sq18,rfl,Sq18,Sq19,rfl,[.s 19,.b 1001],Sq20,rfl,Sq20,Sq21,rfl,⟨⟨⟨aa,aa,aa,aa,aa,aa⟩,aa⟩,aa⟩,?_,fun kB dK=>⟨Sq1,Sq22,rfl,Sq22,Sq23,rfl,[.s 23,.b 1001],Sq24,rfl,Sq24,Sq25,rfl,⟨⟨aa,aa⟩,?_,?_⟩,?_,fun rZ gP=>⟨Sq1,Sq26,rfl,Sq26,Sq27,rfl,[.s 27,.b 1001],Sq28,rfl,Sq28,Sq29,rfl,⟨⟨aa,aa⟩,?_,?_⟩,?_,fun kA ki=>⟨[.s 11,.s 14,.s 17,.s 21,.s 25,.s 29,.b 1030],[.s 30,.b 1030],rfl,aa,[.s 30,.b 1030],Sq31,rfl,⟨⟨⟨?_,?_⟩,aa⟩,aa⟩,?_,fun x17 rV=>⟨Sq31,Sq8,rfl,Sq8,Sq32,rfl,Sq8,Sq33,rfl,Sq32,Sq3,rfl,Sq33,Sq4,rfl,?_⟩⟩⟩⟩⟩⟩⟩⟩⟩⟩
  all_goals first|exact absurd (cM (by assumption)) cH|skip
  ·have e:aC (n1,n2,n3,n4,n5,n6,n7,n8,n9,cx)=⟨#[]⟩:=by unfold aC;rw [uA];rfl
   refine⟨[],[],_,_,_,rfl,az,(),aa,?_,?_,rfl⟩
   ·(show _=nL (n1,n2,n3,n4,n5,n6,n7,n8,n9,cx));unfold nL;first|(rw [e];rfl)|rfl
   ·rfl
end GL
namespace GL
theorem L3 {s:ByteArray}:∀(f k:Nat),(∀j,j<k→DA s j=true)→(∀j,j<sD f s k→DA s j=true)∧sD f s k≤k+f
 |0,k,h=>⟨h,ZB5 _⟩
 |f+1,k,h=>by
  unfold sD
  cases hd:DA s k with
  |true=>
   have:=L3 (s:=s) f (k+1) (fun j hj=>by
    by_cases e:j=k
    ·rw [e];exact hd
    ·exact h j (by omega))
   exact⟨this.1,ZB0 this.2 (by omega)⟩
  |false=>exact⟨h,ZD3 _ _⟩
theorem aeP {s:ByteArray}{k:Nat}(h:DA s k=true):k<s.size∧48≤bM s k∧bM s k≤57:=by
 unfold DA at h
 simp only [ZA9,decide_eq_true_eq] at h
 omega
theorem SD {s:ByteArray}:∀(k:Nat),(∀j,j<k→DA s j=true)→0≤iO s k∧iO s k<(10:Int) ^ k
 |0,_=>⟨ZC1 _,by show (0:Int)<1;omega⟩
 |k+1,h=>by
  have h1:=SD k (fun j hj=>h j (by omega))
  have h2:=aeP (h k (by omega))
  rw [Int.pow_succ]
  show 0≤10*iO s k+(bM s k-48)∧10*iO s k+(bM s k-48)<_
  omega
theorem abx (s:ByteArray):cX s≤9∧cX s≤s.size∧(0≤iO s (cX s)∧iO s (cX s)≤999999999):=by
 have h:=L3 (s:=s) 9 0 (fun j hj=>absurd hj (by omega))
 have hn:sD 9 s 0=cX s:=rfl
 rw [hn] at h
 have h1:cX s≤9:=by omega
 have h2:=SD _ h.1
 have h3:(10:Int) ^ cX s≤10 ^ 9:=by exact_mod_cast Nat.pow_le_pow_right (by omega) h1
 refine⟨h1,?_,h2.1,by omega⟩
 by_cases e:cX s=0
 ·omega
 ·have:=aeP (h.1 (cX s-1) (by omega));omega
theorem ahx (s:ByteArray):(0≤(CN s).1∧(CN s).1≤999999999)∧(0≤(CN s).2∧(CN s).2≤9)∧(CN s).2≤s.size:=by
 have h:=abx s
 unfold CN
 cases hc:decide ((cX s:Int)>1)&&decide (bM s 0=48) with
 |true=>
  simp only [ZA9,decide_eq_true_eq] at hc
  show (0≤(0:Int)∧(0:Int)≤999999999)∧(0≤(1:Int)∧(1:Int)≤9)∧(1:Int)≤s.size
  omega
 |false=>
  show (0≤iO s (cX s)∧iO s (cX s)≤999999999)∧(0≤(cX s:Int)∧(cX s:Int)≤9)∧(cX s:Int)≤s.size
  omega
def qv (s:ByteArray) (i:Int) (r:Int×Int):Bool:=
 decide (r.2=0)||(decide (i+r.2≥s.size)||(decide (bM s (i+r.2).toNat≠58)||decide (r.1>s.size-i-r.2-1)))
abbrev tS (s:ByteArray) (i:Int):Int×Int:=CN (s.extract i.toNat s.size)
def JA:Nat→ByteArray→Int→List ByteArray→Option (List ByteArray)
 |0,_,_,_=>none
 |f+1,s,i,out=>bif decide (i<s.size) then
   (bif qv s i (tS s i) then none else
    JA f s (i+(tS s i).2+1+(tS s i).1) (out++[s.extract (i+(tS s i).2+1).toNat (i+(tS s i).2+1+(tS s i).1).toNat]))
  else some out
theorem EB {f:Nat}{s:ByteArray}{i:Int}{out:List ByteArray}(h:decide (i<s.size)=true) (hb:qv s i (tS s i)=true):JA (f+1) s i out=none:=by rw [JA,h,hb];rfl
theorem agU {f:Nat}{s:ByteArray}{i:Int}{out:List ByteArray}(h:decide (i<s.size)=true) (hb:qv s i (tS s i)=false):JA (f+1) s i out=JA f s (i+(tS s i).2+1+(tS s i).1) (out++[s.extract (i+(tS s i).2+1).toNat (i+(tS s i).2+1+(tS s i).1).toNat]):=by rw [JA,h,hb];rfl
theorem aew {f:Nat}{s:ByteArray}{i:Int}{out:List ByteArray}(h:decide (i<s.size)=false):JA (f+1) s i out=some out:=by rw [JA,h];rfl
theorem Z9 {s:ByteArray}{i:Int}{r:Int×Int}(h:decide (r.2=0)=true):qv s i r=true:=by unfold qv;rw [h];rfl
theorem Z8 {s:ByteArray}{i:Int}{r:Int×Int}(h:decide (i+r.2≥s.size)=true):qv s i r=true:=by unfold qv;rw [h,Bool.true_or,ZC4]
theorem Z7 {s:ByteArray}{i:Int}{r:Int×Int}(h:decide (bM s (i+r.2).toNat≠58)=true):qv s i r=true:=by unfold qv;rw [h,Bool.true_or,ZC4,ZC4]
theorem Z6 {s:ByteArray}{i:Int}{r:Int×Int}(h:decide (r.1>s.size-i-r.2-1)=true):qv s i r=true:=by unfold qv;rw [h,ZC4,ZC4,ZC4]
theorem aaa {s:ByteArray}{i:Int}{r:Int×Int}(h1:decide (r.2=0)=false) (h2:decide (i+r.2≥s.size)=false) (h3:decide (bM s (i+r.2).toNat≠58)=false) (h4:decide (r.1>s.size-i-r.2-1)=false):qv s i r=false:=by unfold qv;rw [h1,h2,h3,h4];rfl
def vM (s:ByteArray) (out:List ByteArray):List ByteArray×Bool:=bif !(cF out).2||decide ((cF out).1≠s) then ([],false) else (out,true)
def bw (s:ByteArray):List ByteArray×Bool:=
 bif decide ((s.size:Int)≤2048) then (match JA (s.size+1) s 0 [] with
  |none=>([],false)
  |some out=>vM s out) else ([],false)
theorem gG {s:ByteArray}(h:decide ((s.size:Int)≤2048)=true) (h2:JA (s.size+1) s 0 []=none):bw s=([],false):=by unfold bw;rw [h,h2];rfl
theorem jY {s:ByteArray}{out:List ByteArray}(h:decide ((s.size:Int)≤2048)=true) (h2:JA (s.size+1) s 0 []=some out):bw s=vM s out:=by unfold bw;rw [h,h2];rfl
theorem oY {s:ByteArray}(h:decide ((s.size:Int)≤2048)=false):bw s=([],false):=by unfold bw;rw [h];rfl
theorem Z4 {s:ByteArray}{out:List ByteArray}(h:(!(cF out).2)=true):vM s out=([],false):=by unfold vM;rw [h];rfl
theorem Z3 {s:ByteArray}{out:List ByteArray}(h:decide ((cF out).1≠s)=true):vM s out=([],false):=by unfold vM;rw [h,ZC4];rfl
theorem Z2 {s:ByteArray}{out:List ByteArray}(h:(!(cF out).2)=false) (h2:decide ((cF out).1≠s)=false):vM s out=(out,true):=by unfold vM;rw [h,h2];rfl
def nv (s:ByteArray):Prop:=s.size≤1000000
def cb (s:ByteArray):AV:=.t [.s (.xs 0 1 0 (bw s).1.length),.s (.q (bw s).2)]
def cu (s:ByteArray):List AV:=[.rs ab (bw s).1]
def v7:ct where
 A:=[.s .str]
 B:=[]
 pre:=fun x b=>nv x
 r:=fun x b _=>cb x
 o:=fun x b _=>cu x
 nf:=1
theorem TD:Has Tryz.prog 170 v7:=by
 refine Has.fu zT zF zF (l:=[(207,ub),(200,jI)]) ⟨O8,vE,aa⟩ Tryz.func170 ?_
 rintro (s:ByteArray) _ (hp:nv s)
 show vc _ _ _ _ (entry [.str s] []) _
 unfold nv at hp
 refine⟨aa,?_⟩
 all_goals first|refine aw ?_|refine ax ?_|exact a8|(dsimp only [ub,ld,jI,kn];omega)|exact a7|skip
 refine cO (l:=[(207,ub),(200,jI)]) (ex:=zT) (wr:=zF) (pt:=zF) ⟨O8,vE,trivial⟩ [.s 0] (fun y:Int×List ByteArray×Nat=>[(.s 4,.s (.xs 1010 1 0 y.2.1.length)),(.s 5,.int y.1),(.b 1010,.rs ab y.2.1)]) (fun y=>(0≤y.1∧y.1≤s.size)∧(y.2.1.length:Int)≤y.1∧(s.size:Int)<y.1+y.2.2∧(s.size≤2048→JA y.2.2 s y.1 y.2.1=JA (s.size+1) s 0 [])∧(2048<s.size→y.1=0∧y.2.1=[])) (fun y=>(s.size-y.1).toNat) (0,[],s.size+1) [] ⟨⟨ZC1 _,by show (0:Int)≤s.size;omega⟩,ZC1 _,by show (s.size:Int)<0+(s.size+1:Nat);omega,fun _=>rfl,fun _=>⟨rfl,rfl⟩⟩ dN ?_
 rintro⟨i,out,f⟩ ⟨⟨(hi0:0≤i),(hi:i≤s.size)⟩,(hl:(out.length:Int)≤i),(hf:(s.size:Int)<i+f),(hr:s.size≤2048→JA f s i out=JA (s.size+1) s 0 []),(h0:2048<s.size→i=0∧out=[])⟩
 have hb:=ahx (s.extract i.toNat s.size)
 rw [ZC5] at hb
 have h48:decide ((s.size:Int)≤2048)=true→s.size≤2048:=fun h=>by have:=aJ h;omega
 obtain⟨g,rfl⟩:∃g,f=g+1:=⟨f-1,by omega⟩
 refine⟨aa,fun w1=>⟨fun w2=>⟨⟨?_,?_,?_⟩,⟨⟨aa,aa⟩,?_⟩,fun x3 w4=>⟨aa,fun w5=>⟨aa,?_⟩,fun w6=>⟨⟨?_,?_⟩,aa,fun w7=>⟨aa,?_⟩,fun w8=>⟨⟨?_,?_⟩,⟨?_,?_⟩,aa,fun w9=>⟨aa,?_⟩,fun dy=>⟨⟨?_,?_⟩,⟨?_,?_⟩,⟨?_,?_⟩,fun kC=>⟨aa,?_⟩,fun dK=>⟨⟨?_,?_⟩,⟨?_,?_⟩,⟨?_,?_⟩,⟨?_,?_⟩,⟨?_,?_⟩,⟨?_,?_,?_⟩,aa,⟨⟨?_,?_⟩,?_,?_⟩,⟨?_,?_⟩,⟨?_,?_⟩,⟨?_,?_⟩,?_⟩⟩⟩⟩⟩⟩,fun iV=>⟨⟨⟨⟨?_,?_⟩,aa⟩,aa⟩,fun x14 qN=>⟨aa,fun ki=>⟨aa,?_⟩,fun xk=>⟨fun rV=>⟨aa,?_⟩,fun oN=>?_⟩⟩⟩⟩,fun uL=>⟨⟨⟨⟨?_,?_⟩,aa⟩,aa⟩,fun x21 A3=>⟨aa,fun xM=>⟨aa,?_⟩,fun rU=>⟨fun w25=>⟨aa,?_⟩,fun w26=>?_⟩⟩⟩⟩
 all_goals first|refine aw ?_|refine ax ?_|exact a8|(dsimp only [ub,ld,jI,kn];omega)|exact a7|(show ld (s.extract i.toNat s.size);unfold ld;rw [ZC5];omega)|skip
 ·refine⟨[1056],[],_,_,_,rfl,az,(),aa,?_,?_,rfl⟩
  ·(show _=cb s);unfold cb;first|(rw [gG w2 (by rw [←hr (h48 w2),EB w1 (Z9 w5)])];rfl)|rfl
  ·(show _=cu s);unfold cu;first|(rw [gG w2 (by rw [←hr (h48 w2),EB w1 (Z9 w5)])];rfl)|rfl
 ·refine⟨[1056],[],_,_,_,rfl,az,(),aa,?_,?_,rfl⟩
  ·(show _=cb s);unfold cb;first|(rw [gG w2 (by rw [←hr (h48 w2),EB w1 (Z8 w7)])];rfl)|rfl
  ·(show _=cu s);unfold cu;first|(rw [gG w2 (by rw [←hr (h48 w2),EB w1 (Z8 w7)])];rfl)|rfl
 ·refine⟨[1056],[],_,_,_,rfl,az,(),aa,?_,?_,rfl⟩
  ·(show _=cb s);unfold cb;first|(rw [gG w2 (by rw [←hr (h48 w2),EB w1 (Z7 w9)])];rfl)|rfl
  ·(show _=cu s);unfold cu;first|(rw [gG w2 (by rw [←hr (h48 w2),EB w1 (Z7 w9)])];rfl)|rfl
 ·refine⟨[1056],[],_,_,_,rfl,az,(),aa,?_,?_,rfl⟩
  ·(show _=cb s);unfold cb;first|(rw [gG w2 (by rw [←hr (h48 w2),EB w1 (Z6 kC)])];rfl)|rfl
  ·(show _=cu s);unfold cu;first|(rw [gG w2 (by rw [←hr (h48 w2),EB w1 (Z6 kC)])];rfl)|rfl
 ·have h5:¬((tS s i).2=0):=aA w6
  have h6:¬(i+(tS s i).2≥s.size):=aA w8
  have h7:¬((tS s i).1>s.size-i-(tS s i).2-1):=aA dK
  have h8:s.size≤2048:=h48 w2
  have hb:(0≤(tS s i).1∧(tS s i).1≤999999999)∧(0≤(tS s i).2∧(tS s i).2≤9)∧_:=hb
  refine⟨(i+(tS s i).2+1+(tS s i).1,out++[s.extract (i+(tS s i).2+1).toNat (i+(tS s i).2+1+(tS s i).1).toNat],g),[(1010,1071)],?_,?_,?_⟩
  rotate_right
  ·exact bW
  ·refine⟨⟨?_,?_⟩,?_,?_,fun h=>?_,fun h=>absurd h8 (by omega)⟩
   ·show 0≤i+(tS s i).2+1+(tS s i).1;omega
   ·show i+(tS s i).2+1+(tS s i).1≤_;omega
   ·show ((List.length (_++_):Nat):Int)≤i+(tS s i).2+1+(tS s i).1;rw [ZA0];show ((out.length+1:Nat):Int)≤_;omega
   ·show (s.size:Int)<i+(tS s i).2+1+(tS s i).1+(g:Int);omega
   ·rw [←hr h,agU w1 (aaa w6 w8 dy dK)]
  ·show (s.size-(i+(tS s i).2+1+(tS s i).1)).toNat<(s.size-i).toNat;omega
 ·obtain⟨rfl,rfl⟩:=h0 (by have:=aA iV;omega)
  refine⟨[1090],[],_,_,_,rfl,az,(),aa,?_,?_,rfl⟩
  ·(show _=cb s);unfold cb;first|(rw [oY iV];rfl)|rfl
  ·(show _=cu s);unfold cu;first|(rw [oY iV];rfl)|rfl
 ·obtain⟨rfl,rfl⟩:=h0 (by have:=aA iV;omega)
  refine⟨[1090],[],_,_,_,rfl,az,(),aa,?_,?_,rfl⟩
  ·(show _=cb s);unfold cb;first|(rw [oY iV];rfl)|rfl
  ·(show _=cu s);unfold cu;first|(rw [oY iV];rfl)|rfl
 ·obtain⟨rfl,rfl⟩:=h0 (by have:=aA iV;omega)
  have h9:¬((⟨#[]⟩:ByteArray)≠s):=aA oN
  have h10:(⟨#[]⟩:ByteArray)=s:=ZE9.1 h9
  have h11:¬((s.size:Int)≤2048):=aA iV
  exact absurd (show ((s.size:Nat):Int)≤2048 by rw [←h10];show (0:Int)≤2048;omega) h11
 all_goals
  have h13:¬(i<(s.size:Int)):=aA uL
  have h14:JA (g+1) s i out=some out:=aew uL
  have xG:decide ((s.size:Int)≤2048)=true:=by
   cases hh:decide ((s.size:Int)≤2048) with
   |true=>rfl
   |false=>
    have h16:=aA hh
    obtain⟨rfl,_⟩:=h0 (by omega)
    omega
  have e:JA (s.size+1) s 0 []=some out:=by rw [←hr (h48 xG),h14]
 ·refine⟨[1090],[],_,_,_,rfl,az,(),aa,?_,?_,rfl⟩
  ·(show _=cb s);unfold cb;first|(rw [jY xG e,Z4 (out:=out) xM];rfl)|rfl
  ·(show _=cu s);unfold cu;first|(rw [jY xG e,Z4 (out:=out) xM];rfl)|rfl
 ·refine⟨[1090],[],_,_,_,rfl,az,(),aa,?_,?_,rfl⟩
  ·(show _=cb s);unfold cb;first|(rw [jY xG e,Z3 (out:=out) w25];rfl)|rfl
  ·(show _=cu s);unfold cu;first|(rw [jY xG e,Z3 (out:=out) w25];rfl)|rfl
 ·refine⟨[1010],[],_,_,_,rfl,az,(),aa,?_,?_,rfl⟩
  ·(show _=cb s);unfold cb;first|(rw [jY xG e,Z2 (out:=out) rU w26];rfl)|rfl
  ·(show _=cu s);unfold cu;first|(rw [jY xG e,Z2 (out:=out) rU w26];rfl)|rfl
def mV (w:List ByteArray):fv:=
 ((aD (nth ab w 0)).1,(aD (nth ab w 1)).1,(aD (nth ab w 2)).1,
   (bQ (nth ab w 3)).1.1,(bQ (nth ab w 3)).1.2.1,(bQ (nth ab w 3)).1.2.2.1,(bQ (nth ab w 3)).1.2.2.2.1,(bQ (nth ab w 3)).1.2.2.2.2,
   (aD (nth ab w 4)).1,(aD (nth ab w 5)).1)
def nC:fv:=(0,0,0,0,0,0,0,0,0,0)
def bA (s:ByteArray):fv×Bool:=
 bif !(bw s).2||(decide (((bw s).1.length:Int)≠7)||(!(cy (mV (bw s).1))||decide (aC (mV (bw s).1)≠s))) then (nC,false) else (mV (bw s).1,true)
theorem yw {s:ByteArray}(h:(!(bw s).2)=true):bA s=(nC,false):=by unfold bA;rw [h];rfl
theorem tE {s:ByteArray}(h:decide (((bw s).1.length:Int)≠7)=true):bA s=(nC,false):=by unfold bA;rw [h,Bool.true_or,ZC4];rfl
theorem yv {s:ByteArray}(h:(!(cy (mV (bw s).1)))=true):bA s=(nC,false):=by unfold bA;rw [h,Bool.true_or,ZC4,ZC4];rfl
theorem yu {s:ByteArray}(h:decide (aC (mV (bw s).1)≠s)=true):bA s=(nC,false):=by unfold bA;rw [h,ZC4,ZC4,ZC4];rfl
theorem yx {s:ByteArray}(h1:(!(bw s).2)=false) (h2:decide (((bw s).1.length:Int)≠7)=false) (h3:(!(cy (mV (bw s).1)))=false) (h4:decide (aC (mV (bw s).1)≠s)=false):bA s=(mV (bw s).1,true):=by unfold bA;rw [h1,h2,h3,h4];rfl
def ndA (n:fv):A0:=.a (EK.AX o9 n)
theorem aev {s:ByteArray}:∀{f:Nat}{i:Int}{out r:List ByteArray},JA f s i out=some r→(∀x∈out,x.size≤s.size)→∀x∈r,x.size≤s.size
 |0,_,_,_,h,_=>by cases h
 |f+1,i,out,r,h,ho=>by
  unfold JA at h
  cases hc:decide (i<(s.size:Int)) with
  |true=>
   rw [hc,cond_true] at h
   cases hb:qv s i (tS s i) with
   |true=>rw [hb] at h;cases h
   |false=>
    rw [hb,cond_false] at h
    refine aev h fun x hx=>?_
    rcases ZB4.1 hx with hx |hx
    ·exact ho x hx
    ·simp only [ZB8,ZF6,or_false] at hx
     subst hx
     rw [ZC5];omega
  |false=>rw [hc] at h;cases h;exact ho
theorem K2 {s:ByteArray}:∀x∈(bw s).1,x.size≤s.size:=by
 intro x hx
 unfold bw at hx
 cases hc:decide ((s.size:Int)≤2048) with
 |true=>
  rw [hc,cond_true] at hx
  cases hr:JA (s.size+1) s 0 [] with
  |none=>rw [hr] at hx;cases hx
  |some out=>
   rw [hr] at hx
   have ho:=aev hr (fun _ h=>by cases h)
   unfold vM at hx
   cases hd: !(cF out).2||decide ((cF out).1≠s) with
   |true=>simp only [hd,cond_true] at hx;cases hx
   |false=>simp only [hd,cond_false] at hx;exact ho x hx
 |false=>rw [hc] at hx;cases hx
def lj (s:ByteArray):Prop:=s.size≤1000000
def fe (s:ByteArray):AV:=.t [ndA (bA s).1,.s (.q (bA s).2)]
def WJ (s:ByteArray):List AV:=[]
def nk:ct where
 A:=[.s .str]
 B:=[]
 pre:=fun x b=>lj x
 r:=fun x b _=>fe x
 o:=fun x b _=>WJ x
theorem CT:Has Tryz.prog 129 nk:=by
 refine Has.fu zT zF zF (l:=[(170,v7),(171,jH),(172,qF),(133,qH),(168,sR)]) ⟨TD,vD,IM,IP,MI,aa⟩ Tryz.func129 ?_
 rintro (s:ByteArray) _ (hp:lj s)
 show vc _ _ _ _ (entry [.str s] []) _
 unfold lj at hp
 have dj:∀k,(nth ab (bw s).1 k).size≤1000000:=fun k=>by
  by_cases h:k<(bw s).1.length
  ·exact ZB0 (K2 _ (bS (ek:=ab) h)) hp
  ·unfold nth;rw [ZD8 (by omega)];exact ZA7 _
 have afY:∀k,gJ (nth ab (bw s).1 k):=fun k=>by unfold gJ;have:=dj k;omega
 refine⟨⟨⟨aa,aa⟩,?_⟩,fun x1 w2=>⟨aa,fun w3=>?_,fun w4=>⟨fun w5=>?_,fun w6=>⟨⟨?_,?_⟩,?_,⟨⟨aa,aa⟩,?_⟩,fun x7 w8=>⟨⟨?_,?_⟩,?_,⟨⟨aa,aa⟩,?_⟩,fun x9 dy=>⟨⟨?_,?_⟩,?_,⟨⟨aa,aa⟩,?_⟩,fun kB dK=>⟨⟨?_,?_⟩,?_,⟨⟨aa,aa⟩,?_⟩,fun rZ gP=>⟨⟨?_,?_⟩,?_,⟨⟨aa,aa⟩,?_⟩,fun kA ki=>⟨⟨?_,?_⟩,?_,⟨⟨aa,aa⟩,?_⟩,fun x17 rV=>⟨⟨⟨⟨aa,aa,aa,aa,aa,aa,aa,aa,aa,aa,aa⟩,aa⟩,aa⟩,fun x19 uL=>⟨aa,fun A4=>?_,fun A3=>⟨⟨⟨⟨aa,aa,aa,aa,aa,aa,aa,aa,aa,aa,aa⟩,aa⟩,aa⟩,fun x23 rU=>⟨fun w25=>?_,fun w26=>?_⟩⟩⟩⟩⟩⟩⟩⟩⟩⟩⟩⟩⟩
 all_goals first|refine aw ?_|refine ax ?_|exact a8|(dsimp only [v7,nv,jH,gJ,qF,mQ,qH,qh,sR,ri];omega)|exact a7|exact dj _|exact afY _|skip
 ·refine⟨[],[],_,_,_,rfl,az,(),aa,?_,?_,rfl⟩
  ·(show _=fe s);unfold fe;first|(rw [yw w3];rfl)|rfl
  ·rfl
 ·refine⟨[],[],_,_,_,rfl,az,(),aa,?_,?_,rfl⟩
  ·(show _=fe s);unfold fe;first|(rw [tE w5];rfl)|rfl
  ·rfl
 ·refine⟨[],[],_,_,_,rfl,az,(),aa,?_,?_,rfl⟩
  ·(show _=fe s);unfold fe;first|(rw [yv A4];rfl)|rfl
  ·rfl
 ·refine⟨[],[],_,_,_,rfl,az,(),aa,?_,?_,rfl⟩
  ·(show _=fe s);unfold fe;first|(rw [yu w25];rfl)|rfl
  ·rfl
 ·refine⟨[],[],_,_,_,rfl,az,(),aa,?_,?_,rfl⟩
  ·(show _=fe s);unfold fe;first|(rw [yx w4 w6 A3 w26];rfl)|rfl
  ·rfl
end GL
namespace GL
def cw (n:Nat):List Pt:=List.replicate n bN
def k8 (n:Int):Prop:=0≤n∧n≤1000
def u2 (n:Int):AV:=.s (.xs 0 5 0 (cw n.toNat).length)
def yq (n:Int):List AV:=[.rs ae (cw n.toNat)]
def j5:ct where
 A:=[.s .int]
 B:=[]
 pre:=fun x b=>k8 x
 r:=fun x b _=>u2 x
 o:=fun x b _=>yq x
 nf:=1
theorem wS:Has Tryz.prog 137 j5:=by
 refine Has.fu zT zF zF (l:=[]) trivial Tryz.func137 ?_
 rintro (n:Int) _ (hp:k8 n)
 show vc _ _ _ _ (entry [.int n] []) _
 obtain⟨h1,h2⟩:=hp
 refine⟨⟨?_,⟨?_,?_⟩⟩,?_⟩
 all_goals first|refine aw ?_|refine ax ?_|exact a8|exact a7|skip
 refine⟨[1004],[],_,_,_,rfl,az,(),aa,?_,?_,rfl⟩
 ·(show _=u2 n);unfold u2;first|(rw [show (cw n.toNat).length=n.toNat from ZG0];rfl)|rfl
 ·(show _=yq n);unfold yq;first|(rw [show (cw n.toNat).length=n.toNat from ZG0];rfl)|rfl
structure ay.rd (s:ay):Prop where
 len:s.rows.length=64
 sz:∀x∈s.rows,x.size≤1000000
theorem zr {s:ay}{p:Pt}(h:s.rd):(bG s p).1.size≤1000000:=by
 unfold bG
 cases au p with
 |true=>exact ZA7 _
 |false=>
  cases iZ p (nth ab s.rows p.1.toNat) with
  |true=>
   show (nth ab s.rows p.1.toNat).size≤1000000
   by_cases hk:p.1.toNat<s.rows.length
   ·exact h.2 _ (bS (ek:=ab) hk)
   ·unfold nth;rw [ZD8 (by omega)];exact ZA7 _
  |false=>exact ZA7 _
def oK (p:Pt) (r:List Pt×Bool):List Pt×Bool:=bif r.1.any (fun q=>decide (q.2.1>p.2.1)) then ([],false) else r
def bg (s:ay) (p:Pt) (lv:Int):List Pt×Bool:=
 bif au p then (cw 4,true) else
 bif !(aZ p)||(decide (p.2.2.2.2≠lv)||decide (p.2.1>s.cj)) then ([],false) else
 bif !(bG s p).2 then ([],false) else oK p (bm (bG s p).1)
theorem kx {s:ay}{p:Pt}{lv:Int}(h:au p=true):bg s p lv=(cw 4,true):=by unfold bg;rw [h];rfl
theorem KA {s:ay}{p:Pt}{lv:Int}(h:au p=false) (h1:(!(aZ p))=true):bg s p lv=([],false):=by unfold bg;rw [h,h1];rfl
theorem wc {s:ay}{p:Pt}{lv:Int}(h:au p=false) (h1:decide (p.2.2.2.2≠lv)=true):bg s p lv=([],false):=by unfold bg;rw [h,h1,Bool.true_or,ZC4];rfl
theorem AG {s:ay}{p:Pt}{lv:Int}(h:au p=false) (h1:decide (p.2.1>s.cj)=true):bg s p lv=([],false):=by unfold bg;rw [h,h1,ZC4,ZC4];rfl
theorem wb {s:ay}{p:Pt}{lv:Int}(h:au p=false) (h1:(!(aZ p))=false) (h2:decide (p.2.2.2.2≠lv)=false) (h3:decide (p.2.1>s.cj)=false) (h4:(!(bG s p).2)=true):bg s p lv=([],false):=by unfold bg;rw [h,h1,h2,h3,h4];rfl
theorem wa {s:ay}{p:Pt}{lv:Int}(h:au p=false) (h1:(!(aZ p))=false) (h2:decide (p.2.2.2.2≠lv)=false) (h3:decide (p.2.1>s.cj)=false) (h4:(!(bG s p).2)=false):bg s p lv=oK p (bm (bG s p).1):=by unfold bg;rw [h,h1,h2,h3,h4];rfl
theorem vO (s:ByteArray):(bm s).1.length≤4∧((bm s).2=true→(bm s).1.length=4):=by
 unfold bm
 cases oo (bn s 44) [] false with
 |none=>exact⟨ZA7 _,fun h=>by cases h⟩
 |some r=>
  obtain⟨o,sm⟩:=r
  show (mb o sm).1.length≤4∧((mb o sm).2=true→(mb o sm).1.length=4)
  unfold mb
  cases hc:decide ((o.length:Int)≠4)|| !sm with
  |true=>exact⟨ZA7 _,fun h=>by cases h⟩
  |false=>
   simp only [ZE1,decide_eq_false_iff_not,ZE9] at hc
   have:o.length=4:=by omega
   exact⟨by show o.length≤4;omega,fun _=>this⟩
abbrev late (p:Pt):Pt→Bool:=fun q=>decide (q.2.1>p.2.1)
theorem we {p:Pt}{r:List Pt×Bool}(h:r.1.any (late p)=true):oK p r=([],false):=by unfold oK;rw [h];rfl
theorem sT {p:Pt}{r:List Pt×Bool}(h:r.1.any (late p)=false):oK p r=r:=by unfold oK;rw [h];rfl
theorem X9 {l:List Pt}{f:Pt→Bool}{i:Nat}(hi:i<l.length) (hr:(l.drop i).any f=l.any f) (h:f (nth ae l i)=true):l.any f=true:=by
 rw [←hr,bX (ek:=ae) hi,List.any_cons,h];rfl
theorem afo {l:List Pt}{f:Pt→Bool}{i:Nat}(hi:i<l.length) (hr:(l.drop i).any f=l.any f) (h:f (nth ae l i)=false):(l.drop (i+1)).any f=l.any f:=by
 rw [←hr,bX (ek:=ae) hi,List.any_cons,h];rfl
theorem YA {l:List Pt}{f:Pt→Bool}{i:Nat}(hi:¬i<l.length) (hr:(l.drop i).any f=l.any f):l.any f=false:=by
 rw [←hr,ZB3 (by omega)];rfl
def fG (S:ay) (p:Pt) (lv:Int):Prop:=S.rd
def dp (S:ay) (p:Pt) (lv:Int):AV:=.t [.s (.xs 0 5 0 (bg S p lv).1.length),.s (.q (bg S p lv).2)]
def dX (S:ay) (p:Pt) (lv:Int):List AV:=[.rs ae (bg S p lv).1]
def eg:ct where
 A:=[.a xy,.a [.int,.int,.int,.int,.int],.s .int]
 B:=[]
 pre:=fun x b=>fG (x.1) (x.2.1) (x.2.2)
 r:=fun x b _=>dp (x.1) (x.2.1) (x.2.2)
 o:=fun x b _=>dX (x.1) (x.2.1) (x.2.2)
 nf:=1
theorem lr:Has Tryz.prog 109 eg:=by
 refine Has.fu zT zF zF (l:=[(83,bl),(137,j5),(115,cY),(117,eB),(157,v8)]) ⟨cz,wS,iA,l7,TE,aa⟩ Tryz.func109 ?_
 rintro⟨⟨(aj:List ByteArray),(ak:List Int),(an:List Int),(ao:Int),(ah:List Pt),(aq:Int),(ai:List Pt),(ar:Bool)⟩,⟨(p1:Int),(p2:Int),(p3:Int),(p4:Int),(p5:Int)⟩,(lv:Int)⟩ _ (hp:fG (aj,ak,an,ao,ah,aq,ai,ar) (p1,p2,p3,p4,p5) lv)
 show vc _ _ _ _ (entry [.a [.vz ab aj,.vz ag ak,.vz ag an,.int ao,.vz ae ah,.int aq,.vz ae ai,.q ar],.a [.int p1,.int p2,.int p3,.int p4,.int p5],.int lv] []) _
 have dG:ay.rd (aj,ak,an,ao,ah,aq,ai,ar):=hp
 have hlen:aj.length=64:=dG.1
 have dj:∀q,(bG (aj,ak,an,ao,ah,aq,ai,ar) q).1.size≤1000000:=fun q=>zr dG
 have xF:au (p1,p2,p3,p4,p5)=false→(!(aZ (p1,p2,p3,p4,p5)))=false→0≤p1∧p1<64:=fun h h1=>by
  have:=pV (cM h1);dsimp only at this;omega
 refine⟨⟨⟨⟨aa,aa,aa,aa,aa,aa⟩,aa⟩,aa⟩,fun x1 w2=>⟨fun w3=>⟨⟨⟨aa,aa⟩,?_,?_⟩,fun x4 w5=>?_⟩,fun w6=>⟨⟨⟨⟨aa,aa,aa,aa,aa,aa⟩,aa⟩,aa⟩,fun x7 w8=>⟨aa,fun w9=>⟨aa,?_⟩,fun dy=>⟨aa,fun kC=>⟨aa,?_⟩,fun dK=>⟨fun iV=>⟨aa,?_⟩,fun gP=>⟨⟨⟨⟨aa,aa,aa,aa,aa,aa,aa,aa,aa⟩,⟨aa,aa,aa,aa,aa,aa⟩,aa⟩,fun kA ki=>?_,?_,?_⟩,fun x17 rV=>⟨fun oN=>⟨aa,?_⟩,fun uL=>⟨⟨⟨aa,aa⟩,?_⟩,fun x21 A3=>?_⟩⟩⟩⟩⟩⟩⟩⟩⟩
 all_goals first|refine aw ?_|refine ax ?_|exact a8|(dsimp only [j5,k8,cY,ee,eB,fV,v8,qi];omega)|exact a7|exact dG.2 _ (by assumption)|exact (xF w6 dy).1|(have:=(xF w6 dy).2;show p1<(aj.length:Int);omega)|skip
 ·refine⟨[160000],[],_,_,_,rfl,az,(),aa,?_,?_,rfl⟩
  ·(show _=dp (aj,ak,an,ao,ah,aq,ai,ar) (p1,p2,p3,p4,p5) lv);unfold dp;first|(rw [kx w3];rfl)|rfl
  ·(show _=dX (aj,ak,an,ao,ah,aq,ai,ar) (p1,p2,p3,p4,p5) lv);unfold dX;first|(rw [kx w3];rfl)|rfl
 ·refine⟨[1032],[],_,_,_,rfl,az,(),aa,?_,?_,rfl⟩
  ·(show _=dp (aj,ak,an,ao,ah,aq,ai,ar) (p1,p2,p3,p4,p5) lv);unfold dp;first|(rw [KA w6 w9];rfl)|rfl
  ·(show _=dX (aj,ak,an,ao,ah,aq,ai,ar) (p1,p2,p3,p4,p5) lv);unfold dX;first|(rw [KA w6 w9];rfl)|rfl
 ·refine⟨[1032],[],_,_,_,rfl,az,(),aa,?_,?_,rfl⟩
  ·(show _=dp (aj,ak,an,ao,ah,aq,ai,ar) (p1,p2,p3,p4,p5) lv);unfold dp;first|(rw [wc w6 kC];rfl)|rfl
  ·(show _=dX (aj,ak,an,ao,ah,aq,ai,ar) (p1,p2,p3,p4,p5) lv);unfold dX;first|(rw [wc w6 kC];rfl)|rfl
 ·refine⟨[1032],[],_,_,_,rfl,az,(),aa,?_,?_,rfl⟩
  ·(show _=dp (aj,ak,an,ao,ah,aq,ai,ar) (p1,p2,p3,p4,p5) lv);unfold dp;first|(rw [AG w6 iV];rfl)|rfl
  ·(show _=dX (aj,ak,an,ao,ah,aq,ai,ar) (p1,p2,p3,p4,p5) lv);unfold dX;first|(rw [AG w6 iV];rfl)|rfl
 ·refine⟨[1041],[],_,_,_,rfl,az,(),aa,?_,?_,rfl⟩
  ·(show _=dp (aj,ak,an,ao,ah,aq,ai,ar) (p1,p2,p3,p4,p5) lv);unfold dp;first|(rw [wb (s:=(aj,ak,an,ao,ah,aq,ai,ar)) (p:=(p1,p2,p3,p4,p5)) w6 dy dK gP oN];rfl)|rfl
  ·(show _=dX (aj,ak,an,ao,ah,aq,ai,ar) (p1,p2,p3,p4,p5) lv);unfold dX;first|(rw [wb (s:=(aj,ak,an,ao,ah,aq,ai,ar)) (p:=(p1,p2,p3,p4,p5)) w6 dy dK gP oN];rfl)|rfl
 ·exact dj _
 ·have hB:=wa (s:=(aj,ak,an,ao,ah,aq,ai,ar)) (p:=(p1,p2,p3,p4,p5)) (lv:=lv) w6 dy dK gP uL
  have hF:=(vO (bG (aj,ak,an,ao,ah,aq,ai,ar) (p1,p2,p3,p4,p5)).1).1
  refine cO (l:=[(83,bl),(137,j5),(115,cY),(117,eB),(157,v8)]) (ex:=zT) (wr:=zF) (pt:=zF) ⟨cz,wS,iA,l7,TE,aa⟩ [.s 4,.b 1004,.s 10,.s 11,.b 450000] (fun i:Nat=>[(.s 12,.int i)]) (fun i=>i≤(bm (bG (aj,ak,an,ao,ah,aq,ai,ar) (p1,p2,p3,p4,p5)).1).1.length∧((bm (bG (aj,ak,an,ao,ah,aq,ai,ar) (p1,p2,p3,p4,p5)).1).1.drop i).any (late (p1,p2,p3,p4,p5))=(bm (bG (aj,ak,an,ao,ah,aq,ai,ar) (p1,p2,p3,p4,p5)).1).1.any (late (p1,p2,p3,p4,p5))) (fun i=>(bm (bG (aj,ak,an,ao,ah,aq,ai,ar) (p1,p2,p3,p4,p5)).1).1.length-i) 0 [] ⟨ZA7 _,rfl⟩ dN ?_
  rintro i ⟨hi,hr⟩
  have cq:decide ((i:Int)<((bm (bG (aj,ak,an,ao,ah,aq,ai,ar) (p1,p2,p3,p4,p5)).1).1.length:Int))=true→i<(bm (bG (aj,ak,an,ao,ah,aq,ai,ar) (p1,p2,p3,p4,p5)).1).1.length:=fun h=>by have:=aJ h;omega
  have oe:decide ((i:Int)<((bm (bG (aj,ak,an,ao,ah,aq,ai,ar) (p1,p2,p3,p4,p5)).1).1.length:Int))=false→¬i<(bm (bG (aj,ak,an,ao,ah,aq,ai,ar) (p1,p2,p3,p4,p5)).1).1.length:=fun h=>by have:=aA h;omega
  refine⟨fun w1=>⟨Sq10,Sq53,rfl,Sq12,Sq54,rfl,[.s 53,.s 54],Sq55,rfl,⟨?_,?_⟩,Sq55,Sq56,rfl,[.s 56,.b 450000],Sq57,rfl,?_,Sq4,Sq58,rfl,[.s 58,.b 1004],Sq59,rfl,[.s 57,.s 59],Sq60,rfl,fun w2=>⟨aa,?_⟩,fun w3=>⟨⟨?_,?_⟩,?_⟩⟩,fun w4=>?_⟩
  all_goals first|refine aw ?_|refine ax ?_|exact a8|(dsimp only [j5,k8,cY,ee,eB,fV,v8,qi];omega)|exact a7|exact cq w1|exact aJ w1|skip
  ·refine⟨[1061],[],_,_,_,rfl,az,(),aa,?_,?_,rfl⟩
   ·(show _=dp (aj,ak,an,ao,ah,aq,ai,ar) (p1,p2,p3,p4,p5) lv);unfold dp;first|(rw [hB,we (X9 (cq w1) hr w2)];rfl)|rfl
   ·(show _=dX (aj,ak,an,ao,ah,aq,ai,ar) (p1,p2,p3,p4,p5) lv);unfold dX;first|(rw [hB,we (X9 (cq w1) hr w2)];rfl)|rfl
  ·refine⟨(i+1),[],?_,?_,?_⟩
   rotate_right
   ·exact bW
   ·exact⟨cq w1,afo (cq w1) hr w3⟩
   ·show (bm (bG (aj,ak,an,ao,ah,aq,ai,ar) (p1,p2,p3,p4,p5)).1).1.length-(i+1)<(bm (bG (aj,ak,an,ao,ah,aq,ai,ar) (p1,p2,p3,p4,p5)).1).1.length-i;have:=cq w1;omega
  ·refine⟨[450000],[],_,_,_,rfl,az,(),aa,?_,?_,rfl⟩
   ·(show _=dp (aj,ak,an,ao,ah,aq,ai,ar) (p1,p2,p3,p4,p5) lv);unfold dp;first|(rw [hB,sT (YA (oe w4) hr)];rfl)|rfl
   ·(show _=dX (aj,ak,an,ao,ah,aq,ai,ar) (p1,p2,p3,p4,p5) lv);unfold dX;first|(rw [hB,sT (YA (oe w4) hr)];rfl)|rfl
end GL
end Go.Proofs.YtkgpljpmdkflmaaGreatDoor
