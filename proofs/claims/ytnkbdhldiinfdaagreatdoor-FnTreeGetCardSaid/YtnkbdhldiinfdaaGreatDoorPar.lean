/- A drawn law returns true for every code (its row lists package variables, tied by the card): part 18. -/
import Derived.Test.YtnkbdhldiinfdaaGreatDoorPaq
set_option maxHeartbeats 20000000
set_option maxRecDepth 100000
set_option linter.all false
namespace Go.Proofs.YtnkbdhldiinfdaaGreatDoor
namespace GL
def bj (n:Int):Int:=bif decide (n≤1) then 0 else bif decide (n≤4) then 1 else 2
def ko (k:Int):Int:=bif decide (k=1) then 12 else bif decide (k=2) then 128 else 0
def bh (size each:Int):Int:=(size+each-1) / each
def bH (k s:Int):Int:=bif decide (ko k=0)|| !(ik s 0 (16*ko k)) then -1 else bh s (ko k)
theorem vP (k:Int):ko k=12∨ko k=128∨ko k=0:=by
 unfold ko
 cases decide (k=1)<;>cases decide (k=2)<;>simp
def fe (n:Int):Prop:=True
def uZ (n:Int):AV:=.int (bj n)
def VZ (n:Int):List AV:=[]
def dD:cn where
 A:=[.s .int]
 B:=[]
 pre:=fun x b=>fe x
 r:=fun x b _=>uZ x
 o:=fun x b _=>VZ x
theorem jU:Has Tryz.prog 105 dD:=by
 refine Has.fm zT zF zF (l:=[]) trivial Tryz.func105 ?_
 rintro (n:Int) _ (hp:fe n)
 show vc _ _ _ _ (entry [.int n] []) _
 refine⟨fun w1=>?_,fun w2=>⟨fun w3=>?_,fun w4=>?_⟩⟩
 all_goals first|refine aw ?_|refine ax ?_|exact a8|exact a7|skip
 all_goals
  refine⟨[],[],_,_,_,rfl,az,(),aa,?_,?_,rfl⟩
  ·(show _=uZ n);unfold uZ;first|((simp only [bj, *];rfl))|rfl
  ·rfl
def vg (k:Int):Prop:=True
def u6 (k:Int):AV:=.int (ko k)
def V9 (k:Int):List AV:=[]
def DE:cn where
 A:=[.s .int]
 B:=[]
 pre:=fun x b=>vg x
 r:=fun x b _=>u6 x
 o:=fun x b _=>V9 x
theorem abL:Has Tryz.prog 200 DE:=by
 refine Has.fm zT zF zF (l:=[]) trivial Tryz.func200 ?_
 rintro (k:Int) _ (hp:vg k)
 show vc _ _ _ _ (entry [.int k] []) _
 refine⟨fun w1=>?_,fun w2=>⟨fun w3=>?_,fun w4=>?_⟩⟩
 all_goals first|refine aw ?_|refine ax ?_|exact a8|exact a7|skip
 all_goals
  refine⟨[],[],_,_,_,rfl,az,(),aa,?_,?_,rfl⟩
  ·(show _=u6 k);unfold u6;first|((simp only [ko, *];rfl))|rfl
  ·rfl
def kj (a:Int) (b:Int):Prop:=0≤a∧a≤1000000∧0<b∧b≤1000000
def rD (a:Int) (b:Int):AV:=.int (bh a b)
def ON (a:Int) (b:Int):List AV:=[]
def lq:cn where
 A:=[.s .int,.s .int]
 B:=[]
 pre:=fun x b=>kj (x.1) (x.2)
 r:=fun x b _=>rD (x.1) (x.2)
 o:=fun x b _=>ON (x.1) (x.2)
theorem D2:Has Tryz.prog 201 lq:=by
 refine Has.fm zT zF zF (l:=[]) trivial Tryz.func201 ?_
 rintro⟨(a:Int),(b:Int)⟩ _ (hp:kj a b)
 show vc _ _ _ _ (entry [.int a,.int b] []) _
 obtain⟨h1,h2,h3,h4⟩:=hp
 refine⟨⟨?_,?_⟩,⟨⟨?_,?_⟩,⟨⟨?_,⟨?_,?_⟩⟩,?_⟩⟩⟩
 all_goals first|refine aw ?_|refine ax ?_|exact a8|exact a7|skip
 refine⟨[],[],_,_,_,rfl,az,(),aa,?_,?_,rfl⟩
 ·(show _=rD a b);unfold rD;first|rfl
 ·rfl
def qe (k:Int) (s:Int):Prop:=True
def pP (k:Int) (s:Int):AV:=.int (bH k s)
def KW (k:Int) (s:Int):List AV:=[]
def uh:cn where
 A:=[.s .int,.s .int]
 B:=[]
 pre:=fun x b=>qe (x.1) (x.2)
 r:=fun x b _=>pP (x.1) (x.2)
 o:=fun x b _=>KW (x.1) (x.2)
theorem PI:Has Tryz.prog 168 uh:=by
 refine Has.fm zT zF zF (l:=[(200,DE),(35,hZ),(201,lq)]) ⟨abL,iA,D2,aa⟩ Tryz.func168 ?_
 rintro⟨(k:Int),(s:Int)⟩ _ (hp:qe k s)
 show vc _ _ _ _ (entry [.int k,.int s] []) _
 have hE:=vP k
 have hI:(!(ik s 0 (16*ko k)))=false→0≤s∧s≤2048:=fun h=>by
  have:=cC.1 (cL h)
  omega
 refine⟨⟨tv2,aa⟩,fun x1 w2=>⟨aa,fun w3=>?_,fun w4=>⟨⟨?_,?_⟩,⟨tv4,aa⟩,fun x5 w6=>⟨fun w7=>?_,fun w8=>⟨⟨tv3,?_,?_,?_,?_⟩,fun x9 dy=>?_⟩⟩⟩⟩⟩
 all_goals first|refine aw ?_|refine ax ?_|exact a8|(dsimp only [DE,vg,lq,kj];omega)|exact a7|(have:=hI (by assumption);have:=aA (p:=ko k=0) (by assumption);dsimp only [lq,kj];omega)|skip
 all_goals
  refine⟨[],[],_,_,_,rfl,az,(),aa,?_,?_,rfl⟩
  ·(show _=pP k s);unfold pP;first|((simp only [bH, *];rfl))|rfl
  ·rfl
theorem xz (k s:Int): -1≤bH k s∧bH k s≤16:=by
 unfold bH
 cases h:decide (ko k=0)|| !(ik s 0 (16*ko k)) with
 |true=>simp
 |false=>
  simp only [ZE1,decide_eq_false_iff_not] at h
  have h2:=cC.1 (cL h.2)
  simp only [cond_false,bh]
  rcases vP k with e |e |e
  ·rw [e] at h2 ⊢;omega
  ·rw [e] at h2 ⊢;omega
  ·exact absurd e h.1
abbrev fu.root (n:fu):Pt:=(n.2.2.2.1,n.2.2.2.2.1,n.2.2.2.2.2.1,n.2.2.2.2.2.2.1,n.2.2.2.2.2.2.2.1)
abbrev fu.tree (n:fu):bf:=n.2.2.2
def cy (n:fu):Bool:=
 bif decide (bH n.1 n.2.2.1<0)||(decide (n.2.2.2.2.2.2.2.2.2≠bH n.1 n.2.2.1)||(decide (n.2.2.2.2.2.2.2.2.1≠bj (bH n.1 n.2.2.1))|| !(aZ n.root))) then false
 else ik n.2.1 1 (bif decide (n.1=2) then 1 else 9)&&(au n.root||decide (n.2.2.2.2.2.2.2.1=n.2.2.2.2.2.2.2.2.1))
def qf (n:fu):Prop:=True
def yb (n:fu):AV:=.q (cy n)
def abt (n:fu):List AV:=[]
def qF:cn where
 A:=[.a [.int,.int,.int,.int,.int,.int,.int,.int,.int,.int]]
 B:=[]
 pre:=fun x b=>qf x
 r:=fun x b _=>yb x
 o:=fun x b _=>abt x
theorem IQ:Has Tryz.prog 124 qF:=by
 refine Has.fm zT zF zF (l:=[(168,uh),(105,dD),(80,cX),(81,cx),(35,hZ)]) ⟨PI,jU,iB,cz,iA,aa⟩ Tryz.func124 ?_
 rintro⟨(n1:Int),(n2:Int),(n3:Int),(n4:Int),(n5:Int),(n6:Int),(n7:Int),(n8:Int),(n9:Int),(cw:Int)⟩ _ (hp:qf (n1,n2,n3,n4,n5,n6,n7,n8,n9,cw))
 show vc _ _ _ _ (entry [.a [.int n1,.int n2,.int n3,.int n4,.int n5,.int n6,.int n7,.int n8,.int n9,.int cw]] []) _
 have hbd:=xz n1 n3
 refine⟨⟨tv3,aa⟩,fun x1 w2=>⟨Sq3,Sq10,rfl,Sq10,Sq11,rfl,Sq11,Sq12,rfl,aa,fun w3=>⟨Sq12,Sq13,rfl,Sq12,Sq14,rfl,Sq12,Sq15,rfl,Sq12,Sq16,rfl,Sq12,Sq17,rfl,[.s 12,.s 17],Sq18,rfl,Sq18,Sq19,rfl,Sq19,Sq20,rfl,Sq19,Sq21,rfl,Sq19,Sq22,rfl,Sq19,Sq23,rfl,Sq19,Sq24,rfl,Sq19,Sq25,rfl,[.s 19,.s 25],Sq26,rfl,Sq26,Sq27,rfl,Sq27,Sq28,rfl,Sq27,Sq29,rfl,Sq27,Sq30,rfl,Sq27,Sq31,rfl,Sq27,Sq32,rfl,[.s 27,.s 32],Sq33,rfl,?_⟩,fun w4=>⟨[.s 12,.s 1],Sq13,rfl,[.s 12,.s 13],Sq14,rfl,[.s 12,.s 14,.b 1001],Sq15,rfl,[.s 12,.s 3],Sq16,rfl,[.s 12,.s 15,.s 16],Sq17,rfl,[.s 12,.s 17],Sq18,rfl,Sq18,Sq19,rfl,aa,fun w5=>⟨Sq19,Sq20,rfl,Sq19,Sq21,rfl,Sq19,Sq22,rfl,Sq19,Sq23,rfl,Sq19,Sq24,rfl,Sq19,Sq25,rfl,[.s 19,.s 25],Sq26,rfl,Sq26,Sq27,rfl,Sq27,Sq28,rfl,Sq27,Sq29,rfl,Sq27,Sq30,rfl,Sq27,Sq31,rfl,Sq27,Sq32,rfl,[.s 27,.s 32],Sq33,rfl,?_⟩,fun w6=>⟨[.s 19,.s 1],Sq20,rfl,[.s 19,.s 20],Sq21,rfl,[.s 19,.s 21,.b 1001],Sq22,rfl,[.s 19,.s 3],Sq23,rfl,[.s 19,.s 23],Sq24,rfl,⟨tv2,aa⟩,?_,fun x7 w8=>⟨[.s 19,.s 22,.s 24],Sq25,rfl,[.s 19,.s 25],Sq26,rfl,Sq26,Sq27,rfl,aa,fun w9=>⟨Sq27,Sq28,rfl,Sq27,Sq29,rfl,Sq27,Sq30,rfl,Sq27,Sq31,rfl,Sq27,Sq32,rfl,[.s 27,.s 32],Sq33,rfl,?_⟩,fun dy=>⟨[.s 27,.s 1],Sq28,rfl,[.s 27,.s 28],Sq29,rfl,[.s 27,.s 29,.b 1001],Sq30,rfl,[.s 27,.s 30],Sq31,rfl,⟨⟨tv6,aa⟩,aa⟩,?_,fun kz dJ=>⟨[.s 27,.s 31],Sq32,rfl,[.s 27,.s 32],Sq33,rfl,fun iU=>?_,fun gO=>⟨fun qK=>⟨⟨tv4,aa⟩,fun x16 xh=>⟨aa,fun rS=>⟨⟨⟨tv6,aa⟩,aa⟩,fun x19 uI=>⟨aa,fun A4=>?_,fun A3=>?_⟩⟩,fun xK=>?_⟩⟩,fun rR=>⟨⟨tv4,aa⟩,fun x25 w26=>⟨aa,fun w27=>⟨⟨⟨tv6,aa⟩,aa⟩,fun x28 w29=>⟨aa,fun w30=>?_,fun w31=>?_⟩⟩,fun w32=>?_⟩⟩⟩⟩⟩⟩⟩⟩⟩⟩
 all_goals first|refine aw ?_|refine ax ?_|exact a8|(dsimp only [uh,qe,dD,fe,cX,dZ];omega)|exact a7|skip
 all_goals
  refine⟨[],[],_,_,_,rfl,az,(),aa,?_,?_,rfl⟩
  ·(show _=yb (n1,n2,n3,n4,n5,n6,n7,n8,n9,cw));unfold yb;first|((simp only [cy, *];rfl))|((simp [cy, *]<;>rfl))|rfl
  ·rfl
theorem pn (n:Int):0≤bj n∧bj n≤2:=by
 unfold bj
 cases decide (n≤1)<;>cases decide (n≤4)<;>simp
theorem lh {n:fu}(h:cy n=true):(1≤n.1∧n.1≤2)∧(1≤n.2.1∧n.2.1≤9)∧(0≤n.2.2.1∧n.2.2.1≤2048)∧(0≤n.2.2.2.2.2.2.2.2.1∧n.2.2.2.2.2.2.2.2.1≤2)∧(0≤n.2.2.2.2.2.2.2.2.2∧n.2.2.2.2.2.2.2.2.2≤16)∧aZ n.root=true∧
  n.2.2.2.2.2.2.2.2.2=bH n.1 n.2.2.1∧n.2.2.2.2.2.2.2.2.1=bj n.2.2.2.2.2.2.2.2.2∧(au n.root=true∨n.2.2.2.2.2.2.2.1=n.2.2.2.2.2.2.2.2.1):=by
 unfold cy at h
 cases hb:decide (bH n.1 n.2.2.1<0)||(decide (n.2.2.2.2.2.2.2.2.2≠bH n.1 n.2.2.1)||(decide (n.2.2.2.2.2.2.2.2.1≠bj (bH n.1 n.2.2.1))|| !(aZ n.root))) with
 |true=>rw [hb] at h;cases h
 |false=>
  rw [hb,cond_false] at h
  simp only [ZE1,decide_eq_false_iff_not,ZE9,Bool.not_eq_false] at hb
  obtain⟨h1,h2,h3,h4⟩:=hb
  have h4:=cL h4
  simp only [ZA9,Bool.or_eq_true,decide_eq_true_eq] at h
  have h5:=cC.1 h.1
  have h6:=xz n.1 n.2.2.1
  have h7:=pn (bH n.1 n.2.2.1)
  have hk:(1≤n.1∧n.1≤2)∧(0≤n.2.2.1∧n.2.2.1≤2048):=by
   unfold bH at h1
   cases hc:decide (ko n.1=0)|| !(ik n.2.2.1 0 (16*ko n.1)) with
   |true=>rw [hc] at h1;exact absurd (show (-1:Int)<0 by decide) h1
   |false=>
    simp only [ZE1,decide_eq_false_iff_not] at hc
    have h8:=cC.1 (cL hc.2)
    have h9:=vP n.1
    refine⟨?_,by omega⟩
    by_cases e1:n.1=1
    ·omega
    ·by_cases e2:n.1=2
     ·omega
     ·exact absurd (by unfold ko;rw [decide_eq_false e1,decide_eq_false e2];rfl) hc.1
  have h10:(bif decide (n.1=2) then (1:Int) else 9)≤9:=by cases decide (n.1=2)<;>simp
  refine⟨hk.1,⟨h5.1,by omega⟩,hk.2,by omega,by omega,h4,by omega,?_,h.2⟩
  rw [show n.2.2.2.2.2.2.2.2.2=bH n.1 n.2.2.1 by omega];omega
def aC (n:fu):ByteArray:=bif cy n then (cE [bX n.1,bX n.2.1,bX n.2.2.1,bc n.root,bX n.2.2.2.2.2.2.2.2.1,bX n.2.2.2.2.2.2.2.2.2,⟨#[101,110,100]⟩]).1 else ⟨#[]⟩
def ra (n:fu):Prop:=True
def nI (n:fu):AV:=.str (aC n)
def WL (n:fu):List AV:=[]
def sO:cn where
 A:=[.a [.int,.int,.int,.int,.int,.int,.int,.int,.int,.int]]
 B:=[]
 pre:=fun x b=>ra x
 r:=fun x b _=>nI x
 o:=fun x b _=>WL x
theorem MK:Has Tryz.prog 118 sO:=by
 refine Has.fm zT zF zF (l:=[(124,qF),(161,j5),(162,qC),(160,jG)]) ⟨IQ,wR,IM,vB,aa⟩ Tryz.func118 ?_
 rintro⟨(n1:Int),(n2:Int),(n3:Int),(n4:Int),(n5:Int),(n6:Int),(n7:Int),(n8:Int),(n9:Int),(cw:Int)⟩ _ (hp:ra (n1,n2,n3,n4,n5,n6,n7,n8,n9,cw))
 show vc _ _ _ _ (entry [.a [.int n1,.int n2,.int n3,.int n4,.int n5,.int n6,.int n7,.int n8,.int n9,.int cw]] []) _
 by_cases cG:cy (n1,n2,n3,n4,n5,n6,n7,n8,n9,cw)=true
 ·obtain⟨b1,b2,b3,b4,b5,b6,_,_,_⟩:=lh cG
  dsimp only at b1 b2 b3 b4 b5 b6
  refine⟨⟨⟨tv11,aa⟩,aa⟩,fun x1 w2=>⟨fun w3=>?_,fun w4=>⟨Sq1,Sq9,rfl,[.s 9,.b 1001],Sq10,rfl,Sq10,Sq11,rfl,⟨tv2,?_,?_⟩,?_,fun x5 w6=>⟨Sq1,Sq12,rfl,[.s 12,.b 1001],Sq13,rfl,Sq13,Sq14,rfl,⟨tv2,?_,?_⟩,?_,fun x7 w8=>⟨Sq1,Sq15,rfl,[.s 15,.b 1001],Sq16,rfl,Sq16,Sq17,rfl,⟨tv2,?_,?_⟩,?_,fun x9 dy=>⟨Sq1,Sq18,rfl,Sq18,Sq19,rfl,[.s 19,.b 1001],Sq20,rfl,Sq20,Sq21,rfl,⟨⟨tv6,aa⟩,aa⟩,?_,fun kz dJ=>⟨Sq1,Sq22,rfl,Sq22,Sq23,rfl,[.s 23,.b 1001],Sq24,rfl,Sq24,Sq25,rfl,⟨tv2,?_,?_⟩,?_,fun rW gO=>⟨Sq1,Sq26,rfl,Sq26,Sq27,rfl,[.s 27,.b 1001],Sq28,rfl,Sq28,Sq29,rfl,⟨tv2,?_,?_⟩,?_,fun ky kg=>⟨[.s 11,.s 14,.s 17,.s 21,.s 25,.s 29,.b 1030],[.s 30,.b 1030],rfl,aa,[.s 30,.b 1030],Sq31,rfl,⟨⟨⟨?_,?_⟩,aa⟩,aa⟩,?_,fun x17 rS=>⟨Sq31,Sq8,rfl,Sq8,Sq32,rfl,Sq8,Sq33,rfl,Sq32,Sq3,rfl,Sq33,Sq4,rfl,?_⟩⟩⟩⟩⟩⟩⟩⟩⟩⟩
  all_goals first|refine aw ?_|refine ax ?_|exact a8|(dsimp only [qF,qf,j5,mK,qC,qd,jG,kl];omega)|exact a7|skip
  ·rw [cG] at *;contradiction
  ·have e:aC (n1,n2,n3,n4,n5,n6,n7,n8,n9,cw)=(cE [bX n1,bX n2,bX n3,bc (n4,n5,n6,n7,n8),bX n9,bX cw,⟨#[101,110,100]⟩]).1:=by unfold aC;rw [cG];rfl
   refine⟨[],[],_,_,_,rfl,az,(),aa,?_,?_,rfl⟩
   ·(show _=nI (n1,n2,n3,n4,n5,n6,n7,n8,n9,cw));unfold nI;first|(rw [e];rfl)|rfl
   ·rfl
 ·have uy:cy (n1,n2,n3,n4,n5,n6,n7,n8,n9,cw)=false:=by simpa using cG
  refine⟨⟨⟨tv11,aa⟩,aa⟩,fun x1 w2=>⟨fun w3=>?_,fun w4=>⟨Sq1,Sq9,rfl,[.s 9,.b 1001],Sq10,rfl,Sq10,Sq11,rfl,⟨tv2,?_,?_⟩,?_,fun x5 w6=>⟨Sq1,Sq12,rfl,[.s 12,.b 1001],Sq13,rfl,Sq13,Sq14,rfl,⟨tv2,?_,?_⟩,?_,fun x7 w8=>⟨Sq1,Sq15,rfl,[.s 15,.b 1001],Sq16,rfl,Sq16,Sq17,rfl,⟨tv2,?_,?_⟩,?_,fun x9 dy=>⟨Sq1,Sq18,rfl,Sq18,Sq19,rfl,[.s 19,.b 1001],Sq20,rfl,Sq20,Sq21,rfl,⟨⟨tv6,aa⟩,aa⟩,?_,fun kz dJ=>⟨Sq1,Sq22,rfl,Sq22,Sq23,rfl,[.s 23,.b 1001],Sq24,rfl,Sq24,Sq25,rfl,⟨tv2,?_,?_⟩,?_,fun rW gO=>⟨Sq1,Sq26,rfl,Sq26,Sq27,rfl,[.s 27,.b 1001],Sq28,rfl,Sq28,Sq29,rfl,⟨tv2,?_,?_⟩,?_,fun ky kg=>⟨[.s 11,.s 14,.s 17,.s 21,.s 25,.s 29,.b 1030],[.s 30,.b 1030],rfl,aa,[.s 30,.b 1030],Sq31,rfl,⟨⟨⟨?_,?_⟩,aa⟩,aa⟩,?_,fun x17 rS=>⟨Sq31,Sq8,rfl,Sq8,Sq32,rfl,Sq8,Sq33,rfl,Sq32,Sq3,rfl,Sq33,Sq4,rfl,?_⟩⟩⟩⟩⟩⟩⟩⟩⟩⟩
  all_goals first|exact absurd (cL (by assumption)) cG|skip
  ·have e:aC (n1,n2,n3,n4,n5,n6,n7,n8,n9,cw)=⟨#[]⟩:=by unfold aC;rw [uy];rfl
   refine⟨[],[],_,_,_,rfl,az,(),aa,?_,?_,rfl⟩
   ·(show _=nI (n1,n2,n3,n4,n5,n6,n7,n8,n9,cw));unfold nI;first|(rw [e];rfl)|rfl
   ·rfl
end GL
namespace GL
theorem L5 {s:ByteArray}:∀(f k:Nat),(∀j,j<k→C9 s j=true)→(∀j,j<sA f s k→C9 s j=true)∧sA f s k≤k+f
 |0,k,h=>⟨h,ZB5 _⟩
 |f+1,k,h=>by
  unfold sA
  cases hd:C9 s k with
  |true=>
   have:=L5 (s:=s) f (k+1) (fun j hj=>by
    by_cases e:j=k
    ·rw [e];exact hd
    ·exact h j (by omega))
   exact⟨this.1,ZB0 this.2 (by omega)⟩
  |false=>exact⟨h,ZD3 _ _⟩
theorem aeT {s:ByteArray}{k:Nat}(h:C9 s k=true):k<s.size∧48≤bL s k∧bL s k≤57:=by
 unfold C9 at h
 simp only [ZA9,decide_eq_true_eq] at h
 omega
theorem SG {s:ByteArray}:∀(k:Nat),(∀j,j<k→C9 s j=true)→0≤iN s k∧iN s k<(10:Int) ^ k
 |0,_=>⟨ZC1 _,by show (0:Int)<1;omega⟩
 |k+1,h=>by
  have h1:=SG k (fun j hj=>h j (by omega))
  have h2:=aeT (h k (by omega))
  rw [Int.pow_succ]
  show 0≤10*iN s k+(bL s k-48)∧10*iN s k+(bL s k-48)<_
  omega
theorem abA (s:ByteArray):cW s≤9∧cW s≤s.size∧(0≤iN s (cW s)∧iN s (cW s)≤999999999):=by
 have h:=L5 (s:=s) 9 0 (fun j hj=>absurd hj (by omega))
 have hn:sA 9 s 0=cW s:=rfl
 rw [hn] at h
 have h1:cW s≤9:=by omega
 have h2:=SG _ h.1
 have h3:(10:Int) ^ cW s≤10 ^ 9:=by exact_mod_cast Nat.pow_le_pow_right (by omega) h1
 refine⟨h1,?_,h2.1,by omega⟩
 by_cases e:cW s=0
 ·omega
 ·have:=aeT (h.1 (cW s-1) (by omega));omega
theorem ahE (s:ByteArray):(0≤(CN s).1∧(CN s).1≤999999999)∧(0≤(CN s).2∧(CN s).2≤9)∧(CN s).2≤s.size:=by
 have h:=abA s
 unfold CN
 cases hc:decide ((cW s:Int)>1)&&decide (bL s 0=48) with
 |true=>
  simp only [ZA9,decide_eq_true_eq] at hc
  show (0≤(0:Int)∧(0:Int)≤999999999)∧(0≤(1:Int)∧(1:Int)≤9)∧(1:Int)≤s.size
  omega
 |false=>
  show (0≤iN s (cW s)∧iN s (cW s)≤999999999)∧(0≤(cW s:Int)∧(cW s:Int)≤9)∧(cW s:Int)≤s.size
  omega
def qt (s:ByteArray) (i:Int) (r:Int×Int):Bool:=
 decide (r.2=0)||(decide (i+r.2≥s.size)||(decide (bL s (i+r.2).toNat≠58)||decide (r.1>s.size-i-r.2-1)))
abbrev tQ (s:ByteArray) (i:Int):Int×Int:=CN (s.extract i.toNat s.size)
def JB:Nat→ByteArray→Int→List ByteArray→Option (List ByteArray)
 |0,_,_,_=>none
 |f+1,s,i,out=>bif decide (i<s.size) then
   (bif qt s i (tQ s i) then none else
    JB f s (i+(tQ s i).2+1+(tQ s i).1) (out++[s.extract (i+(tQ s i).2+1).toNat (i+(tQ s i).2+1+(tQ s i).1).toNat]))
  else some out
theorem EA {f:Nat}{s:ByteArray}{i:Int}{out:List ByteArray}(h:decide (i<s.size)=true) (hb:qt s i (tQ s i)=true):JB (f+1) s i out=none:=by rw [JB,h,hb];rfl
theorem ag0 {f:Nat}{s:ByteArray}{i:Int}{out:List ByteArray}(h:decide (i<s.size)=true) (hb:qt s i (tQ s i)=false):JB (f+1) s i out=JB f s (i+(tQ s i).2+1+(tQ s i).1) (out++[s.extract (i+(tQ s i).2+1).toNat (i+(tQ s i).2+1+(tQ s i).1).toNat]):=by rw [JB,h,hb];rfl
theorem aeA {f:Nat}{s:ByteArray}{i:Int}{out:List ByteArray}(h:decide (i<s.size)=false):JB (f+1) s i out=some out:=by rw [JB,h];rfl
theorem aac {s:ByteArray}{i:Int}{r:Int×Int}(h:decide (r.2=0)=true):qt s i r=true:=by unfold qt;rw [h];rfl
theorem aab {s:ByteArray}{i:Int}{r:Int×Int}(h:decide (i+r.2≥s.size)=true):qt s i r=true:=by unfold qt;rw [h,Bool.true_or,ZC4]
theorem aaa {s:ByteArray}{i:Int}{r:Int×Int}(h:decide (bL s (i+r.2).toNat≠58)=true):qt s i r=true:=by unfold qt;rw [h,Bool.true_or,ZC4,ZC4]
theorem Z9 {s:ByteArray}{i:Int}{r:Int×Int}(h:decide (r.1>s.size-i-r.2-1)=true):qt s i r=true:=by unfold qt;rw [h,ZC4,ZC4,ZC4]
theorem aad {s:ByteArray}{i:Int}{r:Int×Int}(h1:decide (r.2=0)=false) (h2:decide (i+r.2≥s.size)=false) (h3:decide (bL s (i+r.2).toNat≠58)=false) (h4:decide (r.1>s.size-i-r.2-1)=false):qt s i r=false:=by unfold qt;rw [h1,h2,h3,h4];rfl
def vJ (s:ByteArray) (out:List ByteArray):List ByteArray×Bool:=bif !(cE out).2||decide ((cE out).1≠s) then ([],false) else (out,true)
def bq (s:ByteArray):List ByteArray×Bool:=
 bif decide ((s.size:Int)≤2048) then (match JB (s.size+1) s 0 [] with
  |none=>([],false)
  |some out=>vJ s out) else ([],false)
theorem gF {s:ByteArray}(h:decide ((s.size:Int)≤2048)=true) (h2:JB (s.size+1) s 0 []=none):bq s=([],false):=by unfold bq;rw [h,h2];rfl
theorem jW {s:ByteArray}{out:List ByteArray}(h:decide ((s.size:Int)≤2048)=true) (h2:JB (s.size+1) s 0 []=some out):bq s=vJ s out:=by unfold bq;rw [h,h2];rfl
theorem oW {s:ByteArray}(h:decide ((s.size:Int)≤2048)=false):bq s=([],false):=by unfold bq;rw [h];rfl
theorem Z7 {s:ByteArray}{out:List ByteArray}(h:(!(cE out).2)=true):vJ s out=([],false):=by unfold vJ;rw [h];rfl
theorem Z6 {s:ByteArray}{out:List ByteArray}(h:decide ((cE out).1≠s)=true):vJ s out=([],false):=by unfold vJ;rw [h,ZC4];rfl
theorem Z5 {s:ByteArray}{out:List ByteArray}(h:(!(cE out).2)=false) (h2:decide ((cE out).1≠s)=false):vJ s out=(out,true):=by unfold vJ;rw [h,h2];rfl
def ns (s:ByteArray):Prop:=s.size≤1000000
def ca (s:ByteArray):AV:=.t [.s (.xs 0 1 0 (bq s).1.length),.s (.q (bq s).2)]
def ct (s:ByteArray):List AV:=[.rs ab (bq s).1]
def vX:cn where
 A:=[.s .str]
 B:=[]
 pre:=fun x b=>ns x
 r:=fun x b _=>ca x
 o:=fun x b _=>ct x
 nf:=1
theorem TG:Has Tryz.prog 121 vX:=by
 refine Has.fm zT zF zF (l:=[(166,tZ),(160,jG)]) ⟨PA,vB,aa⟩ Tryz.func121 ?_
 rintro (s:ByteArray) _ (hp:ns s)
 show vc _ _ _ _ (entry [.str s] []) _
 unfold ns at hp
 refine⟨aa,?_⟩
 all_goals first|refine aw ?_|refine ax ?_|exact a8|(dsimp only [tZ,k7,jG,kl];omega)|exact a7|skip
 refine cN (l:=[(166,tZ),(160,jG)]) (ex:=zT) (wr:=zF) (pt:=zF) ⟨PA,vB,trivial⟩ [.s 0] (fun y:Int×List ByteArray×Nat=>[(.s 4,.s (.xs 1010 1 0 y.2.1.length)),(.s 5,.int y.1),(.b 1010,.rs ab y.2.1)]) (fun y=>(0≤y.1∧y.1≤s.size)∧(y.2.1.length:Int)≤y.1∧(s.size:Int)<y.1+y.2.2∧(s.size≤2048→JB y.2.2 s y.1 y.2.1=JB (s.size+1) s 0 [])∧(2048<s.size→y.1=0∧y.2.1=[])) (fun y=>(s.size-y.1).toNat) (0,[],s.size+1) [] ⟨⟨ZC1 _,by show (0:Int)≤s.size;omega⟩,ZC1 _,by show (s.size:Int)<0+(s.size+1:Nat);omega,fun _=>rfl,fun _=>⟨rfl,rfl⟩⟩ dM ?_
 rintro⟨i,out,f⟩ ⟨⟨(hi0:0≤i),(hi:i≤s.size)⟩,(hl:(out.length:Int)≤i),(hf:(s.size:Int)<i+f),(hr:s.size≤2048→JB f s i out=JB (s.size+1) s 0 []),(h0:2048<s.size→i=0∧out=[])⟩
 have hb:=ahE (s.extract i.toNat s.size)
 rw [ZC5] at hb
 have h48:decide ((s.size:Int)≤2048)=true→s.size≤2048:=fun h=>by have:=aJ h;omega
 obtain⟨g,rfl⟩:∃g,f=g+1:=⟨f-1,by omega⟩
 refine⟨aa,fun w1=>⟨fun w2=>⟨⟨?_,?_,?_⟩,⟨tv2,?_⟩,fun x3 w4=>⟨aa,fun w5=>⟨aa,?_⟩,fun w6=>⟨⟨?_,?_⟩,aa,fun w7=>⟨aa,?_⟩,fun w8=>⟨⟨?_,?_⟩,⟨?_,?_⟩,aa,fun w9=>⟨aa,?_⟩,fun dy=>⟨⟨?_,?_⟩,⟨?_,?_⟩,⟨?_,?_⟩,fun kA=>⟨aa,?_⟩,fun dJ=>⟨⟨?_,?_⟩,⟨?_,?_⟩,⟨?_,?_⟩,⟨?_,?_⟩,⟨?_,?_⟩,⟨?_,?_,?_⟩,aa,⟨⟨?_,?_⟩,?_,?_⟩,⟨?_,?_⟩,⟨?_,?_⟩,⟨?_,?_⟩,?_⟩⟩⟩⟩⟩⟩,fun iU=>⟨⟨⟨⟨?_,?_⟩,aa⟩,aa⟩,fun x14 qK=>⟨aa,fun kg=>⟨aa,?_⟩,fun xh=>⟨fun rS=>⟨aa,?_⟩,fun oL=>?_⟩⟩⟩⟩,fun uI=>⟨⟨⟨⟨?_,?_⟩,aa⟩,aa⟩,fun x21 A3=>⟨aa,fun xK=>⟨aa,?_⟩,fun rR=>⟨fun w25=>⟨aa,?_⟩,fun w26=>?_⟩⟩⟩⟩
 all_goals first|refine aw ?_|refine ax ?_|exact a8|(dsimp only [tZ,k7,jG,kl];omega)|exact a7|(show k7 (s.extract i.toNat s.size);unfold k7;rw [ZC5];omega)|skip
 ·refine⟨[1056],[],_,_,_,rfl,az,(),aa,?_,?_,rfl⟩
  ·(show _=ca s);unfold ca;first|(rw [gF w2 (by rw [←hr (h48 w2),EA w1 (aac w5)])];rfl)|rfl
  ·(show _=ct s);unfold ct;first|(rw [gF w2 (by rw [←hr (h48 w2),EA w1 (aac w5)])];rfl)|rfl
 ·refine⟨[1056],[],_,_,_,rfl,az,(),aa,?_,?_,rfl⟩
  ·(show _=ca s);unfold ca;first|(rw [gF w2 (by rw [←hr (h48 w2),EA w1 (aab w7)])];rfl)|rfl
  ·(show _=ct s);unfold ct;first|(rw [gF w2 (by rw [←hr (h48 w2),EA w1 (aab w7)])];rfl)|rfl
 ·refine⟨[1056],[],_,_,_,rfl,az,(),aa,?_,?_,rfl⟩
  ·(show _=ca s);unfold ca;first|(rw [gF w2 (by rw [←hr (h48 w2),EA w1 (aaa w9)])];rfl)|rfl
  ·(show _=ct s);unfold ct;first|(rw [gF w2 (by rw [←hr (h48 w2),EA w1 (aaa w9)])];rfl)|rfl
 ·refine⟨[1056],[],_,_,_,rfl,az,(),aa,?_,?_,rfl⟩
  ·(show _=ca s);unfold ca;first|(rw [gF w2 (by rw [←hr (h48 w2),EA w1 (Z9 kA)])];rfl)|rfl
  ·(show _=ct s);unfold ct;first|(rw [gF w2 (by rw [←hr (h48 w2),EA w1 (Z9 kA)])];rfl)|rfl
 ·have h5:¬((tQ s i).2=0):=aA w6
  have h6:¬(i+(tQ s i).2≥s.size):=aA w8
  have h7:¬((tQ s i).1>s.size-i-(tQ s i).2-1):=aA dJ
  have h8:s.size≤2048:=h48 w2
  have hb:(0≤(tQ s i).1∧(tQ s i).1≤999999999)∧(0≤(tQ s i).2∧(tQ s i).2≤9)∧_:=hb
  refine⟨(i+(tQ s i).2+1+(tQ s i).1,out++[s.extract (i+(tQ s i).2+1).toNat (i+(tQ s i).2+1+(tQ s i).1).toNat],g),[(1010,1071)],?_,?_,?_⟩
  rotate_right
  ·exact bV
  ·refine⟨⟨?_,?_⟩,?_,?_,fun h=>?_,fun h=>absurd h8 (by omega)⟩
   ·show 0≤i+(tQ s i).2+1+(tQ s i).1;omega
   ·show i+(tQ s i).2+1+(tQ s i).1≤_;omega
   ·show ((List.length (_++_):Nat):Int)≤i+(tQ s i).2+1+(tQ s i).1;rw [ZA0];show ((out.length+1:Nat):Int)≤_;omega
   ·show (s.size:Int)<i+(tQ s i).2+1+(tQ s i).1+(g:Int);omega
   ·rw [←hr h,ag0 w1 (aad w6 w8 dy dJ)]
  ·show (s.size-(i+(tQ s i).2+1+(tQ s i).1)).toNat<(s.size-i).toNat;omega
 ·obtain⟨rfl,rfl⟩:=h0 (by have:=aA iU;omega)
  refine⟨[1090],[],_,_,_,rfl,az,(),aa,?_,?_,rfl⟩
  ·(show _=ca s);unfold ca;first|(rw [oW iU];rfl)|rfl
  ·(show _=ct s);unfold ct;first|(rw [oW iU];rfl)|rfl
 ·obtain⟨rfl,rfl⟩:=h0 (by have:=aA iU;omega)
  refine⟨[1090],[],_,_,_,rfl,az,(),aa,?_,?_,rfl⟩
  ·(show _=ca s);unfold ca;first|(rw [oW iU];rfl)|rfl
  ·(show _=ct s);unfold ct;first|(rw [oW iU];rfl)|rfl
 ·obtain⟨rfl,rfl⟩:=h0 (by have:=aA iU;omega)
  have h9:¬((⟨#[]⟩:ByteArray)≠s):=aA oL
  have h10:(⟨#[]⟩:ByteArray)=s:=ZE9.1 h9
  have h11:¬((s.size:Int)≤2048):=aA iU
  exact absurd (show ((s.size:Nat):Int)≤2048 by rw [←h10];show (0:Int)≤2048;omega) h11
 all_goals
  have h13:¬(i<(s.size:Int)):=aA uI
  have h14:JB (g+1) s i out=some out:=aeA uI
  have xE:decide ((s.size:Int)≤2048)=true:=by
   cases hh:decide ((s.size:Int)≤2048) with
   |true=>rfl
   |false=>
    have h16:=aA hh
    obtain⟨rfl,_⟩:=h0 (by omega)
    omega
  have e:JB (s.size+1) s 0 []=some out:=by rw [←hr (h48 xE),h14]
 ·refine⟨[1090],[],_,_,_,rfl,az,(),aa,?_,?_,rfl⟩
  ·(show _=ca s);unfold ca;first|(rw [jW xE e,Z7 (out:=out) xK];rfl)|rfl
  ·(show _=ct s);unfold ct;first|(rw [jW xE e,Z7 (out:=out) xK];rfl)|rfl
 ·refine⟨[1090],[],_,_,_,rfl,az,(),aa,?_,?_,rfl⟩
  ·(show _=ca s);unfold ca;first|(rw [jW xE e,Z6 (out:=out) w25];rfl)|rfl
  ·(show _=ct s);unfold ct;first|(rw [jW xE e,Z6 (out:=out) w25];rfl)|rfl
 ·refine⟨[1010],[],_,_,_,rfl,az,(),aa,?_,?_,rfl⟩
  ·(show _=ca s);unfold ca;first|(rw [jW xE e,Z5 (out:=out) rR w26];rfl)|rfl
  ·(show _=ct s);unfold ct;first|(rw [jW xE e,Z5 (out:=out) rR w26];rfl)|rfl
def mS (w:List ByteArray):fu:=
 ((aD (nth ab w 0)).1,(aD (nth ab w 1)).1,(aD (nth ab w 2)).1,
   (bP (nth ab w 3)).1.1,(bP (nth ab w 3)).1.2.1,(bP (nth ab w 3)).1.2.2.1,(bP (nth ab w 3)).1.2.2.2.1,(bP (nth ab w 3)).1.2.2.2.2,
   (aD (nth ab w 4)).1,(aD (nth ab w 5)).1)
def nz:fu:=(0,0,0,0,0,0,0,0,0,0)
def bz (s:ByteArray):fu×Bool:=
 bif !(bq s).2||(decide (((bq s).1.length:Int)≠7)||(!(cy (mS (bq s).1))||decide (aC (mS (bq s).1)≠s))) then (nz,false) else (mS (bq s).1,true)
theorem yu {s:ByteArray}(h:(!(bq s).2)=true):bz s=(nz,false):=by unfold bz;rw [h];rfl
theorem tC {s:ByteArray}(h:decide (((bq s).1.length:Int)≠7)=true):bz s=(nz,false):=by unfold bz;rw [h,Bool.true_or,ZC4];rfl
theorem yt {s:ByteArray}(h:(!(cy (mS (bq s).1)))=true):bz s=(nz,false):=by unfold bz;rw [h,Bool.true_or,ZC4,ZC4];rfl
theorem yr {s:ByteArray}(h:decide (aC (mS (bq s).1)≠s)=true):bz s=(nz,false):=by unfold bz;rw [h,ZC4,ZC4,ZC4];rfl
theorem yv {s:ByteArray}(h1:(!(bq s).2)=false) (h2:decide (((bq s).1.length:Int)≠7)=false) (h3:(!(cy (mS (bq s).1)))=false) (h4:decide (aC (mS (bq s).1)≠s)=false):bz s=(mS (bq s).1,true):=by unfold bz;rw [h1,h2,h3,h4];rfl
def ndA (n:fu):A0:=.a (EK.AX o7 n)
theorem aez {s:ByteArray}:∀{f:Nat}{i:Int}{out r:List ByteArray},JB f s i out=some r→(∀x∈out,x.size≤s.size)→∀x∈r,x.size≤s.size
 |0,_,_,_,h,_=>by cases h
 |f+1,i,out,r,h,ho=>by
  unfold JB at h
  cases hc:decide (i<(s.size:Int)) with
  |true=>
   rw [hc,cond_true] at h
   cases hb:qt s i (tQ s i) with
   |true=>rw [hb] at h;cases h
   |false=>
    rw [hb,cond_false] at h
    refine aez h fun x hx=>?_
    rcases ZB4.1 hx with hx |hx
    ·exact ho x hx
    ·simp only [ZB8,ZF6,or_false] at hx
     subst hx
     rw [ZC5];omega
  |false=>rw [hc] at h;cases h;exact ho
theorem K4 {s:ByteArray}:∀x∈(bq s).1,x.size≤s.size:=by
 intro x hx
 unfold bq at hx
 cases hc:decide ((s.size:Int)≤2048) with
 |true=>
  rw [hc,cond_true] at hx
  cases hr:JB (s.size+1) s 0 [] with
  |none=>rw [hr] at hx;cases hx
  |some out=>
   rw [hr] at hx
   have ho:=aez hr (fun _ h=>by cases h)
   unfold vJ at hx
   cases hd: !(cE out).2||decide ((cE out).1≠s) with
   |true=>simp only [hd,cond_true] at hx;cases hx
   |false=>simp only [hd,cond_false] at hx;exact ho x hx
 |false=>rw [hc] at hx;cases hx
def lf (s:ByteArray):Prop:=s.size≤1000000
def fc (s:ByteArray):AV:=.t [ndA (bz s).1,.s (.q (bz s).2)]
def WM (s:ByteArray):List AV:=[]
def ng:cn where
 A:=[.s .str]
 B:=[]
 pre:=fun x b=>lf x
 r:=fun x b _=>fc x
 o:=fun x b _=>WM x
theorem CT:Has Tryz.prog 82 ng:=by
 refine Has.fm zT zF zF (l:=[(121,vX),(122,jF),(123,qD),(124,qF),(118,sO)]) ⟨TG,vA,IN,IQ,MK,aa⟩ Tryz.func82 ?_
 rintro (s:ByteArray) _ (hp:lf s)
 show vc _ _ _ _ (entry [.str s] []) _
 unfold lf at hp
 have dj:∀k,(nth ab (bq s).1 k).size≤1000000:=fun k=>by
  by_cases h:k<(bq s).1.length
  ·exact ZB0 (K4 _ (bR (ek:=ab) h)) hp
  ·unfold nth;rw [ZD8 (by omega)];exact ZA7 _
 have af4:∀k,gI (nth ab (bq s).1 k):=fun k=>by unfold gI;have:=dj k;omega
 refine⟨⟨tv2,?_⟩,fun x1 w2=>⟨aa,fun w3=>?_,fun w4=>⟨fun w5=>?_,fun w6=>⟨⟨?_,?_⟩,?_,⟨tv2,?_⟩,fun x7 w8=>⟨⟨?_,?_⟩,?_,⟨tv2,?_⟩,fun x9 dy=>⟨⟨?_,?_⟩,?_,⟨tv2,?_⟩,fun kz dJ=>⟨⟨?_,?_⟩,?_,⟨tv2,?_⟩,fun rW gO=>⟨⟨?_,?_⟩,?_,⟨tv2,?_⟩,fun ky kg=>⟨⟨?_,?_⟩,?_,⟨tv2,?_⟩,fun x17 rS=>⟨⟨⟨tv11,aa⟩,aa⟩,fun x19 uI=>⟨aa,fun A4=>?_,fun A3=>⟨⟨⟨tv11,aa⟩,aa⟩,fun x23 rR=>⟨fun w25=>?_,fun w26=>?_⟩⟩⟩⟩⟩⟩⟩⟩⟩⟩⟩⟩⟩
 all_goals first|refine aw ?_|refine ax ?_|exact a8|(dsimp only [vX,ns,jF,gI,qD,mN,qF,qf,sO,ra];omega)|exact a7|exact dj _|exact af4 _|skip
 ·refine⟨[],[],_,_,_,rfl,az,(),aa,?_,?_,rfl⟩
  ·(show _=fc s);unfold fc;first|(rw [yu w3];rfl)|rfl
  ·rfl
 ·refine⟨[],[],_,_,_,rfl,az,(),aa,?_,?_,rfl⟩
  ·(show _=fc s);unfold fc;first|(rw [tC w5];rfl)|rfl
  ·rfl
 ·refine⟨[],[],_,_,_,rfl,az,(),aa,?_,?_,rfl⟩
  ·(show _=fc s);unfold fc;first|(rw [yt A4];rfl)|rfl
  ·rfl
 ·refine⟨[],[],_,_,_,rfl,az,(),aa,?_,?_,rfl⟩
  ·(show _=fc s);unfold fc;first|(rw [yr w25];rfl)|rfl
  ·rfl
 ·refine⟨[],[],_,_,_,rfl,az,(),aa,?_,?_,rfl⟩
  ·(show _=fc s);unfold fc;first|(rw [yv w4 w6 A3 w26];rfl)|rfl
  ·rfl
end GL
namespace GL
def cu (n:Nat):List Pt:=List.replicate n bM
def kZ (n:Int):Prop:=0≤n∧n≤1000
def uY (n:Int):AV:=.s (.xs 0 5 0 (cu n.toNat).length)
def yo (n:Int):List AV:=[.rs ae (cu n.toNat)]
def j3:cn where
 A:=[.s .int]
 B:=[]
 pre:=fun x b=>kZ x
 r:=fun x b _=>uY x
 o:=fun x b _=>yo x
 nf:=1
theorem wP:Has Tryz.prog 107 j3:=by
 refine Has.fm zT zF zF (l:=[]) trivial Tryz.func107 ?_
 rintro (n:Int) _ (hp:kZ n)
 show vc _ _ _ _ (entry [.int n] []) _
 obtain⟨h1,h2⟩:=hp
 refine⟨⟨?_,⟨?_,?_⟩⟩,?_⟩
 all_goals first|refine aw ?_|refine ax ?_|exact a8|exact a7|skip
 refine⟨[1004],[],_,_,_,rfl,az,(),aa,?_,?_,rfl⟩
 ·(show _=uY n);unfold uY;first|(rw [show (cu n.toNat).length=n.toNat from ZG2];rfl)|rfl
 ·(show _=yo n);unfold yo;first|(rw [show (cu n.toNat).length=n.toNat from ZG2];rfl)|rfl
structure ay.rd (s:ay):Prop where
 len:s.rows.length=64
 sz:∀x∈s.rows,x.size≤1000000
theorem zp {s:ay}{p:Pt}(h:s.rd):(bF s p).1.size≤1000000:=by
 unfold bF
 cases au p with
 |true=>exact ZA7 _
 |false=>
  cases iX p (nth ab s.rows p.1.toNat) with
  |true=>
   show (nth ab s.rows p.1.toNat).size≤1000000
   by_cases hk:p.1.toNat<s.rows.length
   ·exact h.2 _ (bR (ek:=ab) hk)
   ·unfold nth;rw [ZD8 (by omega)];exact ZA7 _
  |false=>exact ZA7 _
def oI (p:Pt) (r:List Pt×Bool):List Pt×Bool:=bif r.1.any (fun q=>decide (q.2.1>p.2.1)) then ([],false) else r
def bg (s:ay) (p:Pt) (lv:Int):List Pt×Bool:=
 bif au p then (cu 4,true) else
 bif !(aZ p)||(decide (p.2.2.2.2≠lv)||decide (p.2.1>s.cg)) then ([],false) else
 bif !(bF s p).2 then ([],false) else oI p (bl (bF s p).1)
theorem kt {s:ay}{p:Pt}{lv:Int}(h:au p=true):bg s p lv=(cu 4,true):=by unfold bg;rw [h];rfl
theorem KC {s:ay}{p:Pt}{lv:Int}(h:au p=false) (h1:(!(aZ p))=true):bg s p lv=([],false):=by unfold bg;rw [h,h1];rfl
theorem v8 {s:ay}{p:Pt}{lv:Int}(h:au p=false) (h1:decide (p.2.2.2.2≠lv)=true):bg s p lv=([],false):=by unfold bg;rw [h,h1,Bool.true_or,ZC4];rfl
theorem AG {s:ay}{p:Pt}{lv:Int}(h:au p=false) (h1:decide (p.2.1>s.cg)=true):bg s p lv=([],false):=by unfold bg;rw [h,h1,ZC4,ZC4];rfl
theorem v7 {s:ay}{p:Pt}{lv:Int}(h:au p=false) (h1:(!(aZ p))=false) (h2:decide (p.2.2.2.2≠lv)=false) (h3:decide (p.2.1>s.cg)=false) (h4:(!(bF s p).2)=true):bg s p lv=([],false):=by unfold bg;rw [h,h1,h2,h3,h4];rfl
theorem vZ {s:ay}{p:Pt}{lv:Int}(h:au p=false) (h1:(!(aZ p))=false) (h2:decide (p.2.2.2.2≠lv)=false) (h3:decide (p.2.1>s.cg)=false) (h4:(!(bF s p).2)=false):bg s p lv=oI p (bl (bF s p).1):=by unfold bg;rw [h,h1,h2,h3,h4];rfl
theorem vL (s:ByteArray):(bl s).1.length≤4∧((bl s).2=true→(bl s).1.length=4):=by
 unfold bl
 cases oh (bm s 44) [] false with
 |none=>exact⟨ZA7 _,fun h=>by cases h⟩
 |some r=>
  obtain⟨o,sm⟩:=r
  show (l8 o sm).1.length≤4∧((l8 o sm).2=true→(l8 o sm).1.length=4)
  unfold l8
  cases hc:decide ((o.length:Int)≠4)|| !sm with
  |true=>exact⟨ZA7 _,fun h=>by cases h⟩
  |false=>
   simp only [ZE1,decide_eq_false_iff_not,ZE9] at hc
   have:o.length=4:=by omega
   exact⟨by show o.length≤4;omega,fun _=>this⟩
abbrev late (p:Pt):Pt→Bool:=fun q=>decide (q.2.1>p.2.1)
theorem wa {p:Pt}{r:List Pt×Bool}(h:r.1.any (late p)=true):oI p r=([],false):=by unfold oI;rw [h];rfl
theorem sQ {p:Pt}{r:List Pt×Bool}(h:r.1.any (late p)=false):oI p r=r:=by unfold oI;rw [h];rfl
theorem YB {l:List Pt}{f:Pt→Bool}{i:Nat}(hi:i<l.length) (hr:(l.drop i).any f=l.any f) (h:f (nth ae l i)=true):l.any f=true:=by
 rw [←hr,bW (ek:=ae) hi,List.any_cons,h];rfl
theorem afu {l:List Pt}{f:Pt→Bool}{i:Nat}(hi:i<l.length) (hr:(l.drop i).any f=l.any f) (h:f (nth ae l i)=false):(l.drop (i+1)).any f=l.any f:=by
 rw [←hr,bW (ek:=ae) hi,List.any_cons,h];rfl
theorem YC {l:List Pt}{f:Pt→Bool}{i:Nat}(hi:¬i<l.length) (hr:(l.drop i).any f=l.any f):l.any f=false:=by
 rw [←hr,ZB3 (by omega)];rfl
def fF (S:ay) (p:Pt) (lv:Int):Prop:=S.rd
def dq (S:ay) (p:Pt) (lv:Int):AV:=.t [.s (.xs 0 5 0 (bg S p lv).1.length),.s (.q (bg S p lv).2)]
def dW (S:ay) (p:Pt) (lv:Int):List AV:=[.rs ae (bg S p lv).1]
def ef:cn where
 A:=[.a xv,.a [.int,.int,.int,.int,.int],.s .int]
 B:=[]
 pre:=fun x b=>fF (x.1) (x.2.1) (x.2.2)
 r:=fun x b _=>dq (x.1) (x.2.1) (x.2.2)
 o:=fun x b _=>dW (x.1) (x.2.1) (x.2.2)
 nf:=1
theorem lk:Has Tryz.prog 154 ef:=by
 refine Has.fm zT zF zF (l:=[(81,cx),(107,j3),(80,cX),(71,eA),(195,vY)]) ⟨cz,wP,iB,lZ,TH,aa⟩ Tryz.func154 ?_
 rintro⟨⟨(aj:List ByteArray),(ak:List Int),(an:List Int),(ao:Int),(ah:List Pt),(aq:Int),(ai:List Pt),(ar:Bool)⟩,⟨(p1:Int),(p2:Int),(p3:Int),(p4:Int),(p5:Int)⟩,(lv:Int)⟩ _ (hp:fF (aj,ak,an,ao,ah,aq,ai,ar) (p1,p2,p3,p4,p5) lv)
 show vc _ _ _ _ (entry [.a [.vz ab aj,.vz ag ak,.vz ag an,.int ao,.vz ae ah,.int aq,.vz ae ai,.q ar],.a [.int p1,.int p2,.int p3,.int p4,.int p5],.int lv] []) _
 have dF:ay.rd (aj,ak,an,ao,ah,aq,ai,ar):=hp
 have hlen:aj.length=64:=dF.1
 have dj:∀q,(bF (aj,ak,an,ao,ah,aq,ai,ar) q).1.size≤1000000:=fun q=>zp dF
 have xD:au (p1,p2,p3,p4,p5)=false→(!(aZ (p1,p2,p3,p4,p5)))=false→0≤p1∧p1<64:=fun h h1=>by
  have:=pT (cL h1);dsimp only at this;omega
 refine⟨⟨⟨tv6,aa⟩,aa⟩,fun x1 w2=>⟨fun w3=>⟨⟨tv2,?_,?_⟩,fun x4 w5=>?_⟩,fun w6=>⟨⟨⟨tv6,aa⟩,aa⟩,fun x7 w8=>⟨aa,fun w9=>⟨aa,?_⟩,fun dy=>⟨aa,fun kA=>⟨aa,?_⟩,fun dJ=>⟨fun iU=>⟨aa,?_⟩,fun gO=>⟨⟨⟨tv9,tv6,aa⟩,fun ky kg=>?_,?_,?_⟩,fun x17 rS=>⟨fun oL=>⟨aa,?_⟩,fun uI=>⟨⟨tv2,?_⟩,fun x21 A3=>?_⟩⟩⟩⟩⟩⟩⟩⟩⟩
 all_goals first|refine aw ?_|refine ax ?_|exact a8|(dsimp only [j3,kZ,cX,dZ,eA,fV,vY,qg];omega)|exact a7|exact dF.2 _ (by assumption)|exact (xD w6 dy).1|(have:=(xD w6 dy).2;show p1<(aj.length:Int);omega)|skip
 ·refine⟨[160000],[],_,_,_,rfl,az,(),aa,?_,?_,rfl⟩
  ·(show _=dq (aj,ak,an,ao,ah,aq,ai,ar) (p1,p2,p3,p4,p5) lv);unfold dq;first|(rw [kt w3];rfl)|rfl
  ·(show _=dW (aj,ak,an,ao,ah,aq,ai,ar) (p1,p2,p3,p4,p5) lv);unfold dW;first|(rw [kt w3];rfl)|rfl
 ·refine⟨[1032],[],_,_,_,rfl,az,(),aa,?_,?_,rfl⟩
  ·(show _=dq (aj,ak,an,ao,ah,aq,ai,ar) (p1,p2,p3,p4,p5) lv);unfold dq;first|(rw [KC w6 w9];rfl)|rfl
  ·(show _=dW (aj,ak,an,ao,ah,aq,ai,ar) (p1,p2,p3,p4,p5) lv);unfold dW;first|(rw [KC w6 w9];rfl)|rfl
 ·refine⟨[1032],[],_,_,_,rfl,az,(),aa,?_,?_,rfl⟩
  ·(show _=dq (aj,ak,an,ao,ah,aq,ai,ar) (p1,p2,p3,p4,p5) lv);unfold dq;first|(rw [v8 w6 kA];rfl)|rfl
  ·(show _=dW (aj,ak,an,ao,ah,aq,ai,ar) (p1,p2,p3,p4,p5) lv);unfold dW;first|(rw [v8 w6 kA];rfl)|rfl
 ·refine⟨[1032],[],_,_,_,rfl,az,(),aa,?_,?_,rfl⟩
  ·(show _=dq (aj,ak,an,ao,ah,aq,ai,ar) (p1,p2,p3,p4,p5) lv);unfold dq;first|(rw [AG w6 iU];rfl)|rfl
  ·(show _=dW (aj,ak,an,ao,ah,aq,ai,ar) (p1,p2,p3,p4,p5) lv);unfold dW;first|(rw [AG w6 iU];rfl)|rfl
 ·refine⟨[1041],[],_,_,_,rfl,az,(),aa,?_,?_,rfl⟩
  ·(show _=dq (aj,ak,an,ao,ah,aq,ai,ar) (p1,p2,p3,p4,p5) lv);unfold dq;first|(rw [v7 (s:=(aj,ak,an,ao,ah,aq,ai,ar)) (p:=(p1,p2,p3,p4,p5)) w6 dy dJ gO oL];rfl)|rfl
  ·(show _=dW (aj,ak,an,ao,ah,aq,ai,ar) (p1,p2,p3,p4,p5) lv);unfold dW;first|(rw [v7 (s:=(aj,ak,an,ao,ah,aq,ai,ar)) (p:=(p1,p2,p3,p4,p5)) w6 dy dJ gO oL];rfl)|rfl
 ·exact dj _
 ·have hB:=vZ (s:=(aj,ak,an,ao,ah,aq,ai,ar)) (p:=(p1,p2,p3,p4,p5)) (lv:=lv) w6 dy dJ gO uI
  have hF:=(vL (bF (aj,ak,an,ao,ah,aq,ai,ar) (p1,p2,p3,p4,p5)).1).1
  refine cN (l:=[(81,cx),(107,j3),(80,cX),(71,eA),(195,vY)]) (ex:=zT) (wr:=zF) (pt:=zF) ⟨cz,wP,iB,lZ,TH,aa⟩ [.s 4,.b 1004,.s 10,.s 11,.b 450000] (fun i:Nat=>[(.s 12,.int i)]) (fun i=>i≤(bl (bF (aj,ak,an,ao,ah,aq,ai,ar) (p1,p2,p3,p4,p5)).1).1.length∧((bl (bF (aj,ak,an,ao,ah,aq,ai,ar) (p1,p2,p3,p4,p5)).1).1.drop i).any (late (p1,p2,p3,p4,p5))=(bl (bF (aj,ak,an,ao,ah,aq,ai,ar) (p1,p2,p3,p4,p5)).1).1.any (late (p1,p2,p3,p4,p5))) (fun i=>(bl (bF (aj,ak,an,ao,ah,aq,ai,ar) (p1,p2,p3,p4,p5)).1).1.length-i) 0 [] ⟨ZA7 _,rfl⟩ dM ?_
  rintro i ⟨hi,hr⟩
  have cm:decide ((i:Int)<((bl (bF (aj,ak,an,ao,ah,aq,ai,ar) (p1,p2,p3,p4,p5)).1).1.length:Int))=true→i<(bl (bF (aj,ak,an,ao,ah,aq,ai,ar) (p1,p2,p3,p4,p5)).1).1.length:=fun h=>by have:=aJ h;omega
  have ob:decide ((i:Int)<((bl (bF (aj,ak,an,ao,ah,aq,ai,ar) (p1,p2,p3,p4,p5)).1).1.length:Int))=false→¬i<(bl (bF (aj,ak,an,ao,ah,aq,ai,ar) (p1,p2,p3,p4,p5)).1).1.length:=fun h=>by have:=aA h;omega
  refine⟨fun w1=>⟨Sq10,Sq53,rfl,Sq12,Sq54,rfl,[.s 53,.s 54],Sq55,rfl,⟨?_,?_⟩,Sq55,Sq56,rfl,[.s 56,.b 450000],Sq57,rfl,?_,Sq4,Sq58,rfl,[.s 58,.b 1004],Sq59,rfl,[.s 57,.s 59],Sq60,rfl,fun w2=>⟨aa,?_⟩,fun w3=>⟨⟨?_,?_⟩,?_⟩⟩,fun w4=>?_⟩
  all_goals first|refine aw ?_|refine ax ?_|exact a8|(dsimp only [j3,kZ,cX,dZ,eA,fV,vY,qg];omega)|exact a7|exact cm w1|exact aJ w1|skip
  ·refine⟨[1061],[],_,_,_,rfl,az,(),aa,?_,?_,rfl⟩
   ·(show _=dq (aj,ak,an,ao,ah,aq,ai,ar) (p1,p2,p3,p4,p5) lv);unfold dq;first|(rw [hB,wa (YB (cm w1) hr w2)];rfl)|rfl
   ·(show _=dW (aj,ak,an,ao,ah,aq,ai,ar) (p1,p2,p3,p4,p5) lv);unfold dW;first|(rw [hB,wa (YB (cm w1) hr w2)];rfl)|rfl
  ·refine⟨(i+1),[],?_,?_,?_⟩
   rotate_right
   ·exact bV
   ·exact⟨cm w1,afu (cm w1) hr w3⟩
   ·show (bl (bF (aj,ak,an,ao,ah,aq,ai,ar) (p1,p2,p3,p4,p5)).1).1.length-(i+1)<(bl (bF (aj,ak,an,ao,ah,aq,ai,ar) (p1,p2,p3,p4,p5)).1).1.length-i;have:=cm w1;omega
  ·refine⟨[450000],[],_,_,_,rfl,az,(),aa,?_,?_,rfl⟩
   ·(show _=dq (aj,ak,an,ao,ah,aq,ai,ar) (p1,p2,p3,p4,p5) lv);unfold dq;first|(rw [hB,sQ (YC (ob w4) hr)];rfl)|rfl
   ·(show _=dW (aj,ak,an,ao,ah,aq,ai,ar) (p1,p2,p3,p4,p5) lv);unfold dW;first|(rw [hB,sQ (YC (ob w4) hr)];rfl)|rfl
end GL
end Go.Proofs.YtnkbdhldiinfdaaGreatDoor
