/- A drawn law returns true for every code (its row lists package variables, tied by the card): part 18. -/
import Derived.Test.YtclcgjhhehbdeaaGreatDoorPaq
set_option maxHeartbeats 20000000
set_option maxRecDepth 100000
set_option linter.all false
namespace Go.Proofs.YtclcgjhhehbdeaaGreatDoor
namespace GL
def bj (n:Int):Int:=bif decide (n≤1) then 0 else bif decide (n≤4) then 1 else 2
def kl (k:Int):Int:=bif decide (k=1) then 12 else bif decide (k=2) then 128 else 0
def bh (size each:Int):Int:=(size+each-1) / each
def bH (k s:Int):Int:=bif decide (kl k=0)|| !(ig s 0 (16*kl k)) then -1 else bh s (kl k)
theorem vL (k:Int):kl k=12∨kl k=128∨kl k=0:=by
 unfold kl
 cases decide (k=1)<;>cases decide (k=2)<;>simp
def fc (n:Int):Prop:=True
def uV (n:Int):AV:=.int (bj n)
def VT (n:Int):List AV:=[]
def dC:cn where
 A:=[.s .int]
 B:=[]
 pre:=fun x b=>fc x
 r:=fun x b _=>uV x
 o:=fun x b _=>VT x
theorem jR:Has Tryz.prog 55 dC:=by
 refine Has.fl zT zF zF (l:=[]) trivial Tryz.func55 ?_
 rintro (n:Int) _ (hp:fc n)
 show vc _ _ _ _ (entry [.int n] []) _
 refine⟨fun w1=>?_,fun w2=>⟨fun w3=>?_,fun w4=>?_⟩⟩
 all_goals first|refine aw ?_|refine ax ?_|exact a8|exact a7|skip
 all_goals
  refine⟨[],[],_,_,_,rfl,az,(),aa,?_,?_,rfl⟩
  ·(show _=uV n);unfold uV;first|((simp only [bj, *];rfl))|rfl
  ·rfl
def vb (k:Int):Prop:=True
def u2 (k:Int):AV:=.int (kl k)
def V3 (k:Int):List AV:=[]
def DA:cn where
 A:=[.s .int]
 B:=[]
 pre:=fun x b=>vb x
 r:=fun x b _=>u2 x
 o:=fun x b _=>V3 x
theorem abE:Has Tryz.prog 188 DA:=by
 refine Has.fl zT zF zF (l:=[]) trivial Tryz.func188 ?_
 rintro (k:Int) _ (hp:vb k)
 show vc _ _ _ _ (entry [.int k] []) _
 refine⟨fun w1=>?_,fun w2=>⟨fun w3=>?_,fun w4=>?_⟩⟩
 all_goals first|refine aw ?_|refine ax ?_|exact a8|exact a7|skip
 all_goals
  refine⟨[],[],_,_,_,rfl,az,(),aa,?_,?_,rfl⟩
  ·(show _=u2 k);unfold u2;first|((simp only [kl, *];rfl))|rfl
  ·rfl
def kg (a:Int) (b:Int):Prop:=0≤a∧a≤1000000∧0<b∧b≤1000000
def rz (a:Int) (b:Int):AV:=.int (bh a b)
def OH (a:Int) (b:Int):List AV:=[]
def lj:cn where
 A:=[.s .int,.s .int]
 B:=[]
 pre:=fun x b=>kg (x.1) (x.2)
 r:=fun x b _=>rz (x.1) (x.2)
 o:=fun x b _=>OH (x.1) (x.2)
theorem DY:Has Tryz.prog 187 lj:=by
 refine Has.fl zT zF zF (l:=[]) trivial Tryz.func187 ?_
 rintro⟨(a:Int),(b:Int)⟩ _ (hp:kg a b)
 show vc _ _ _ _ (entry [.int a,.int b] []) _
 obtain⟨h1,h2,h3,h4⟩:=hp
 refine⟨⟨?_,?_⟩,⟨⟨?_,?_⟩,⟨⟨?_,⟨?_,?_⟩⟩,?_⟩⟩⟩
 all_goals first|refine aw ?_|refine ax ?_|exact a8|exact a7|skip
 refine⟨[],[],_,_,_,rfl,az,(),aa,?_,?_,rfl⟩
 ·(show _=rz a b);unfold rz;first|rfl
 ·rfl
def p9 (k:Int) (s:Int):Prop:=True
def pK (k:Int) (s:Int):AV:=.int (bH k s)
def KQ (k:Int) (s:Int):List AV:=[]
def ud:cn where
 A:=[.s .int,.s .int]
 B:=[]
 pre:=fun x b=>p9 (x.1) (x.2)
 r:=fun x b _=>pK (x.1) (x.2)
 o:=fun x b _=>KQ (x.1) (x.2)
theorem PC:Has Tryz.prog 167 ud:=by
 refine Has.fl zT zF zF (l:=[(188,DA),(40,gZ),(187,lj)]) ⟨abE,iy,DY,aa⟩ Tryz.func167 ?_
 rintro⟨(k:Int),(s:Int)⟩ _ (hp:p9 k s)
 show vc _ _ _ _ (entry [.int k,.int s] []) _
 have hE:=vL k
 have hI:(!(ig s 0 (16*kl k)))=false→0≤s∧s≤2048:=fun h=>by
  have:=cC.1 (cL h)
  omega
 refine⟨⟨tv2,aa⟩,fun x1 w2=>⟨aa,fun w3=>?_,fun w4=>⟨⟨?_,?_⟩,⟨tv4,aa⟩,fun x5 w6=>⟨fun w7=>?_,fun w8=>⟨⟨tv3,?_,?_,?_,?_⟩,fun x9 dx=>?_⟩⟩⟩⟩⟩
 all_goals first|refine aw ?_|refine ax ?_|exact a8|(dsimp only [DA,vb,lj,kg];omega)|exact a7|(have:=hI (by assumption);have:=aA (p:=kl k=0) (by assumption);dsimp only [lj,kg];omega)|skip
 all_goals
  refine⟨[],[],_,_,_,rfl,az,(),aa,?_,?_,rfl⟩
  ·(show _=pK k s);unfold pK;first|((simp only [bH, *];rfl))|rfl
  ·rfl
theorem xv (k s:Int): -1≤bH k s∧bH k s≤16:=by
 unfold bH
 cases h:decide (kl k=0)|| !(ig s 0 (16*kl k)) with
 |true=>simp
 |false=>
  simp only [ZE1,decide_eq_false_iff_not] at h
  have h2:=cC.1 (cL h.2)
  simp only [cond_false,bh]
  rcases vL k with e |e |e
  ·rw [e] at h2 ⊢;omega
  ·rw [e] at h2 ⊢;omega
  ·exact absurd e h.1
abbrev ft.root (n:ft):Pt:=(n.2.2.2.1,n.2.2.2.2.1,n.2.2.2.2.2.1,n.2.2.2.2.2.2.1,n.2.2.2.2.2.2.2.1)
abbrev ft.tree (n:ft):bf:=n.2.2.2
def cy (n:ft):Bool:=
 bif decide (bH n.1 n.2.2.1<0)||(decide (n.2.2.2.2.2.2.2.2.2≠bH n.1 n.2.2.1)||(decide (n.2.2.2.2.2.2.2.2.1≠bj (bH n.1 n.2.2.1))|| !(aZ n.root))) then false
 else ig n.2.1 1 (bif decide (n.1=2) then 1 else 9)&&(au n.root||decide (n.2.2.2.2.2.2.2.1=n.2.2.2.2.2.2.2.2.1))
def qa (n:ft):Prop:=True
def xW (n:ft):AV:=.q (cy n)
def abl (n:ft):List AV:=[]
def qA:cn where
 A:=[.a [.int,.int,.int,.int,.int,.int,.int,.int,.int,.int]]
 B:=[]
 pre:=fun x b=>qa x
 r:=fun x b _=>xW x
 o:=fun x b _=>abl x
theorem IJ:Has Tryz.prog 127 qA:=by
 refine Has.fl zT zF zF (l:=[(167,ud),(55,dC),(53,cX),(54,cx),(40,gZ)]) ⟨PC,jR,iz,cz,iy,aa⟩ Tryz.func127 ?_
 rintro⟨(n1:Int),(n2:Int),(n3:Int),(n4:Int),(n5:Int),(n6:Int),(n7:Int),(n8:Int),(n9:Int),(cw:Int)⟩ _ (hp:qa (n1,n2,n3,n4,n5,n6,n7,n8,n9,cw))
 show vc _ _ _ _ (entry [.a [.int n1,.int n2,.int n3,.int n4,.int n5,.int n6,.int n7,.int n8,.int n9,.int cw]] []) _
 have hbd:=xv n1 n3
 refine⟨⟨tv3,aa⟩,fun x1 w2=>⟨Sq3,Sq10,rfl,Sq10,Sq11,rfl,Sq11,Sq12,rfl,aa,fun w3=>⟨Sq12,Sq13,rfl,Sq12,Sq14,rfl,Sq12,Sq15,rfl,Sq12,Sq16,rfl,Sq12,Sq17,rfl,[.s 12,.s 17],Sq18,rfl,Sq18,Sq19,rfl,Sq19,Sq20,rfl,Sq19,Sq21,rfl,Sq19,Sq22,rfl,Sq19,Sq23,rfl,Sq19,Sq24,rfl,Sq19,Sq25,rfl,[.s 19,.s 25],Sq26,rfl,Sq26,Sq27,rfl,Sq27,Sq28,rfl,Sq27,Sq29,rfl,Sq27,Sq30,rfl,Sq27,Sq31,rfl,Sq27,Sq32,rfl,[.s 27,.s 32],Sq33,rfl,?_⟩,fun w4=>⟨[.s 12,.s 1],Sq13,rfl,[.s 12,.s 13],Sq14,rfl,[.s 12,.s 14,.b 1001],Sq15,rfl,[.s 12,.s 3],Sq16,rfl,[.s 12,.s 15,.s 16],Sq17,rfl,[.s 12,.s 17],Sq18,rfl,Sq18,Sq19,rfl,aa,fun w5=>⟨Sq19,Sq20,rfl,Sq19,Sq21,rfl,Sq19,Sq22,rfl,Sq19,Sq23,rfl,Sq19,Sq24,rfl,Sq19,Sq25,rfl,[.s 19,.s 25],Sq26,rfl,Sq26,Sq27,rfl,Sq27,Sq28,rfl,Sq27,Sq29,rfl,Sq27,Sq30,rfl,Sq27,Sq31,rfl,Sq27,Sq32,rfl,[.s 27,.s 32],Sq33,rfl,?_⟩,fun w6=>⟨[.s 19,.s 1],Sq20,rfl,[.s 19,.s 20],Sq21,rfl,[.s 19,.s 21,.b 1001],Sq22,rfl,[.s 19,.s 3],Sq23,rfl,[.s 19,.s 23],Sq24,rfl,⟨tv2,aa⟩,?_,fun x7 w8=>⟨[.s 19,.s 22,.s 24],Sq25,rfl,[.s 19,.s 25],Sq26,rfl,Sq26,Sq27,rfl,aa,fun w9=>⟨Sq27,Sq28,rfl,Sq27,Sq29,rfl,Sq27,Sq30,rfl,Sq27,Sq31,rfl,Sq27,Sq32,rfl,[.s 27,.s 32],Sq33,rfl,?_⟩,fun dx=>⟨[.s 27,.s 1],Sq28,rfl,[.s 27,.s 28],Sq29,rfl,[.s 27,.s 29,.b 1001],Sq30,rfl,[.s 27,.s 30],Sq31,rfl,⟨⟨tv6,aa⟩,aa⟩,?_,fun ku dI=>⟨[.s 27,.s 31],Sq32,rfl,[.s 27,.s 32],Sq33,rfl,fun iS=>?_,fun gN=>⟨fun qG=>⟨⟨tv4,aa⟩,fun x16 xd=>⟨aa,fun rO=>⟨⟨⟨tv6,aa⟩,aa⟩,fun x19 uE=>⟨aa,fun AY=>?_,fun AX=>?_⟩⟩,fun xF=>?_⟩⟩,fun rN=>⟨⟨tv4,aa⟩,fun x25 w26=>⟨aa,fun w27=>⟨⟨⟨tv6,aa⟩,aa⟩,fun x28 w29=>⟨aa,fun w30=>?_,fun w31=>?_⟩⟩,fun w32=>?_⟩⟩⟩⟩⟩⟩⟩⟩⟩⟩
 all_goals first|refine aw ?_|refine ax ?_|exact a8|(dsimp only [ud,p9,dC,fc,cX,dY];omega)|exact a7|skip
 all_goals
  refine⟨[],[],_,_,_,rfl,az,(),aa,?_,?_,rfl⟩
  ·(show _=xW (n1,n2,n3,n4,n5,n6,n7,n8,n9,cw));unfold xW;first|((simp only [cy, *];rfl))|((simp [cy, *]<;>rfl))|rfl
  ·rfl
theorem pe (n:Int):0≤bj n∧bj n≤2:=by
 unfold bj
 cases decide (n≤1)<;>cases decide (n≤4)<;>simp
theorem ld {n:ft}(h:cy n=true):(1≤n.1∧n.1≤2)∧(1≤n.2.1∧n.2.1≤9)∧(0≤n.2.2.1∧n.2.2.1≤2048)∧(0≤n.2.2.2.2.2.2.2.2.1∧n.2.2.2.2.2.2.2.2.1≤2)∧(0≤n.2.2.2.2.2.2.2.2.2∧n.2.2.2.2.2.2.2.2.2≤16)∧aZ n.root=true∧
  n.2.2.2.2.2.2.2.2.2=bH n.1 n.2.2.1∧n.2.2.2.2.2.2.2.2.1=bj n.2.2.2.2.2.2.2.2.2∧(au n.root=true∨n.2.2.2.2.2.2.2.1=n.2.2.2.2.2.2.2.2.1):=by
 unfold cy at h
 cases hb:decide (bH n.1 n.2.2.1<0)||(decide (n.2.2.2.2.2.2.2.2.2≠bH n.1 n.2.2.1)||(decide (n.2.2.2.2.2.2.2.2.1≠bj (bH n.1 n.2.2.1))|| !(aZ n.root))) with
 |true=>rw [hb] at h;cases h
 |false=>
  rw [hb,cond_false] at h
  simp only [ZE1,decide_eq_false_iff_not,ZE9,Bool.not_eq_false] at hb
  obtain⟨h1,h2,h3,h4⟩:=hb
  have h4:=cL h4
  simp only [ZA9,Bool.or_eq_true,decide_eq_true_eq] at h
  have h5:=cC.1 h.1
  have h6:=xv n.1 n.2.2.1
  have h7:=pe (bH n.1 n.2.2.1)
  have hk:(1≤n.1∧n.1≤2)∧(0≤n.2.2.1∧n.2.2.1≤2048):=by
   unfold bH at h1
   cases hc:decide (kl n.1=0)|| !(ig n.2.2.1 0 (16*kl n.1)) with
   |true=>rw [hc] at h1;exact absurd (show (-1:Int)<0 by decide) h1
   |false=>
    simp only [ZE1,decide_eq_false_iff_not] at hc
    have h8:=cC.1 (cL hc.2)
    have h9:=vL n.1
    refine⟨?_,by omega⟩
    by_cases e1:n.1=1
    ·omega
    ·by_cases e2:n.1=2
     ·omega
     ·exact absurd (by unfold kl;rw [decide_eq_false e1,decide_eq_false e2];rfl) hc.1
  have h10:(bif decide (n.1=2) then (1:Int) else 9)≤9:=by cases decide (n.1=2)<;>simp
  refine⟨hk.1,⟨h5.1,by omega⟩,hk.2,by omega,by omega,h4,by omega,?_,h.2⟩
  rw [show n.2.2.2.2.2.2.2.2.2=bH n.1 n.2.2.1 by omega];omega
def aC (n:ft):ByteArray:=bif cy n then (cE [bX n.1,bX n.2.1,bX n.2.2.1,bc n.root,bX n.2.2.2.2.2.2.2.2.1,bX n.2.2.2.2.2.2.2.2.2,⟨#[101,110,100]⟩]).1 else ⟨#[]⟩
def q6 (n:ft):Prop:=True
def nE (n:ft):AV:=.str (aC n)
def WE (n:ft):List AV:=[]
def sK:cn where
 A:=[.a [.int,.int,.int,.int,.int,.int,.int,.int,.int,.int]]
 B:=[]
 pre:=fun x b=>q6 x
 r:=fun x b _=>nE x
 o:=fun x b _=>WE x
theorem ME:Has Tryz.prog 128 sK:=by
 refine Has.fl zT zF zF (l:=[(127,qA),(168,j1),(169,qx),(165,jE)]) ⟨IJ,wN,IG,vu,aa⟩ Tryz.func128 ?_
 rintro⟨(n1:Int),(n2:Int),(n3:Int),(n4:Int),(n5:Int),(n6:Int),(n7:Int),(n8:Int),(n9:Int),(cw:Int)⟩ _ (hp:q6 (n1,n2,n3,n4,n5,n6,n7,n8,n9,cw))
 show vc _ _ _ _ (entry [.a [.int n1,.int n2,.int n3,.int n4,.int n5,.int n6,.int n7,.int n8,.int n9,.int cw]] []) _
 by_cases cG:cy (n1,n2,n3,n4,n5,n6,n7,n8,n9,cw)=true
 ·obtain⟨b1,b2,b3,b4,b5,b6,_,_,_⟩:=ld cG
  dsimp only at b1 b2 b3 b4 b5 b6
  refine⟨⟨⟨tv11,aa⟩,aa⟩,fun x1 w2=>⟨fun w3=>?_,fun w4=>⟨Sq1,Sq9,rfl,[.s 9,.b 1001],Sq10,rfl,Sq10,Sq11,rfl,⟨tv2,?_,?_⟩,?_,fun x5 w6=>⟨Sq1,Sq12,rfl,[.s 12,.b 1001],Sq13,rfl,Sq13,Sq14,rfl,⟨tv2,?_,?_⟩,?_,fun x7 w8=>⟨Sq1,Sq15,rfl,[.s 15,.b 1001],Sq16,rfl,Sq16,Sq17,rfl,⟨tv2,?_,?_⟩,?_,fun x9 dx=>⟨Sq1,Sq18,rfl,Sq18,Sq19,rfl,[.s 19,.b 1001],Sq20,rfl,Sq20,Sq21,rfl,⟨⟨tv6,aa⟩,aa⟩,?_,fun ku dI=>⟨Sq1,Sq22,rfl,Sq22,Sq23,rfl,[.s 23,.b 1001],Sq24,rfl,Sq24,Sq25,rfl,⟨tv2,?_,?_⟩,?_,fun rS gN=>⟨Sq1,Sq26,rfl,Sq26,Sq27,rfl,[.s 27,.b 1001],Sq28,rfl,Sq28,Sq29,rfl,⟨tv2,?_,?_⟩,?_,fun kt kc=>⟨[.s 11,.s 14,.s 17,.s 21,.s 25,.s 29,.b 1030],[.s 30,.b 1030],rfl,aa,[.s 30,.b 1030],Sq31,rfl,⟨⟨⟨?_,?_⟩,aa⟩,aa⟩,?_,fun x17 rO=>⟨Sq31,Sq8,rfl,Sq8,Sq32,rfl,Sq8,Sq33,rfl,Sq32,Sq3,rfl,Sq33,Sq4,rfl,?_⟩⟩⟩⟩⟩⟩⟩⟩⟩⟩
  all_goals first|refine aw ?_|refine ax ?_|exact a8|(dsimp only [qA,qa,j1,mG,qx,p8,jE,ki];omega)|exact a7|skip
  ·rw [cG] at *;contradiction
  ·have e:aC (n1,n2,n3,n4,n5,n6,n7,n8,n9,cw)=(cE [bX n1,bX n2,bX n3,bc (n4,n5,n6,n7,n8),bX n9,bX cw,⟨#[101,110,100]⟩]).1:=by unfold aC;rw [cG];rfl
   refine⟨[],[],_,_,_,rfl,az,(),aa,?_,?_,rfl⟩
   ·(show _=nE (n1,n2,n3,n4,n5,n6,n7,n8,n9,cw));unfold nE;first|(rw [e];rfl)|rfl
   ·rfl
 ·have uu:cy (n1,n2,n3,n4,n5,n6,n7,n8,n9,cw)=false:=by simpa using cG
  refine⟨⟨⟨tv11,aa⟩,aa⟩,fun x1 w2=>⟨fun w3=>?_,fun w4=>⟨Sq1,Sq9,rfl,[.s 9,.b 1001],Sq10,rfl,Sq10,Sq11,rfl,⟨tv2,?_,?_⟩,?_,fun x5 w6=>⟨Sq1,Sq12,rfl,[.s 12,.b 1001],Sq13,rfl,Sq13,Sq14,rfl,⟨tv2,?_,?_⟩,?_,fun x7 w8=>⟨Sq1,Sq15,rfl,[.s 15,.b 1001],Sq16,rfl,Sq16,Sq17,rfl,⟨tv2,?_,?_⟩,?_,fun x9 dx=>⟨Sq1,Sq18,rfl,Sq18,Sq19,rfl,[.s 19,.b 1001],Sq20,rfl,Sq20,Sq21,rfl,⟨⟨tv6,aa⟩,aa⟩,?_,fun ku dI=>⟨Sq1,Sq22,rfl,Sq22,Sq23,rfl,[.s 23,.b 1001],Sq24,rfl,Sq24,Sq25,rfl,⟨tv2,?_,?_⟩,?_,fun rS gN=>⟨Sq1,Sq26,rfl,Sq26,Sq27,rfl,[.s 27,.b 1001],Sq28,rfl,Sq28,Sq29,rfl,⟨tv2,?_,?_⟩,?_,fun kt kc=>⟨[.s 11,.s 14,.s 17,.s 21,.s 25,.s 29,.b 1030],[.s 30,.b 1030],rfl,aa,[.s 30,.b 1030],Sq31,rfl,⟨⟨⟨?_,?_⟩,aa⟩,aa⟩,?_,fun x17 rO=>⟨Sq31,Sq8,rfl,Sq8,Sq32,rfl,Sq8,Sq33,rfl,Sq32,Sq3,rfl,Sq33,Sq4,rfl,?_⟩⟩⟩⟩⟩⟩⟩⟩⟩⟩
  all_goals first|exact absurd (cL (by assumption)) cG|skip
  ·have e:aC (n1,n2,n3,n4,n5,n6,n7,n8,n9,cw)=⟨#[]⟩:=by unfold aC;rw [uu];rfl
   refine⟨[],[],_,_,_,rfl,az,(),aa,?_,?_,rfl⟩
   ·(show _=nE (n1,n2,n3,n4,n5,n6,n7,n8,n9,cw));unfold nE;first|(rw [e];rfl)|rfl
   ·rfl
end GL
namespace GL
theorem LZ {s:ByteArray}:∀(f k:Nat),(∀j,j<k→C5 s j=true)→(∀j,j<ss f s k→C5 s j=true)∧ss f s k≤k+f
 |0,k,h=>⟨h,ZB5 _⟩
 |f+1,k,h=>by
  unfold ss
  cases hd:C5 s k with
  |true=>
   have:=LZ (s:=s) f (k+1) (fun j hj=>by
    by_cases e:j=k
    ·rw [e];exact hd
    ·exact h j (by omega))
   exact⟨this.1,ZB0 this.2 (by omega)⟩
  |false=>exact⟨h,ZD3 _ _⟩
theorem aeL {s:ByteArray}{k:Nat}(h:C5 s k=true):k<s.size∧48≤bL s k∧bL s k≤57:=by
 unfold C5 at h
 simp only [ZA9,decide_eq_true_eq] at h
 omega
theorem SA {s:ByteArray}:∀(k:Nat),(∀j,j<k→C5 s j=true)→0≤iL s k∧iL s k<(10:Int) ^ k
 |0,_=>⟨ZC1 _,by show (0:Int)<1;omega⟩
 |k+1,h=>by
  have h1:=SA k (fun j hj=>h j (by omega))
  have h2:=aeL (h k (by omega))
  rw [Int.pow_succ]
  show 0≤10*iL s k+(bL s k-48)∧10*iL s k+(bL s k-48)<_
  omega
theorem abt (s:ByteArray):cW s≤9∧cW s≤s.size∧(0≤iL s (cW s)∧iL s (cW s)≤999999999):=by
 have h:=LZ (s:=s) 9 0 (fun j hj=>absurd hj (by omega))
 have hn:ss 9 s 0=cW s:=rfl
 rw [hn] at h
 have h1:cW s≤9:=by omega
 have h2:=SA _ h.1
 have h3:(10:Int) ^ cW s≤10 ^ 9:=by exact_mod_cast Nat.pow_le_pow_right (by omega) h1
 refine⟨h1,?_,h2.1,by omega⟩
 by_cases e:cW s=0
 ·omega
 ·have:=aeL (h.1 (cW s-1) (by omega));omega
theorem ahv (s:ByteArray):(0≤(CI s).1∧(CI s).1≤999999999)∧(0≤(CI s).2∧(CI s).2≤9)∧(CI s).2≤s.size:=by
 have h:=abt s
 unfold CI
 cases hc:decide ((cW s:Int)>1)&&decide (bL s 0=48) with
 |true=>
  simp only [ZA9,decide_eq_true_eq] at hc
  show (0≤(0:Int)∧(0:Int)≤999999999)∧(0≤(1:Int)∧(1:Int)≤9)∧(1:Int)≤s.size
  omega
 |false=>
  show (0≤iL s (cW s)∧iL s (cW s)≤999999999)∧(0≤(cW s:Int)∧(cW s:Int)≤9)∧(cW s:Int)≤s.size
  omega
def qn (s:ByteArray) (i:Int) (r:Int×Int):Bool:=
 decide (r.2=0)||(decide (i+r.2≥s.size)||(decide (bL s (i+r.2).toNat≠58)||decide (r.1>s.size-i-r.2-1)))
abbrev tM (s:ByteArray) (i:Int):Int×Int:=CI (s.extract i.toNat s.size)
def I5:Nat→ByteArray→Int→List ByteArray→Option (List ByteArray)
 |0,_,_,_=>none
 |f+1,s,i,out=>bif decide (i<s.size) then
   (bif qn s i (tM s i) then none else
    I5 f s (i+(tM s i).2+1+(tM s i).1) (out++[s.extract (i+(tM s i).2+1).toNat (i+(tM s i).2+1+(tM s i).1).toNat]))
  else some out
theorem D6 {f:Nat}{s:ByteArray}{i:Int}{out:List ByteArray}(h:decide (i<s.size)=true) (hb:qn s i (tM s i)=true):I5 (f+1) s i out=none:=by rw [I5,h,hb];rfl
theorem agS {f:Nat}{s:ByteArray}{i:Int}{out:List ByteArray}(h:decide (i<s.size)=true) (hb:qn s i (tM s i)=false):I5 (f+1) s i out=I5 f s (i+(tM s i).2+1+(tM s i).1) (out++[s.extract (i+(tM s i).2+1).toNat (i+(tM s i).2+1+(tM s i).1).toNat]):=by rw [I5,h,hb];rfl
theorem aes {f:Nat}{s:ByteArray}{i:Int}{out:List ByteArray}(h:decide (i<s.size)=false):I5 (f+1) s i out=some out:=by rw [I5,h];rfl
theorem Z5 {s:ByteArray}{i:Int}{r:Int×Int}(h:decide (r.2=0)=true):qn s i r=true:=by unfold qn;rw [h];rfl
theorem Z4 {s:ByteArray}{i:Int}{r:Int×Int}(h:decide (i+r.2≥s.size)=true):qn s i r=true:=by unfold qn;rw [h,Bool.true_or,ZC4]
theorem Z3 {s:ByteArray}{i:Int}{r:Int×Int}(h:decide (bL s (i+r.2).toNat≠58)=true):qn s i r=true:=by unfold qn;rw [h,Bool.true_or,ZC4,ZC4]
theorem Z2 {s:ByteArray}{i:Int}{r:Int×Int}(h:decide (r.1>s.size-i-r.2-1)=true):qn s i r=true:=by unfold qn;rw [h,ZC4,ZC4,ZC4]
theorem Z6 {s:ByteArray}{i:Int}{r:Int×Int}(h1:decide (r.2=0)=false) (h2:decide (i+r.2≥s.size)=false) (h3:decide (bL s (i+r.2).toNat≠58)=false) (h4:decide (r.1>s.size-i-r.2-1)=false):qn s i r=false:=by unfold qn;rw [h1,h2,h3,h4];rfl
def vF (s:ByteArray) (out:List ByteArray):List ByteArray×Bool:=bif !(cE out).2||decide ((cE out).1≠s) then ([],false) else (out,true)
def bq (s:ByteArray):List ByteArray×Bool:=
 bif decide ((s.size:Int)≤2048) then (match I5 (s.size+1) s 0 [] with
  |none=>([],false)
  |some out=>vF s out) else ([],false)
theorem gE {s:ByteArray}(h:decide ((s.size:Int)≤2048)=true) (h2:I5 (s.size+1) s 0 []=none):bq s=([],false):=by unfold bq;rw [h,h2];rfl
theorem jT {s:ByteArray}{out:List ByteArray}(h:decide ((s.size:Int)≤2048)=true) (h2:I5 (s.size+1) s 0 []=some out):bq s=vF s out:=by unfold bq;rw [h,h2];rfl
theorem oS {s:ByteArray}(h:decide ((s.size:Int)≤2048)=false):bq s=([],false):=by unfold bq;rw [h];rfl
theorem Z0 {s:ByteArray}{out:List ByteArray}(h:(!(cE out).2)=true):vF s out=([],false):=by unfold vF;rw [h];rfl
theorem ZZ {s:ByteArray}{out:List ByteArray}(h:decide ((cE out).1≠s)=true):vF s out=([],false):=by unfold vF;rw [h,ZC4];rfl
theorem ZY {s:ByteArray}{out:List ByteArray}(h:(!(cE out).2)=false) (h2:decide ((cE out).1≠s)=false):vF s out=(out,true):=by unfold vF;rw [h,h2];rfl
def nk (s:ByteArray):Prop:=s.size≤1000000
def ca (s:ByteArray):AV:=.t [.s (.xs 0 1 0 (bq s).1.length),.s (.q (bq s).2)]
def ct (s:ByteArray):List AV:=[.rs ab (bq s).1]
def vT:cn where
 A:=[.s .str]
 B:=[]
 pre:=fun x b=>nk x
 r:=fun x b _=>ca x
 o:=fun x b _=>ct x
 nf:=1
theorem S8:Has Tryz.prog 124 vT:=by
 refine Has.fl zT zF zF (l:=[(164,tV),(165,jE)]) ⟨O4,vu,aa⟩ Tryz.func124 ?_
 rintro (s:ByteArray) _ (hp:nk s)
 show vc _ _ _ _ (entry [.str s] []) _
 unfold nk at hp
 refine⟨aa,?_⟩
 all_goals first|refine aw ?_|refine ax ?_|exact a8|(dsimp only [tV,kY,jE,ki];omega)|exact a7|skip
 refine cN (l:=[(164,tV),(165,jE)]) (ex:=zT) (wr:=zF) (pt:=zF) ⟨O4,vu,trivial⟩ [.s 0] (fun y:Int×List ByteArray×Nat=>[(.s 4,.s (.xs 1010 1 0 y.2.1.length)),(.s 5,.int y.1),(.b 1010,.rs ab y.2.1)]) (fun y=>(0≤y.1∧y.1≤s.size)∧(y.2.1.length:Int)≤y.1∧(s.size:Int)<y.1+y.2.2∧(s.size≤2048→I5 y.2.2 s y.1 y.2.1=I5 (s.size+1) s 0 [])∧(2048<s.size→y.1=0∧y.2.1=[])) (fun y=>(s.size-y.1).toNat) (0,[],s.size+1) [] ⟨⟨ZC1 _,by show (0:Int)≤s.size;omega⟩,ZC1 _,by show (s.size:Int)<0+(s.size+1:Nat);omega,fun _=>rfl,fun _=>⟨rfl,rfl⟩⟩ dL ?_
 rintro⟨i,out,f⟩ ⟨⟨(hi0:0≤i),(hi:i≤s.size)⟩,(hl:(out.length:Int)≤i),(hf:(s.size:Int)<i+f),(hr:s.size≤2048→I5 f s i out=I5 (s.size+1) s 0 []),(h0:2048<s.size→i=0∧out=[])⟩
 have hb:=ahv (s.extract i.toNat s.size)
 rw [ZC5] at hb
 have h48:decide ((s.size:Int)≤2048)=true→s.size≤2048:=fun h=>by have:=aJ h;omega
 obtain⟨g,rfl⟩:∃g,f=g+1:=⟨f-1,by omega⟩
 refine⟨aa,fun w1=>⟨fun w2=>⟨⟨?_,?_,?_⟩,⟨tv2,?_⟩,fun x3 w4=>⟨aa,fun w5=>⟨aa,?_⟩,fun w6=>⟨⟨?_,?_⟩,aa,fun w7=>⟨aa,?_⟩,fun w8=>⟨⟨?_,?_⟩,⟨?_,?_⟩,aa,fun w9=>⟨aa,?_⟩,fun dx=>⟨⟨?_,?_⟩,⟨?_,?_⟩,⟨?_,?_⟩,fun kx=>⟨aa,?_⟩,fun dI=>⟨⟨?_,?_⟩,⟨?_,?_⟩,⟨?_,?_⟩,⟨?_,?_⟩,⟨?_,?_⟩,⟨?_,?_,?_⟩,aa,⟨⟨?_,?_⟩,?_,?_⟩,⟨?_,?_⟩,⟨?_,?_⟩,⟨?_,?_⟩,?_⟩⟩⟩⟩⟩⟩,fun iS=>⟨⟨⟨⟨?_,?_⟩,aa⟩,aa⟩,fun x14 qG=>⟨aa,fun kc=>⟨aa,?_⟩,fun xd=>⟨fun rO=>⟨aa,?_⟩,fun oH=>?_⟩⟩⟩⟩,fun uE=>⟨⟨⟨⟨?_,?_⟩,aa⟩,aa⟩,fun x21 AX=>⟨aa,fun xF=>⟨aa,?_⟩,fun rN=>⟨fun w25=>⟨aa,?_⟩,fun w26=>?_⟩⟩⟩⟩
 all_goals first|refine aw ?_|refine ax ?_|exact a8|(dsimp only [tV,kY,jE,ki];omega)|exact a7|(show kY (s.extract i.toNat s.size);unfold kY;rw [ZC5];omega)|skip
 ·refine⟨[1056],[],_,_,_,rfl,az,(),aa,?_,?_,rfl⟩
  ·(show _=ca s);unfold ca;first|(rw [gE w2 (by rw [←hr (h48 w2),D6 w1 (Z5 w5)])];rfl)|rfl
  ·(show _=ct s);unfold ct;first|(rw [gE w2 (by rw [←hr (h48 w2),D6 w1 (Z5 w5)])];rfl)|rfl
 ·refine⟨[1056],[],_,_,_,rfl,az,(),aa,?_,?_,rfl⟩
  ·(show _=ca s);unfold ca;first|(rw [gE w2 (by rw [←hr (h48 w2),D6 w1 (Z4 w7)])];rfl)|rfl
  ·(show _=ct s);unfold ct;first|(rw [gE w2 (by rw [←hr (h48 w2),D6 w1 (Z4 w7)])];rfl)|rfl
 ·refine⟨[1056],[],_,_,_,rfl,az,(),aa,?_,?_,rfl⟩
  ·(show _=ca s);unfold ca;first|(rw [gE w2 (by rw [←hr (h48 w2),D6 w1 (Z3 w9)])];rfl)|rfl
  ·(show _=ct s);unfold ct;first|(rw [gE w2 (by rw [←hr (h48 w2),D6 w1 (Z3 w9)])];rfl)|rfl
 ·refine⟨[1056],[],_,_,_,rfl,az,(),aa,?_,?_,rfl⟩
  ·(show _=ca s);unfold ca;first|(rw [gE w2 (by rw [←hr (h48 w2),D6 w1 (Z2 kx)])];rfl)|rfl
  ·(show _=ct s);unfold ct;first|(rw [gE w2 (by rw [←hr (h48 w2),D6 w1 (Z2 kx)])];rfl)|rfl
 ·have h5:¬((tM s i).2=0):=aA w6
  have h6:¬(i+(tM s i).2≥s.size):=aA w8
  have h7:¬((tM s i).1>s.size-i-(tM s i).2-1):=aA dI
  have h8:s.size≤2048:=h48 w2
  have hb:(0≤(tM s i).1∧(tM s i).1≤999999999)∧(0≤(tM s i).2∧(tM s i).2≤9)∧_:=hb
  refine⟨(i+(tM s i).2+1+(tM s i).1,out++[s.extract (i+(tM s i).2+1).toNat (i+(tM s i).2+1+(tM s i).1).toNat],g),[(1010,1071)],?_,?_,?_⟩
  rotate_right
  ·exact bV
  ·refine⟨⟨?_,?_⟩,?_,?_,fun h=>?_,fun h=>absurd h8 (by omega)⟩
   ·show 0≤i+(tM s i).2+1+(tM s i).1;omega
   ·show i+(tM s i).2+1+(tM s i).1≤_;omega
   ·show ((List.length (_++_):Nat):Int)≤i+(tM s i).2+1+(tM s i).1;rw [ZA0];show ((out.length+1:Nat):Int)≤_;omega
   ·show (s.size:Int)<i+(tM s i).2+1+(tM s i).1+(g:Int);omega
   ·rw [←hr h,agS w1 (Z6 w6 w8 dx dI)]
  ·show (s.size-(i+(tM s i).2+1+(tM s i).1)).toNat<(s.size-i).toNat;omega
 ·obtain⟨rfl,rfl⟩:=h0 (by have:=aA iS;omega)
  refine⟨[1090],[],_,_,_,rfl,az,(),aa,?_,?_,rfl⟩
  ·(show _=ca s);unfold ca;first|(rw [oS iS];rfl)|rfl
  ·(show _=ct s);unfold ct;first|(rw [oS iS];rfl)|rfl
 ·obtain⟨rfl,rfl⟩:=h0 (by have:=aA iS;omega)
  refine⟨[1090],[],_,_,_,rfl,az,(),aa,?_,?_,rfl⟩
  ·(show _=ca s);unfold ca;first|(rw [oS iS];rfl)|rfl
  ·(show _=ct s);unfold ct;first|(rw [oS iS];rfl)|rfl
 ·obtain⟨rfl,rfl⟩:=h0 (by have:=aA iS;omega)
  have h9:¬((⟨#[]⟩:ByteArray)≠s):=aA oH
  have h10:(⟨#[]⟩:ByteArray)=s:=ZE9.1 h9
  have h11:¬((s.size:Int)≤2048):=aA iS
  exact absurd (show ((s.size:Nat):Int)≤2048 by rw [←h10];show (0:Int)≤2048;omega) h11
 all_goals
  have h13:¬(i<(s.size:Int)):=aA uE
  have h14:I5 (g+1) s i out=some out:=aes uE
  have xz:decide ((s.size:Int)≤2048)=true:=by
   cases hh:decide ((s.size:Int)≤2048) with
   |true=>rfl
   |false=>
    have h16:=aA hh
    obtain⟨rfl,_⟩:=h0 (by omega)
    omega
  have e:I5 (s.size+1) s 0 []=some out:=by rw [←hr (h48 xz),h14]
 ·refine⟨[1090],[],_,_,_,rfl,az,(),aa,?_,?_,rfl⟩
  ·(show _=ca s);unfold ca;first|(rw [jT xz e,Z0 (out:=out) xF];rfl)|rfl
  ·(show _=ct s);unfold ct;first|(rw [jT xz e,Z0 (out:=out) xF];rfl)|rfl
 ·refine⟨[1090],[],_,_,_,rfl,az,(),aa,?_,?_,rfl⟩
  ·(show _=ca s);unfold ca;first|(rw [jT xz e,ZZ (out:=out) w25];rfl)|rfl
  ·(show _=ct s);unfold ct;first|(rw [jT xz e,ZZ (out:=out) w25];rfl)|rfl
 ·refine⟨[1010],[],_,_,_,rfl,az,(),aa,?_,?_,rfl⟩
  ·(show _=ca s);unfold ca;first|(rw [jT xz e,ZY (out:=out) rN w26];rfl)|rfl
  ·(show _=ct s);unfold ct;first|(rw [jT xz e,ZY (out:=out) rN w26];rfl)|rfl
def mO (w:List ByteArray):ft:=
 ((aD (nth ab w 0)).1,(aD (nth ab w 1)).1,(aD (nth ab w 2)).1,
   (bP (nth ab w 3)).1.1,(bP (nth ab w 3)).1.2.1,(bP (nth ab w 3)).1.2.2.1,(bP (nth ab w 3)).1.2.2.2.1,(bP (nth ab w 3)).1.2.2.2.2,
   (aD (nth ab w 4)).1,(aD (nth ab w 5)).1)
def nu:ft:=(0,0,0,0,0,0,0,0,0,0)
def bz (s:ByteArray):ft×Bool:=
 bif !(bq s).2||(decide (((bq s).1.length:Int)≠7)||(!(cy (mO (bq s).1))||decide (aC (mO (bq s).1)≠s))) then (nu,false) else (mO (bq s).1,true)
theorem yo {s:ByteArray}(h:(!(bq s).2)=true):bz s=(nu,false):=by unfold bz;rw [h];rfl
theorem tv {s:ByteArray}(h:decide (((bq s).1.length:Int)≠7)=true):bz s=(nu,false):=by unfold bz;rw [h,Bool.true_or,ZC4];rfl
theorem yn {s:ByteArray}(h:(!(cy (mO (bq s).1)))=true):bz s=(nu,false):=by unfold bz;rw [h,Bool.true_or,ZC4,ZC4];rfl
theorem ym {s:ByteArray}(h:decide (aC (mO (bq s).1)≠s)=true):bz s=(nu,false):=by unfold bz;rw [h,ZC4,ZC4,ZC4];rfl
theorem yp {s:ByteArray}(h1:(!(bq s).2)=false) (h2:decide (((bq s).1.length:Int)≠7)=false) (h3:(!(cy (mO (bq s).1)))=false) (h4:decide (aC (mO (bq s).1)≠s)=false):bz s=(mO (bq s).1,true):=by unfold bz;rw [h1,h2,h3,h4];rfl
def ndA (n:ft):A0:=.a (EK.AR oY n)
theorem aer {s:ByteArray}:∀{f:Nat}{i:Int}{out r:List ByteArray},I5 f s i out=some r→(∀x∈out,x.size≤s.size)→∀x∈r,x.size≤s.size
 |0,_,_,_,h,_=>by cases h
 |f+1,i,out,r,h,ho=>by
  unfold I5 at h
  cases hc:decide (i<(s.size:Int)) with
  |true=>
   rw [hc,cond_true] at h
   cases hb:qn s i (tM s i) with
   |true=>rw [hb] at h;cases h
   |false=>
    rw [hb,cond_false] at h
    refine aer h fun x hx=>?_
    rcases ZB4.1 hx with hx |hx
    ·exact ho x hx
    ·simp only [ZB8,ZF6,or_false] at hx
     subst hx
     rw [ZC5];omega
  |false=>rw [hc] at h;cases h;exact ho
theorem KY {s:ByteArray}:∀x∈(bq s).1,x.size≤s.size:=by
 intro x hx
 unfold bq at hx
 cases hc:decide ((s.size:Int)≤2048) with
 |true=>
  rw [hc,cond_true] at hx
  cases hr:I5 (s.size+1) s 0 [] with
  |none=>rw [hr] at hx;cases hx
  |some out=>
   rw [hr] at hx
   have ho:=aer hr (fun _ h=>by cases h)
   unfold vF at hx
   cases hd: !(cE out).2||decide ((cE out).1≠s) with
   |true=>simp only [hd,cond_true] at hx;cases hx
   |false=>simp only [hd,cond_false] at hx;exact ho x hx
 |false=>rw [hc] at hx;cases hx
def k8 (s:ByteArray):Prop:=s.size≤1000000
def fb (s:ByteArray):AV:=.t [ndA (bz s).1,.s (.q (bz s).2)]
def WG (s:ByteArray):List AV:=[]
def mZ:cn where
 A:=[.s .str]
 B:=[]
 pre:=fun x b=>k8 x
 r:=fun x b _=>fb x
 o:=fun x b _=>WG x
theorem CN:Has Tryz.prog 85 mZ:=by
 refine Has.fl zT zF zF (l:=[(124,vT),(125,jD),(126,qy),(127,qA),(128,sK)]) ⟨S8,vt,IH,IJ,ME,aa⟩ Tryz.func85 ?_
 rintro (s:ByteArray) _ (hp:k8 s)
 show vc _ _ _ _ (entry [.str s] []) _
 unfold k8 at hp
 have dj:∀k,(nth ab (bq s).1 k).size≤1000000:=fun k=>by
  by_cases h:k<(bq s).1.length
  ·exact ZB0 (KY _ (bR (ek:=ab) h)) hp
  ·unfold nth;rw [ZD8 (by omega)];exact ZA7 _
 have afW:∀k,gH (nth ab (bq s).1 k):=fun k=>by unfold gH;have:=dj k;omega
 refine⟨⟨tv2,?_⟩,fun x1 w2=>⟨aa,fun w3=>?_,fun w4=>⟨fun w5=>?_,fun w6=>⟨⟨?_,?_⟩,?_,⟨tv2,?_⟩,fun x7 w8=>⟨⟨?_,?_⟩,?_,⟨tv2,?_⟩,fun x9 dx=>⟨⟨?_,?_⟩,?_,⟨tv2,?_⟩,fun ku dI=>⟨⟨?_,?_⟩,?_,⟨tv2,?_⟩,fun rS gN=>⟨⟨?_,?_⟩,?_,⟨tv2,?_⟩,fun kt kc=>⟨⟨?_,?_⟩,?_,⟨tv2,?_⟩,fun x17 rO=>⟨⟨⟨tv11,aa⟩,aa⟩,fun x19 uE=>⟨aa,fun AY=>?_,fun AX=>⟨⟨⟨tv11,aa⟩,aa⟩,fun x23 rN=>⟨fun w25=>?_,fun w26=>?_⟩⟩⟩⟩⟩⟩⟩⟩⟩⟩⟩⟩⟩
 all_goals first|refine aw ?_|refine ax ?_|exact a8|(dsimp only [vT,nk,jD,gH,qy,mJ,qA,qa,sK,q6];omega)|exact a7|exact dj _|exact afW _|skip
 ·refine⟨[],[],_,_,_,rfl,az,(),aa,?_,?_,rfl⟩
  ·(show _=fb s);unfold fb;first|(rw [yo w3];rfl)|rfl
  ·rfl
 ·refine⟨[],[],_,_,_,rfl,az,(),aa,?_,?_,rfl⟩
  ·(show _=fb s);unfold fb;first|(rw [tv w5];rfl)|rfl
  ·rfl
 ·refine⟨[],[],_,_,_,rfl,az,(),aa,?_,?_,rfl⟩
  ·(show _=fb s);unfold fb;first|(rw [yn AY];rfl)|rfl
  ·rfl
 ·refine⟨[],[],_,_,_,rfl,az,(),aa,?_,?_,rfl⟩
  ·(show _=fb s);unfold fb;first|(rw [ym w25];rfl)|rfl
  ·rfl
 ·refine⟨[],[],_,_,_,rfl,az,(),aa,?_,?_,rfl⟩
  ·(show _=fb s);unfold fb;first|(rw [yp w4 w6 AX w26];rfl)|rfl
  ·rfl
end GL
namespace GL
def cu (n:Nat):List Pt:=List.replicate n bM
def kW (n:Int):Prop:=0≤n∧n≤1000
def uU (n:Int):AV:=.s (.xs 0 5 0 (cu n.toNat).length)
def yj (n:Int):List AV:=[.rs ae (cu n.toNat)]
def jZ:cn where
 A:=[.s .int]
 B:=[]
 pre:=fun x b=>kW x
 r:=fun x b _=>uU x
 o:=fun x b _=>yj x
 nf:=1
theorem wL:Has Tryz.prog 92 jZ:=by
 refine Has.fl zT zF zF (l:=[]) trivial Tryz.func92 ?_
 rintro (n:Int) _ (hp:kW n)
 show vc _ _ _ _ (entry [.int n] []) _
 obtain⟨h1,h2⟩:=hp
 refine⟨⟨?_,⟨?_,?_⟩⟩,?_⟩
 all_goals first|refine aw ?_|refine ax ?_|exact a8|exact a7|skip
 refine⟨[1004],[],_,_,_,rfl,az,(),aa,?_,?_,rfl⟩
 ·(show _=uU n);unfold uU;first|(rw [show (cu n.toNat).length=n.toNat from ZG0];rfl)|rfl
 ·(show _=yj n);unfold yj;first|(rw [show (cu n.toNat).length=n.toNat from ZG0];rfl)|rfl
structure ay.rd (s:ay):Prop where
 len:s.rows.length=64
 sz:∀x∈s.rows,x.size≤1000000
theorem zk {s:ay}{p:Pt}(h:s.rd):(bF s p).1.size≤1000000:=by
 unfold bF
 cases au p with
 |true=>exact ZA7 _
 |false=>
  cases iV p (nth ab s.rows p.1.toNat) with
  |true=>
   show (nth ab s.rows p.1.toNat).size≤1000000
   by_cases hk:p.1.toNat<s.rows.length
   ·exact h.2 _ (bR (ek:=ab) hk)
   ·unfold nth;rw [ZD8 (by omega)];exact ZA7 _
  |false=>exact ZA7 _
def oE (p:Pt) (r:List Pt×Bool):List Pt×Bool:=bif r.1.any (fun q=>decide (q.2.1>p.2.1)) then ([],false) else r
def bg (s:ay) (p:Pt) (lv:Int):List Pt×Bool:=
 bif au p then (cu 4,true) else
 bif !(aZ p)||(decide (p.2.2.2.2≠lv)||decide (p.2.1>s.cg)) then ([],false) else
 bif !(bF s p).2 then ([],false) else oE p (bl (bF s p).1)
theorem ko {s:ay}{p:Pt}{lv:Int}(h:au p=true):bg s p lv=(cu 4,true):=by unfold bg;rw [h];rfl
theorem J6 {s:ay}{p:Pt}{lv:Int}(h:au p=false) (h1:(!(aZ p))=true):bg s p lv=([],false):=by unfold bg;rw [h,h1];rfl
theorem vX {s:ay}{p:Pt}{lv:Int}(h:au p=false) (h1:decide (p.2.2.2.2≠lv)=true):bg s p lv=([],false):=by unfold bg;rw [h,h1,Bool.true_or,ZC4];rfl
theorem AA {s:ay}{p:Pt}{lv:Int}(h:au p=false) (h1:decide (p.2.1>s.cg)=true):bg s p lv=([],false):=by unfold bg;rw [h,h1,ZC4,ZC4];rfl
theorem vW {s:ay}{p:Pt}{lv:Int}(h:au p=false) (h1:(!(aZ p))=false) (h2:decide (p.2.2.2.2≠lv)=false) (h3:decide (p.2.1>s.cg)=false) (h4:(!(bF s p).2)=true):bg s p lv=([],false):=by unfold bg;rw [h,h1,h2,h3,h4];rfl
theorem vV {s:ay}{p:Pt}{lv:Int}(h:au p=false) (h1:(!(aZ p))=false) (h2:decide (p.2.2.2.2≠lv)=false) (h3:decide (p.2.1>s.cg)=false) (h4:(!(bF s p).2)=false):bg s p lv=oE p (bl (bF s p).1):=by unfold bg;rw [h,h1,h2,h3,h4];rfl
theorem vH (s:ByteArray):(bl s).1.length≤4∧((bl s).2=true→(bl s).1.length=4):=by
 unfold bl
 cases ob (bm s 44) [] false with
 |none=>exact⟨ZA7 _,fun h=>by cases h⟩
 |some r=>
  obtain⟨o,sm⟩:=r
  show (l4 o sm).1.length≤4∧((l4 o sm).2=true→(l4 o sm).1.length=4)
  unfold l4
  cases hc:decide ((o.length:Int)≠4)|| !sm with
  |true=>exact⟨ZA7 _,fun h=>by cases h⟩
  |false=>
   simp only [ZE1,decide_eq_false_iff_not,ZE9] at hc
   have:o.length=4:=by omega
   exact⟨by show o.length≤4;omega,fun _=>this⟩
abbrev late (p:Pt):Pt→Bool:=fun q=>decide (q.2.1>p.2.1)
theorem vY {p:Pt}{r:List Pt×Bool}(h:r.1.any (late p)=true):oE p r=([],false):=by unfold oE;rw [h];rfl
theorem sM {p:Pt}{r:List Pt×Bool}(h:r.1.any (late p)=false):oE p r=r:=by unfold oE;rw [h];rfl
theorem X5 {l:List Pt}{f:Pt→Bool}{i:Nat}(hi:i<l.length) (hr:(l.drop i).any f=l.any f) (h:f (nth ae l i)=true):l.any f=true:=by
 rw [←hr,bW (ek:=ae) hi,List.any_cons,h];rfl
theorem afm {l:List Pt}{f:Pt→Bool}{i:Nat}(hi:i<l.length) (hr:(l.drop i).any f=l.any f) (h:f (nth ae l i)=false):(l.drop (i+1)).any f=l.any f:=by
 rw [←hr,bW (ek:=ae) hi,List.any_cons,h];rfl
theorem X6 {l:List Pt}{f:Pt→Bool}{i:Nat}(hi:¬i<l.length) (hr:(l.drop i).any f=l.any f):l.any f=false:=by
 rw [←hr,ZB3 (by omega)];rfl
def fE (S:ay) (p:Pt) (lv:Int):Prop:=S.rd
def dp (S:ay) (p:Pt) (lv:Int):AV:=.t [.s (.xs 0 5 0 (bg S p lv).1.length),.s (.q (bg S p lv).2)]
def dV (S:ay) (p:Pt) (lv:Int):List AV:=[.rs ae (bg S p lv).1]
def ee:cn where
 A:=[.a xq,.a [.int,.int,.int,.int,.int],.s .int]
 B:=[]
 pre:=fun x b=>fE (x.1) (x.2.1) (x.2.2)
 r:=fun x b _=>dp (x.1) (x.2.1) (x.2.2)
 o:=fun x b _=>dV (x.1) (x.2.1) (x.2.2)
 nf:=1
theorem lg:Has Tryz.prog 89 ee:=by
 refine Has.fl zT zF zF (l:=[(54,cx),(92,jZ),(53,cX),(57,ez),(132,vU)]) ⟨cz,wL,iz,lW,S9,aa⟩ Tryz.func89 ?_
 rintro⟨⟨(aj:List ByteArray),(ak:List Int),(an:List Int),(ao:Int),(ah:List Pt),(aq:Int),(ai:List Pt),(ar:Bool)⟩,⟨(p1:Int),(p2:Int),(p3:Int),(p4:Int),(p5:Int)⟩,(lv:Int)⟩ _ (hp:fE (aj,ak,an,ao,ah,aq,ai,ar) (p1,p2,p3,p4,p5) lv)
 show vc _ _ _ _ (entry [.a [.vz ab aj,.vz ag ak,.vz ag an,.int ao,.vz ae ah,.int aq,.vz ae ai,.q ar],.a [.int p1,.int p2,.int p3,.int p4,.int p5],.int lv] []) _
 have dE:ay.rd (aj,ak,an,ao,ah,aq,ai,ar):=hp
 have hlen:aj.length=64:=dE.1
 have dj:∀q,(bF (aj,ak,an,ao,ah,aq,ai,ar) q).1.size≤1000000:=fun q=>zk dE
 have xy:au (p1,p2,p3,p4,p5)=false→(!(aZ (p1,p2,p3,p4,p5)))=false→0≤p1∧p1<64:=fun h h1=>by
  have:=pO (cL h1);dsimp only at this;omega
 refine⟨⟨⟨tv6,aa⟩,aa⟩,fun x1 w2=>⟨fun w3=>⟨⟨tv2,?_,?_⟩,fun x4 w5=>?_⟩,fun w6=>⟨⟨⟨tv6,aa⟩,aa⟩,fun x7 w8=>⟨aa,fun w9=>⟨aa,?_⟩,fun dx=>⟨aa,fun kx=>⟨aa,?_⟩,fun dI=>⟨fun iS=>⟨aa,?_⟩,fun gN=>⟨⟨⟨tv9,tv6,aa⟩,fun kt kc=>?_,?_,?_⟩,fun x17 rO=>⟨fun oH=>⟨aa,?_⟩,fun uE=>⟨⟨tv2,?_⟩,fun x21 AX=>?_⟩⟩⟩⟩⟩⟩⟩⟩⟩
 all_goals first|refine aw ?_|refine ax ?_|exact a8|(dsimp only [jZ,kW,cX,dY,ez,fU,vU,qb];omega)|exact a7|exact dE.2 _ (by assumption)|exact (xy w6 dx).1|(have:=(xy w6 dx).2;show p1<(aj.length:Int);omega)|skip
 ·refine⟨[160000],[],_,_,_,rfl,az,(),aa,?_,?_,rfl⟩
  ·(show _=dp (aj,ak,an,ao,ah,aq,ai,ar) (p1,p2,p3,p4,p5) lv);unfold dp;first|(rw [ko w3];rfl)|rfl
  ·(show _=dV (aj,ak,an,ao,ah,aq,ai,ar) (p1,p2,p3,p4,p5) lv);unfold dV;first|(rw [ko w3];rfl)|rfl
 ·refine⟨[1032],[],_,_,_,rfl,az,(),aa,?_,?_,rfl⟩
  ·(show _=dp (aj,ak,an,ao,ah,aq,ai,ar) (p1,p2,p3,p4,p5) lv);unfold dp;first|(rw [J6 w6 w9];rfl)|rfl
  ·(show _=dV (aj,ak,an,ao,ah,aq,ai,ar) (p1,p2,p3,p4,p5) lv);unfold dV;first|(rw [J6 w6 w9];rfl)|rfl
 ·refine⟨[1032],[],_,_,_,rfl,az,(),aa,?_,?_,rfl⟩
  ·(show _=dp (aj,ak,an,ao,ah,aq,ai,ar) (p1,p2,p3,p4,p5) lv);unfold dp;first|(rw [vX w6 kx];rfl)|rfl
  ·(show _=dV (aj,ak,an,ao,ah,aq,ai,ar) (p1,p2,p3,p4,p5) lv);unfold dV;first|(rw [vX w6 kx];rfl)|rfl
 ·refine⟨[1032],[],_,_,_,rfl,az,(),aa,?_,?_,rfl⟩
  ·(show _=dp (aj,ak,an,ao,ah,aq,ai,ar) (p1,p2,p3,p4,p5) lv);unfold dp;first|(rw [AA w6 iS];rfl)|rfl
  ·(show _=dV (aj,ak,an,ao,ah,aq,ai,ar) (p1,p2,p3,p4,p5) lv);unfold dV;first|(rw [AA w6 iS];rfl)|rfl
 ·refine⟨[1041],[],_,_,_,rfl,az,(),aa,?_,?_,rfl⟩
  ·(show _=dp (aj,ak,an,ao,ah,aq,ai,ar) (p1,p2,p3,p4,p5) lv);unfold dp;first|(rw [vW (s:=(aj,ak,an,ao,ah,aq,ai,ar)) (p:=(p1,p2,p3,p4,p5)) w6 dx dI gN oH];rfl)|rfl
  ·(show _=dV (aj,ak,an,ao,ah,aq,ai,ar) (p1,p2,p3,p4,p5) lv);unfold dV;first|(rw [vW (s:=(aj,ak,an,ao,ah,aq,ai,ar)) (p:=(p1,p2,p3,p4,p5)) w6 dx dI gN oH];rfl)|rfl
 ·exact dj _
 ·have hB:=vV (s:=(aj,ak,an,ao,ah,aq,ai,ar)) (p:=(p1,p2,p3,p4,p5)) (lv:=lv) w6 dx dI gN uE
  have hF:=(vH (bF (aj,ak,an,ao,ah,aq,ai,ar) (p1,p2,p3,p4,p5)).1).1
  refine cN (l:=[(54,cx),(92,jZ),(53,cX),(57,ez),(132,vU)]) (ex:=zT) (wr:=zF) (pt:=zF) ⟨cz,wL,iz,lW,S9,aa⟩ [.s 4,.b 1004,.s 10,.s 11,.b 450000] (fun i:Nat=>[(.s 12,.int i)]) (fun i=>i≤(bl (bF (aj,ak,an,ao,ah,aq,ai,ar) (p1,p2,p3,p4,p5)).1).1.length∧((bl (bF (aj,ak,an,ao,ah,aq,ai,ar) (p1,p2,p3,p4,p5)).1).1.drop i).any (late (p1,p2,p3,p4,p5))=(bl (bF (aj,ak,an,ao,ah,aq,ai,ar) (p1,p2,p3,p4,p5)).1).1.any (late (p1,p2,p3,p4,p5))) (fun i=>(bl (bF (aj,ak,an,ao,ah,aq,ai,ar) (p1,p2,p3,p4,p5)).1).1.length-i) 0 [] ⟨ZA7 _,rfl⟩ dL ?_
  rintro i ⟨hi,hr⟩
  have cm:decide ((i:Int)<((bl (bF (aj,ak,an,ao,ah,aq,ai,ar) (p1,p2,p3,p4,p5)).1).1.length:Int))=true→i<(bl (bF (aj,ak,an,ao,ah,aq,ai,ar) (p1,p2,p3,p4,p5)).1).1.length:=fun h=>by have:=aJ h;omega
  have nY:decide ((i:Int)<((bl (bF (aj,ak,an,ao,ah,aq,ai,ar) (p1,p2,p3,p4,p5)).1).1.length:Int))=false→¬i<(bl (bF (aj,ak,an,ao,ah,aq,ai,ar) (p1,p2,p3,p4,p5)).1).1.length:=fun h=>by have:=aA h;omega
  refine⟨fun w1=>⟨Sq10,Sq53,rfl,Sq12,Sq54,rfl,[.s 53,.s 54],Sq55,rfl,⟨?_,?_⟩,Sq55,Sq56,rfl,[.s 56,.b 450000],Sq57,rfl,?_,Sq4,Sq58,rfl,[.s 58,.b 1004],Sq59,rfl,[.s 57,.s 59],Sq60,rfl,fun w2=>⟨aa,?_⟩,fun w3=>⟨⟨?_,?_⟩,?_⟩⟩,fun w4=>?_⟩
  all_goals first|refine aw ?_|refine ax ?_|exact a8|(dsimp only [jZ,kW,cX,dY,ez,fU,vU,qb];omega)|exact a7|exact cm w1|exact aJ w1|skip
  ·refine⟨[1061],[],_,_,_,rfl,az,(),aa,?_,?_,rfl⟩
   ·(show _=dp (aj,ak,an,ao,ah,aq,ai,ar) (p1,p2,p3,p4,p5) lv);unfold dp;first|(rw [hB,vY (X5 (cm w1) hr w2)];rfl)|rfl
   ·(show _=dV (aj,ak,an,ao,ah,aq,ai,ar) (p1,p2,p3,p4,p5) lv);unfold dV;first|(rw [hB,vY (X5 (cm w1) hr w2)];rfl)|rfl
  ·refine⟨(i+1),[],?_,?_,?_⟩
   rotate_right
   ·exact bV
   ·exact⟨cm w1,afm (cm w1) hr w3⟩
   ·show (bl (bF (aj,ak,an,ao,ah,aq,ai,ar) (p1,p2,p3,p4,p5)).1).1.length-(i+1)<(bl (bF (aj,ak,an,ao,ah,aq,ai,ar) (p1,p2,p3,p4,p5)).1).1.length-i;have:=cm w1;omega
  ·refine⟨[450000],[],_,_,_,rfl,az,(),aa,?_,?_,rfl⟩
   ·(show _=dp (aj,ak,an,ao,ah,aq,ai,ar) (p1,p2,p3,p4,p5) lv);unfold dp;first|(rw [hB,sM (X6 (nY w4) hr)];rfl)|rfl
   ·(show _=dV (aj,ak,an,ao,ah,aq,ai,ar) (p1,p2,p3,p4,p5) lv);unfold dV;first|(rw [hB,sM (X6 (nY w4) hr)];rfl)|rfl
end GL
end Go.Proofs.YtclcgjhhehbdeaaGreatDoor
