/- A drawn law returns true for every code (its row lists package variables, tied by the card): part 15. -/
import Derived.Test.YtnkbdhldiinfdaaGreatDoorPan
set_option maxHeartbeats 20000000
set_option maxRecDepth 100000
set_option linter.all false
namespace Go.Proofs.YtnkbdhldiinfdaaGreatDoor
namespace GL
def sd (n:Int):Prop:=True
def aaN (n:Int):AV:=.q (ik n 8 63)
def ac5 (n:Int):List AV:=[]
def oY:cn where
 A:=[.s .int]
 B:=[]
 pre:=fun x b=>sd x
 r:=fun x b _=>aaN x
 o:=fun x b _=>ac5 x
theorem zI:Has Tryz.prog 120 oY:=by
 refine Has.fm zT zF zF (l:=[(35,hZ)]) ⟨iA,aa⟩ Tryz.func120 ?_
 rintro (n:Int) _ (hp:sd n)
 show vc _ _ _ _ (entry [.int n] []) _
 refine⟨⟨tv4,aa⟩,fun x1 w2=>?_⟩
 refine⟨[],[],_,_,_,rfl,az,(),aa,?_,?_,rfl⟩
 ·rfl
 ·rfl
def vd (s:ByteArray):Prop:=True
def Q0 (s:ByteArray):AV:=.q (ik s.size 1 128)
def V2 (s:ByteArray):List AV:=[]
def DB:cn where
 A:=[.s .str]
 B:=[]
 pre:=fun x b=>vd x
 r:=fun x b _=>Q0 x
 o:=fun x b _=>V2 x
theorem abI:Has Tryz.prog 148 DB:=by
 refine Has.fm zT zF zF (l:=[(35,hZ)]) ⟨iA,aa⟩ Tryz.func148 ?_
 rintro (s:ByteArray) _ (hp:vd s)
 show vc _ _ _ _ (entry [.str s] []) _
 refine⟨⟨tv4,aa⟩,fun x1 w2=>?_⟩
 refine⟨[],[],_,_,_,rfl,az,(),aa,?_,?_,rfl⟩
 ·rfl
 ·rfl
def aZ (p:Pt):Bool:=au p||(ik p.1 8 63&&ik p.2.1 1 900&&ik p.2.2.1 1 128&&ik p.2.2.2.1 0 99460728&&ik p.2.2.2.2 0 2)
def dZ (p:Pt):Prop:=True
def aaQ (p:Pt):AV:=.q (aZ p)
def ade (p:Pt):List AV:=[]
def cX:cn where
 A:=[.a [.int,.int,.int,.int,.int]]
 B:=[]
 pre:=fun x b=>dZ x
 r:=fun x b _=>aaQ x
 o:=fun x b _=>ade x
theorem iB:Has Tryz.prog 80 cX:=by
 refine Has.fm zT zF zF (l:=[(81,cx),(120,oY),(35,hZ)]) ⟨cz,zI,iA,aa⟩ Tryz.func80 ?_
 rintro⟨(p1:Int),(p2:Int),(p3:Int),(p4:Int),(p5:Int)⟩ _ (hp:dZ (p1,p2,p3,p4,p5))
 show vc _ _ _ _ (entry [.a [.int p1,.int p2,.int p3,.int p4,.int p5]] []) _
 refine⟨⟨⟨tv6,aa⟩,aa⟩,fun x1 w2=>⟨fun w3=>?_,fun w4=>⟨⟨tv2,aa⟩,fun x5 w6=>⟨aa,fun w7=>⟨⟨tv4,aa⟩,fun x8 w9=>⟨aa,fun dy=>⟨⟨tv4,aa⟩,fun kz dJ=>⟨aa,fun iU=>⟨⟨tv4,aa⟩,fun x14 qK=>⟨aa,fun kg=>⟨⟨tv4,aa⟩,fun x17 rS=>?_⟩,fun oL=>?_⟩⟩,fun uI=>?_⟩⟩,fun A4=>?_⟩⟩,fun A3=>?_⟩⟩⟩⟩
 all_goals
  refine⟨[],[],_,_,_,rfl,az,(),aa,?_,?_,rfl⟩
  ·show AV.q _=AV.q _
   congr 1
   simp_all [aZ]
  ·rfl
def YM (p:Int×Int) (c:Int):Int×Int:=((p.1+c+1) % 9973,(p.2+(p.1+c+1) % 9973) % 9973)
def rZ (s:ByteArray):Nat→Int×Int
 |0=>(1,0)
 |k+1=>YM (rZ s k) (bL s k)
def qN (s:ByteArray):Int:=(rZ s s.size).1*9973+(rZ s s.size).2
theorem zf (s:ByteArray):∀k,0≤(rZ s k).1∧(rZ s k).1≤9972∧0≤(rZ s k).2∧(rZ s k).2≤9972
 |0=>by simp [rZ]
 |k+1=>by
  have:=zf s k
  simp only [rZ,YM]
  omega
theorem akc (s:ByteArray):0≤qN s∧qN s≤99460728:=by
 have:=zf s s.size
 unfold qN
 omega
def jQ (s:ByteArray):Prop:=(s.size:Int)≤1000000000000
def aaP (s:ByteArray):AV:=.int (qN s)
def adb (s:ByteArray):List AV:=[]
def AE:cn where
 A:=[.s .str]
 B:=[]
 pre:=fun x b=>jQ x
 r:=fun x b _=>aaP x
 o:=fun x b _=>adb x
theorem ZV:Has Tryz.prog 149 AE:=by
 refine Has.fm zT zF zF (l:=[]) trivial Tryz.func149 ?_
 rintro (s:ByteArray) _ (hp:jQ s)
 show vc _ _ _ _ (entry [.str s] []) _
 unfold jQ at hp
 refine cN (l:=[]) (ex:=zT) (wr:=zF) (pt:=zF) aa [.s 0] (fun k:Nat=>[(.s 3,.int (rZ s k).1),(.s 4,.int (rZ s k).2),(.s 5,.int k)]) (fun k=>k≤s.size) (fun k=>s.size-k) 0 [] (ZA7 _) ⟨⟨rfl,rfl,rfl,aa⟩,rfl,aa⟩ ?_
 intro k hk
 obtain⟨b1,b2,b3,b4⟩:=zf s k
 have hb:=xf s k
 refine⟨fun w1=>⟨⟨?_,?_⟩,⟨⟨?_,?_⟩,⟨⟨?_,?_⟩,⟨⟨?_,?_⟩,⟨⟨?_,?_⟩,⟨⟨?_,?_⟩,⟨⟨?_,?_⟩,⟨⟨?_,?_⟩,?_⟩⟩⟩⟩⟩⟩⟩⟩,fun w2=>⟨⟨?_,?_⟩,⟨⟨?_,?_⟩,?_⟩⟩⟩
 all_goals first|refine aw ?_|refine ax ?_|exact a8|exact a7|skip
 ·refine⟨(k+1),[],?_,?_,?_⟩
  rotate_right
  ·repeat' (first|exact trivial|rfl|exact rfl|exact fP ZA0.symm|exact oP|apply And.intro)
  all_goals first|refine aw ?_|refine ax ?_|exact a8|exact a7|skip
 ·have h2:¬(k:Int)<(s.size:Int):=aA w2
  have hk':k=s.size:=by omega
  subst hk'
  refine⟨[],[],_,_,_,rfl,az,(),aa,?_,?_,rfl⟩
  ·rfl
  ·rfl
def iX (p:Pt) (s:ByteArray):Bool:=aZ p&&(!(au p)&&(decide (p.2.2.1=s.size)&&decide (p.2.2.2.1=qN s)))
def nP (p:Pt) (s:ByteArray):Prop:=(s.size:Int)≤1000000000000
def Q1 (p:Pt) (s:ByteArray):AV:=.q (iX p s)
def WK (p:Pt) (s:ByteArray):List AV:=[]
def sN:cn where
 A:=[.a [.int,.int,.int,.int,.int],.s .str]
 B:=[]
 pre:=fun x b=>nP (x.1) (x.2)
 r:=fun x b _=>Q1 (x.1) (x.2)
 o:=fun x b _=>WK (x.1) (x.2)
theorem MJ:Has Tryz.prog 108 sN:=by
 refine Has.fm zT zF zF (l:=[(80,cX),(81,cx),(149,AE)]) ⟨iB,cz,ZV,aa⟩ Tryz.func108 ?_
 rintro⟨⟨(p1:Int),(p2:Int),(p3:Int),(p4:Int),(p5:Int)⟩,(s:ByteArray)⟩ _ (hp:nP (p1,p2,p3,p4,p5) s)
 show vc _ _ _ _ (entry [.a [.int p1,.int p2,.int p3,.int p4,.int p5],.str s] []) _
 unfold nP at hp
 refine⟨[.s 2,.b 1002],Sq5,rfl,Sq5,Sq6,rfl,⟨⟨tv6,aa⟩,aa⟩,?_,fun x1 w2=>⟨Sq6,Sq7,rfl,aa,fun w3=>⟨[.s 7,.s 2,.b 1002],Sq8,rfl,[.s 7,.s 8],Sq9,rfl,⟨⟨tv6,aa⟩,aa⟩,?_,fun x4 w5=>⟨[.s 7,.s 9],Sq10,rfl,[.s 7,.s 10],Sq11,rfl,Sq11,Sq12,rfl,aa,fun w6=>⟨[.s 12,.s 2],Sq13,rfl,[.s 12,.s 13,.b 1002],Sq14,rfl,[.s 12,.s 1],Sq15,rfl,[.s 12,.s 15],Sq16,rfl,[.s 12,.s 14,.s 16],Sq17,rfl,[.s 12,.s 17],Sq18,rfl,Sq18,Sq19,rfl,aa,fun w7=>⟨[.s 19,.s 2],Sq20,rfl,[.s 19,.s 20,.b 1002],Sq21,rfl,[.s 19,.s 1],Sq22,rfl,[.s 19,.s 22],Sq23,rfl,⟨tv2,?_⟩,?_,fun x8 w9=>⟨[.s 19,.s 21,.s 23],Sq24,rfl,[.s 19,.s 24],Sq25,rfl,Sq25,Sq4,rfl,?_⟩⟩,fun dy=>⟨Sq19,Sq20,rfl,Sq19,Sq21,rfl,Sq19,Sq22,rfl,Sq19,Sq23,rfl,Sq19,Sq24,rfl,[.s 19,.s 24],Sq25,rfl,Sq25,Sq4,rfl,?_⟩⟩,fun kA=>⟨Sq12,Sq13,rfl,Sq12,Sq14,rfl,Sq12,Sq15,rfl,Sq12,Sq16,rfl,Sq12,Sq17,rfl,[.s 12,.s 17],Sq18,rfl,Sq18,Sq19,rfl,Sq19,Sq20,rfl,Sq19,Sq21,rfl,Sq19,Sq22,rfl,Sq19,Sq23,rfl,Sq19,Sq24,rfl,[.s 19,.s 24],Sq25,rfl,Sq25,Sq4,rfl,?_⟩⟩⟩,fun dJ=>⟨Sq7,Sq8,rfl,Sq7,Sq9,rfl,Sq7,Sq10,rfl,[.s 7,.s 10],Sq11,rfl,Sq11,Sq12,rfl,Sq12,Sq13,rfl,Sq12,Sq14,rfl,Sq12,Sq15,rfl,Sq12,Sq16,rfl,Sq12,Sq17,rfl,[.s 12,.s 17],Sq18,rfl,Sq18,Sq19,rfl,Sq19,Sq20,rfl,Sq19,Sq21,rfl,Sq19,Sq22,rfl,Sq19,Sq23,rfl,Sq19,Sq24,rfl,[.s 19,.s 24],Sq25,rfl,Sq25,Sq4,rfl,?_⟩⟩⟩
 all_goals first|refine aw ?_|refine ax ?_|exact a8|(dsimp only [cX,dZ,AE,jQ];omega)|exact a7|(show jQ _;unfold jQ;omega)|skip
 all_goals
  refine⟨[],[],_,_,_,rfl,az,(),aa,?_,?_,rfl⟩
  ·show AV.q _=AV.q _
   congr 1
   simp_all [iX]
  ·rfl
def bM:Pt:=(0,0,0,0,0)
def gv (at_ EI level:Int) (s:ByteArray):Pt×Bool:=
 bif ik s.size 1 128&&aZ (at_,EI,s.size,qN s,level) then ((at_,EI,s.size,qN s,level),true) else (bM,false)
def ptA (p:Pt):A0:=.a (EK.AX ae p)
theorem BV {a b l:Int}{s:ByteArray}(h1:ik s.size 1 128=true) (h2:aZ (a,b,s.size,qN s,l)=true):gv a b l s=((a,b,(s.size:Int),qN s,l),true):=by unfold gv;rw [h1,h2];rfl
theorem BX {a b l:Int}{s:ByteArray}(h1:ik s.size 1 128=false):gv a b l s=(bM,false):=by unfold gv;rw [h1];rfl
theorem BW {a b l:Int}{s:ByteArray}(h2:aZ (a,b,s.size,qN s,l)=false):gv a b l s=(bM,false):=by unfold gv;rw [h2,ZD7];rfl
theorem xm {b:Bool}(h:(!b)=true):b=false:=by simpa using h
theorem cL {b:Bool}(h:(!b)=false):b=true:=by simpa using h
def mM (a:Int) (b:Int) (l:Int) (s:ByteArray):Prop:=(s.size:Int)≤1000000000000
def aaR (a:Int) (b:Int) (l:Int) (s:ByteArray):AV:=.t [ptA (gv a b l s).1,.s (.q (gv a b l s).2)]
def adf (a:Int) (b:Int) (l:Int) (s:ByteArray):List AV:=[]
def o0:cn where
 A:=[.s .int,.s .int,.s .int,.s .str]
 B:=[]
 pre:=fun x b=>mM (x.1) (x.2.1) (x.2.2.1) (x.2.2.2)
 r:=fun x b _=>aaR (x.1) (x.2.1) (x.2.2.1) (x.2.2.2)
 o:=fun x b _=>adf (x.1) (x.2.1) (x.2.2.1) (x.2.2.2)
theorem FJ:Has Tryz.prog 98 o0:=by
 refine Has.fm zT zF zF (l:=[(148,DB),(80,cX),(149,AE)]) ⟨abI,iB,ZV,aa⟩ Tryz.func98 ?_
 rintro⟨(a:Int),(b:Int),(l:Int),(s:ByteArray)⟩ _ (hp:mM a b l s)
 show vc _ _ _ _ (entry [.int a,.int b,.int l,.str s] []) _
 unfold mM at hp
 refine⟨⟨tv2,aa⟩,fun x1 w2=>⟨fun w3=>?_,fun w4=>⟨⟨tv2,?_⟩,fun x5 w6=>⟨⟨⟨tv6,aa⟩,aa⟩,fun x7 w8=>⟨fun w9=>?_,fun dy=>?_⟩⟩⟩⟩⟩
 all_goals first|refine aw ?_|refine ax ?_|exact a8|(dsimp only [DB,vd,cX,dZ,AE,jQ];omega)|exact a7|(show jQ _;unfold jQ;omega)|skip
 ·refine⟨[],[],_,_,_,rfl,az,(),aa,?_,?_,rfl⟩
  ·show _=AV.t [ptA (gv a b l s).1,.s (.q (gv a b l s).2)]
   rw [BX (xm w3)];rfl
  ·rfl
 ·refine⟨[],[],_,_,_,rfl,az,(),aa,?_,?_,rfl⟩
  ·show _=AV.t [ptA (gv a b l s).1,.s (.q (gv a b l s).2)]
   rw [BW (xm w9)];rfl
  ·rfl
 ·refine⟨[],[],_,_,_,rfl,az,(),aa,?_,?_,rfl⟩
  ·show _=AV.t [ptA (gv a b l s).1,.s (.q (gv a b l s).2)]
   rw [BV (cL w4) (cL dy)];rfl
  ·rfl
def alr:Nat→Nat→ByteArray
 |0,_=>ByteArray.empty
 |n+1,k=>bif Nat.blt k 10 then fa [48+k] else alr n (k / 10)++fa [48+k % 10]
end GL
namespace GL
theorem sz0:(⟨#[]⟩:ByteArray).size=0:=rfl
theorem sz1 (a:UInt8):(⟨#[a]⟩:ByteArray).size=1:=rfl
def dec (k:Nat):ByteArray:=if k<10 then fa [48+(k:Int)] else dec (k / 10)++fa [48+((k % 10:Nat):Int)]
 termination_by k
 decreasing_by omega
def bX (n:Int):ByteArray:=dec n.toNat
theorem dec_lt {k:Nat}(h:k<10):dec k=fa [48+(k:Int)]:=by rw [dec,if_pos h]
theorem X0 {k:Nat}(h:¬k<10):dec k=dec (k / 10)++fa [48+((k % 10:Nat):Int)]:=by rw [dec,if_neg h]
theorem sX (n:Int):(fa [n]).size=1:=by rw [fa,nC];rfl
theorem JM:∀(m k:Nat),k<10 ^ (m+1)→(dec k).size≤m+1
 |0,k,h=>by rw [dec_lt (by omega),sX];omega
 |m+1,k,h=>by
  by_cases hk:k<10
  ·rw [dec_lt hk,sX];omega
  ·rw [X0 hk,ZB2,sX]
   have:=JM m (k / 10) (by rw [Nat.pow_succ] at h;omega)
   omega
theorem db {n:Int}(h:n≤999999999999):(bX n).size≤12:=JM 11 n.toNat (by show _<1000000000000;omega)
theorem agk {n:Int}(h0:0≤n) (h:n<10):bX n=fa [48+n]:=by
 unfold bX
 rw [dec_lt (by omega),show ((n.toNat:Nat):Int)=n by omega]
theorem agl {n:Int}(h0:0≤n) (h:¬n<10):bX n=bX (n / 10)++fa [48+n % 10]:=by
 unfold bX
 rw [X0 (by omega),show ((n.toNat % 10:Nat):Int)=n % 10 by omega,show n.toNat / 10=(n / 10).toNat by omega]
def mK (n:Int):Prop:=0≤n∧n≤999999999999
def aaM (n:Int):AV:=.str (bX n)
def ac4 (n:Int):List AV:=[]
def j5:cn where
 A:=[.s .int]
 B:=[]
 pre:=fun x b=>mK x
 r:=fun x b _=>aaM x
 o:=fun x b _=>ac4 x
def adA (n:Int):Nat:=n.toNat
theorem wR:Has Tryz.prog 161 j5:=by
 refine Has.akC (C:=j5) zT zF zF (fun x b=>adA x) (l:=[]) trivial Tryz.func161 ?_
 rintro (n:Int) _ (hp:mK n) ama
 show vc _ _ _ _ (entry [.int n] []) _
 obtain⟨h1,h2⟩:=hp
 have hs:=db (n:=n / 10) (by omega)
 refine⟨fun w1=>?_,fun w2=>⟨fun w3=>⟨⟨?_,?_⟩,⟨tv2,⟨?_,?_⟩,?_⟩,fun x4 w5=>⟨?_,?_⟩⟩,fun w6=>⟨fun w7=>⟨⟨?_,?_⟩,⟨?_,?_⟩,aa,⟨?_,?_⟩,?_⟩,fun w8=>⟨Sq0,Sq18,rfl,Sq18,Sq19,rfl,⟨?_,?_,?_⟩,Sq19,Sq20,rfl,⟨tv2,⟨?_,?_⟩,?_⟩,?_,fun x9 dy=>⟨Sq0,Sq21,rfl,Sq21,Sq22,rfl,⟨?_,?_⟩,Sq22,Sq23,rfl,⟨?_,?_⟩,Sq23,Sq24,rfl,⟨?_,?_⟩,[.s 24,.b 1025],[.s 25,.b 1025],rfl,aa,[.s 25,.b 1025],Sq26,rfl,⟨?_,?_⟩,[.s 20,.s 26],Sq27,rfl,?_,Sq27,Sq2,rfl,?_⟩⟩⟩⟩⟩
 all_goals first|(exfalso;simp only [decide_eq_true_eq,decide_eq_false_iff_not] at *;omega)|refine aw ?_|refine ax ?_|exact a8|exact a7|(simp only [dC,sX,imax];omega)|(show (n / 10).toNat<n.toNat;have:=aA w8;omega)|skip
 ·refine⟨[],[],_,_,_,rfl,az,(),aa,?_,?_,rfl⟩
  ·show _=AV.str (bX n)
   rw [agk h1 (aJ w7)];rfl
  ·rfl
 ·refine⟨[],[],_,_,_,rfl,az,(),aa,?_,?_,rfl⟩
  ·show _=AV.str (bX n)
   rw [agl h1 (aA w8)];rfl
  ·rfl
def aml:ByteArray:=⟨#[46]⟩
def bc (p:Pt):ByteArray:=
 bif aZ p then (bif au p then ⟨#[45]⟩ else
  bX p.1++⟨#[46]⟩++bX p.2.1++⟨#[46]⟩++bX p.2.2.1++⟨#[46]⟩++bX p.2.2.2.1++⟨#[46]⟩++bX p.2.2.2.2) else ⟨#[]⟩
theorem pT {p:Pt}(h:aZ p=true):(0≤p.1∧p.1≤63)∧(0≤p.2.1∧p.2.1≤900)∧(0≤p.2.2.1∧p.2.2.1≤128)∧(0≤p.2.2.2.1∧p.2.2.2.1≤99460728)∧0≤p.2.2.2.2∧p.2.2.2.2≤2:=by
 unfold aZ au at h
 simp only [Bool.or_eq_true,ZA9,decide_eq_true_eq,cC] at h
 omega
theorem gu (p:Pt):(bc p).size≤64:=by
 unfold bc
 cases h:aZ p with
 |false=>exact ZA7 _
 |true=>
  obtain⟨h1,h2,h3,h4,h5⟩:=pT h
  cases au p with
  |true=>show (1:Nat)≤64;omega
  |false=>
   simp only [cond_true,cond_false,ZB2,sz1]
   have a1:=db (n:=p.1) (by omega)
   have a2:=db (n:=p.2.1) (by omega)
   have a3:=db (n:=p.2.2.1) (by omega)
   have a4:=db (n:=p.2.2.2.1) (by omega)
   have a5:=db (n:=p.2.2.2.2) (by omega)
   omega
def qd (p:Pt):Prop:=True
def VK (p:Pt):AV:=.str (bc p)
def abo (p:Pt):List AV:=[]
def qC:cn where
 A:=[.a [.int,.int,.int,.int,.int]]
 B:=[]
 pre:=fun x b=>qd x
 r:=fun x b _=>VK x
 o:=fun x b _=>abo x
theorem IM:Has Tryz.prog 162 qC:=by
 refine Has.fm zT zF zF (l:=[(80,cX),(81,cx),(161,j5)]) ⟨iB,cz,wR,aa⟩ Tryz.func162 ?_
 rintro⟨(p1:Int),(p2:Int),(p3:Int),(p4:Int),(p5:Int)⟩ _ (hp:qd (p1,p2,p3,p4,p5))
 show vc _ _ _ _ (entry [.a [.int p1,.int p2,.int p3,.int p4,.int p5]] []) _
 by_cases cG:aZ (p1,p2,p3,p4,p5)=true
 ·obtain⟨⟨b1,b2⟩,⟨b3,b4⟩,⟨b5,b6⟩,⟨b7,b8⟩,b9,b10⟩:=pT cG
  dsimp only at b1 b2 b3 b4 b5 b6 b7 b8 b9 b10
  have a1:=db (n:=p1) (by omega)
  have a2:=db (n:=p2) (by omega)
  have a3:=db (n:=p3) (by omega)
  have a4:=db (n:=p4) (by omega)
  have a5:=db (n:=p5) (by omega)
  refine⟨⟨⟨tv6,aa⟩,aa⟩,fun x1 w2=>⟨fun w3=>?_,fun w4=>⟨⟨⟨tv6,aa⟩,aa⟩,fun x5 w6=>⟨fun w7=>?_,fun w8=>⟨Sq1,Sq8,rfl,[.s 8,.b 1001],Sq9,rfl,Sq9,Sq10,rfl,⟨tv2,?_,?_⟩,?_,fun x9 dy=>⟨Sq10,Sq11,rfl,?_,Sq1,Sq12,rfl,[.s 12,.b 1001],Sq13,rfl,Sq13,Sq14,rfl,⟨tv2,?_,?_⟩,?_,fun kz dJ=>⟨[.s 11,.s 14],Sq15,rfl,?_,Sq15,Sq16,rfl,?_,Sq1,Sq17,rfl,[.s 17,.b 1001],Sq18,rfl,Sq18,Sq19,rfl,⟨tv2,?_,?_⟩,?_,fun rW gO=>⟨[.s 16,.s 19],Sq20,rfl,?_,Sq20,Sq21,rfl,?_,Sq1,Sq22,rfl,[.s 22,.b 1001],Sq23,rfl,Sq23,Sq24,rfl,⟨tv2,?_,?_⟩,?_,fun ky kg=>⟨[.s 21,.s 24],Sq25,rfl,?_,Sq25,Sq26,rfl,?_,Sq1,Sq27,rfl,[.s 27,.b 1001],Sq28,rfl,Sq28,Sq29,rfl,⟨tv2,?_,?_⟩,?_,fun x17 rS=>⟨[.s 26,.s 29],Sq30,rfl,?_,Sq30,Sq2,rfl,?_⟩⟩⟩⟩⟩⟩⟩⟩⟩⟩
  all_goals first|refine aw ?_|refine ax ?_|exact a8|(dsimp only [cX,dZ,j5,mK];omega)|exact a7|(simp only [ZB2,sz1,imax];omega)|skip
  ·rw [cG] at w3;cases w3
  ·refine⟨[],[],_,_,_,rfl,az,(),aa,?_,?_,rfl⟩
   ·show _=AV.str (bc (p1,p2,p3,p4,p5))
    unfold bc;rw [cG,w7];rfl
   ·rfl
  ·refine⟨[],[],_,_,_,rfl,az,(),aa,?_,?_,rfl⟩
   ·show _=AV.str (bc (p1,p2,p3,p4,p5))
    unfold bc;rw [cG,w8];rfl
   ·rfl
 ·have uy:aZ (p1,p2,p3,p4,p5)=false:=by simpa using cG
  refine⟨⟨tv6,aa⟩,aa⟩ |> fun h=>⟨h,fun x1 w2=>⟨fun w3=>?_,fun w4=>?_⟩⟩
  ·refine⟨[],[],_,_,_,rfl,az,(),aa,?_,?_,rfl⟩
   ·show _=AV.str (bc (p1,p2,p3,p4,p5))
    unfold bc;rw [uy];rfl
   ·rfl
  ·rw [uy] at w4;cases w4
end GL
namespace GL
def yi (sp:List Int×List Int):Prop:=sp.1.length≤1000000∧sp.2.length≤1000000
def VJ (sp:List Int×List Int):AV:=.a [.xs 0 1 0 sp.1.length,.xs 1 1 0 sp.2.length]
def abg (sp:List Int×List Int):List AV:=[.rs ag sp.1,.rs ag sp.2]
def J1:cn where
 A:=[.a [.vz ag,.vz ag]]
 B:=[]
 pre:=fun x b=>yi x
 r:=fun x b _=>VJ x
 o:=fun x b _=>abg x
 nf:=2
theorem adY:Has Tryz.prog 150 J1:=by
 refine Has.fm zT zF zF (l:=[]) trivial Tryz.func150 ?_
 rintro⟨(dA:List Int),(eI:List Int)⟩ _ (hp:yi (dA,eI))
 show vc _ _ _ _ (entry [.a [.vz ag dA,.vz ag eI]] []) _
 obtain⟨(h1:dA.length≤1000000),(h2:eI.length≤1000000)⟩:=hp
 refine⟨[.b 1003],[.s 3,.b 1003],rfl,aa,Sq1,Sq4,rfl,[.s 4,.b 1001],Sq5,rfl,[.s 3,.s 5,.b 1003,.b 1006],[.s 6,.b 1006,.b 1003],rfl,⟨⟨?_,?_⟩,aa⟩,[.b 1007],[.s 7,.b 1007],rfl,aa,Sq1,Sq8,rfl,[.s 8,.b 1001],Sq9,rfl,[.s 7,.s 9,.b 1007,.b 1010],[.s 10,.b 1010,.b 1007],rfl,⟨⟨?_,?_⟩,aa⟩,[.s 6,.s 10],Sq11,rfl,[.s 2,.s 11,.b 1002],[.b 1002],rfl,?_⟩
 all_goals first|refine aw ?_|refine ax ?_|exact a8|exact a7|(simp only [dC,ZA4];omega)|skip
 refine⟨[1006,1010],[],_,_,_,rfl,az,(),aa,?_,?_,rfl⟩
 ·show AV.a [.xs 0 1 0 (0+dA.length),.xs 1 1 0 (0+eI.length)]=AV.a [.xs 0 1 0 dA.length,.xs 1 1 0 eI.length]
  rw [ZA6,ZA6]
 ·rfl
def ay.small (s:ay):Prop:=s.rows.length≤1000000∧s.refs.length≤1000000∧s.last.length≤1000000∧s.gone.length≤1000000∧s.dead.length≤1000000
def pX (S:ay):Prop:=S.small
def VE (S:ay):AV:=.a (kW 0 1 2 3 4 S)
def abb (S:ay):List AV:=GF S
def jD:cn where
 A:=[.a xv]
 B:=[]
 pre:=fun x b=>pX x
 r:=fun x b _=>VE x
 o:=fun x b _=>abb x
 nf:=5
theorem IH:Has Tryz.prog 99 jD:=by
 refine Has.fm zT zF zF (l:=[(150,J1)]) ⟨adY,aa⟩ Tryz.func99 ?_
 rintro⟨(aj:List ByteArray),(ak:List Int),(an:List Int),(ao:Int),(ah:List Pt),(aq:Int),(ai:List Pt),(ar:Bool)⟩ _ (hp:pX (aj,ak,an,ao,ah,aq,ai,ar))
 show vc _ _ _ _ (entry [.a [.vz ab aj,.vz ag ak,.vz ag an,.int ao,.vz ae ah,.int aq,.vz ae ai,.q ar]] []) _
 obtain⟨h1,h2,h3,h4,h5⟩:=hp
 dsimp only [ay.rows,ay.refs,ay.last,ay.gone,ay.dead] at h1 h2 h3 h4 h5
 refine⟨aa,⟨⟨?_,?_⟩,aa⟩,⟨⟨tv3,aa⟩,?_,?_⟩,fun x1 w2=>⟨aa,⟨⟨?_,?_⟩,aa⟩,aa,⟨⟨?_,?_⟩,aa⟩,?_⟩⟩
 all_goals first|refine aw ?_|refine ax ?_|exact a8|(dsimp only [J1,yi];omega)|exact a7|(simp only [dC,ZA4];omega)|skip
 refine⟨[1006,110000,110001,1015,1020],[],_,_,_,rfl,az,(),aa,?_,?_,rfl⟩
 ·exact congrArg AV.a (uU (s:=(aj,ak,an,ao,ah,aq,ai,ar)) (ZA6 _) rfl rfl rfl (ZA6 _) rfl (ZA6 _) rfl)
 ·rfl
def inL (l:List Int) (n:Int):Bool:=decide (n∈l)
theorem bR {ek:EK}{l:List (EK.Ty ek)}{k:Nat}(h:k<l.length):nth ek l k∈l:=by
 have:=oD h
 exact ZB6 this
def zt (l:List Int) (n:Int):Prop:=l.length≤1000000
def acI (l:List Int) (n:Int):AV:=.q (inL l n)
def afF (l:List Int) (n:Int):List AV:=[]
def PY:cn where
 A:=[.s (.vz ag),.s .int]
 B:=[]
 pre:=fun x b=>zt (x.1) (x.2)
 r:=fun x b _=>acI (x.1) (x.2)
 o:=fun x b _=>afF (x.1) (x.2)
theorem adV:Has Tryz.prog 189 PY:=by
 refine Has.fm zT zF zF (l:=[]) trivial Tryz.func189 ?_
 rintro⟨(l:List Int),(n:Int)⟩ _ (hp:zt l n)
 show vc _ _ _ _ (entry [.s (.vz ag l),.int n] []) _
 unfold zt at hp
 refine cN (l:=[]) (ex:=zT) (wr:=zF) (pt:=zF) trivial [.s 0,.s 1] (fun i:Nat=>[(.s 5,.int i)]) (fun i=>i≤l.length∧∀j,j<i→nth ag l j≠n) (fun i=>l.length-i) 0 [] ⟨ZA7 _,fun j hj=>absurd hj (by omega)⟩ (by repeat' (first|exact trivial|rfl|exact rfl|exact fP (ZA6 _)|apply And.intro)) ?_
 rintro i ⟨hi,uy⟩
 refine⟨fun w1=>⟨⟨?_,?_⟩,⟨fun w2=>?_,fun w3=>⟨⟨?_,?_⟩,?_⟩⟩⟩,fun w4=>?_⟩
 all_goals first|refine aw ?_|refine ax ?_|exact a8|exact a7|skip
 ·have bU:i<l.length:=by have:=aJ w1;omega
  refine⟨[],[],_,_,_,rfl,az,(),aa,?_,?_,rfl⟩
  ·show AV.q true=AV.q (inL l n)
   rw [show inL l n=true from decide_eq_true (by rw [←aJ w2];exact bR bU)]
  ·rfl
 ·have bU:i<l.length:=by have:=aJ w1;omega
  refine⟨(i+1),[],?_,?_,?_⟩
  rotate_right
  ·repeat' (first|exact trivial|rfl|exact rfl|exact fP ZA0.symm|exact oP|apply And.intro)
  ·refine⟨bU,fun j hj=>?_⟩
   by_cases e:j=i
   ·subst e;exact aA w3
   ·exact uy j (by omega)
  ·show l.length-(i+1)<l.length-i
   omega
 ·have FL:i=l.length:=by have:¬((i:Int)<(l.length:Int)):=aA w4;omega
  refine⟨[],[],_,_,_,rfl,az,(),aa,?_,?_,rfl⟩
  ·show AV.q false=AV.q (inL l n)
   rw [show inL l n=false from decide_eq_false (fun hm=>by
    obtain⟨j,hj,e⟩:=List.getElem_of_mem hm
    have h1:=oD (ek:=ag) hj
    rw [ZB1 hj,e] at h1
    exact uy j (by omega) (ZG8 h1).symm)]
  ·rfl
def findF:Nat→Nat→List Int→Int
 |0,_,_=> -1
 |f+1,i,rf=>bif decide (nth ag rf i=0) then (i:Int) else findF f (i+1) rf
def oe (rf:List Int):Int:=findF 56 8 rf
theorem T2:∀(f i:Nat) (rf:List Int),findF f i rf= -1∨((i:Int)≤findF f i rf∧findF f i rf<i+f)
 |0,_,_=>.inl rfl
 |f+1,i,rf=>by
  unfold findF
  cases decide (nth ag rf i=0) with
  |true=>right;simp only [cond_true];omega
  |false=>
   simp only [cond_false]
   rcases T2 f (i+1) rf with h |h
   ·exact .inl h
   ·right;omega
theorem T1 (rf:List Int):oe rf= -1∨(8≤oe rf∧oe rf<64):=T2 56 8 rf
def yh (sp:List Int×List Int) (fr:Int) (bu:List Int):Prop:=sp.1.length=64∧fr=8∧bu=[]
def VI (sp:List Int×List Int) (fr:Int) (bu:List Int):AV:=.int (oe sp.1)
def abf (sp:List Int×List Int) (fr:Int) (bu:List Int):List AV:=[]
def J0:cn where
 A:=[.a [.vz ag,.vz ag],.s .int,.s (.vz ag)]
 B:=[]
 pre:=fun x b=>yh (x.1) (x.2.1) (x.2.2)
 r:=fun x b _=>VI (x.1) (x.2.1) (x.2.2)
 o:=fun x b _=>abf (x.1) (x.2.1) (x.2.2)
theorem adX:Has Tryz.prog 142 J0:=by
 refine Has.fm zT zF zF (l:=[(120,oY),(189,PY)]) ⟨zI,adV,aa⟩ Tryz.func142 ?_
 rintro⟨⟨(dA:List Int),(eI:List Int)⟩,(fr:Int),(bu:List Int)⟩ _ (hp:yh (dA,eI) fr bu)
 show vc _ _ _ _ (entry [.a [.vz ag dA,.vz ag eI],.int fr,.s (.vz ag bu)] []) _
 obtain⟨(h1:dA.length=64),rfl,rfl⟩:=hp
 refine⟨⟨⟨trivial,trivial⟩,trivial⟩,fun x1 w1=>⟨fun w2=>absurd w2 (by decide),fun w3=>?_⟩⟩
 refine cN (l:=[(120,oY),(189,PY)]) (ex:=zT) (wr:=zF) (pt:=zF) ⟨zI,adV,trivial⟩ [.s 1,.s 2,.s 3,.s 7,.b 1003] (fun i:Nat=>[(.s 8,.int i)]) (fun i=>i≤56∧findF (56-i) (8+i) dA=oe dA) (fun i=>56-i) 0 [] ⟨ZA7 _,rfl⟩ (by repeat' (first|exact trivial|rfl|exact rfl|exact fP (ZA6 _)|apply And.intro)) ?_
 rintro i ⟨hi,hr⟩
 have XH:i<56→(8+(8-8+(i:Int)) % 56).toNat=8+i:=fun h=>by omega
 refine⟨fun w1=>⟨⟨?_,?_⟩,⟨?_,?_⟩,⟨?_,?_⟩,⟨?_,?_⟩,⟨?_,?_⟩,aa,fun w2=>⟨⟨tv3,?_⟩,fun x3 w4=>⟨fun w5=>?_,fun w6=>⟨⟨?_,?_⟩,?_⟩⟩⟩,fun w7=>⟨⟨?_,?_⟩,?_⟩⟩,fun w8=>?_⟩
 all_goals first|refine aw ?_|refine ax ?_|exact a8|(dsimp only [oY,sd,PY,zt];omega)|exact a7|exact ZA7 _|skip
 ·have bU:i<56:=by have:=aJ w1;omega
  have h2:=aJ w2
  rw [XH bU] at h2
  refine⟨[],[],_,_,_,rfl,az,(),aa,?_,?_,rfl⟩
  ·show AV.int (8+(8-8+(i:Int)) % 56)=AV.int (oe dA)
   rw [←hr,show 56-i=(55-i)+1 by omega,findF,decide_eq_true h2]
   show AV.int _=AV.int ((8+i:Nat):Int)
   rw [show 8+(8-8+(i:Int)) % 56=((8+i:Nat):Int) by omega]
  ·rfl
 ·exact absurd (show true=false from w6) (by decide)
 ·have bU:i<56:=by have:=aJ w1;omega
  have h2:=aA w7
  rw [XH bU] at h2
  refine⟨(i+1),[],?_,?_,?_⟩
  rotate_right
  ·repeat' (first|exact trivial|rfl|exact rfl|exact fP ZA0.symm|exact oP|apply And.intro)
  ·refine⟨bU,?_⟩
   rw [←hr,show 56-i=(56-(i+1))+1 by omega,findF,decide_eq_false h2]
   rfl
  ·show 56-(i+1)<56-i
   omega
 ·have FL:i=56:=by have:¬((i:Int)<56):=aA w8;omega
  subst FL
  refine⟨[],[],_,_,_,rfl,az,(),aa,?_,?_,rfl⟩
  ·show AV.int (-1)=AV.int (oe dA)
   rw [←hr];rfl
  ·rfl
def vr (s:ay) (text:ByteArray) (i:Nat):Bool:=decide (nth ab s.rows i=text)&&(decide (nth ag s.last i<s.cg)&&decide (nth ag s.refs i<s.cg))
def sx:Nat→Nat→ay→ByteArray→Int
 |0,_,_,_=> -1
 |f+1,i,s,text=>bif vr s text i then (i:Int) else sx f (i+1) s text
def re (s:ay) (text:ByteArray):Int:=sx 56 8 s text
theorem SY:∀(f i:Nat) (s:ay) (text:ByteArray),sx f i s text= -1∨((i:Int)≤sx f i s text∧sx f i s text<i+f)
 |0,_,_,_=>.inl rfl
 |f+1,i,s,text=>by
  unfold sx
  cases vr s text i with
  |true=>right;simp only [cond_true];omega
  |false=>
   simp only [cond_false]
   rcases SY f (i+1) s text with h |h
   ·exact .inl h
   ·right;omega
theorem SX (s:ay) (text:ByteArray):re s text= -1∨(8≤re s text∧re s text<64):=SY 56 8 s text
def ye (S:ay) (text:ByteArray):Prop:=S.n64
def VB (S:ay) (text:ByteArray):AV:=.int (re S text)
def aa9 (S:ay) (text:ByteArray):List AV:=[]
def JY:cn where
 A:=[.a xv,.s .str]
 B:=[]
 pre:=fun x b=>ye (x.1) (x.2)
 r:=fun x b _=>VB (x.1) (x.2)
 o:=fun x b _=>aa9 (x.1) (x.2)
theorem adT:Has Tryz.prog 141 JY:=by
 refine Has.fm zT zF zF (l:=[]) trivial Tryz.func141 ?_
 rintro⟨⟨(aj:List ByteArray),(ak:List Int),(an:List Int),(ao:Int),(ah:List Pt),(aq:Int),(ai:List Pt),(ar:Bool)⟩,(text:ByteArray)⟩ _ (hp:ye (aj,ak,an,ao,ah,aq,ai,ar) text)
 show vc _ _ _ _ (entry [.a [.vz ab aj,.vz ag ak,.vz ag an,.int ao,.vz ae ah,.int aq,.vz ae ai,.q ar],.str text] []) _
 let g':=(aj,ak,an,ao,ah,aq,ai,ar)
 obtain⟨l1,l2,l3⟩:=hp
 dsimp only [ay.rows,ay.refs,ay.last] at l1 l2 l3
 refine cN (l:=[]) (ex:=zT) (wr:=zF) (pt:=zF) trivial [.s 1,.s 2,.b 1002] (fun i:Nat=>[(.s 5,.int ((8+i:Nat):Int))]) (fun i=>i≤56∧sx (56-i) (8+i) g' text=re g' text) (fun i=>56-i) 0 [] ⟨ZA7 _,rfl⟩ (by repeat' (first|exact trivial|rfl|exact rfl|exact fP (ZA6 _)|apply And.intro)) ?_
 rintro i ⟨hi,hr⟩
 have XH:(((8+i:Nat):Int)).toNat=8+i:=rfl
 have aea:(((8+i:Nat):Int)<64)↔i<56:=by omega
 have cO:i<56→sx (56-i) (8+i) g' text=bif vr g' text (8+i) then ((8+i:Nat):Int) else sx (55-i) (8+i+1) g' text:=fun h=>by
  rw [show 56-i=(55-i)+1 by omega,sx]
 refine⟨fun w1=>⟨Sq2,Sq10,rfl,[.s 10,.b 1002],Sq11,rfl,Sq5,Sq12,rfl,[.s 11,.s 12],Sq13,rfl,⟨?_,?_⟩,Sq13,Sq14,rfl,Sq1,Sq15,rfl,[.s 14,.s 15],Sq16,rfl,Sq16,Sq17,rfl,aa,fun w2=>⟨[.s 17,.s 2],Sq18,rfl,[.s 17,.s 18],Sq19,rfl,[.s 17,.s 19,.b 1002],Sq20,rfl,[.s 17,.s 5],Sq21,rfl,[.s 17,.s 20,.s 21],Sq22,rfl,⟨?_,?_⟩,[.s 17,.s 22],Sq23,rfl,[.s 17,.s 2],Sq24,rfl,[.s 17,.s 24,.b 1002],Sq25,rfl,[.s 17,.s 23,.s 25],Sq26,rfl,[.s 17,.s 26],Sq27,rfl,Sq27,Sq28,rfl,aa,fun w3=>⟨[.s 28,.s 2],Sq29,rfl,[.s 28,.s 29],Sq30,rfl,[.s 28,.s 30,.b 1002],Sq31,rfl,[.s 28,.s 5],Sq32,rfl,[.s 28,.s 31,.s 32],Sq33,rfl,⟨?_,?_⟩,[.s 28,.s 33],Sq34,rfl,[.s 28,.s 2],Sq35,rfl,[.s 28,.s 35,.b 1002],Sq36,rfl,[.s 28,.s 34,.s 36],Sq37,rfl,[.s 28,.s 37],Sq38,rfl,fun w4=>?_,fun w5=>⟨⟨?_,?_⟩,?_⟩⟩,fun w6=>⟨Sq28,Sq29,rfl,Sq28,Sq30,rfl,Sq28,Sq31,rfl,Sq28,Sq32,rfl,Sq28,Sq33,rfl,Sq28,Sq34,rfl,Sq28,Sq35,rfl,Sq28,Sq36,rfl,Sq28,Sq37,rfl,[.s 28,.s 37],Sq38,rfl,⟨?_,?_⟩,?_⟩⟩,fun w7=>⟨Sq17,Sq18,rfl,Sq17,Sq19,rfl,Sq17,Sq20,rfl,Sq17,Sq21,rfl,Sq17,Sq22,rfl,Sq17,Sq23,rfl,Sq17,Sq24,rfl,Sq17,Sq25,rfl,Sq17,Sq26,rfl,[.s 17,.s 26],Sq27,rfl,Sq27,Sq28,rfl,Sq28,Sq29,rfl,Sq28,Sq30,rfl,Sq28,Sq31,rfl,Sq28,Sq32,rfl,Sq28,Sq33,rfl,Sq28,Sq34,rfl,Sq28,Sq35,rfl,Sq28,Sq36,rfl,Sq28,Sq37,rfl,[.s 28,.s 37],Sq38,rfl,⟨?_,?_⟩,?_⟩⟩,fun w8=>?_⟩
 all_goals first|refine aw ?_|refine ax ?_|exact a8|exact a7|skip
 ·have bU:i<56:=aea.1 (aJ w1)
  rw [XH] at w2 w3 w4
  refine⟨[],[],_,_,_,rfl,az,(),aa,?_,?_,rfl⟩
  ·show AV.int ((8+i:Nat):Int)=AV.int (re g' text)
   have e:vr g' text (8+i)=true:=by show (decide _&&(decide _&&decide _))=true;rw [w2,w3,w4];rfl
   rw [←hr,cO bU,e]
   rfl
  ·rfl
 ·have bU:i<56:=aea.1 (aJ w1)
  rw [XH] at w2 w3 w5
  have e:vr g' text (8+i)=false:=by show (decide _&&(decide _&&decide _))=false;rw [w2,w3,w5];rfl
  refine⟨(i+1),[],?_,?_,?_⟩
  rotate_right
  ·repeat' (first|exact trivial|rfl|exact rfl|exact fP ZA0.symm|exact oP|apply And.intro)
  ·refine⟨bU,?_⟩
   rw [←hr,cO bU,e,show 56-(i+1)=55-i by omega]
   rfl
  ·show 56-(i+1)<56-i
   omega
 ·have bU:i<56:=aea.1 (aJ w1)
  rw [XH] at w2 w6
  have e:vr g' text (8+i)=false:=by show (decide _&&(decide _&&decide _))=false;rw [w2,w6];rfl
  refine⟨(i+1),[],?_,?_,?_⟩
  rotate_right
  ·repeat' (first|exact trivial|rfl|exact rfl|exact fP ZA0.symm|exact oP|apply And.intro)
  ·refine⟨bU,?_⟩
   rw [←hr,cO bU,e,show 56-(i+1)=55-i by omega]
   rfl
  ·show 56-(i+1)<56-i
   omega
 ·have bU:i<56:=aea.1 (aJ w1)
  rw [XH] at w7
  have e:vr g' text (8+i)=false:=by show (decide _&&(decide _&&decide _))=false;rw [w7];rfl
  refine⟨(i+1),[],?_,?_,?_⟩
  rotate_right
  ·repeat' (first|exact trivial|rfl|exact rfl|exact fP ZA0.symm|exact oP|apply And.intro)
  ·refine⟨bU,?_⟩
   rw [←hr,cO bU,e,show 56-(i+1)=55-i by omega]
   rfl
  ·show 56-(i+1)<56-i
   omega
 ·have FL:i=56:=by
   have h3:¬(i<56):=fun h=>aA w8 (aea.2 h)
   omega
  subst FL
  refine⟨[],[],_,_,_,rfl,az,(),aa,?_,?_,rfl⟩
  ·show AV.int (-1)=AV.int (re g' text)
   rw [←hr];rfl
  ·rfl
theorem KA {b:Bool}(h:(!b)=true):b=false:=by cases b with |true=>cases h |false=>rfl
theorem oH {b:Bool}(h:(!b)=false):b=true:=by cases b with |true=>rfl |false=>cases h
def bF (s:ay) (p:Pt):ByteArray×Bool:=
 bif au p then (⟨#[]⟩,true) else bif iX p (nth ab s.rows p.1.toNat) then (nth ab s.rows p.1.toNat,true) else (⟨#[]⟩,false)
theorem fT {s:ay}{p:Pt}(h:au p=true):bF s p=(⟨#[]⟩,true):=by unfold bF;rw [h];rfl
theorem yc {s:ay}{p:Pt}(h:au p=false) (h2:iX p (nth ab s.rows p.1.toNat)=true):bF s p=(nth ab s.rows p.1.toNat,true):=by unfold bF;rw [h,h2];rfl
theorem LP {s:ay}{p:Pt}(h:au p=false) (h2:iX p (nth ab s.rows p.1.toNat)=false):bF s p=(⟨#[]⟩,false):=by unfold bF;rw [h,h2];rfl
def ay.szs (s:ay):Prop:=∀x∈s.rows,x.size≤1000000
def fV (S:ay) (p:Pt):Prop:=S.szs∧0≤p.1∧p.1<S.rows.length
def VA (S:ay) (p:Pt):AV:=.t [.s (.str (bF S p).1),.s (.q (bF S p).2)]
def aa8 (S:ay) (p:Pt):List AV:=[]
def eA:cn where
 A:=[.a xv,.a [.int,.int,.int,.int,.int]]
 B:=[]
 pre:=fun x b=>fV (x.1) (x.2)
 r:=fun x b _=>VA (x.1) (x.2)
 o:=fun x b _=>aa8 (x.1) (x.2)
theorem lZ:Has Tryz.prog 71 eA:=by
 refine Has.fm zT zF zF (l:=[(81,cx),(108,sN)]) ⟨cz,MJ,aa⟩ Tryz.func71 ?_
 rintro⟨⟨(aj:List ByteArray),(ak:List Int),(an:List Int),(ao:Int),(ah:List Pt),(aq:Int),(ai:List Pt),(ar:Bool)⟩,⟨(p1:Int),(p2:Int),(p3:Int),(p4:Int),(p5:Int)⟩⟩ _ (hp:fV (aj,ak,an,ao,ah,aq,ai,ar) (p1,p2,p3,p4,p5))
 show vc _ _ _ _ (entry [.a [.vz ab aj,.vz ag ak,.vz ag an,.int ao,.vz ae ah,.int aq,.vz ae ai,.q ar],.a [.int p1,.int p2,.int p3,.int p4,.int p5]] []) _
 let g':=(aj,ak,an,ao,ah,aq,ai,ar)
 let A':=(p1,p2,p3,p4,p5)
 obtain⟨h1,(h2:0≤p1),(h3:p1<aj.length)⟩:=hp
 have dj:(nth ab aj p1.toNat).size≤1000000:=h1 _ (bR (ek:=ab) (show p1.toNat<aj.length by omega))
 refine⟨⟨⟨tv6,aa⟩,aa⟩,fun x1 w2=>⟨fun w3=>?_,fun w4=>⟨[.s 3,.b 1003],Sq8,rfl,Sq2,Sq9,rfl,[.s 9,.b 1002],Sq10,rfl,Sq3,Sq11,rfl,[.s 11,.b 1003],Sq12,rfl,[.s 10,.s 12],Sq13,rfl,⟨?_,?_⟩,Sq13,Sq14,rfl,[.s 8,.s 14],Sq15,rfl,⟨⟨tv6,tv2⟩,?_⟩,?_,fun x5 w6=>⟨Sq15,Sq16,rfl,fun w7=>?_,fun w8=>⟨⟨?_,?_⟩,?_⟩⟩⟩⟩⟩
 all_goals first|refine aw ?_|refine ax ?_|exact a8|(dsimp only [sN,nP];omega)|exact a7|(show ((nth ab aj p1.toNat).size:Int)≤1000000000000;omega)|skip
 ·refine⟨[],[],_,_,_,rfl,az,(),aa,?_,?_,rfl⟩
  ·show AV.t [.s (.str ⟨#[]⟩),.s (.q true)]=AV.t [.s (.str (bF g' A').1),.s (.q (bF g' A').2)]
   rw [fT w3]
  ·rfl
 ·refine⟨[],[],_,_,_,rfl,az,(),aa,?_,?_,rfl⟩
  ·show AV.t [.s (.str ⟨#[]⟩),.s (.q false)]=AV.t [.s (.str (bF g' A').1),.s (.q (bF g' A').2)]
   rw [LP w4 (KA w7)]
  ·rfl
 ·refine⟨[],[],_,_,_,rfl,az,(),aa,?_,?_,rfl⟩
  ·show AV.t [.s (.str (nth ab aj p1.toNat)),.s (.q true)]=AV.t [.s (.str (bF g' A').1),.s (.q (bF g' A').2)]
   rw [yc w4 (oH w8)]
  ·rfl
end GL
end Go.Proofs.YtnkbdhldiinfdaaGreatDoor
