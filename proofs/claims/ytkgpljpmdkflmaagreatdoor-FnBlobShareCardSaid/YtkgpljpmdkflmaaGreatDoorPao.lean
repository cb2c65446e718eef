/- A drawn law returns true for every code (its row lists package variables, tied by the card): part 15. -/
import Derived.Test.YtkgpljpmdkflmaaGreatDoorPan
set_option maxHeartbeats 20000000
set_option maxRecDepth 100000
set_option linter.all false
namespace Go.Proofs.YtkgpljpmdkflmaaGreatDoor
namespace GL
def si (n:Int):Prop:=True
def aaK (n:Int):AV:=.q (iB n 8 63)
def ac1 (n:Int):List AV:=[]
def o0:ct where
 A:=[.s .int]
 B:=[]
 pre:=fun x b=>si x
 r:=fun x b _=>aaK x
 o:=fun x b _=>ac1 x
theorem zJ:Has Tryz.prog 159 o0:=by
 refine Has.fu zT zF zF (l:=[(95,dE)]) ⟨iz,aa⟩ Tryz.func159 ?_
 rintro (n:Int) _ (hp:si n)
 show vc _ _ _ _ (entry [.int n] []) _
 refine⟨⟨⟨aa,aa,aa,aa⟩,aa⟩,fun x1 w2=>?_⟩
 refine⟨[],[],_,_,_,rfl,az,(),aa,?_,?_,rfl⟩
 ·rfl
 ·rfl
def vg (s:ByteArray):Prop:=True
def QY (s:ByteArray):AV:=.q (iB s.size 1 128)
def VY (s:ByteArray):List AV:=[]
def DC:ct where
 A:=[.s .str]
 B:=[]
 pre:=fun x b=>vg x
 r:=fun x b _=>QY x
 o:=fun x b _=>VY x
theorem abF:Has Tryz.prog 190 DC:=by
 refine Has.fu zT zF zF (l:=[(95,dE)]) ⟨iz,aa⟩ Tryz.func190 ?_
 rintro (s:ByteArray) _ (hp:vg s)
 show vc _ _ _ _ (entry [.str s] []) _
 refine⟨⟨⟨aa,aa,aa,aa⟩,aa⟩,fun x1 w2=>?_⟩
 refine⟨[],[],_,_,_,rfl,az,(),aa,?_,?_,rfl⟩
 ·rfl
 ·rfl
def aZ (p:Pt):Bool:=au p||(iB p.1 8 63&&iB p.2.1 1 900&&iB p.2.2.1 1 128&&iB p.2.2.2.1 0 99460728&&iB p.2.2.2.2 0 2)
def ee (p:Pt):Prop:=True
def aaN (p:Pt):AV:=.q (aZ p)
def ac8 (p:Pt):List AV:=[]
def cY:ct where
 A:=[.a [.int,.int,.int,.int,.int]]
 B:=[]
 pre:=fun x b=>ee x
 r:=fun x b _=>aaN x
 o:=fun x b _=>ac8 x
theorem iA:Has Tryz.prog 115 cY:=by
 refine Has.fu zT zF zF (l:=[(83,bl),(159,o0),(95,dE)]) ⟨cz,zJ,iz,aa⟩ Tryz.func115 ?_
 rintro⟨(p1:Int),(p2:Int),(p3:Int),(p4:Int),(p5:Int)⟩ _ (hp:ee (p1,p2,p3,p4,p5))
 show vc _ _ _ _ (entry [.a [.int p1,.int p2,.int p3,.int p4,.int p5]] []) _
 refine⟨⟨⟨⟨aa,aa,aa,aa,aa,aa⟩,aa⟩,aa⟩,fun x1 w2=>⟨fun w3=>?_,fun w4=>⟨⟨⟨aa,aa⟩,aa⟩,fun x5 w6=>⟨aa,fun w7=>⟨⟨⟨aa,aa,aa,aa⟩,aa⟩,fun x8 w9=>⟨aa,fun dy=>⟨⟨⟨aa,aa,aa,aa⟩,aa⟩,fun kB dK=>⟨aa,fun iV=>⟨⟨⟨aa,aa,aa,aa⟩,aa⟩,fun x14 qN=>⟨aa,fun ki=>⟨⟨⟨aa,aa,aa,aa⟩,aa⟩,fun x17 rV=>?_⟩,fun oN=>?_⟩⟩,fun uL=>?_⟩⟩,fun A4=>?_⟩⟩,fun A3=>?_⟩⟩⟩⟩
 all_goals
  refine⟨[],[],_,_,_,rfl,az,(),aa,?_,?_,rfl⟩
  ·show AV.q _=AV.q _
   congr 1
   simp_all [aZ]
  ·rfl
def YK (p:Int×Int) (c:Int):Int×Int:=((p.1+c+1) % 9973,(p.2+(p.1+c+1) % 9973) % 9973)
def r5 (s:ByteArray):Nat→Int×Int
 |0=>(1,0)
 |k+1=>YK (r5 s k) (bM s k)
def qQ (s:ByteArray):Int:=(r5 s s.size).1*9973+(r5 s s.size).2
theorem zh (s:ByteArray):∀k,0≤(r5 s k).1∧(r5 s k).1≤9972∧0≤(r5 s k).2∧(r5 s k).2≤9972
 |0=>by simp [r5]
 |k+1=>by
  have:=zh s k
  simp only [r5,YK]
  omega
theorem aj6 (s:ByteArray):0≤qQ s∧qQ s≤99460728:=by
 have:=zh s s.size
 unfold qQ
 omega
def jR (s:ByteArray):Prop:=(s.size:Int)≤1000000000000
def aaM (s:ByteArray):AV:=.int (qQ s)
def ac7 (s:ByteArray):List AV:=[]
def AF:ct where
 A:=[.s .str]
 B:=[]
 pre:=fun x b=>jR x
 r:=fun x b _=>aaM x
 o:=fun x b _=>ac7 x
theorem ZS:Has Tryz.prog 191 AF:=by
 refine Has.fu zT zF zF (l:=[]) trivial Tryz.func191 ?_
 rintro (s:ByteArray) _ (hp:jR s)
 show vc _ _ _ _ (entry [.str s] []) _
 unfold jR at hp
 refine cO (l:=[]) (ex:=zT) (wr:=zF) (pt:=zF) aa [.s 0] (fun k:Nat=>[(.s 3,.int (r5 s k).1),(.s 4,.int (r5 s k).2),(.s 5,.int k)]) (fun k=>k≤s.size) (fun k=>s.size-k) 0 [] (ZA7 _) ⟨⟨rfl,rfl,rfl,aa⟩,rfl,aa⟩ ?_
 intro k hk
 obtain⟨b1,b2,b3,b4⟩:=zh s k
 have hb:=xi s k
 refine⟨fun w1=>⟨⟨?_,?_⟩,⟨⟨?_,?_⟩,⟨⟨?_,?_⟩,⟨⟨?_,?_⟩,⟨⟨?_,?_⟩,⟨⟨?_,?_⟩,⟨⟨?_,?_⟩,⟨⟨?_,?_⟩,?_⟩⟩⟩⟩⟩⟩⟩⟩,fun w2=>⟨⟨?_,?_⟩,⟨⟨?_,?_⟩,?_⟩⟩⟩
 all_goals first|refine aw ?_|refine ax ?_|exact a8|exact a7|skip
 ·refine⟨(k+1),[],?_,?_,?_⟩
  rotate_right
  ·repeat' (first|exact trivial|rfl|exact rfl|exact fP ZA0.symm|exact oR|apply And.intro)
  all_goals first|refine aw ?_|refine ax ?_|exact a8|exact a7|skip
 ·have h2:¬(k:Int)<(s.size:Int):=aA w2
  have hk':k=s.size:=by omega
  subst hk'
  refine⟨[],[],_,_,_,rfl,az,(),aa,?_,?_,rfl⟩
  ·rfl
  ·rfl
def iZ (p:Pt) (s:ByteArray):Bool:=aZ p&&(!(au p)&&(decide (p.2.2.1=s.size)&&decide (p.2.2.2.1=qQ s)))
def nS (p:Pt) (s:ByteArray):Prop:=(s.size:Int)≤1000000000000
def QZ (p:Pt) (s:ByteArray):AV:=.q (iZ p s)
def WH (p:Pt) (s:ByteArray):List AV:=[]
def sQ:ct where
 A:=[.a [.int,.int,.int,.int,.int],.s .str]
 B:=[]
 pre:=fun x b=>nS (x.1) (x.2)
 r:=fun x b _=>QZ (x.1) (x.2)
 o:=fun x b _=>WH (x.1) (x.2)
theorem MH:Has Tryz.prog 160 sQ:=by
 refine Has.fu zT zF zF (l:=[(115,cY),(83,bl),(191,AF)]) ⟨iA,cz,ZS,aa⟩ Tryz.func160 ?_
 rintro⟨⟨(p1:Int),(p2:Int),(p3:Int),(p4:Int),(p5:Int)⟩,(s:ByteArray)⟩ _ (hp:nS (p1,p2,p3,p4,p5) s)
 show vc _ _ _ _ (entry [.a [.int p1,.int p2,.int p3,.int p4,.int p5],.str s] []) _
 unfold nS at hp
 refine⟨[.s 2,.b 1002],Sq5,rfl,Sq5,Sq6,rfl,⟨⟨⟨aa,aa,aa,aa,aa,aa⟩,aa⟩,aa⟩,?_,fun x1 w2=>⟨Sq6,Sq7,rfl,aa,fun w3=>⟨[.s 7,.s 2,.b 1002],Sq8,rfl,[.s 7,.s 8],Sq9,rfl,⟨⟨⟨aa,aa,aa,aa,aa,aa⟩,aa⟩,aa⟩,?_,fun x4 w5=>⟨[.s 7,.s 9],Sq10,rfl,[.s 7,.s 10],Sq11,rfl,Sq11,Sq12,rfl,aa,fun w6=>⟨[.s 12,.s 2],Sq13,rfl,[.s 12,.s 13,.b 1002],Sq14,rfl,[.s 12,.s 1],Sq15,rfl,[.s 12,.s 15],Sq16,rfl,[.s 12,.s 14,.s 16],Sq17,rfl,[.s 12,.s 17],Sq18,rfl,Sq18,Sq19,rfl,aa,fun w7=>⟨[.s 19,.s 2],Sq20,rfl,[.s 19,.s 20,.b 1002],Sq21,rfl,[.s 19,.s 1],Sq22,rfl,[.s 19,.s 22],Sq23,rfl,⟨⟨aa,aa⟩,?_⟩,?_,fun x8 w9=>⟨[.s 19,.s 21,.s 23],Sq24,rfl,[.s 19,.s 24],Sq25,rfl,Sq25,Sq4,rfl,?_⟩⟩,fun dy=>⟨Sq19,Sq20,rfl,Sq19,Sq21,rfl,Sq19,Sq22,rfl,Sq19,Sq23,rfl,Sq19,Sq24,rfl,[.s 19,.s 24],Sq25,rfl,Sq25,Sq4,rfl,?_⟩⟩,fun kC=>⟨Sq12,Sq13,rfl,Sq12,Sq14,rfl,Sq12,Sq15,rfl,Sq12,Sq16,rfl,Sq12,Sq17,rfl,[.s 12,.s 17],Sq18,rfl,Sq18,Sq19,rfl,Sq19,Sq20,rfl,Sq19,Sq21,rfl,Sq19,Sq22,rfl,Sq19,Sq23,rfl,Sq19,Sq24,rfl,[.s 19,.s 24],Sq25,rfl,Sq25,Sq4,rfl,?_⟩⟩⟩,fun dK=>⟨Sq7,Sq8,rfl,Sq7,Sq9,rfl,Sq7,Sq10,rfl,[.s 7,.s 10],Sq11,rfl,Sq11,Sq12,rfl,Sq12,Sq13,rfl,Sq12,Sq14,rfl,Sq12,Sq15,rfl,Sq12,Sq16,rfl,Sq12,Sq17,rfl,[.s 12,.s 17],Sq18,rfl,Sq18,Sq19,rfl,Sq19,Sq20,rfl,Sq19,Sq21,rfl,Sq19,Sq22,rfl,Sq19,Sq23,rfl,Sq19,Sq24,rfl,[.s 19,.s 24],Sq25,rfl,Sq25,Sq4,rfl,?_⟩⟩⟩
 all_goals first|refine aw ?_|refine ax ?_|exact a8|(dsimp only [cY,ee,AF,jR];omega)|exact a7|(show jR _;unfold jR;omega)|skip
 all_goals
  refine⟨[],[],_,_,_,rfl,az,(),aa,?_,?_,rfl⟩
  ·show AV.q _=AV.q _
   congr 1
   simp_all [iZ]
  ·rfl
def bN:Pt:=(0,0,0,0,0)
def gw (at_ EJ level:Int) (s:ByteArray):Pt×Bool:=
 bif iB s.size 1 128&&aZ (at_,EJ,s.size,qQ s,level) then ((at_,EJ,s.size,qQ s,level),true) else (bN,false)
def ptA (p:Pt):A0:=.a (EK.AX ae p)
theorem BV {a b l:Int}{s:ByteArray}(h1:iB s.size 1 128=true) (h2:aZ (a,b,s.size,qQ s,l)=true):gw a b l s=((a,b,(s.size:Int),qQ s,l),true):=by unfold gw;rw [h1,h2];rfl
theorem BX {a b l:Int}{s:ByteArray}(h1:iB s.size 1 128=false):gw a b l s=(bN,false):=by unfold gw;rw [h1];rfl
theorem BW {a b l:Int}{s:ByteArray}(h2:aZ (a,b,s.size,qQ s,l)=false):gw a b l s=(bN,false):=by unfold gw;rw [h2,ZD7];rfl
theorem xq {b:Bool}(h:(!b)=true):b=false:=by simpa using h
theorem cM {b:Bool}(h:(!b)=false):b=true:=by simpa using h
def mP (a:Int) (b:Int) (l:Int) (s:ByteArray):Prop:=(s.size:Int)≤1000000000000
def aaO (a:Int) (b:Int) (l:Int) (s:ByteArray):AV:=.t [ptA (gw a b l s).1,.s (.q (gw a b l s).2)]
def ac9 (a:Int) (b:Int) (l:Int) (s:ByteArray):List AV:=[]
def o7:ct where
 A:=[.s .int,.s .int,.s .int,.s .str]
 B:=[]
 pre:=fun x b=>mP (x.1) (x.2.1) (x.2.2.1) (x.2.2.2)
 r:=fun x b _=>aaO (x.1) (x.2.1) (x.2.2.1) (x.2.2.2)
 o:=fun x b _=>ac9 (x.1) (x.2.1) (x.2.2.1) (x.2.2.2)
theorem FH:Has Tryz.prog 153 o7:=by
 refine Has.fu zT zF zF (l:=[(190,DC),(115,cY),(191,AF)]) ⟨abF,iA,ZS,aa⟩ Tryz.func153 ?_
 rintro⟨(a:Int),(b:Int),(l:Int),(s:ByteArray)⟩ _ (hp:mP a b l s)
 show vc _ _ _ _ (entry [.int a,.int b,.int l,.str s] []) _
 unfold mP at hp
 refine⟨⟨⟨aa,aa⟩,aa⟩,fun x1 w2=>⟨fun w3=>?_,fun w4=>⟨⟨⟨aa,aa⟩,?_⟩,fun x5 w6=>⟨⟨⟨⟨aa,aa,aa,aa,aa,aa⟩,aa⟩,aa⟩,fun x7 w8=>⟨fun w9=>?_,fun dy=>?_⟩⟩⟩⟩⟩
 all_goals first|refine aw ?_|refine ax ?_|exact a8|(dsimp only [DC,vg,cY,ee,AF,jR];omega)|exact a7|(show jR _;unfold jR;omega)|skip
 ·refine⟨[],[],_,_,_,rfl,az,(),aa,?_,?_,rfl⟩
  ·show _=AV.t [ptA (gw a b l s).1,.s (.q (gw a b l s).2)]
   rw [BX (xq w3)];rfl
  ·rfl
 ·refine⟨[],[],_,_,_,rfl,az,(),aa,?_,?_,rfl⟩
  ·show _=AV.t [ptA (gw a b l s).1,.s (.q (gw a b l s).2)]
   rw [BW (xq w9)];rfl
  ·rfl
 ·refine⟨[],[],_,_,_,rfl,az,(),aa,?_,?_,rfl⟩
  ·show _=AV.t [ptA (gw a b l s).1,.s (.q (gw a b l s).2)]
   rw [BV (cM w4) (cM dy)];rfl
  ·rfl
def alk:Nat→Nat→ByteArray
 |0,_=>ByteArray.empty
 |n+1,k=>bif Nat.blt k 10 then fb [48+k] else alk n (k / 10)++fb [48+k % 10]
end GL
namespace GL
theorem sz0:(⟨#[]⟩:ByteArray).size=0:=rfl
theorem sz1 (a:UInt8):(⟨#[a]⟩:ByteArray).size=1:=rfl
def dec (k:Nat):ByteArray:=if k<10 then fb [48+(k:Int)] else dec (k / 10)++fb [48+((k % 10:Nat):Int)]
 termination_by k
 decreasing_by omega
def bY (n:Int):ByteArray:=dec n.toNat
theorem dec_lt {k:Nat}(h:k<10):dec k=fb [48+(k:Int)]:=by rw [dec,if_pos h]
theorem XX {k:Nat}(h:¬k<10):dec k=dec (k / 10)++fb [48+((k % 10:Nat):Int)]:=by rw [dec,if_neg h]
theorem s3 (n:Int):(fb [n]).size=1:=by rw [fb,nF];rfl
theorem JL:∀(m k:Nat),k<10 ^ (m+1)→(dec k).size≤m+1
 |0,k,h=>by rw [dec_lt (by omega),s3];omega
 |m+1,k,h=>by
  by_cases hk:k<10
  ·rw [dec_lt hk,s3];omega
  ·rw [XX hk,ZB2,s3]
   have:=JL m (k / 10) (by rw [Nat.pow_succ] at h;omega)
   omega
theorem dc {n:Int}(h:n≤999999999999):(bY n).size≤12:=JL 11 n.toNat (by show _<1000000000000;omega)
theorem agd {n:Int}(h0:0≤n) (h:n<10):bY n=fb [48+n]:=by
 unfold bY
 rw [dec_lt (by omega),show ((n.toNat:Nat):Int)=n by omega]
theorem age {n:Int}(h0:0≤n) (h:¬n<10):bY n=bY (n / 10)++fb [48+n % 10]:=by
 unfold bY
 rw [XX (by omega),show ((n.toNat % 10:Nat):Int)=n % 10 by omega,show n.toNat / 10=(n / 10).toNat by omega]
def mN (n:Int):Prop:=0≤n∧n≤999999999999
def aaJ (n:Int):AV:=.str (bY n)
def ac0 (n:Int):List AV:=[]
def j7:ct where
 A:=[.s .int]
 B:=[]
 pre:=fun x b=>mN x
 r:=fun x b _=>aaJ x
 o:=fun x b _=>ac0 x
def adw (n:Int):Nat:=n.toNat
theorem wU:Has Tryz.prog 201 j7:=by
 refine Has.akw (C:=j7) zT zF zF (fun x b=>adw x) (l:=[]) trivial Tryz.func201 ?_
 rintro (n:Int) _ (hp:mN n) al4
 show vc _ _ _ _ (entry [.int n] []) _
 obtain⟨h1,h2⟩:=hp
 have hs:=dc (n:=n / 10) (by omega)
 refine⟨fun w1=>?_,fun w2=>⟨fun w3=>⟨⟨?_,?_⟩,⟨⟨aa,aa⟩,⟨?_,?_⟩,?_⟩,fun x4 w5=>⟨?_,?_⟩⟩,fun w6=>⟨fun w7=>⟨⟨?_,?_⟩,⟨?_,?_⟩,aa,⟨?_,?_⟩,?_⟩,fun w8=>⟨Sq0,Sq18,rfl,Sq18,Sq19,rfl,⟨?_,?_,?_⟩,Sq19,Sq20,rfl,⟨⟨aa,aa⟩,⟨?_,?_⟩,?_⟩,?_,fun x9 dy=>⟨Sq0,Sq21,rfl,Sq21,Sq22,rfl,⟨?_,?_⟩,Sq22,Sq23,rfl,⟨?_,?_⟩,Sq23,Sq24,rfl,⟨?_,?_⟩,[.s 24,.b 1025],[.s 25,.b 1025],rfl,aa,[.s 25,.b 1025],Sq26,rfl,⟨?_,?_⟩,[.s 20,.s 26],Sq27,rfl,?_,Sq27,Sq2,rfl,?_⟩⟩⟩⟩⟩
 all_goals first|(exfalso;simp only [decide_eq_true_eq,decide_eq_false_iff_not] at *;omega)|refine aw ?_|refine ax ?_|exact a8|exact a7|(simp only [dC,s3,imax];omega)|(show (n / 10).toNat<n.toNat;have:=aA w8;omega)|skip
 ·refine⟨[],[],_,_,_,rfl,az,(),aa,?_,?_,rfl⟩
  ·show _=AV.str (bY n)
   rw [agd h1 (aJ w7)];rfl
  ·rfl
 ·refine⟨[],[],_,_,_,rfl,az,(),aa,?_,?_,rfl⟩
  ·show _=AV.str (bY n)
   rw [age h1 (aA w8)];rfl
  ·rfl
def amf:ByteArray:=⟨#[46]⟩
def bc (p:Pt):ByteArray:=
 bif aZ p then (bif au p then ⟨#[45]⟩ else
  bY p.1++⟨#[46]⟩++bY p.2.1++⟨#[46]⟩++bY p.2.2.1++⟨#[46]⟩++bY p.2.2.2.1++⟨#[46]⟩++bY p.2.2.2.2) else ⟨#[]⟩
theorem pV {p:Pt}(h:aZ p=true):(0≤p.1∧p.1≤63)∧(0≤p.2.1∧p.2.1≤900)∧(0≤p.2.2.1∧p.2.2.1≤128)∧(0≤p.2.2.2.1∧p.2.2.2.1≤99460728)∧0≤p.2.2.2.2∧p.2.2.2.2≤2:=by
 unfold aZ au at h
 simp only [Bool.or_eq_true,ZA9,decide_eq_true_eq,cD] at h
 omega
theorem gv (p:Pt):(bc p).size≤64:=by
 unfold bc
 cases h:aZ p with
 |false=>exact ZA7 _
 |true=>
  obtain⟨h1,h2,h3,h4,h5⟩:=pV h
  cases au p with
  |true=>show (1:Nat)≤64;omega
  |false=>
   simp only [cond_true,cond_false,ZB2,sz1]
   have a1:=dc (n:=p.1) (by omega)
   have a2:=dc (n:=p.2.1) (by omega)
   have a3:=dc (n:=p.2.2.1) (by omega)
   have a4:=dc (n:=p.2.2.2.1) (by omega)
   have a5:=dc (n:=p.2.2.2.2) (by omega)
   omega
def qf (p:Pt):Prop:=True
def VH (p:Pt):AV:=.str (bc p)
def abl (p:Pt):List AV:=[]
def qE:ct where
 A:=[.a [.int,.int,.int,.int,.int]]
 B:=[]
 pre:=fun x b=>qf x
 r:=fun x b _=>VH x
 o:=fun x b _=>abl x
theorem IL:Has Tryz.prog 202 qE:=by
 refine Has.fu zT zF zF (l:=[(115,cY),(83,bl),(201,j7)]) ⟨iA,cz,wU,aa⟩ Tryz.func202 ?_
 rintro⟨(p1:Int),(p2:Int),(p3:Int),(p4:Int),(p5:Int)⟩ _ (hp:qf (p1,p2,p3,p4,p5))
 show vc _ _ _ _ (entry [.a [.int p1,.int p2,.int p3,.int p4,.int p5]] []) _
 by_cases cH:aZ (p1,p2,p3,p4,p5)=true
 ·obtain⟨⟨b1,b2⟩,⟨b3,b4⟩,⟨b5,b6⟩,⟨b7,b8⟩,b9,b10⟩:=pV cH
  dsimp only at b1 b2 b3 b4 b5 b6 b7 b8 b9 b10
  have a1:=dc (n:=p1) (by omega)
  have a2:=dc (n:=p2) (by omega)
  have a3:=dc (n:=p3) (by omega)
  have a4:=dc (n:=p4) (by omega)
  have a5:=dc (n:=p5) (by omega)
  refine⟨⟨⟨⟨aa,aa,aa,aa,aa,aa⟩,aa⟩,aa⟩,fun x1 w2=>⟨fun w3=>?_,fun w4=>⟨⟨⟨⟨aa,aa,aa,aa,aa,aa⟩,aa⟩,aa⟩,fun x5 w6=>⟨fun w7=>?_,fun w8=>⟨Sq1,Sq8,rfl,[.s 8,.b 1001],Sq9,rfl,Sq9,Sq10,rfl,⟨⟨aa,aa⟩,?_,?_⟩,?_,fun x9 dy=>⟨Sq10,Sq11,rfl,?_,Sq1,Sq12,rfl,[.s 12,.b 1001],Sq13,rfl,Sq13,Sq14,rfl,⟨⟨aa,aa⟩,?_,?_⟩,?_,fun kB dK=>⟨[.s 11,.s 14],Sq15,rfl,?_,Sq15,Sq16,rfl,?_,Sq1,Sq17,rfl,[.s 17,.b 1001],Sq18,rfl,Sq18,Sq19,rfl,⟨⟨aa,aa⟩,?_,?_⟩,?_,fun rZ gP=>⟨[.s 16,.s 19],Sq20,rfl,?_,Sq20,Sq21,rfl,?_,Sq1,Sq22,rfl,[.s 22,.b 1001],Sq23,rfl,Sq23,Sq24,rfl,⟨⟨aa,aa⟩,?_,?_⟩,?_,fun kA ki=>⟨[.s 21,.s 24],Sq25,rfl,?_,Sq25,Sq26,rfl,?_,Sq1,Sq27,rfl,[.s 27,.b 1001],Sq28,rfl,Sq28,Sq29,rfl,⟨⟨aa,aa⟩,?_,?_⟩,?_,fun x17 rV=>⟨[.s 26,.s 29],Sq30,rfl,?_,Sq30,Sq2,rfl,?_⟩⟩⟩⟩⟩⟩⟩⟩⟩⟩
  all_goals first|refine aw ?_|refine ax ?_|exact a8|(dsimp only [cY,ee,j7,mN];omega)|exact a7|(simp only [ZB2,sz1,imax];omega)|skip
  ·rw [cH] at w3;cases w3
  ·refine⟨[],[],_,_,_,rfl,az,(),aa,?_,?_,rfl⟩
   ·show _=AV.str (bc (p1,p2,p3,p4,p5))
    unfold bc;rw [cH,w7];rfl
   ·rfl
  ·refine⟨[],[],_,_,_,rfl,az,(),aa,?_,?_,rfl⟩
   ·show _=AV.str (bc (p1,p2,p3,p4,p5))
    unfold bc;rw [cH,w8];rfl
   ·rfl
 ·have uA:aZ (p1,p2,p3,p4,p5)=false:=by simpa using cH
  refine⟨⟨⟨aa,aa,aa,aa,aa,aa⟩,aa⟩,aa⟩ |> fun h=>⟨h,fun x1 w2=>⟨fun w3=>?_,fun w4=>?_⟩⟩
  ·refine⟨[],[],_,_,_,rfl,az,(),aa,?_,?_,rfl⟩
   ·show _=AV.str (bc (p1,p2,p3,p4,p5))
    unfold bc;rw [uA];rfl
   ·rfl
  ·rw [uA] at w4;cases w4
end GL
namespace GL
def yk (sp:List Int×List Int):Prop:=sp.1.length≤1000000∧sp.2.length≤1000000
def VG (sp:List Int×List Int):AV:=.a [.xs 0 1 0 sp.1.length,.xs 1 1 0 sp.2.length]
def abd (sp:List Int×List Int):List AV:=[.rs ag sp.1,.rs ag sp.2]
def J0:ct where
 A:=[.a [.vz ag,.vz ag]]
 B:=[]
 pre:=fun x b=>yk x
 r:=fun x b _=>VG x
 o:=fun x b _=>abd x
 nf:=2
theorem adU:Has Tryz.prog 119 J0:=by
 refine Has.fu zT zF zF (l:=[]) trivial Tryz.func119 ?_
 rintro⟨(dA:List Int),(eJ:List Int)⟩ _ (hp:yk (dA,eJ))
 show vc _ _ _ _ (entry [.a [.vz ag dA,.vz ag eJ]] []) _
 obtain⟨(h1:dA.length≤1000000),(h2:eJ.length≤1000000)⟩:=hp
 refine⟨[.b 1003],[.s 3,.b 1003],rfl,aa,Sq1,Sq4,rfl,[.s 4,.b 1001],Sq5,rfl,[.s 3,.s 5,.b 1003,.b 1006],[.s 6,.b 1006,.b 1003],rfl,⟨⟨?_,?_⟩,aa⟩,[.b 1007],[.s 7,.b 1007],rfl,aa,Sq1,Sq8,rfl,[.s 8,.b 1001],Sq9,rfl,[.s 7,.s 9,.b 1007,.b 1010],[.s 10,.b 1010,.b 1007],rfl,⟨⟨?_,?_⟩,aa⟩,[.s 6,.s 10],Sq11,rfl,[.s 2,.s 11,.b 1002],[.b 1002],rfl,?_⟩
 all_goals first|refine aw ?_|refine ax ?_|exact a8|exact a7|(simp only [dC,ZA4];omega)|skip
 refine⟨[1006,1010],[],_,_,_,rfl,az,(),aa,?_,?_,rfl⟩
 ·show AV.a [.xs 0 1 0 (0+dA.length),.xs 1 1 0 (0+eJ.length)]=AV.a [.xs 0 1 0 dA.length,.xs 1 1 0 eJ.length]
  rw [ZA6,ZA6]
 ·rfl
def ay.small (s:ay):Prop:=s.rows.length≤1000000∧s.refs.length≤1000000∧s.last.length≤1000000∧s.gone.length≤1000000∧s.dead.length≤1000000
def pZ (S:ay):Prop:=S.small
def VB (S:ay):AV:=.a (kZ 0 1 2 3 4 S)
def aa8 (S:ay):List AV:=GD S
def jF:ct where
 A:=[.a xy]
 B:=[]
 pre:=fun x b=>pZ x
 r:=fun x b _=>VB x
 o:=fun x b _=>aa8 x
 nf:=5
theorem IG:Has Tryz.prog 74 jF:=by
 refine Has.fu zT zF zF (l:=[(119,J0)]) ⟨adU,aa⟩ Tryz.func74 ?_
 rintro⟨(aj:List ByteArray),(ak:List Int),(an:List Int),(ao:Int),(ah:List Pt),(aq:Int),(ai:List Pt),(ar:Bool)⟩ _ (hp:pZ (aj,ak,an,ao,ah,aq,ai,ar))
 show vc _ _ _ _ (entry [.a [.vz ab aj,.vz ag ak,.vz ag an,.int ao,.vz ae ah,.int aq,.vz ae ai,.q ar]] []) _
 obtain⟨h1,h2,h3,h4,h5⟩:=hp
 dsimp only [ay.rows,ay.refs,ay.last,ay.gone,ay.dead] at h1 h2 h3 h4 h5
 refine⟨aa,⟨⟨?_,?_⟩,aa⟩,⟨⟨⟨aa,aa,aa⟩,aa⟩,?_,?_⟩,fun x1 w2=>⟨aa,⟨⟨?_,?_⟩,aa⟩,aa,⟨⟨?_,?_⟩,aa⟩,?_⟩⟩
 all_goals first|refine aw ?_|refine ax ?_|exact a8|(dsimp only [J0,yk];omega)|exact a7|(simp only [dC,ZA4];omega)|skip
 refine⟨[1006,110000,110001,1015,1020],[],_,_,_,rfl,az,(),aa,?_,?_,rfl⟩
 ·exact congrArg AV.a (uX (s:=(aj,ak,an,ao,ah,aq,ai,ar)) (ZA6 _) rfl rfl rfl (ZA6 _) rfl (ZA6 _) rfl)
 ·rfl
def inL (l:List Int) (n:Int):Bool:=decide (n∈l)
theorem bS {ek:EK}{l:List (EK.Ty ek)}{k:Nat}(h:k<l.length):nth ek l k∈l:=by
 have:=oF h
 exact ZB6 this
def zv (l:List Int) (n:Int):Prop:=l.length≤1000000
def acE (l:List Int) (n:Int):AV:=.q (inL l n)
def afz (l:List Int) (n:Int):List AV:=[]
def PW:ct where
 A:=[.s (.vz ag),.s .int]
 B:=[]
 pre:=fun x b=>zv (x.1) (x.2)
 r:=fun x b _=>acE (x.1) (x.2)
 o:=fun x b _=>afz (x.1) (x.2)
theorem adR:Has Tryz.prog 197 PW:=by
 refine Has.fu zT zF zF (l:=[]) trivial Tryz.func197 ?_
 rintro⟨(l:List Int),(n:Int)⟩ _ (hp:zv l n)
 show vc _ _ _ _ (entry [.s (.vz ag l),.int n] []) _
 unfold zv at hp
 refine cO (l:=[]) (ex:=zT) (wr:=zF) (pt:=zF) trivial [.s 0,.s 1] (fun i:Nat=>[(.s 5,.int i)]) (fun i=>i≤l.length∧∀j,j<i→nth ag l j≠n) (fun i=>l.length-i) 0 [] ⟨ZA7 _,fun j hj=>absurd hj (by omega)⟩ (by repeat' (first|exact trivial|rfl|exact rfl|exact fP (ZA6 _)|apply And.intro)) ?_
 rintro i ⟨hi,uA⟩
 refine⟨fun w1=>⟨⟨?_,?_⟩,⟨fun w2=>?_,fun w3=>⟨⟨?_,?_⟩,?_⟩⟩⟩,fun w4=>?_⟩
 all_goals first|refine aw ?_|refine ax ?_|exact a8|exact a7|skip
 ·have bV:i<l.length:=by have:=aJ w1;omega
  refine⟨[],[],_,_,_,rfl,az,(),aa,?_,?_,rfl⟩
  ·show AV.q true=AV.q (inL l n)
   rw [show inL l n=true from decide_eq_true (by rw [←aJ w2];exact bS bV)]
  ·rfl
 ·have bV:i<l.length:=by have:=aJ w1;omega
  refine⟨(i+1),[],?_,?_,?_⟩
  rotate_right
  ·repeat' (first|exact trivial|rfl|exact rfl|exact fP ZA0.symm|exact oR|apply And.intro)
  ·refine⟨bV,fun j hj=>?_⟩
   by_cases e:j=i
   ·subst e;exact aA w3
   ·exact uA j (by omega)
  ·show l.length-(i+1)<l.length-i
   omega
 ·have FK:i=l.length:=by have:¬((i:Int)<(l.length:Int)):=aA w4;omega
  refine⟨[],[],_,_,_,rfl,az,(),aa,?_,?_,rfl⟩
  ·show AV.q false=AV.q (inL l n)
   rw [show inL l n=false from decide_eq_false (fun hm=>by
    obtain⟨j,hj,e⟩:=List.getElem_of_mem hm
    have h1:=oF (ek:=ag) hj
    rw [ZB1 hj,e] at h1
    exact uA j (by omega) (ZG5 h1).symm)]
  ·rfl
def findF:Nat→Nat→List Int→Int
 |0,_,_=> -1
 |f+1,i,rf=>bif decide (nth ag rf i=0) then (i:Int) else findF f (i+1) rf
def oj (rf:List Int):Int:=findF 56 8 rf
theorem TY:∀(f i:Nat) (rf:List Int),findF f i rf= -1∨((i:Int)≤findF f i rf∧findF f i rf<i+f)
 |0,_,_=>.inl rfl
 |f+1,i,rf=>by
  unfold findF
  cases decide (nth ag rf i=0) with
  |true=>right;simp only [cond_true];omega
  |false=>
   simp only [cond_false]
   rcases TY f (i+1) rf with h |h
   ·exact .inl h
   ·right;omega
theorem TX (rf:List Int):oj rf= -1∨(8≤oj rf∧oj rf<64):=TY 56 8 rf
def yj (sp:List Int×List Int) (fr:Int) (bu:List Int):Prop:=sp.1.length=64∧fr=8∧bu=[]
def VF (sp:List Int×List Int) (fr:Int) (bu:List Int):AV:=.int (oj sp.1)
def abc (sp:List Int×List Int) (fr:Int) (bu:List Int):List AV:=[]
def JZ:ct where
 A:=[.a [.vz ag,.vz ag],.s .int,.s (.vz ag)]
 B:=[]
 pre:=fun x b=>yj (x.1) (x.2.1) (x.2.2)
 r:=fun x b _=>VF (x.1) (x.2.1) (x.2.2)
 o:=fun x b _=>abc (x.1) (x.2.1) (x.2.2)
theorem adT:Has Tryz.prog 163 JZ:=by
 refine Has.fu zT zF zF (l:=[(159,o0),(197,PW)]) ⟨zJ,adR,aa⟩ Tryz.func163 ?_
 rintro⟨⟨(dA:List Int),(eJ:List Int)⟩,(fr:Int),(bu:List Int)⟩ _ (hp:yj (dA,eJ) fr bu)
 show vc _ _ _ _ (entry [.a [.vz ag dA,.vz ag eJ],.int fr,.s (.vz ag bu)] []) _
 obtain⟨(h1:dA.length=64),rfl,rfl⟩:=hp
 refine⟨⟨⟨trivial,trivial⟩,trivial⟩,fun x1 w1=>⟨fun w2=>absurd w2 (by decide),fun w3=>?_⟩⟩
 refine cO (l:=[(159,o0),(197,PW)]) (ex:=zT) (wr:=zF) (pt:=zF) ⟨zJ,adR,trivial⟩ [.s 1,.s 2,.s 3,.s 7,.b 1003] (fun i:Nat=>[(.s 8,.int i)]) (fun i=>i≤56∧findF (56-i) (8+i) dA=oj dA) (fun i=>56-i) 0 [] ⟨ZA7 _,rfl⟩ (by repeat' (first|exact trivial|rfl|exact rfl|exact fP (ZA6 _)|apply And.intro)) ?_
 rintro i ⟨hi,hr⟩
 have XE:i<56→(8+(8-8+(i:Int)) % 56).toNat=8+i:=fun h=>by omega
 refine⟨fun w1=>⟨⟨?_,?_⟩,⟨?_,?_⟩,⟨?_,?_⟩,⟨?_,?_⟩,⟨?_,?_⟩,aa,fun w2=>⟨⟨⟨aa,aa,aa⟩,?_⟩,fun x3 w4=>⟨fun w5=>?_,fun w6=>⟨⟨?_,?_⟩,?_⟩⟩⟩,fun w7=>⟨⟨?_,?_⟩,?_⟩⟩,fun w8=>?_⟩
 all_goals first|refine aw ?_|refine ax ?_|exact a8|(dsimp only [o0,si,PW,zv];omega)|exact a7|exact ZA7 _|skip
 ·have bV:i<56:=by have:=aJ w1;omega
  have h2:=aJ w2
  rw [XE bV] at h2
  refine⟨[],[],_,_,_,rfl,az,(),aa,?_,?_,rfl⟩
  ·show AV.int (8+(8-8+(i:Int)) % 56)=AV.int (oj dA)
   rw [←hr,show 56-i=(55-i)+1 by omega,findF,decide_eq_true h2]
   show AV.int _=AV.int ((8+i:Nat):Int)
   rw [show 8+(8-8+(i:Int)) % 56=((8+i:Nat):Int) by omega]
  ·rfl
 ·exact absurd (show true=false from w6) (by decide)
 ·have bV:i<56:=by have:=aJ w1;omega
  have h2:=aA w7
  rw [XE bV] at h2
  refine⟨(i+1),[],?_,?_,?_⟩
  rotate_right
  ·repeat' (first|exact trivial|rfl|exact rfl|exact fP ZA0.symm|exact oR|apply And.intro)
  ·refine⟨bV,?_⟩
   rw [←hr,show 56-i=(56-(i+1))+1 by omega,findF,decide_eq_false h2]
   rfl
  ·show 56-(i+1)<56-i
   omega
 ·have FK:i=56:=by have:¬((i:Int)<56):=aA w8;omega
  subst FK
  refine⟨[],[],_,_,_,rfl,az,(),aa,?_,?_,rfl⟩
  ·show AV.int (-1)=AV.int (oj dA)
   rw [←hr];rfl
  ·rfl
def vx (s:ay) (text:ByteArray) (i:Nat):Bool:=decide (nth ab s.rows i=text)&&(decide (nth ag s.last i<s.cj)&&decide (nth ag s.refs i<s.cj))
def sC:Nat→Nat→ay→ByteArray→Int
 |0,_,_,_=> -1
 |f+1,i,s,text=>bif vx s text i then (i:Int) else sC f (i+1) s text
def rj (s:ay) (text:ByteArray):Int:=sC 56 8 s text
theorem SU:∀(f i:Nat) (s:ay) (text:ByteArray),sC f i s text= -1∨((i:Int)≤sC f i s text∧sC f i s text<i+f)
 |0,_,_,_=>.inl rfl
 |f+1,i,s,text=>by
  unfold sC
  cases vx s text i with
  |true=>right;simp only [cond_true];omega
  |false=>
   simp only [cond_false]
   rcases SU f (i+1) s text with h |h
   ·exact .inl h
   ·right;omega
theorem SS (s:ay) (text:ByteArray):rj s text= -1∨(8≤rj s text∧rj s text<64):=SU 56 8 s text
def yg (S:ay) (text:ByteArray):Prop:=S.n64
def U8 (S:ay) (text:ByteArray):AV:=.int (rj S text)
def aa6 (S:ay) (text:ByteArray):List AV:=[]
def JX:ct where
 A:=[.a xy,.s .str]
 B:=[]
 pre:=fun x b=>yg (x.1) (x.2)
 r:=fun x b _=>U8 (x.1) (x.2)
 o:=fun x b _=>aa6 (x.1) (x.2)
theorem adP:Has Tryz.prog 162 JX:=by
 refine Has.fu zT zF zF (l:=[]) trivial Tryz.func162 ?_
 rintro⟨⟨(aj:List ByteArray),(ak:List Int),(an:List Int),(ao:Int),(ah:List Pt),(aq:Int),(ai:List Pt),(ar:Bool)⟩,(text:ByteArray)⟩ _ (hp:yg (aj,ak,an,ao,ah,aq,ai,ar) text)
 show vc _ _ _ _ (entry [.a [.vz ab aj,.vz ag ak,.vz ag an,.int ao,.vz ae ah,.int aq,.vz ae ai,.q ar],.str text] []) _
 obtain⟨l1,l2,l3⟩:=hp
 dsimp only [ay.rows,ay.refs,ay.last] at l1 l2 l3
 refine cO (l:=[]) (ex:=zT) (wr:=zF) (pt:=zF) trivial [.s 1,.s 2,.b 1002] (fun i:Nat=>[(.s 5,.int ((8+i:Nat):Int))]) (fun i=>i≤56∧sC (56-i) (8+i) (aj,ak,an,ao,ah,aq,ai,ar) text=rj (aj,ak,an,ao,ah,aq,ai,ar) text) (fun i=>56-i) 0 [] ⟨ZA7 _,rfl⟩ (by repeat' (first|exact trivial|rfl|exact rfl|exact fP (ZA6 _)|apply And.intro)) ?_
 rintro i ⟨hi,hr⟩
 have XE:(((8+i:Nat):Int)).toNat=8+i:=rfl
 have ad6:(((8+i:Nat):Int)<64)↔i<56:=by omega
 have cP:i<56→sC (56-i) (8+i) (aj,ak,an,ao,ah,aq,ai,ar) text=bif vx (aj,ak,an,ao,ah,aq,ai,ar) text (8+i) then ((8+i:Nat):Int) else sC (55-i) (8+i+1) (aj,ak,an,ao,ah,aq,ai,ar) text:=fun h=>by
  rw [show 56-i=(55-i)+1 by omega,sC]
 refine⟨fun w1=>⟨Sq2,Sq10,rfl,[.s 10,.b 1002],Sq11,rfl,Sq5,Sq12,rfl,[.s 11,.s 12],Sq13,rfl,⟨?_,?_⟩,Sq13,Sq14,rfl,Sq1,Sq15,rfl,[.s 14,.s 15],Sq16,rfl,Sq16,Sq17,rfl,aa,fun w2=>⟨[.s 17,.s 2],Sq18,rfl,[.s 17,.s 18],Sq19,rfl,[.s 17,.s 19,.b 1002],Sq20,rfl,[.s 17,.s 5],Sq21,rfl,[.s 17,.s 20,.s 21],Sq22,rfl,⟨?_,?_⟩,[.s 17,.s 22],Sq23,rfl,[.s 17,.s 2],Sq24,rfl,[.s 17,.s 24,.b 1002],Sq25,rfl,[.s 17,.s 23,.s 25],Sq26,rfl,[.s 17,.s 26],Sq27,rfl,Sq27,Sq28,rfl,aa,fun w3=>⟨[.s 28,.s 2],Sq29,rfl,[.s 28,.s 29],Sq30,rfl,[.s 28,.s 30,.b 1002],Sq31,rfl,[.s 28,.s 5],Sq32,rfl,[.s 28,.s 31,.s 32],Sq33,rfl,⟨?_,?_⟩,[.s 28,.s 33],Sq34,rfl,[.s 28,.s 2],Sq35,rfl,[.s 28,.s 35,.b 1002],Sq36,rfl,[.s 28,.s 34,.s 36],Sq37,rfl,[.s 28,.s 37],Sq38,rfl,fun w4=>?_,fun w5=>⟨⟨?_,?_⟩,?_⟩⟩,fun w6=>⟨Sq28,Sq29,rfl,Sq28,Sq30,rfl,Sq28,Sq31,rfl,Sq28,Sq32,rfl,Sq28,Sq33,rfl,Sq28,Sq34,rfl,Sq28,Sq35,rfl,Sq28,Sq36,rfl,Sq28,Sq37,rfl,[.s 28,.s 37],Sq38,rfl,⟨?_,?_⟩,?_⟩⟩,fun w7=>⟨Sq17,Sq18,rfl,Sq17,Sq19,rfl,Sq17,Sq20,rfl,Sq17,Sq21,rfl,Sq17,Sq22,rfl,Sq17,Sq23,rfl,Sq17,Sq24,rfl,Sq17,Sq25,rfl,Sq17,Sq26,rfl,[.s 17,.s 26],Sq27,rfl,Sq27,Sq28,rfl,Sq28,Sq29,rfl,Sq28,Sq30,rfl,Sq28,Sq31,rfl,Sq28,Sq32,rfl,Sq28,Sq33,rfl,Sq28,Sq34,rfl,Sq28,Sq35,rfl,Sq28,Sq36,rfl,Sq28,Sq37,rfl,[.s 28,.s 37],Sq38,rfl,⟨?_,?_⟩,?_⟩⟩,fun w8=>?_⟩
 all_goals first|refine aw ?_|refine ax ?_|exact a8|exact a7|skip
 ·have bV:i<56:=ad6.1 (aJ w1)
  rw [XE] at w2 w3 w4
  refine⟨[],[],_,_,_,rfl,az,(),aa,?_,?_,rfl⟩
  ·show AV.int ((8+i:Nat):Int)=AV.int (rj (aj,ak,an,ao,ah,aq,ai,ar) text)
   have e:vx (aj,ak,an,ao,ah,aq,ai,ar) text (8+i)=true:=by show (decide _&&(decide _&&decide _))=true;rw [w2,w3,w4];rfl
   rw [←hr,cP bV,e]
   rfl
  ·rfl
 ·have bV:i<56:=ad6.1 (aJ w1)
  rw [XE] at w2 w3 w5
  have e:vx (aj,ak,an,ao,ah,aq,ai,ar) text (8+i)=false:=by show (decide _&&(decide _&&decide _))=false;rw [w2,w3,w5];rfl
  refine⟨(i+1),[],?_,?_,?_⟩
  rotate_right
  ·repeat' (first|exact trivial|rfl|exact rfl|exact fP ZA0.symm|exact oR|apply And.intro)
  ·refine⟨bV,?_⟩
   rw [←hr,cP bV,e,show 56-(i+1)=55-i by omega]
   rfl
  ·show 56-(i+1)<56-i
   omega
 ·have bV:i<56:=ad6.1 (aJ w1)
  rw [XE] at w2 w6
  have e:vx (aj,ak,an,ao,ah,aq,ai,ar) text (8+i)=false:=by show (decide _&&(decide _&&decide _))=false;rw [w2,w6];rfl
  refine⟨(i+1),[],?_,?_,?_⟩
  rotate_right
  ·repeat' (first|exact trivial|rfl|exact rfl|exact fP ZA0.symm|exact oR|apply And.intro)
  ·refine⟨bV,?_⟩
   rw [←hr,cP bV,e,show 56-(i+1)=55-i by omega]
   rfl
  ·show 56-(i+1)<56-i
   omega
 ·have bV:i<56:=ad6.1 (aJ w1)
  rw [XE] at w7
  have e:vx (aj,ak,an,ao,ah,aq,ai,ar) text (8+i)=false:=by show (decide _&&(decide _&&decide _))=false;rw [w7];rfl
  refine⟨(i+1),[],?_,?_,?_⟩
  rotate_right
  ·repeat' (first|exact trivial|rfl|exact rfl|exact fP ZA0.symm|exact oR|apply And.intro)
  ·refine⟨bV,?_⟩
   rw [←hr,cP bV,e,show 56-(i+1)=55-i by omega]
   rfl
  ·show 56-(i+1)<56-i
   omega
 ·have FK:i=56:=by
   have h3:¬(i<56):=fun h=>aA w8 (ad6.2 h)
   omega
  subst FK
  refine⟨[],[],_,_,_,rfl,az,(),aa,?_,?_,rfl⟩
  ·show AV.int (-1)=AV.int (rj (aj,ak,an,ao,ah,aq,ai,ar) text)
   rw [←hr];rfl
  ·rfl
theorem J8 {b:Bool}(h:(!b)=true):b=false:=by cases b with |true=>cases h |false=>rfl
theorem oJ {b:Bool}(h:(!b)=false):b=true:=by cases b with |true=>rfl |false=>cases h
def bG (s:ay) (p:Pt):ByteArray×Bool:=
 bif au p then (⟨#[]⟩,true) else bif iZ p (nth ab s.rows p.1.toNat) then (nth ab s.rows p.1.toNat,true) else (⟨#[]⟩,false)
theorem fT {s:ay}{p:Pt}(h:au p=true):bG s p=(⟨#[]⟩,true):=by unfold bG;rw [h];rfl
theorem ye {s:ay}{p:Pt}(h:au p=false) (h2:iZ p (nth ab s.rows p.1.toNat)=true):bG s p=(nth ab s.rows p.1.toNat,true):=by unfold bG;rw [h,h2];rfl
theorem LN {s:ay}{p:Pt}(h:au p=false) (h2:iZ p (nth ab s.rows p.1.toNat)=false):bG s p=(⟨#[]⟩,false):=by unfold bG;rw [h,h2];rfl
def ay.szs (s:ay):Prop:=∀x∈s.rows,x.size≤1000000
def fV (S:ay) (p:Pt):Prop:=S.szs∧0≤p.1∧p.1<S.rows.length
def U7 (S:ay) (p:Pt):AV:=.t [.s (.str (bG S p).1),.s (.q (bG S p).2)]
def aa5 (S:ay) (p:Pt):List AV:=[]
def eB:ct where
 A:=[.a xy,.a [.int,.int,.int,.int,.int]]
 B:=[]
 pre:=fun x b=>fV (x.1) (x.2)
 r:=fun x b _=>U7 (x.1) (x.2)
 o:=fun x b _=>aa5 (x.1) (x.2)
theorem l7:Has Tryz.prog 117 eB:=by
 refine Has.fu zT zF zF (l:=[(83,bl),(160,sQ)]) ⟨cz,MH,aa⟩ Tryz.func117 ?_
 rintro⟨⟨(aj:List ByteArray),(ak:List Int),(an:List Int),(ao:Int),(ah:List Pt),(aq:Int),(ai:List Pt),(ar:Bool)⟩,⟨(p1:Int),(p2:Int),(p3:Int),(p4:Int),(p5:Int)⟩⟩ _ (hp:fV (aj,ak,an,ao,ah,aq,ai,ar) (p1,p2,p3,p4,p5))
 show vc _ _ _ _ (entry [.a [.vz ab aj,.vz ag ak,.vz ag an,.int ao,.vz ae ah,.int aq,.vz ae ai,.q ar],.a [.int p1,.int p2,.int p3,.int p4,.int p5]] []) _
 obtain⟨h1,(h2:0≤p1),(h3:p1<aj.length)⟩:=hp
 have dj:(nth ab aj p1.toNat).size≤1000000:=h1 _ (bS (ek:=ab) (show p1.toNat<aj.length by omega))
 refine⟨⟨⟨⟨aa,aa,aa,aa,aa,aa⟩,aa⟩,aa⟩,fun x1 w2=>⟨fun w3=>?_,fun w4=>⟨[.s 3,.b 1003],Sq8,rfl,Sq2,Sq9,rfl,[.s 9,.b 1002],Sq10,rfl,Sq3,Sq11,rfl,[.s 11,.b 1003],Sq12,rfl,[.s 10,.s 12],Sq13,rfl,⟨?_,?_⟩,Sq13,Sq14,rfl,[.s 8,.s 14],Sq15,rfl,⟨⟨⟨aa,aa,aa,aa,aa,aa⟩,aa,aa⟩,?_⟩,?_,fun x5 w6=>⟨Sq15,Sq16,rfl,fun w7=>?_,fun w8=>⟨⟨?_,?_⟩,?_⟩⟩⟩⟩⟩
 all_goals first|refine aw ?_|refine ax ?_|exact a8|(dsimp only [sQ,nS];omega)|exact a7|(show ((nth ab aj p1.toNat).size:Int)≤1000000000000;omega)|skip
 ·refine⟨[],[],_,_,_,rfl,az,(),aa,?_,?_,rfl⟩
  ·show AV.t [.s (.str ⟨#[]⟩),.s (.q true)]=AV.t [.s (.str (bG (aj,ak,an,ao,ah,aq,ai,ar) (p1,p2,p3,p4,p5)).1),.s (.q (bG (aj,ak,an,ao,ah,aq,ai,ar) (p1,p2,p3,p4,p5)).2)]
   rw [fT w3]
  ·rfl
 ·refine⟨[],[],_,_,_,rfl,az,(),aa,?_,?_,rfl⟩
  ·show AV.t [.s (.str ⟨#[]⟩),.s (.q false)]=AV.t [.s (.str (bG (aj,ak,an,ao,ah,aq,ai,ar) (p1,p2,p3,p4,p5)).1),.s (.q (bG (aj,ak,an,ao,ah,aq,ai,ar) (p1,p2,p3,p4,p5)).2)]
   rw [LN w4 (J8 w7)]
  ·rfl
 ·refine⟨[],[],_,_,_,rfl,az,(),aa,?_,?_,rfl⟩
  ·show AV.t [.s (.str (nth ab aj p1.toNat)),.s (.q true)]=AV.t [.s (.str (bG (aj,ak,an,ao,ah,aq,ai,ar) (p1,p2,p3,p4,p5)).1),.s (.q (bG (aj,ak,an,ao,ah,aq,ai,ar) (p1,p2,p3,p4,p5)).2)]
   rw [ye w4 (oJ w8)]
  ·rfl
end GL
end Go.Proofs.YtkgpljpmdkflmaaGreatDoor
