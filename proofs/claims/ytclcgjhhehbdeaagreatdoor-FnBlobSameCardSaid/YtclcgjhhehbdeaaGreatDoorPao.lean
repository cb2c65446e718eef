/- A drawn law returns true for every code (its row lists package variables, tied by the card): part 15. -/
import Derived.Test.YtclcgjhhehbdeaaGreatDoorPan
set_option maxHeartbeats 20000000
set_option maxRecDepth 100000
set_option linter.all false
namespace Go.Proofs.YtclcgjhhehbdeaaGreatDoor
namespace GL
def r9 (n:Int):Prop:=True
def aaG (n:Int):AV:=.q (ig n 8 63)
def acX (n:Int):List AV:=[]
def oU:cn where
 A:=[.s .int]
 B:=[]
 pre:=fun x b=>r9 x
 r:=fun x b _=>aaG x
 o:=fun x b _=>acX x
theorem zC:Has Tryz.prog 88 oU:=by
 refine Has.fl zT zF zF (l:=[(40,gZ)]) ⟨iy,aa⟩ Tryz.func88 ?_
 rintro (n:Int) _ (hp:r9 n)
 show vc _ _ _ _ (entry [.int n] []) _
 refine⟨⟨tv4,aa⟩,fun x1 w2=>?_⟩
 refine⟨[],[],_,_,_,rfl,az,(),aa,?_,?_,rfl⟩
 ·rfl
 ·rfl
def u7 (s:ByteArray):Prop:=True
def QU (s:ByteArray):AV:=.q (ig s.size 1 128)
def VV (s:ByteArray):List AV:=[]
def C7:cn where
 A:=[.s .str]
 B:=[]
 pre:=fun x b=>u7 x
 r:=fun x b _=>QU x
 o:=fun x b _=>VV x
theorem abB:Has Tryz.prog 130 C7:=by
 refine Has.fl zT zF zF (l:=[(40,gZ)]) ⟨iy,aa⟩ Tryz.func130 ?_
 rintro (s:ByteArray) _ (hp:u7 s)
 show vc _ _ _ _ (entry [.str s] []) _
 refine⟨⟨tv4,aa⟩,fun x1 w2=>?_⟩
 refine⟨[],[],_,_,_,rfl,az,(),aa,?_,?_,rfl⟩
 ·rfl
 ·rfl
def aZ (p:Pt):Bool:=au p||(ig p.1 8 63&&ig p.2.1 1 900&&ig p.2.2.1 1 128&&ig p.2.2.2.1 0 99460728&&ig p.2.2.2.2 0 2)
def dY (p:Pt):Prop:=True
def aaJ (p:Pt):AV:=.q (aZ p)
def ac4 (p:Pt):List AV:=[]
def cX:cn where
 A:=[.a [.int,.int,.int,.int,.int]]
 B:=[]
 pre:=fun x b=>dY x
 r:=fun x b _=>aaJ x
 o:=fun x b _=>ac4 x
theorem iz:Has Tryz.prog 53 cX:=by
 refine Has.fl zT zF zF (l:=[(54,cx),(88,oU),(40,gZ)]) ⟨cz,zC,iy,aa⟩ Tryz.func53 ?_
 rintro⟨(p1:Int),(p2:Int),(p3:Int),(p4:Int),(p5:Int)⟩ _ (hp:dY (p1,p2,p3,p4,p5))
 show vc _ _ _ _ (entry [.a [.int p1,.int p2,.int p3,.int p4,.int p5]] []) _
 refine⟨⟨⟨tv6,aa⟩,aa⟩,fun x1 w2=>⟨fun w3=>?_,fun w4=>⟨⟨tv2,aa⟩,fun x5 w6=>⟨aa,fun w7=>⟨⟨tv4,aa⟩,fun x8 w9=>⟨aa,fun dx=>⟨⟨tv4,aa⟩,fun ku dI=>⟨aa,fun iS=>⟨⟨tv4,aa⟩,fun x14 qG=>⟨aa,fun kc=>⟨⟨tv4,aa⟩,fun x17 rO=>?_⟩,fun oH=>?_⟩⟩,fun uE=>?_⟩⟩,fun AY=>?_⟩⟩,fun AX=>?_⟩⟩⟩⟩
 all_goals
  refine⟨[],[],_,_,_,rfl,az,(),aa,?_,?_,rfl⟩
  ·show AV.q _=AV.q _
   congr 1
   simp_all [aZ]
  ·rfl
def YG (p:Int×Int) (c:Int):Int×Int:=((p.1+c+1) % 9973,(p.2+(p.1+c+1) % 9973) % 9973)
def rV (s:ByteArray):Nat→Int×Int
 |0=>(1,0)
 |k+1=>YG (rV s k) (bL s k)
def qJ (s:ByteArray):Int:=(rV s s.size).1*9973+(rV s s.size).2
theorem y9 (s:ByteArray):∀k,0≤(rV s k).1∧(rV s k).1≤9972∧0≤(rV s k).2∧(rV s k).2≤9972
 |0=>by simp [rV]
 |k+1=>by
  have:=y9 s k
  simp only [rV,YG]
  omega
theorem aj3 (s:ByteArray):0≤qJ s∧qJ s≤99460728:=by
 have:=y9 s s.size
 unfold qJ
 omega
def jN (s:ByteArray):Prop:=(s.size:Int)≤1000000000000
def aaI (s:ByteArray):AV:=.int (qJ s)
def ac3 (s:ByteArray):List AV:=[]
def z7:cn where
 A:=[.s .str]
 B:=[]
 pre:=fun x b=>jN x
 r:=fun x b _=>aaI x
 o:=fun x b _=>ac3 x
theorem ZO:Has Tryz.prog 131 z7:=by
 refine Has.fl zT zF zF (l:=[]) trivial Tryz.func131 ?_
 rintro (s:ByteArray) _ (hp:jN s)
 show vc _ _ _ _ (entry [.str s] []) _
 unfold jN at hp
 refine cN (l:=[]) (ex:=zT) (wr:=zF) (pt:=zF) aa [.s 0] (fun k:Nat=>[(.s 3,.int (rV s k).1),(.s 4,.int (rV s k).2),(.s 5,.int k)]) (fun k=>k≤s.size) (fun k=>s.size-k) 0 [] (ZA7 _) ⟨⟨rfl,rfl,rfl,aa⟩,rfl,aa⟩ ?_
 intro k hk
 obtain⟨b1,b2,b3,b4⟩:=y9 s k
 have hb:=xa s k
 refine⟨fun w1=>⟨⟨?_,?_⟩,⟨⟨?_,?_⟩,⟨⟨?_,?_⟩,⟨⟨?_,?_⟩,⟨⟨?_,?_⟩,⟨⟨?_,?_⟩,⟨⟨?_,?_⟩,⟨⟨?_,?_⟩,?_⟩⟩⟩⟩⟩⟩⟩⟩,fun w2=>⟨⟨?_,?_⟩,⟨⟨?_,?_⟩,?_⟩⟩⟩
 all_goals first|refine aw ?_|refine ax ?_|exact a8|exact a7|skip
 ·refine⟨(k+1),[],?_,?_,?_⟩
  rotate_right
  ·repeat' (first|exact trivial|rfl|exact rfl|exact fO ZA0.symm|exact oL|apply And.intro)
  all_goals first|refine aw ?_|refine ax ?_|exact a8|exact a7|skip
 ·have h2:¬(k:Int)<(s.size:Int):=aA w2
  have hk':k=s.size:=by omega
  subst hk'
  refine⟨[],[],_,_,_,rfl,az,(),aa,?_,?_,rfl⟩
  ·rfl
  ·rfl
def iV (p:Pt) (s:ByteArray):Bool:=aZ p&&(!(au p)&&(decide (p.2.2.1=s.size)&&decide (p.2.2.2.1=qJ s)))
def nL (p:Pt) (s:ByteArray):Prop:=(s.size:Int)≤1000000000000
def QV (p:Pt) (s:ByteArray):AV:=.q (iV p s)
def WD (p:Pt) (s:ByteArray):List AV:=[]
def sJ:cn where
 A:=[.a [.int,.int,.int,.int,.int],.s .str]
 B:=[]
 pre:=fun x b=>nL (x.1) (x.2)
 r:=fun x b _=>QV (x.1) (x.2)
 o:=fun x b _=>WD (x.1) (x.2)
theorem MD:Has Tryz.prog 90 sJ:=by
 refine Has.fl zT zF zF (l:=[(53,cX),(54,cx),(131,z7)]) ⟨iz,cz,ZO,aa⟩ Tryz.func90 ?_
 rintro⟨⟨(p1:Int),(p2:Int),(p3:Int),(p4:Int),(p5:Int)⟩,(s:ByteArray)⟩ _ (hp:nL (p1,p2,p3,p4,p5) s)
 show vc _ _ _ _ (entry [.a [.int p1,.int p2,.int p3,.int p4,.int p5],.str s] []) _
 unfold nL at hp
 refine⟨[.s 2,.b 1002],Sq5,rfl,Sq5,Sq6,rfl,⟨⟨tv6,aa⟩,aa⟩,?_,fun x1 w2=>⟨Sq6,Sq7,rfl,aa,fun w3=>⟨[.s 7,.s 2,.b 1002],Sq8,rfl,[.s 7,.s 8],Sq9,rfl,⟨⟨tv6,aa⟩,aa⟩,?_,fun x4 w5=>⟨[.s 7,.s 9],Sq10,rfl,[.s 7,.s 10],Sq11,rfl,Sq11,Sq12,rfl,aa,fun w6=>⟨[.s 12,.s 2],Sq13,rfl,[.s 12,.s 13,.b 1002],Sq14,rfl,[.s 12,.s 1],Sq15,rfl,[.s 12,.s 15],Sq16,rfl,[.s 12,.s 14,.s 16],Sq17,rfl,[.s 12,.s 17],Sq18,rfl,Sq18,Sq19,rfl,aa,fun w7=>⟨[.s 19,.s 2],Sq20,rfl,[.s 19,.s 20,.b 1002],Sq21,rfl,[.s 19,.s 1],Sq22,rfl,[.s 19,.s 22],Sq23,rfl,⟨tv2,?_⟩,?_,fun x8 w9=>⟨[.s 19,.s 21,.s 23],Sq24,rfl,[.s 19,.s 24],Sq25,rfl,Sq25,Sq4,rfl,?_⟩⟩,fun dx=>⟨Sq19,Sq20,rfl,Sq19,Sq21,rfl,Sq19,Sq22,rfl,Sq19,Sq23,rfl,Sq19,Sq24,rfl,[.s 19,.s 24],Sq25,rfl,Sq25,Sq4,rfl,?_⟩⟩,fun kx=>⟨Sq12,Sq13,rfl,Sq12,Sq14,rfl,Sq12,Sq15,rfl,Sq12,Sq16,rfl,Sq12,Sq17,rfl,[.s 12,.s 17],Sq18,rfl,Sq18,Sq19,rfl,Sq19,Sq20,rfl,Sq19,Sq21,rfl,Sq19,Sq22,rfl,Sq19,Sq23,rfl,Sq19,Sq24,rfl,[.s 19,.s 24],Sq25,rfl,Sq25,Sq4,rfl,?_⟩⟩⟩,fun dI=>⟨Sq7,Sq8,rfl,Sq7,Sq9,rfl,Sq7,Sq10,rfl,[.s 7,.s 10],Sq11,rfl,Sq11,Sq12,rfl,Sq12,Sq13,rfl,Sq12,Sq14,rfl,Sq12,Sq15,rfl,Sq12,Sq16,rfl,Sq12,Sq17,rfl,[.s 12,.s 17],Sq18,rfl,Sq18,Sq19,rfl,Sq19,Sq20,rfl,Sq19,Sq21,rfl,Sq19,Sq22,rfl,Sq19,Sq23,rfl,Sq19,Sq24,rfl,[.s 19,.s 24],Sq25,rfl,Sq25,Sq4,rfl,?_⟩⟩⟩
 all_goals first|refine aw ?_|refine ax ?_|exact a8|(dsimp only [cX,dY,z7,jN];omega)|exact a7|(show jN _;unfold jN;omega)|skip
 all_goals
  refine⟨[],[],_,_,_,rfl,az,(),aa,?_,?_,rfl⟩
  ·show AV.q _=AV.q _
   congr 1
   simp_all [iV]
  ·rfl
def bM:Pt:=(0,0,0,0,0)
def gu (at_ EE level:Int) (s:ByteArray):Pt×Bool:=
 bif ig s.size 1 128&&aZ (at_,EE,s.size,qJ s,level) then ((at_,EE,s.size,qJ s,level),true) else (bM,false)
def ptA (p:Pt):A0:=.a (EK.AR ae p)
theorem BQ {a b l:Int}{s:ByteArray}(h1:ig s.size 1 128=true) (h2:aZ (a,b,s.size,qJ s,l)=true):gu a b l s=((a,b,(s.size:Int),qJ s,l),true):=by unfold gu;rw [h1,h2];rfl
theorem BS {a b l:Int}{s:ByteArray}(h1:ig s.size 1 128=false):gu a b l s=(bM,false):=by unfold gu;rw [h1];rfl
theorem BR {a b l:Int}{s:ByteArray}(h2:aZ (a,b,s.size,qJ s,l)=false):gu a b l s=(bM,false):=by unfold gu;rw [h2,ZD7];rfl
theorem xi {b:Bool}(h:(!b)=true):b=false:=by simpa using h
theorem cL {b:Bool}(h:(!b)=false):b=true:=by simpa using h
def mI (a:Int) (b:Int) (l:Int) (s:ByteArray):Prop:=(s.size:Int)≤1000000000000
def aaK (a:Int) (b:Int) (l:Int) (s:ByteArray):AV:=.t [ptA (gu a b l s).1,.s (.q (gu a b l s).2)]
def ac5 (a:Int) (b:Int) (l:Int) (s:ByteArray):List AV:=[]
def oW:cn where
 A:=[.s .int,.s .int,.s .int,.s .str]
 B:=[]
 pre:=fun x b=>mI (x.1) (x.2.1) (x.2.2.1) (x.2.2.2)
 r:=fun x b _=>aaK (x.1) (x.2.1) (x.2.2.1) (x.2.2.2)
 o:=fun x b _=>ac5 (x.1) (x.2.1) (x.2.2.1) (x.2.2.2)
theorem FD:Has Tryz.prog 87 oW:=by
 refine Has.fl zT zF zF (l:=[(130,C7),(53,cX),(131,z7)]) ⟨abB,iz,ZO,aa⟩ Tryz.func87 ?_
 rintro⟨(a:Int),(b:Int),(l:Int),(s:ByteArray)⟩ _ (hp:mI a b l s)
 show vc _ _ _ _ (entry [.int a,.int b,.int l,.str s] []) _
 unfold mI at hp
 refine⟨⟨tv2,aa⟩,fun x1 w2=>⟨fun w3=>?_,fun w4=>⟨⟨tv2,?_⟩,fun x5 w6=>⟨⟨⟨tv6,aa⟩,aa⟩,fun x7 w8=>⟨fun w9=>?_,fun dx=>?_⟩⟩⟩⟩⟩
 all_goals first|refine aw ?_|refine ax ?_|exact a8|(dsimp only [C7,u7,cX,dY,z7,jN];omega)|exact a7|(show jN _;unfold jN;omega)|skip
 ·refine⟨[],[],_,_,_,rfl,az,(),aa,?_,?_,rfl⟩
  ·show _=AV.t [ptA (gu a b l s).1,.s (.q (gu a b l s).2)]
   rw [BS (xi w3)];rfl
  ·rfl
 ·refine⟨[],[],_,_,_,rfl,az,(),aa,?_,?_,rfl⟩
  ·show _=AV.t [ptA (gu a b l s).1,.s (.q (gu a b l s).2)]
   rw [BR (xi w9)];rfl
  ·rfl
 ·refine⟨[],[],_,_,_,rfl,az,(),aa,?_,?_,rfl⟩
  ·show _=AV.t [ptA (gu a b l s).1,.s (.q (gu a b l s).2)]
   rw [BQ (cL w4) (cL dx)];rfl
  ·rfl
def alh:Nat→Nat→ByteArray
 |0,_=>ByteArray.empty
 |n+1,k=>bif Nat.blt k 10 then eZ [48+k] else alh n (k / 10)++eZ [48+k % 10]
end GL
namespace GL
theorem sz0:(⟨#[]⟩:ByteArray).size=0:=rfl
theorem sz1 (a:UInt8):(⟨#[a]⟩:ByteArray).size=1:=rfl
def dec (k:Nat):ByteArray:=if k<10 then eZ [48+(k:Int)] else dec (k / 10)++eZ [48+((k % 10:Nat):Int)]
 termination_by k
 decreasing_by omega
def bX (n:Int):ByteArray:=dec n.toNat
theorem dec_lt {k:Nat}(h:k<10):dec k=eZ [48+(k:Int)]:=by rw [dec,if_pos h]
theorem XU {k:Nat}(h:¬k<10):dec k=dec (k / 10)++eZ [48+((k % 10:Nat):Int)]:=by rw [dec,if_neg h]
theorem sT (n:Int):(eZ [n]).size=1:=by rw [eZ,ny];rfl
theorem JG:∀(m k:Nat),k<10 ^ (m+1)→(dec k).size≤m+1
 |0,k,h=>by rw [dec_lt (by omega),sT];omega
 |m+1,k,h=>by
  by_cases hk:k<10
  ·rw [dec_lt hk,sT];omega
  ·rw [XU hk,ZB2,sT]
   have:=JG m (k / 10) (by rw [Nat.pow_succ] at h;omega)
   omega
theorem db {n:Int}(h:n≤999999999999):(bX n).size≤12:=JG 11 n.toNat (by show _<1000000000000;omega)
theorem agb {n:Int}(h0:0≤n) (h:n<10):bX n=eZ [48+n]:=by
 unfold bX
 rw [dec_lt (by omega),show ((n.toNat:Nat):Int)=n by omega]
theorem agc {n:Int}(h0:0≤n) (h:¬n<10):bX n=bX (n / 10)++eZ [48+n % 10]:=by
 unfold bX
 rw [XU (by omega),show ((n.toNat % 10:Nat):Int)=n % 10 by omega,show n.toNat / 10=(n / 10).toNat by omega]
def mG (n:Int):Prop:=0≤n∧n≤999999999999
def aaF (n:Int):AV:=.str (bX n)
def acW (n:Int):List AV:=[]
def j1:cn where
 A:=[.s .int]
 B:=[]
 pre:=fun x b=>mG x
 r:=fun x b _=>aaF x
 o:=fun x b _=>acW x
def ads (n:Int):Nat:=n.toNat
theorem wN:Has Tryz.prog 168 j1:=by
 refine Has.akt (C:=j1) zT zF zF (fun x b=>ads x) (l:=[]) trivial Tryz.func168 ?_
 rintro (n:Int) _ (hp:mG n) al1
 show vc _ _ _ _ (entry [.int n] []) _
 obtain⟨h1,h2⟩:=hp
 have hs:=db (n:=n / 10) (by omega)
 refine⟨fun w1=>?_,fun w2=>⟨fun w3=>⟨⟨?_,?_⟩,⟨tv2,⟨?_,?_⟩,?_⟩,fun x4 w5=>⟨?_,?_⟩⟩,fun w6=>⟨fun w7=>⟨⟨?_,?_⟩,⟨?_,?_⟩,aa,⟨?_,?_⟩,?_⟩,fun w8=>⟨Sq0,Sq18,rfl,Sq18,Sq19,rfl,⟨?_,?_,?_⟩,Sq19,Sq20,rfl,⟨tv2,⟨?_,?_⟩,?_⟩,?_,fun x9 dx=>⟨Sq0,Sq21,rfl,Sq21,Sq22,rfl,⟨?_,?_⟩,Sq22,Sq23,rfl,⟨?_,?_⟩,Sq23,Sq24,rfl,⟨?_,?_⟩,[.s 24,.b 1025],[.s 25,.b 1025],rfl,aa,[.s 25,.b 1025],Sq26,rfl,⟨?_,?_⟩,[.s 20,.s 26],Sq27,rfl,?_,Sq27,Sq2,rfl,?_⟩⟩⟩⟩⟩
 all_goals first|(exfalso;simp only [decide_eq_true_eq,decide_eq_false_iff_not] at *;omega)|refine aw ?_|refine ax ?_|exact a8|exact a7|(simp only [dB,sT,imax];omega)|(show (n / 10).toNat<n.toNat;have:=aA w8;omega)|skip
 ·refine⟨[],[],_,_,_,rfl,az,(),aa,?_,?_,rfl⟩
  ·show _=AV.str (bX n)
   rw [agb h1 (aJ w7)];rfl
  ·rfl
 ·refine⟨[],[],_,_,_,rfl,az,(),aa,?_,?_,rfl⟩
  ·show _=AV.str (bX n)
   rw [agc h1 (aA w8)];rfl
  ·rfl
def amc:ByteArray:=⟨#[46]⟩
def bc (p:Pt):ByteArray:=
 bif aZ p then (bif au p then ⟨#[45]⟩ else
  bX p.1++⟨#[46]⟩++bX p.2.1++⟨#[46]⟩++bX p.2.2.1++⟨#[46]⟩++bX p.2.2.2.1++⟨#[46]⟩++bX p.2.2.2.2) else ⟨#[]⟩
theorem pO {p:Pt}(h:aZ p=true):(0≤p.1∧p.1≤63)∧(0≤p.2.1∧p.2.1≤900)∧(0≤p.2.2.1∧p.2.2.1≤128)∧(0≤p.2.2.2.1∧p.2.2.2.1≤99460728)∧0≤p.2.2.2.2∧p.2.2.2.2≤2:=by
 unfold aZ au at h
 simp only [Bool.or_eq_true,ZA9,decide_eq_true_eq,cC] at h
 omega
theorem gr (p:Pt):(bc p).size≤64:=by
 unfold bc
 cases h:aZ p with
 |false=>exact ZA7 _
 |true=>
  obtain⟨h1,h2,h3,h4,h5⟩:=pO h
  cases au p with
  |true=>show (1:Nat)≤64;omega
  |false=>
   simp only [cond_true,cond_false,ZB2,sz1]
   have a1:=db (n:=p.1) (by omega)
   have a2:=db (n:=p.2.1) (by omega)
   have a3:=db (n:=p.2.2.1) (by omega)
   have a4:=db (n:=p.2.2.2.1) (by omega)
   have a5:=db (n:=p.2.2.2.2) (by omega)
   omega
def p8 (p:Pt):Prop:=True
def VE (p:Pt):AV:=.str (bc p)
def abh (p:Pt):List AV:=[]
def qx:cn where
 A:=[.a [.int,.int,.int,.int,.int]]
 B:=[]
 pre:=fun x b=>p8 x
 r:=fun x b _=>VE x
 o:=fun x b _=>abh x
theorem IG:Has Tryz.prog 169 qx:=by
 refine Has.fl zT zF zF (l:=[(53,cX),(54,cx),(168,j1)]) ⟨iz,cz,wN,aa⟩ Tryz.func169 ?_
 rintro⟨(p1:Int),(p2:Int),(p3:Int),(p4:Int),(p5:Int)⟩ _ (hp:p8 (p1,p2,p3,p4,p5))
 show vc _ _ _ _ (entry [.a [.int p1,.int p2,.int p3,.int p4,.int p5]] []) _
 by_cases cG:aZ (p1,p2,p3,p4,p5)=true
 ·obtain⟨⟨b1,b2⟩,⟨b3,b4⟩,⟨b5,b6⟩,⟨b7,b8⟩,b9,b10⟩:=pO cG
  dsimp only at b1 b2 b3 b4 b5 b6 b7 b8 b9 b10
  have a1:=db (n:=p1) (by omega)
  have a2:=db (n:=p2) (by omega)
  have a3:=db (n:=p3) (by omega)
  have a4:=db (n:=p4) (by omega)
  have a5:=db (n:=p5) (by omega)
  refine⟨⟨⟨tv6,aa⟩,aa⟩,fun x1 w2=>⟨fun w3=>?_,fun w4=>⟨⟨⟨tv6,aa⟩,aa⟩,fun x5 w6=>⟨fun w7=>?_,fun w8=>⟨Sq1,Sq8,rfl,[.s 8,.b 1001],Sq9,rfl,Sq9,Sq10,rfl,⟨tv2,?_,?_⟩,?_,fun x9 dx=>⟨Sq10,Sq11,rfl,?_,Sq1,Sq12,rfl,[.s 12,.b 1001],Sq13,rfl,Sq13,Sq14,rfl,⟨tv2,?_,?_⟩,?_,fun ku dI=>⟨[.s 11,.s 14],Sq15,rfl,?_,Sq15,Sq16,rfl,?_,Sq1,Sq17,rfl,[.s 17,.b 1001],Sq18,rfl,Sq18,Sq19,rfl,⟨tv2,?_,?_⟩,?_,fun rS gN=>⟨[.s 16,.s 19],Sq20,rfl,?_,Sq20,Sq21,rfl,?_,Sq1,Sq22,rfl,[.s 22,.b 1001],Sq23,rfl,Sq23,Sq24,rfl,⟨tv2,?_,?_⟩,?_,fun kt kc=>⟨[.s 21,.s 24],Sq25,rfl,?_,Sq25,Sq26,rfl,?_,Sq1,Sq27,rfl,[.s 27,.b 1001],Sq28,rfl,Sq28,Sq29,rfl,⟨tv2,?_,?_⟩,?_,fun x17 rO=>⟨[.s 26,.s 29],Sq30,rfl,?_,Sq30,Sq2,rfl,?_⟩⟩⟩⟩⟩⟩⟩⟩⟩⟩
  all_goals first|refine aw ?_|refine ax ?_|exact a8|(dsimp only [cX,dY,j1,mG];omega)|exact a7|(simp only [ZB2,sz1,imax];omega)|skip
  ·rw [cG] at w3;cases w3
  ·refine⟨[],[],_,_,_,rfl,az,(),aa,?_,?_,rfl⟩
   ·show _=AV.str (bc (p1,p2,p3,p4,p5))
    unfold bc;rw [cG,w7];rfl
   ·rfl
  ·refine⟨[],[],_,_,_,rfl,az,(),aa,?_,?_,rfl⟩
   ·show _=AV.str (bc (p1,p2,p3,p4,p5))
    unfold bc;rw [cG,w8];rfl
   ·rfl
 ·have uu:aZ (p1,p2,p3,p4,p5)=false:=by simpa using cG
  refine⟨⟨tv6,aa⟩,aa⟩ |> fun h=>⟨h,fun x1 w2=>⟨fun w3=>?_,fun w4=>?_⟩⟩
  ·refine⟨[],[],_,_,_,rfl,az,(),aa,?_,?_,rfl⟩
   ·show _=AV.str (bc (p1,p2,p3,p4,p5))
    unfold bc;rw [uu];rfl
   ·rfl
  ·rw [uu] at w4;cases w4
end GL
namespace GL
def yd (sp:List Int×List Int):Prop:=sp.1.length≤1000000∧sp.2.length≤1000000
def VD (sp:List Int×List Int):AV:=.a [.xs 0 1 0 sp.1.length,.xs 1 1 0 sp.2.length]
def aa9 (sp:List Int×List Int):List AV:=[.rs ag sp.1,.rs ag sp.2]
def JV:cn where
 A:=[.a [.vz ag,.vz ag]]
 B:=[]
 pre:=fun x b=>yd x
 r:=fun x b _=>VD x
 o:=fun x b _=>aa9 x
 nf:=2
theorem adQ:Has Tryz.prog 59 JV:=by
 refine Has.fl zT zF zF (l:=[]) trivial Tryz.func59 ?_
 rintro⟨(dz:List Int),(eH:List Int)⟩ _ (hp:yd (dz,eH))
 show vc _ _ _ _ (entry [.a [.vz ag dz,.vz ag eH]] []) _
 obtain⟨(h1:dz.length≤1000000),(h2:eH.length≤1000000)⟩:=hp
 refine⟨[.b 1003],[.s 3,.b 1003],rfl,aa,Sq1,Sq4,rfl,[.s 4,.b 1001],Sq5,rfl,[.s 3,.s 5,.b 1003,.b 1006],[.s 6,.b 1006,.b 1003],rfl,⟨⟨?_,?_⟩,aa⟩,[.b 1007],[.s 7,.b 1007],rfl,aa,Sq1,Sq8,rfl,[.s 8,.b 1001],Sq9,rfl,[.s 7,.s 9,.b 1007,.b 1010],[.s 10,.b 1010,.b 1007],rfl,⟨⟨?_,?_⟩,aa⟩,[.s 6,.s 10],Sq11,rfl,[.s 2,.s 11,.b 1002],[.b 1002],rfl,?_⟩
 all_goals first|refine aw ?_|refine ax ?_|exact a8|exact a7|(simp only [dB,ZA4];omega)|skip
 refine⟨[1006,1010],[],_,_,_,rfl,az,(),aa,?_,?_,rfl⟩
 ·show AV.a [.xs 0 1 0 (0+dz.length),.xs 1 1 0 (0+eH.length)]=AV.a [.xs 0 1 0 dz.length,.xs 1 1 0 eH.length]
  rw [ZA6,ZA6]
 ·rfl
def ay.small (s:ay):Prop:=s.rows.length≤1000000∧s.refs.length≤1000000∧s.last.length≤1000000∧s.gone.length≤1000000∧s.dead.length≤1000000
def pS (S:ay):Prop:=S.small
def U8 (S:ay):AV:=.a (kT 0 1 2 3 4 S)
def aa4 (S:ay):List AV:=F9 S
def jB:cn where
 A:=[.a xq]
 B:=[]
 pre:=fun x b=>pS x
 r:=fun x b _=>U8 x
 o:=fun x b _=>aa4 x
 nf:=5
theorem IB:Has Tryz.prog 25 jB:=by
 refine Has.fl zT zF zF (l:=[(59,JV)]) ⟨adQ,aa⟩ Tryz.func25 ?_
 rintro⟨(aj:List ByteArray),(ak:List Int),(an:List Int),(ao:Int),(ah:List Pt),(aq:Int),(ai:List Pt),(ar:Bool)⟩ _ (hp:pS (aj,ak,an,ao,ah,aq,ai,ar))
 show vc _ _ _ _ (entry [.a [.vz ab aj,.vz ag ak,.vz ag an,.int ao,.vz ae ah,.int aq,.vz ae ai,.q ar]] []) _
 obtain⟨h1,h2,h3,h4,h5⟩:=hp
 dsimp only [ay.rows,ay.refs,ay.last,ay.gone,ay.dead] at h1 h2 h3 h4 h5
 refine⟨aa,⟨⟨?_,?_⟩,aa⟩,⟨⟨tv3,aa⟩,?_,?_⟩,fun x1 w2=>⟨aa,⟨⟨?_,?_⟩,aa⟩,aa,⟨⟨?_,?_⟩,aa⟩,?_⟩⟩
 all_goals first|refine aw ?_|refine ax ?_|exact a8|(dsimp only [JV,yd];omega)|exact a7|(simp only [dB,ZA4];omega)|skip
 refine⟨[1006,110000,110001,1015,1020],[],_,_,_,rfl,az,(),aa,?_,?_,rfl⟩
 ·exact congrArg AV.a (uQ (s:=(aj,ak,an,ao,ah,aq,ai,ar)) (ZA6 _) rfl rfl rfl (ZA6 _) rfl (ZA6 _) rfl)
 ·rfl
def inL (l:List Int) (n:Int):Bool:=decide (n∈l)
theorem bR {ek:EK}{l:List (EK.Ty ek)}{k:Nat}(h:k<l.length):nth ek l k∈l:=by
 have:=oz h
 exact ZB6 this
def zn (l:List Int) (n:Int):Prop:=l.length≤1000000
def acA (l:List Int) (n:Int):AV:=.q (inL l n)
def afx (l:List Int) (n:Int):List AV:=[]
def PS:cn where
 A:=[.s (.vz ag),.s .int]
 B:=[]
 pre:=fun x b=>zn (x.1) (x.2)
 r:=fun x b _=>acA (x.1) (x.2)
 o:=fun x b _=>afx (x.1) (x.2)
theorem adN:Has Tryz.prog 133 PS:=by
 refine Has.fl zT zF zF (l:=[]) trivial Tryz.func133 ?_
 rintro⟨(l:List Int),(n:Int)⟩ _ (hp:zn l n)
 show vc _ _ _ _ (entry [.s (.vz ag l),.int n] []) _
 unfold zn at hp
 refine cN (l:=[]) (ex:=zT) (wr:=zF) (pt:=zF) trivial [.s 0,.s 1] (fun i:Nat=>[(.s 5,.int i)]) (fun i=>i≤l.length∧∀j,j<i→nth ag l j≠n) (fun i=>l.length-i) 0 [] ⟨ZA7 _,fun j hj=>absurd hj (by omega)⟩ (by repeat' (first|exact trivial|rfl|exact rfl|exact fO (ZA6 _)|apply And.intro)) ?_
 rintro i ⟨hi,uu⟩
 refine⟨fun w1=>⟨⟨?_,?_⟩,⟨fun w2=>?_,fun w3=>⟨⟨?_,?_⟩,?_⟩⟩⟩,fun w4=>?_⟩
 all_goals first|refine aw ?_|refine ax ?_|exact a8|exact a7|skip
 ·have bU:i<l.length:=by have:=aJ w1;omega
  refine⟨[],[],_,_,_,rfl,az,(),aa,?_,?_,rfl⟩
  ·show AV.q true=AV.q (inL l n)
   rw [show inL l n=true from decide_eq_true (by rw [←aJ w2];exact bR bU)]
  ·rfl
 ·have bU:i<l.length:=by have:=aJ w1;omega
  refine⟨(i+1),[],?_,?_,?_⟩
  rotate_right
  ·repeat' (first|exact trivial|rfl|exact rfl|exact fO ZA0.symm|exact oL|apply And.intro)
  ·refine⟨bU,fun j hj=>?_⟩
   by_cases e:j=i
   ·subst e;exact aA w3
   ·exact uu j (by omega)
  ·show l.length-(i+1)<l.length-i
   omega
 ·have FF:i=l.length:=by have:¬((i:Int)<(l.length:Int)):=aA w4;omega
  refine⟨[],[],_,_,_,rfl,az,(),aa,?_,?_,rfl⟩
  ·show AV.q false=AV.q (inL l n)
   rw [show inL l n=false from decide_eq_false (fun hm=>by
    obtain⟨j,hj,e⟩:=List.getElem_of_mem hm
    have h1:=oz (ek:=ag) hj
    rw [ZB1 hj,e] at h1
    exact uu j (by omega) (ZG5 h1).symm)]
  ·rfl
def findF:Nat→Nat→List Int→Int
 |0,_,_=> -1
 |f+1,i,rf=>bif decide (nth ag rf i=0) then (i:Int) else findF f (i+1) rf
def oa (rf:List Int):Int:=findF 56 8 rf
theorem TU:∀(f i:Nat) (rf:List Int),findF f i rf= -1∨((i:Int)≤findF f i rf∧findF f i rf<i+f)
 |0,_,_=>.inl rfl
 |f+1,i,rf=>by
  unfold findF
  cases decide (nth ag rf i=0) with
  |true=>right;simp only [cond_true];omega
  |false=>
   simp only [cond_false]
   rcases TU f (i+1) rf with h |h
   ·exact .inl h
   ·right;omega
theorem TT (rf:List Int):oa rf= -1∨(8≤oa rf∧oa rf<64):=TU 56 8 rf
def yc (sp:List Int×List Int) (fr:Int) (bu:List Int):Prop:=sp.1.length=64∧fr=8∧bu=[]
def VC (sp:List Int×List Int) (fr:Int) (bu:List Int):AV:=.int (oa sp.1)
def aa8 (sp:List Int×List Int) (fr:Int) (bu:List Int):List AV:=[]
def JU:cn where
 A:=[.a [.vz ag,.vz ag],.s .int,.s (.vz ag)]
 B:=[]
 pre:=fun x b=>yc (x.1) (x.2.1) (x.2.2)
 r:=fun x b _=>VC (x.1) (x.2.1) (x.2.2)
 o:=fun x b _=>aa8 (x.1) (x.2.1) (x.2.2)
theorem adP:Has Tryz.prog 94 JU:=by
 refine Has.fl zT zF zF (l:=[(88,oU),(133,PS)]) ⟨zC,adN,aa⟩ Tryz.func94 ?_
 rintro⟨⟨(dz:List Int),(eH:List Int)⟩,(fr:Int),(bu:List Int)⟩ _ (hp:yc (dz,eH) fr bu)
 show vc _ _ _ _ (entry [.a [.vz ag dz,.vz ag eH],.int fr,.s (.vz ag bu)] []) _
 obtain⟨(h1:dz.length=64),rfl,rfl⟩:=hp
 refine⟨⟨⟨trivial,trivial⟩,trivial⟩,fun x1 w1=>⟨fun w2=>absurd w2 (by decide),fun w3=>?_⟩⟩
 refine cN (l:=[(88,oU),(133,PS)]) (ex:=zT) (wr:=zF) (pt:=zF) ⟨zC,adN,trivial⟩ [.s 1,.s 2,.s 3,.s 7,.b 1003] (fun i:Nat=>[(.s 8,.int i)]) (fun i=>i≤56∧findF (56-i) (8+i) dz=oa dz) (fun i=>56-i) 0 [] ⟨ZA7 _,rfl⟩ (by repeat' (first|exact trivial|rfl|exact rfl|exact fO (ZA6 _)|apply And.intro)) ?_
 rintro i ⟨hi,hr⟩
 have XB:i<56→(8+(8-8+(i:Int)) % 56).toNat=8+i:=fun h=>by omega
 refine⟨fun w1=>⟨⟨?_,?_⟩,⟨?_,?_⟩,⟨?_,?_⟩,⟨?_,?_⟩,⟨?_,?_⟩,aa,fun w2=>⟨⟨tv3,?_⟩,fun x3 w4=>⟨fun w5=>?_,fun w6=>⟨⟨?_,?_⟩,?_⟩⟩⟩,fun w7=>⟨⟨?_,?_⟩,?_⟩⟩,fun w8=>?_⟩
 all_goals first|refine aw ?_|refine ax ?_|exact a8|(dsimp only [oU,r9,PS,zn];omega)|exact a7|exact ZA7 _|skip
 ·have bU:i<56:=by have:=aJ w1;omega
  have h2:=aJ w2
  rw [XB bU] at h2
  refine⟨[],[],_,_,_,rfl,az,(),aa,?_,?_,rfl⟩
  ·show AV.int (8+(8-8+(i:Int)) % 56)=AV.int (oa dz)
   rw [←hr,show 56-i=(55-i)+1 by omega,findF,decide_eq_true h2]
   show AV.int _=AV.int ((8+i:Nat):Int)
   rw [show 8+(8-8+(i:Int)) % 56=((8+i:Nat):Int) by omega]
  ·rfl
 ·exact absurd (show true=false from w6) (by decide)
 ·have bU:i<56:=by have:=aJ w1;omega
  have h2:=aA w7
  rw [XB bU] at h2
  refine⟨(i+1),[],?_,?_,?_⟩
  rotate_right
  ·repeat' (first|exact trivial|rfl|exact rfl|exact fO ZA0.symm|exact oL|apply And.intro)
  ·refine⟨bU,?_⟩
   rw [←hr,show 56-i=(56-(i+1))+1 by omega,findF,decide_eq_false h2]
   rfl
  ·show 56-(i+1)<56-i
   omega
 ·have FF:i=56:=by have:¬((i:Int)<56):=aA w8;omega
  subst FF
  refine⟨[],[],_,_,_,rfl,az,(),aa,?_,?_,rfl⟩
  ·show AV.int (-1)=AV.int (oa dz)
   rw [←hr];rfl
  ·rfl
def vm (s:ay) (text:ByteArray) (i:Nat):Bool:=decide (nth ab s.rows i=text)&&(decide (nth ag s.last i<s.cg)&&decide (nth ag s.refs i<s.cg))
def sr:Nat→Nat→ay→ByteArray→Int
 |0,_,_,_=> -1
 |f+1,i,s,text=>bif vm s text i then (i:Int) else sr f (i+1) s text
def q7 (s:ay) (text:ByteArray):Int:=sr 56 8 s text
theorem SQ:∀(f i:Nat) (s:ay) (text:ByteArray),sr f i s text= -1∨((i:Int)≤sr f i s text∧sr f i s text<i+f)
 |0,_,_,_=>.inl rfl
 |f+1,i,s,text=>by
  unfold sr
  cases vm s text i with
  |true=>right;simp only [cond_true];omega
  |false=>
   simp only [cond_false]
   rcases SQ f (i+1) s text with h |h
   ·exact .inl h
   ·right;omega
theorem SO (s:ay) (text:ByteArray):q7 s text= -1∨(8≤q7 s text∧q7 s text<64):=SQ 56 8 s text
def xZ (S:ay) (text:ByteArray):Prop:=S.n64
def U5 (S:ay) (text:ByteArray):AV:=.int (q7 S text)
def aa2 (S:ay) (text:ByteArray):List AV:=[]
def JS:cn where
 A:=[.a xq,.s .str]
 B:=[]
 pre:=fun x b=>xZ (x.1) (x.2)
 r:=fun x b _=>U5 (x.1) (x.2)
 o:=fun x b _=>aa2 (x.1) (x.2)
theorem adL:Has Tryz.prog 93 JS:=by
 refine Has.fl zT zF zF (l:=[]) trivial Tryz.func93 ?_
 rintro⟨⟨(aj:List ByteArray),(ak:List Int),(an:List Int),(ao:Int),(ah:List Pt),(aq:Int),(ai:List Pt),(ar:Bool)⟩,(text:ByteArray)⟩ _ (hp:xZ (aj,ak,an,ao,ah,aq,ai,ar) text)
 show vc _ _ _ _ (entry [.a [.vz ab aj,.vz ag ak,.vz ag an,.int ao,.vz ae ah,.int aq,.vz ae ai,.q ar],.str text] []) _
 let g':=(aj,ak,an,ao,ah,aq,ai,ar)
 obtain⟨l1,l2,l3⟩:=hp
 dsimp only [ay.rows,ay.refs,ay.last] at l1 l2 l3
 refine cN (l:=[]) (ex:=zT) (wr:=zF) (pt:=zF) trivial [.s 1,.s 2,.b 1002] (fun i:Nat=>[(.s 5,.int ((8+i:Nat):Int))]) (fun i=>i≤56∧sr (56-i) (8+i) g' text=q7 g' text) (fun i=>56-i) 0 [] ⟨ZA7 _,rfl⟩ (by repeat' (first|exact trivial|rfl|exact rfl|exact fO (ZA6 _)|apply And.intro)) ?_
 rintro i ⟨hi,hr⟩
 have XB:(((8+i:Nat):Int)).toNat=8+i:=rfl
 have ad2:(((8+i:Nat):Int)<64)↔i<56:=by omega
 have cO:i<56→sr (56-i) (8+i) g' text=bif vm g' text (8+i) then ((8+i:Nat):Int) else sr (55-i) (8+i+1) g' text:=fun h=>by
  rw [show 56-i=(55-i)+1 by omega,sr]
 refine⟨fun w1=>⟨Sq2,Sq10,rfl,[.s 10,.b 1002],Sq11,rfl,Sq5,Sq12,rfl,[.s 11,.s 12],Sq13,rfl,⟨?_,?_⟩,Sq13,Sq14,rfl,Sq1,Sq15,rfl,[.s 14,.s 15],Sq16,rfl,Sq16,Sq17,rfl,aa,fun w2=>⟨[.s 17,.s 2],Sq18,rfl,[.s 17,.s 18],Sq19,rfl,[.s 17,.s 19,.b 1002],Sq20,rfl,[.s 17,.s 5],Sq21,rfl,[.s 17,.s 20,.s 21],Sq22,rfl,⟨?_,?_⟩,[.s 17,.s 22],Sq23,rfl,[.s 17,.s 2],Sq24,rfl,[.s 17,.s 24,.b 1002],Sq25,rfl,[.s 17,.s 23,.s 25],Sq26,rfl,[.s 17,.s 26],Sq27,rfl,Sq27,Sq28,rfl,aa,fun w3=>⟨[.s 28,.s 2],Sq29,rfl,[.s 28,.s 29],Sq30,rfl,[.s 28,.s 30,.b 1002],Sq31,rfl,[.s 28,.s 5],Sq32,rfl,[.s 28,.s 31,.s 32],Sq33,rfl,⟨?_,?_⟩,[.s 28,.s 33],Sq34,rfl,[.s 28,.s 2],Sq35,rfl,[.s 28,.s 35,.b 1002],Sq36,rfl,[.s 28,.s 34,.s 36],Sq37,rfl,[.s 28,.s 37],Sq38,rfl,fun w4=>?_,fun w5=>⟨⟨?_,?_⟩,?_⟩⟩,fun w6=>⟨Sq28,Sq29,rfl,Sq28,Sq30,rfl,Sq28,Sq31,rfl,Sq28,Sq32,rfl,Sq28,Sq33,rfl,Sq28,Sq34,rfl,Sq28,Sq35,rfl,Sq28,Sq36,rfl,Sq28,Sq37,rfl,[.s 28,.s 37],Sq38,rfl,⟨?_,?_⟩,?_⟩⟩,fun w7=>⟨Sq17,Sq18,rfl,Sq17,Sq19,rfl,Sq17,Sq20,rfl,Sq17,Sq21,rfl,Sq17,Sq22,rfl,Sq17,Sq23,rfl,Sq17,Sq24,rfl,Sq17,Sq25,rfl,Sq17,Sq26,rfl,[.s 17,.s 26],Sq27,rfl,Sq27,Sq28,rfl,Sq28,Sq29,rfl,Sq28,Sq30,rfl,Sq28,Sq31,rfl,Sq28,Sq32,rfl,Sq28,Sq33,rfl,Sq28,Sq34,rfl,Sq28,Sq35,rfl,Sq28,Sq36,rfl,Sq28,Sq37,rfl,[.s 28,.s 37],Sq38,rfl,⟨?_,?_⟩,?_⟩⟩,fun w8=>?_⟩
 all_goals first|refine aw ?_|refine ax ?_|exact a8|exact a7|skip
 ·have bU:i<56:=ad2.1 (aJ w1)
  rw [XB] at w2 w3 w4
  refine⟨[],[],_,_,_,rfl,az,(),aa,?_,?_,rfl⟩
  ·show AV.int ((8+i:Nat):Int)=AV.int (q7 g' text)
   have e:vm g' text (8+i)=true:=by show (decide _&&(decide _&&decide _))=true;rw [w2,w3,w4];rfl
   rw [←hr,cO bU,e]
   rfl
  ·rfl
 ·have bU:i<56:=ad2.1 (aJ w1)
  rw [XB] at w2 w3 w5
  have e:vm g' text (8+i)=false:=by show (decide _&&(decide _&&decide _))=false;rw [w2,w3,w5];rfl
  refine⟨(i+1),[],?_,?_,?_⟩
  rotate_right
  ·repeat' (first|exact trivial|rfl|exact rfl|exact fO ZA0.symm|exact oL|apply And.intro)
  ·refine⟨bU,?_⟩
   rw [←hr,cO bU,e,show 56-(i+1)=55-i by omega]
   rfl
  ·show 56-(i+1)<56-i
   omega
 ·have bU:i<56:=ad2.1 (aJ w1)
  rw [XB] at w2 w6
  have e:vm g' text (8+i)=false:=by show (decide _&&(decide _&&decide _))=false;rw [w2,w6];rfl
  refine⟨(i+1),[],?_,?_,?_⟩
  rotate_right
  ·repeat' (first|exact trivial|rfl|exact rfl|exact fO ZA0.symm|exact oL|apply And.intro)
  ·refine⟨bU,?_⟩
   rw [←hr,cO bU,e,show 56-(i+1)=55-i by omega]
   rfl
  ·show 56-(i+1)<56-i
   omega
 ·have bU:i<56:=ad2.1 (aJ w1)
  rw [XB] at w7
  have e:vm g' text (8+i)=false:=by show (decide _&&(decide _&&decide _))=false;rw [w7];rfl
  refine⟨(i+1),[],?_,?_,?_⟩
  rotate_right
  ·repeat' (first|exact trivial|rfl|exact rfl|exact fO ZA0.symm|exact oL|apply And.intro)
  ·refine⟨bU,?_⟩
   rw [←hr,cO bU,e,show 56-(i+1)=55-i by omega]
   rfl
  ·show 56-(i+1)<56-i
   omega
 ·have FF:i=56:=by
   have h3:¬(i<56):=fun h=>aA w8 (ad2.2 h)
   omega
  subst FF
  refine⟨[],[],_,_,_,rfl,az,(),aa,?_,?_,rfl⟩
  ·show AV.int (-1)=AV.int (q7 g' text)
   rw [←hr];rfl
  ·rfl
theorem J4 {b:Bool}(h:(!b)=true):b=false:=by cases b with |true=>cases h |false=>rfl
theorem oD {b:Bool}(h:(!b)=false):b=true:=by cases b with |true=>rfl |false=>cases h
def bF (s:ay) (p:Pt):ByteArray×Bool:=
 bif au p then (⟨#[]⟩,true) else bif iV p (nth ab s.rows p.1.toNat) then (nth ab s.rows p.1.toNat,true) else (⟨#[]⟩,false)
theorem fS {s:ay}{p:Pt}(h:au p=true):bF s p=(⟨#[]⟩,true):=by unfold bF;rw [h];rfl
theorem xX {s:ay}{p:Pt}(h:au p=false) (h2:iV p (nth ab s.rows p.1.toNat)=true):bF s p=(nth ab s.rows p.1.toNat,true):=by unfold bF;rw [h,h2];rfl
theorem LJ {s:ay}{p:Pt}(h:au p=false) (h2:iV p (nth ab s.rows p.1.toNat)=false):bF s p=(⟨#[]⟩,false):=by unfold bF;rw [h,h2];rfl
def ay.szs (s:ay):Prop:=∀x∈s.rows,x.size≤1000000
def fU (S:ay) (p:Pt):Prop:=S.szs∧0≤p.1∧p.1<S.rows.length
def U4 (S:ay) (p:Pt):AV:=.t [.s (.str (bF S p).1),.s (.q (bF S p).2)]
def aa1 (S:ay) (p:Pt):List AV:=[]
def ez:cn where
 A:=[.a xq,.a [.int,.int,.int,.int,.int]]
 B:=[]
 pre:=fun x b=>fU (x.1) (x.2)
 r:=fun x b _=>U4 (x.1) (x.2)
 o:=fun x b _=>aa1 (x.1) (x.2)
theorem lW:Has Tryz.prog 57 ez:=by
 refine Has.fl zT zF zF (l:=[(54,cx),(90,sJ)]) ⟨cz,MD,aa⟩ Tryz.func57 ?_
 rintro⟨⟨(aj:List ByteArray),(ak:List Int),(an:List Int),(ao:Int),(ah:List Pt),(aq:Int),(ai:List Pt),(ar:Bool)⟩,⟨(p1:Int),(p2:Int),(p3:Int),(p4:Int),(p5:Int)⟩⟩ _ (hp:fU (aj,ak,an,ao,ah,aq,ai,ar) (p1,p2,p3,p4,p5))
 show vc _ _ _ _ (entry [.a [.vz ab aj,.vz ag ak,.vz ag an,.int ao,.vz ae ah,.int aq,.vz ae ai,.q ar],.a [.int p1,.int p2,.int p3,.int p4,.int p5]] []) _
 let g':=(aj,ak,an,ao,ah,aq,ai,ar)
 let A':=(p1,p2,p3,p4,p5)
 obtain⟨h1,(h2:0≤p1),(h3:p1<aj.length)⟩:=hp
 have dj:(nth ab aj p1.toNat).size≤1000000:=h1 _ (bR (ek:=ab) (show p1.toNat<aj.length by omega))
 refine⟨⟨⟨tv6,aa⟩,aa⟩,fun x1 w2=>⟨fun w3=>?_,fun w4=>⟨[.s 3,.b 1003],Sq8,rfl,Sq2,Sq9,rfl,[.s 9,.b 1002],Sq10,rfl,Sq3,Sq11,rfl,[.s 11,.b 1003],Sq12,rfl,[.s 10,.s 12],Sq13,rfl,⟨?_,?_⟩,Sq13,Sq14,rfl,[.s 8,.s 14],Sq15,rfl,⟨⟨tv6,tv2⟩,?_⟩,?_,fun x5 w6=>⟨Sq15,Sq16,rfl,fun w7=>?_,fun w8=>⟨⟨?_,?_⟩,?_⟩⟩⟩⟩⟩
 all_goals first|refine aw ?_|refine ax ?_|exact a8|(dsimp only [sJ,nL];omega)|exact a7|(show ((nth ab aj p1.toNat).size:Int)≤1000000000000;omega)|skip
 ·refine⟨[],[],_,_,_,rfl,az,(),aa,?_,?_,rfl⟩
  ·show AV.t [.s (.str ⟨#[]⟩),.s (.q true)]=AV.t [.s (.str (bF g' A').1),.s (.q (bF g' A').2)]
   rw [fS w3]
  ·rfl
 ·refine⟨[],[],_,_,_,rfl,az,(),aa,?_,?_,rfl⟩
  ·show AV.t [.s (.str ⟨#[]⟩),.s (.q false)]=AV.t [.s (.str (bF g' A').1),.s (.q (bF g' A').2)]
   rw [LJ w4 (J4 w7)]
  ·rfl
 ·refine⟨[],[],_,_,_,rfl,az,(),aa,?_,?_,rfl⟩
  ·show AV.t [.s (.str (nth ab aj p1.toNat)),.s (.q true)]=AV.t [.s (.str (bF g' A').1),.s (.q (bF g' A').2)]
   rw [xX w4 (oD w8)]
  ·rfl
end GL
end Go.Proofs.YtclcgjhhehbdeaaGreatDoor
