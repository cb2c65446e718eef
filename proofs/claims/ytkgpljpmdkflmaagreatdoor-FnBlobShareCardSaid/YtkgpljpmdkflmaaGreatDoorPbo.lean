/- Part 41 of A drawn law. -/
import Derived.Lib.CountLaws
import Derived.Lib.CutLaws
import Derived.Lib.IndexBytes
import Derived.Lib.IndexLaws
import Derived.Lib.Join
import Derived.Lib.SplitLaws
import Derived.Test.YtkgpljpmdkflmaaGreatDoorPan
import Derived.Test.YtkgpljpmdkflmaaGreatDoorPao
import Derived.Test.YtkgpljpmdkflmaaGreatDoorPaz
import Derived.Test.YtkgpljpmdkflmaaGreatDoorPbn
set_option maxHeartbeats 20000000
set_option maxRecDepth 100000
set_option linter.all false
namespace Go.Proofs.YtkgpljpmdkflmaaGreatDoor
namespace GL
theorem ajJ (k:Nat):Lib.decDigits k=lb (dec k):=by
 induction k using Nat.strongRecOn with
 |_ k ih=>
  by_cases h:k<10
  ·rw [Lib.decDigits,dif_pos h,mX h]
  ·rw [Lib.decDigits,dif_neg h,pd h,ih (k / 10) (by omega)]
theorem abM {n:Int}(h:0≤n):ad0 n=bY n:=by
 apply vB
 show Lib.itoa n=lb (dec n.toNat)
 unfold Lib.itoa
 rw [if_neg (by omega),ajJ]
def IQ (b:UInt8):Prop:=48≤b.toNat∧b.toNat≤57
theorem EH:∀(l:List UInt8) (acc m:Nat),Lib.decFrom acc l=some m→(∀b∈l,IQ b)∧(m:Int)=l.foldl (fun n b=>10*n+((b.toNat:Int)-48)) (acc:Int)
 |[],acc,m,h=>by
  cases h
  refine⟨fun b hb=>?_,rfl⟩
  cases hb
 |b::l,acc,m,h=>by
  unfold Lib.decFrom at h
  split at h
  ·rename_i d hd
   unfold Lib.digitVal at hd
   split at hd
   ·rename_i hb
    cases hd
    obtain⟨h1,h2⟩:=EH l _ _ h
    refine⟨fun c hc=>?_,?_⟩
    ·rcases ZB8.1 hc with rfl |hc
     ·exact hb
     ·exact h1 c hc
    ·rw [h2,List.foldl_cons]
     congr 1
     have:=hb.1
     omega
   ·cases hd
  ·cases h
theorem JM:∀(l:List UInt8) (acc:Nat),(∀b∈l,IQ b)→∃m,Lib.decFrom acc l=some m
 |[],acc,_=>⟨acc,rfl⟩
 |b::l,acc,h=>by
  unfold Lib.decFrom Lib.digitVal
  have hb:48≤b.toNat∧b.toNat≤57:=h b (List.mem_cons_self ..)
  rw [if_pos hb]
  exact JM l _ fun c hc=>h c (List.mem_cons_of_mem _ hc)
theorem afl (k:Nat):Lib.atoi (lb (dec k))=some (k:Int):=by
 obtain⟨b,l,e,_⟩:=xh k
 have hd:=tX k
 rw [e] at hd ⊢
 have hb:=hd b (List.mem_cons_self ..)
 unfold Lib.atoi
 have h1:¬(b==45)=true:=fun h=>by have:=beq_iff_eq.1 h;subst this;exact absurd hb.1 (by decide)
 have h2:¬(b==43)=true:=fun h=>by have:=beq_iff_eq.1 h;subst this;exact absurd hb.1 (by decide)
 show (if (b==45)=true then _ else if (b==43)=true then _ else _)=_
 rw [if_neg h1,if_neg h2]
 unfold Lib.decNat
 rw [if_neg (by simp)]
 obtain⟨m,hm⟩:=JM (b::l) 0 hd
 rw [hm]
 have h3:=(EH _ _ _ hm).2
 have h4:=P9 k
 rw [e] at h4
 unfold qO at h4
 simp only [Option.map_some,Option.some.injEq]
 rw [h3]
 exact h4
theorem canon:∀(n:Nat) (l:List UInt8),l.length=n→l≠[]→(∀b∈l,IQ b)→(∀b,l.head?=some b→b.toNat=48→l.length=1)→0≤qO l∧lb (dec (qO l).toNat)=l
 |0,l,hn,fB,_,_=>absurd (ZD4.1 hn) fB
 |n+1,l,hn,fB,hd,h0=>by
  obtain⟨l',b,rfl⟩:∃l' b,l=l'++[b]:=⟨l.dropLast,l.getLast fB,(List.dropLast_concat_getLast fB).symm⟩
  have hb:IQ b:=hd b (by simp)
  have hv:qO (l'++[b])=10*qO l'+((b.toNat:Int)-48):=wy l' b
  have hbo:UInt8.ofNat (48+(b.toNat-48))=b:=by
   have h1:=hb.1
   rw [show 48+(b.toNat-48)=b.toNat by omega]
   exact UInt8.ofNat_toNat
  by_cases hl:l'=[]
  ·subst hl
   rw [hv]
   have h1:qO []=0:=rfl
   rw [h1]
   obtain⟨h2,h3⟩:=hb
   refine⟨by omega,?_⟩
   rw [show (10*0+((b.toNat:Int)-48)).toNat=b.toNat-48 by omega,mX (by omega),hbo]
   rfl
  ·have hn':l'.length=n:=by simpa using hn
   obtain⟨c,m,rfl⟩:∃c m,l'=c::m:=by
    cases l' with
    |nil=>exact absurd rfl hl
    |cons c m=>exact⟨c,m,rfl⟩
   have ajt:c.toNat≠48:=fun h=>by
    have:=h0 c rfl h
    simp at this
   obtain⟨g1,g2⟩:=canon n (c::m) hn' (by simp) (fun x hx=>hd x (List.mem_append_left _ hx)) (fun x hx akF=>by cases hx;exact absurd akF ajt)
   have oW:1≤(qO (c::m)).toNat:=by
    rcases Nat.eq_zero_or_pos (qO (c::m)).toNat with h |h
    ·rw [h,mX (by omega)] at g2
     cases g2
     exact absurd rfl ajt
    ·exact h
   obtain⟨h2,h3⟩:=hb
   rw [hv]
   refine⟨by omega,?_⟩
   have e:(10*qO (c::m)+((b.toNat:Int)-48)).toNat=10*(qO (c::m)).toNat+(b.toNat-48):=by omega
   rw [e,pd (by omega),show (10*(qO (c::m)).toNat+(b.toNat-48)) / 10=(qO (c::m)).toNat by omega,show (10*(qO (c::m)).toNat+(b.toNat-48)) % 10=b.toNat-48 by omega,g2,hbo]
theorem OX:∀(f:Nat) (s:ByteArray) (k:Nat),k≤sD f s k∧sD f s k≤k+f∧∀i,k≤i→i<sD f s k→DA s i=true
 |0,s,k=>⟨ZB5 _,ZB5 _,fun i h1 h2=>by unfold sD at h2;omega⟩
 |f+1,s,k=>by
  unfold sD
  cases h:DA s k with
  |false=>simp only [cond_false];exact⟨ZB5 _,by omega,fun i h1 h2=>by omega⟩
  |true=>
   simp only [cond_true]
   obtain⟨h1,h2,h3⟩:=OX f s (k+1)
   refine⟨by omega,by omega,fun i h4 h5=>?_⟩
   by_cases e:i=k
   ·subst e;exact h
   ·exact h3 i (by omega) h5
theorem aeQ {s:ByteArray}{i:Nat}(h:DA s i=true):i<(lb s).length∧∀b,(lb s)[i]?=some b→IQ b:=by
 unfold DA at h
 simp only [ZA9,decide_eq_true_eq] at h
 obtain⟨h1,_,h3,h4⟩:=h
 have hi:i<(lb s).length:=by rw [←fo];omega
 refine⟨hi,fun b hb=>?_⟩
 rw [np,hb] at h3 h4
 simp only at h3 h4
 exact⟨by omega,by omega⟩
theorem num_inv {s:ByteArray}{m:Int}(h:aD s=(m,true)):s=bY m∧0≤m∧m≤999999999:=by
 unfold aD at h
 cases hc:decide ((CN s).2=0)||decide ((CN s).2≠(s.size:Int)) with
 |true=>rw [hc] at h;cases h
 |false=>
  rw [hc] at h
  simp only [cond_false,Prod.mk.injEq,and_true] at h
  simp only [ZE1,decide_eq_false_iff_not,ZE9] at hc
  obtain⟨hc1,hc2⟩:=hc
  obtain⟨b1,b2,b3⟩:=OX 9 s 0
  have hnl:sD 9 s 0=cX s:=rfl
  rw [hnl] at b2 b3
  have hle:cX s≤(lb s).length:=by
   by_cases h0:cX s=0
   ·omega
   ·have:=(aeQ (b3 (cX s-1) (ZA7 _) (by omega))).1
    omega
  unfold CN at h hc1 hc2
  cases hq:decide ((cX s:Int)>1)&&decide (bM s 0=48) with
  |true=>
   rw [hq] at hc2
   simp only [ZA9,decide_eq_true_eq] at hq
   have h1:(1:Int)=s.size:=hc2
   rw [fo] at h1
   have:=hq.1
   omega
  |false=>
   rw [hq] at h hc1 hc2
   have h1:(cX s:Int)=s.size:=hc2
   have h0:(cX s:Int)≠0:=hc1
   have h2:iO s (cX s)=m:=h
   rw [fo] at h1
   have hlen:cX s=(lb s).length:=by omega
   have afV:iO s (cX s)=qO (lb s):=by
    rw [CD s _ (by omega),hlen,List.take_length]
   have af4:∀b∈lb s,IQ b:=fun b hb=>by
    obtain⟨i,hi⟩:=ZF3 hb
    have bV:i<(lb s).length:=(ZB9.1 hi).1
    exact (aeQ (b3 i (ZA7 _) (by omega))).2 b hi
   have fB:lb s≠[]:=fun e=>by rw [e] at hlen;simp at hlen;omega
   obtain⟨g1,g2⟩:=canon _ (lb s) rfl fB af4 (fun b hb h48=>by
    have hb0:(lb s)[0]?=some b:=by rw [←List.head?_eq_getElem?];exact hb
    have hby:bM s 0=48:=by rw [np,hb0];simp only;omega
    rw [Bool.and_eq_false_iff] at hq
    rcases hq with hq |hq
    ·have:=aA hq;omega
    ·exact absurd hby (aA hq))
   rw [←h2,afV]
   refine⟨vB g2.symm,g1,?_⟩
   have hb9:(lb s).length≤9:=by omega
   have key:∀(l:List UInt8),(∀b∈l,IQ b)→qO l<(10:Int) ^ l.length:=by
    intro l
    generalize hk:l.length=k
    induction k generalizing l with
    |zero=>intro _;rw [ZD4.1 hk];exact (by decide:(0:Int)<1)
    |succ k ih=>
     intro hd
     have fB:l≠[]:=fun e=>by subst e;simp at hk
     obtain⟨l',b,rfl⟩:∃l' b,l=l'++[b]:=⟨l.dropLast,l.getLast fB,(List.dropLast_concat_getLast fB).symm⟩
     have h1:=ih l' (by simpa using hk) (fun x hx=>hd x (List.mem_append_left _ hx))
     have h2:=(hd b (by simp)).2
     rw [wy,Int.pow_succ]
     omega
   have h5:=key (lb s) af4
   have h6:(10:Int) ^ (lb s).length≤10 ^ 9:=by exact_mod_cast Nat.pow_le_pow_right (by omega) hb9
   omega
def cl (n:Int):ByteArray:=bif iB n 0 999999999 then bY n else ⟨#[]⟩
theorem wh {s:ByteArray}(h9:s.size≤9):aD s=bif !(jc s).2||decide (cl (jc s).1≠s) then (0,false) else ((jc s).1,true):=by
 have uA:∀{r:Int×Bool},r=aD s→r.2=false→r=(0,false):=fun {r} e h=>by
  subst e
  unfold aD at h ⊢
  cases hq:decide ((CN s).2=0)||decide ((CN s).2≠(s.size:Int)) with
  |true=>rfl
  |false=>rw [hq] at h;cases h
 cases hg:(aD s).2 with
 |true=>
  have e:aD s=((aD s).1,true):=by rw [←hg]
  obtain⟨h1,h2,h3⟩:=num_inv e
  have ha:jc s=((aD s).1,true):=by
   unfold jc
   have:Lib.atoi s.data.toList=some (aD s).1:=by
    have h4:=afl (aD s).1.toNat
    rw [show (((aD s).1.toNat:Nat):Int)=(aD s).1 by omega] at h4
    rw [←h4]
    show Lib.atoi (lb s)=Lib.atoi (lb (bY (aD s).1))
    rw [←h1]
   rw [this]
  have hp:cl (aD s).1=s:=by
   unfold cl
   rw [show iB (aD s).1 0 999999999=true from cD.2 ⟨h2,h3⟩]
   exact h1.symm
  rw [ha]
  simp only [Bool.not_true,Bool.false_or]
  rw [hp]
  simpa using e
 |false=>
  rw [uA rfl hg]
  cases ha:(jc s).2 with
  |false=>rfl
  |true=>
   have hd:decide (cl (jc s).1≠s)=true:=by
    apply decide_eq_true
    intro hp
    unfold cl at hp
    cases hi:iB (jc s).1 0 999999999 with
    |false=>
     rw [hi] at hp
     have hp:(⟨#[]⟩:ByteArray)=s:=hp
     subst hp
     exact absurd ha (by decide)
    |true=>
     rw [hi] at hp
     have hp:bY (jc s).1=s:=hp
     obtain⟨g1,g2⟩:=cD.1 hi
     have:=ew g1 (by omega)
     rw [hp] at this
     rw [this] at hg
     cases hg
   rw [hd];rfl
theorem SE {s:ByteArray}(h9:9<s.size):aD s=(0,false):=by
 unfold aD
 obtain⟨_,b2,_⟩:=OX 9 s 0
 have hnl:sD 9 s 0=cX s:=rfl
 rw [hnl] at b2
 have:decide ((CN s).2≠(s.size:Int))=true:=by
  apply decide_eq_true
  unfold CN
  cases decide ((cX s:Int)>1)&&decide (bM s 0=48) with
  |true=>show (1:Int)≠s.size;omega
  |false=>show (cX s:Int)≠s.size;omega
 rw [this,ZC4];rfl
theorem QN (c:UInt8):∀(n:Nat) (s:ByteArray),Lib.countB s ⟨#[c]⟩=n→(Lib.splitB ⟨#[c]⟩ 0 n s).map lb=mo c (lb s)
 |n,s,hn=>by
  rcases Lib.indexB_cases s ⟨#[c]⟩ with hix |⟨i,hix,oc⟩
  ·have h1:Lib.indexByte (lb s) c= -1:=by rw [←Lib.index_one];exact hix
   have uA:c∉lb s:=fun h=>by
    obtain⟨k,hk⟩:=ZF3 h
    exact Lib.indexByte_none h1 k hk
   rw [Lib.splitB_miss _ _ _ _ hix,gj c _ uA];rfl
  ·have h1:Lib.indexByte (lb s) c=i:=by rw [←Lib.index_one];exact hix
   obtain⟨h2,h3⟩:=Lib.indexByte_some h1
   have ame:=Lib.countB_hit s ⟨#[c]⟩ i (ZB5 _) hix
   obtain⟨m,rfl⟩:∃m,n=m+1:=⟨n-1,by omega⟩
   rw [Lib.splitB_hit _ _ _ _ i hix,ZE7,QN c m _ (by omega)]
   have dj:(⟨#[c]⟩:ByteArray).size=1:=rfl
   have hi:i<(lb s).length:=(ZB9.1 h2).1
   have e:lb s=(lb s).take i++c::(lb s).drop (i+1):=by
    have h4:(lb s)[i]=c:=by have:=ZB1 hi;rw [this] at h2;exact ZG5 h2
    rw [←h4,List.getElem_cons_drop,List.take_append_drop]
   have hni:c∉(lb s).take i:=fun h=>by
    obtain⟨k,hk⟩:=ZF3 h
    rw [List.getElem?_take] at hk
    split at hk
    ·rename_i bV;exact h3 k bV hk
    ·cases hk
   rw [e,lE,gj c _ hni]
   show lb (s.extract 0 (i+0))::mo c (lb (s.extract (i+1) s.size))=_
   rw [mW,mW,fo,List.take_length,Nat.add_zero,ZF0]
   rfl
theorem QM (s:ByteArray) (c:UInt8):ib s ⟨#[c]⟩=bn s c.toNat:=by
 apply yB
 rw [JQ]
 exact QN c _ s rfl
theorem FD (sep:ByteArray) (l:List ByteArray):lb (zO sep l)=Lib.join (l.map lb) (lb sep):=rfl
end GL
namespace GL
def dq (n:Int) (lo:Int) (hi:Int):Prop:=True
def vb (n:Int) (lo:Int) (hi:Int):AV:=.s (.q (iB n lo hi))
def V7 (n:Int) (lo:Int) (hi:Int):List AV:=[]
def cB:ct where
 A:=[.s .int,.s .int,.s .int]
 B:=[]
 pre:=fun x b=>dq (x.1) (x.2.1) (x.2.2)
 r:=fun x b _=>vb (x.1) (x.2.1) (x.2.2)
 o:=fun x b _=>V7 (x.1) (x.2.1) (x.2.2)
theorem gn:Has Tryz.prog 66 cB:=by
 refine Has.fu zT zF zF (l:=[]) trivial Tryz.func66 ?_
 rintro⟨(n:Int),(lo:Int),(hi:Int)⟩ _ (hp:dq n lo hi)
 show vc _ _ _ _ (entry [.int n,.int lo,.int hi] []) _
 refine⟨aa,fun w1=>?_,fun w2=>?_⟩
 all_goals first|refine aw ?_|refine ax ?_|exact a8|exact a7|skip
 all_goals
  refine⟨[],[],_,_,_,rfl,az,(),aa,?_,?_,rfl⟩
  ·show AV.q _=vb n lo hi;unfold vb;refine congrArg AV.q ?_;(simp_all [iB]<;>omega)
  ·rfl
def ym (n:Int):Prop:=True
def xZ (n:Int):AV:=.s (.q (iB n 8 63))
def abh (n:Int):List AV:=[]
def J2:ct where
 A:=[.s .int]
 B:=[]
 pre:=fun x b=>ym x
 r:=fun x b _=>xZ x
 o:=fun x b _=>abh x
theorem adW:Has Tryz.prog 110 J2:=by
 refine Has.fu zT zF zF (l:=[(66,cB)]) ⟨gn,aa⟩ Tryz.func110 ?_
 rintro (n:Int) _ (hp:ym n)
 show vc _ _ _ _ (entry [.int n] []) _
 refine⟨⟨⟨aa,aa,aa,aa⟩,aa⟩,fun x1 w2=>?_⟩
 all_goals first|refine aw ?_|refine ax ?_|exact a8|(dsimp only [cB,dq];omega)|exact a7|skip
 refine⟨[],[],_,_,_,rfl,az,(),aa,?_,?_,rfl⟩
 ·(show _=xZ n);unfold xZ;first|rfl
 ·rfl
def cc (p:Pt):Prop:=True
def s9 (p:Pt):AV:=.s (.q (au p))
def R3 (p:Pt):List AV:=[]
def bH:ct where
 A:=[.a [.int,.int,.int,.int,.int]]
 B:=[]
 pre:=fun x b=>cc x
 r:=fun x b _=>s9 x
 o:=fun x b _=>R3 x
theorem eP:Has Tryz.prog 23 bH:=by
 refine Has.fu zT zF zF (l:=[]) trivial Tryz.func23 ?_
 rintro⟨(p1:Int),(p2:Int),(p3:Int),(p4:Int),(p5:Int)⟩ _ (hp:cc (p1,p2,p3,p4,p5))
 show vc _ _ _ _ (entry [.a [.int p1,.int p2,.int p3,.int p4,.int p5]] []) _
 refine ?_
 all_goals first|refine aw ?_|refine ax ?_|exact a8|exact a7|skip
 refine⟨[],[],_,_,_,rfl,az,(),aa,?_,?_,rfl⟩
 ·(show _=s9 (p1,p2,p3,p4,p5));unfold s9;first|rfl
 ·rfl
def cS (p:Pt):Prop:=True
def yb (p:Pt):AV:=.s (.q (aZ p))
def abj (p:Pt):List AV:=[]
def cC:ct where
 A:=[.a [.int,.int,.int,.int,.int]]
 B:=[]
 pre:=fun x b=>cS x
 r:=fun x b _=>yb x
 o:=fun x b _=>abj x
theorem jv:Has Tryz.prog 64 cC:=by
 refine Has.fu zT zF zF (l:=[(23,bH),(110,J2),(66,cB)]) ⟨eP,adW,gn,aa⟩ Tryz.func64 ?_
 rintro⟨(p1:Int),(p2:Int),(p3:Int),(p4:Int),(p5:Int)⟩ _ (hp:cS (p1,p2,p3,p4,p5))
 show vc _ _ _ _ (entry [.a [.int p1,.int p2,.int p3,.int p4,.int p5]] []) _
 refine⟨⟨⟨⟨aa,aa,aa,aa,aa,aa⟩,aa⟩,aa⟩,fun x1 w2=>⟨aa,fun w3=>?_,fun w4=>⟨⟨⟨aa,aa⟩,aa⟩,fun x5 w6=>⟨aa,fun w7=>⟨⟨⟨aa,aa,aa,aa⟩,aa⟩,fun x8 w9=>⟨aa,fun dy=>⟨⟨⟨aa,aa,aa,aa⟩,aa⟩,fun kB dK=>⟨aa,fun iV=>⟨⟨⟨aa,aa,aa,aa⟩,aa⟩,fun x14 qN=>⟨aa,fun ki=>⟨⟨⟨aa,aa,aa,aa⟩,aa⟩,fun x17 rV=>?_⟩,fun oN=>?_⟩⟩,fun uL=>?_⟩⟩,fun A4=>?_⟩⟩,fun A3=>?_⟩⟩⟩⟩
 all_goals first|refine aw ?_|refine ax ?_|exact a8|(dsimp only [bH,cc,J2,ym,cB,dq];omega)|exact a7|skip
 all_goals
  refine⟨[],[],_,_,_,rfl,az,(),aa,?_,?_,rfl⟩
  ·show AV.q _=yb (p1,p2,p3,p4,p5);unfold yb;refine congrArg AV.q ?_;simp_all [aZ]
  ·rfl
def tm (s:ByteArray):Prop:=s.size≤1000000000
def ya (s:ByteArray):AV:=.s (.int (qQ s))
def abi (s:ByteArray):List AV:=[]
def J3:ct where
 A:=[.s .str]
 B:=[]
 pre:=fun x b=>tm x
 r:=fun x b _=>ya x
 o:=fun x b _=>abi x
theorem adX:Has Tryz.prog 158 J3:=by
 refine Has.fu zT zF zF (l:=[]) trivial Tryz.func158 ?_
 rintro (s:ByteArray) _ (hp:tm s)
 show vc _ _ _ _ (entry [.str s] []) _
 unfold tm at hp
 refine ?_
 all_goals first|refine aw ?_|refine ax ?_|exact a8|exact a7|skip
 refine cO (l:=[]) (ex:=zT) (wr:=zF) (pt:=zF) trivial [.s 0,.s 7] (fun k:Nat=>[(.s 3,.int (r5 s k).1),(.s 4,.int (r5 s k).2),(.s 8,.int k)]) (fun k=>k≤s.size) (fun k=>s.size-k) 0 [] (ZA7 _) dN ?_
 rintro k hk
 have hb:=xi s k
 have hs:=zh s k
 refine⟨fun w1=>⟨⟨?_,?_⟩,⟨⟨?_,?_⟩,⟨⟨?_,?_⟩,⟨⟨?_,?_⟩,⟨⟨?_,?_⟩,⟨⟨?_,?_⟩,⟨⟨?_,?_⟩,⟨⟨?_,?_⟩,?_⟩⟩⟩⟩⟩⟩⟩⟩,fun w2=>⟨⟨?_,?_⟩,⟨⟨?_,?_⟩,?_⟩⟩⟩
 all_goals first|refine aw ?_|refine ax ?_|exact a8|exact a7|skip
 ·refine⟨(k+1),[],?_,?_,?_⟩
  rotate_right
  ·repeat' (first|exact trivial|rfl|exact rfl|exact fP ZA0.symm|exact oR|exact congrArg (fun n:Int=>some (AV.int n)) (congrArg (· % 9973) (Int.add_comm _ _))|apply And.intro)
  ·have:=aJ w1;omega
  ·have:=aJ w1;omega
 ·have h2:¬(k:Int)<(s.size:Int):=aA w2
  have hk':k=s.size:=by omega
  subst hk'
  refine⟨[],[],_,_,_,rfl,az,(),aa,?_,?_,rfl⟩
  ·(show _=ya s);unfold ya;first|rfl
  ·rfl
end GL
namespace GL
def tq (p:Pt) (s:ByteArray):Prop:=s.size≤1000000000
def tb (p:Pt) (s:ByteArray):AV:=.s (.q (iZ p s))
def R4 (p:Pt) (s:ByteArray):List AV:=[]
def y0:ct where
 A:=[.a [.int,.int,.int,.int,.int],.s .str]
 B:=[]
 pre:=fun x b=>tq (x.1) (x.2)
 r:=fun x b _=>tb (x.1) (x.2)
 o:=fun x b _=>R4 (x.1) (x.2)
theorem W5:Has Tryz.prog 111 y0:=by
 refine Has.fu zT zF zF (l:=[(23,bH),(64,cC),(158,J3)]) ⟨eP,jv,adX,aa⟩ Tryz.func111 ?_
 rintro⟨⟨(p1:Int),(p2:Int),(p3:Int),(p4:Int),(p5:Int)⟩,(s:ByteArray)⟩ _ (hp:tq (p1,p2,p3,p4,p5) s)
 show vc _ _ _ _ (entry [.a [.int p1,.int p2,.int p3,.int p4,.int p5],.str s] []) _
 have hp:s.size≤1000000000:=hp
 refine⟨[.s 2,.b 1002],Sq5,rfl,Sq5,Sq6,rfl,⟨⟨⟨aa,aa,aa,aa,aa,aa⟩,aa⟩,aa⟩,?_,fun x1 w2=>⟨Sq6,Sq7,rfl,aa,fun w3=>⟨[.s 7,.s 2,.b 1002],Sq8,rfl,[.s 7,.s 8],Sq9,rfl,⟨⟨⟨aa,aa,aa,aa,aa,aa⟩,aa⟩,aa⟩,?_,fun x4 w5=>⟨[.s 7,.s 9],Sq10,rfl,[.s 7,.s 10],Sq11,rfl,Sq11,Sq12,rfl,aa,fun w6=>⟨[.s 12,.s 2],Sq13,rfl,[.s 12,.s 13,.b 1002],Sq14,rfl,[.s 12,.s 1],Sq15,rfl,[.s 12,.s 15],Sq16,rfl,[.s 12,.s 14,.s 16],Sq17,rfl,[.s 12,.s 17],Sq18,rfl,Sq18,Sq19,rfl,aa,fun w7=>⟨[.s 19,.s 2],Sq20,rfl,[.s 19,.s 20,.b 1002],Sq21,rfl,[.s 19,.s 1],Sq22,rfl,[.s 19,.s 22],Sq23,rfl,⟨⟨aa,aa⟩,?_⟩,?_,fun x8 w9=>⟨[.s 19,.s 21,.s 23],Sq24,rfl,[.s 19,.s 24],Sq25,rfl,Sq25,Sq4,rfl,?_⟩⟩,fun dy=>⟨Sq19,Sq20,rfl,Sq19,Sq21,rfl,Sq19,Sq22,rfl,Sq19,Sq23,rfl,Sq19,Sq24,rfl,[.s 19,.s 24],Sq25,rfl,Sq25,Sq4,rfl,?_⟩⟩,fun kC=>⟨Sq12,Sq13,rfl,Sq12,Sq14,rfl,Sq12,Sq15,rfl,Sq12,Sq16,rfl,Sq12,Sq17,rfl,[.s 12,.s 17],Sq18,rfl,Sq18,Sq19,rfl,Sq19,Sq20,rfl,Sq19,Sq21,rfl,Sq19,Sq22,rfl,Sq19,Sq23,rfl,Sq19,Sq24,rfl,[.s 19,.s 24],Sq25,rfl,Sq25,Sq4,rfl,?_⟩⟩⟩,fun dK=>⟨Sq7,Sq8,rfl,Sq7,Sq9,rfl,Sq7,Sq10,rfl,[.s 7,.s 10],Sq11,rfl,Sq11,Sq12,rfl,Sq12,Sq13,rfl,Sq12,Sq14,rfl,Sq12,Sq15,rfl,Sq12,Sq16,rfl,Sq12,Sq17,rfl,[.s 12,.s 17],Sq18,rfl,Sq18,Sq19,rfl,Sq19,Sq20,rfl,Sq19,Sq21,rfl,Sq19,Sq22,rfl,Sq19,Sq23,rfl,Sq19,Sq24,rfl,[.s 19,.s 24],Sq25,rfl,Sq25,Sq4,rfl,?_⟩⟩⟩
 all_goals first|refine aw ?_|refine ax ?_|exact a8|(dsimp only [bH,cc,cC,cS,J3,tm];omega)|exact a7|skip
 all_goals
  refine⟨[],[],_,_,_,rfl,az,(),aa,?_,?_,rfl⟩
  ·show AV.q _=tb (p1,p2,p3,p4,p5) s;unfold tb;refine congrArg AV.q ?_;simp_all [iZ]
  ·rfl
def fH (n:Int):Prop:=True
def nK (n:Int):AV:=.s (.str (cl n))
def WB (n:Int):List AV:=[]
def gp:ct where
 A:=[.s .int]
 B:=[]
 pre:=fun x b=>fH x
 r:=fun x b _=>nK x
 o:=fun x b _=>WB x
theorem CR:Has Tryz.prog 241 gp:=by
 refine Has.fu zT zF zF (l:=[(66,cB),(268,X3)]) ⟨gn,ahz,aa⟩ Tryz.func241 ?_
 rintro (n:Int) _ (hp:fH n)
 show vc _ _ _ _ (entry [.int n] []) _
 have cq:(!(iB n 0 999999999))=false→0≤n∧n≤999999999:=fun h=>cD.1 (cM h)
 refine⟨⟨⟨aa,aa,aa,aa⟩,aa⟩,fun x1 w2=>⟨fun w3=>?_,fun w4=>⟨⟨⟨aa,aa⟩,?_,?_⟩,fun x5 w6=>?_⟩⟩⟩
 all_goals first|refine aw ?_|refine ax ?_|exact a8|(dsimp only [cB,dq];omega)|exact a7|(have:=cq w4;show (-9223372036854775808:Int)≤n;omega)|(have:=cq w4;show n≤(9223372036854775807:Int);omega)|skip
 ·have e:cl n=⟨#[]⟩:=by unfold cl;rw [show iB n 0 999999999=false from xq w3];rfl
  refine⟨[],[],_,_,_,rfl,az,(),aa,?_,?_,rfl⟩
  ·(show _=nK n);unfold nK;first|(rw [e];rfl)|rfl
  ·rfl
 ·have e:cl n=ad0 n:=by unfold cl;rw [show iB n 0 999999999=true from cM w4,abM (cq w4).1];rfl
  refine⟨[],[],_,_,_,rfl,az,(),aa,?_,?_,rfl⟩
  ·(show _=nK n);unfold nK;first|(rw [e];rfl)|rfl
  ·rfl
def gx (s:ByteArray):Prop:=s.size≤1000000
def gu (s:ByteArray):AV:=.t [.s (.int (aD s).1),.s (.q (aD s).2)]
def WC (s:ByteArray):List AV:=[]
def iU:ct where
 A:=[.s .str]
 B:=[]
 pre:=fun x b=>gx x
 r:=fun x b _=>gu x
 o:=fun x b _=>WC x
theorem ME:Has Tryz.prog 204 iU:=by
 refine Has.fu zT zF zF (l:=[(241,gp),(240,X4)]) ⟨CR,ahA,aa⟩ Tryz.func204 ?_
 rintro (s:ByteArray) _ (hp:gx s)
 show vc _ _ _ _ (entry [.str s] []) _
 have hp:s.size≤1000000:=hp
 have h9:decide ((s.size:Int)>9)=false→s.size≤9:=fun h=>by have:=aA h;omega
 refine⟨fun w1=>?_,fun w2=>⟨⟨⟨aa,aa⟩,?_⟩,fun x3 w4=>⟨aa,fun w5=>?_,fun w6=>⟨⟨⟨aa,aa⟩,aa⟩,fun x7 w8=>⟨fun w9=>?_,fun dy=>?_⟩⟩⟩⟩⟩
 all_goals first|refine aw ?_|refine ax ?_|exact a8|(dsimp only [gp,fH];omega)|exact a7|(show s.size≤18;have:=h9 w2;omega)|skip
 ·have e:aD s=(0,false):=SE (by have:=aJ (p:=(s.size:Int)>9) w1;omega)
  refine⟨[],[],_,_,_,rfl,az,(),aa,?_,?_,rfl⟩
  ·(show _=gu s);unfold gu;first|(rw [e];rfl)|rfl
  ·rfl
 ·have e:aD s=(0,false):=by rw [wh (h9 w2),show (!(jc s).2)=true from w5];rfl
  refine⟨[],[],_,_,_,rfl,az,(),aa,?_,?_,rfl⟩
  ·(show _=gu s);unfold gu;first|(rw [e];rfl)|rfl
  ·rfl
 ·have e:aD s=(0,false):=by rw [wh (h9 w2),show decide (cl (jc s).1≠s)=true from w9,ZC4];rfl
  refine⟨[],[],_,_,_,rfl,az,(),aa,?_,?_,rfl⟩
  ·(show _=gu s);unfold gu;first|(rw [e];rfl)|rfl
  ·rfl
 ·have e:aD s=((jc s).1,true):=by rw [wh (h9 w2),show (!(jc s).2)=false from w6,show decide (cl (jc s).1≠s)=false from dy];rfl
  refine⟨[],[],_,_,_,rfl,az,(),aa,?_,?_,rfl⟩
  ·(show _=gu s);unfold gu;first|(rw [e];rfl)|rfl
  ·rfl
def dJ (p:Pt):Prop:=True
def xY (p:Pt):AV:=.s (.xs 1 1 0 5)
def B9 (p:Pt):List AV:=[.a [.int p.1,.int p.2.1,.int p.2.2.1,.int p.2.2.2.1,.int p.2.2.2.2],.a [.bp 0 0,.bp 0 1,.bp 0 2,.bp 0 3,.bp 0 4]]
def eD:ct where
 A:=[.b 0]
 B:=[.a [.int,.int,.int,.int,.int]]
 pre:=fun x b=>dJ b
 r:=fun x b _=>xY b
 o:=fun x b _=>B9 b
 nf:=1
 ro:=true
theorem zL:Has Tryz.prog 234 eD:=by
 refine Has.fu zT zF zF (l:=[]) trivial Tryz.func234 ?_
 rintro _ ⟨(p1:Int),(p2:Int),(p3:Int),(p4:Int),(p5:Int)⟩ (hp:dJ (p1,p2,p3,p4,p5))
 show vc _ _ _ _ (entry [.s (.bp 0 0)] [.a [.int p1,.int p2,.int p3,.int p4,.int p5]]) _
 refine⟨Sq0,Sq3,rfl,Sq3,Sq4,rfl,Sq4,Sq5,rfl,Sq0,Sq6,rfl,Sq6,Sq7,rfl,Sq7,Sq8,rfl,Sq0,Sq9,rfl,Sq9,Sq10,rfl,Sq10,Sq11,rfl,Sq0,Sq12,rfl,Sq12,Sq13,rfl,Sq13,Sq14,rfl,Sq0,Sq15,rfl,Sq15,Sq16,rfl,Sq16,Sq17,rfl,[.s 5,.s 8,.s 11,.s 14,.s 17,.b 1018],[.s 18,.b 1018],rfl,Sq18,Sq2,rfl,?_⟩
 all_goals first|refine aw ?_|refine ax ?_|exact a8|exact a7|skip
 refine⟨[1018],[],_,_,_,rfl,az,(),aa,?_,?_,rfl⟩
 ·(show _=xY (p1,p2,p3,p4,p5));unfold xY;first|rfl
 ·(show _=B9 (p1,p2,p3,p4,p5));unfold B9;first|rfl
end GL
namespace GL
theorem sA {n:Int}(h0:0≤n) (h1:n≤999999999):cl n=bY n:=by unfold cl;rw [show iB n 0 999999999=true from cD.2 ⟨h0,h1⟩];rfl
theorem VK {p:Pt}(h:aZ p=true) (h2:au p=false):(0≤p.1∧p.1≤999999999)∧(0≤p.2.1∧p.2.1≤999999999)∧(0≤p.2.2.1∧p.2.2.1≤999999999)∧(0≤p.2.2.2.1∧p.2.2.2.1≤999999999)∧(0≤p.2.2.2.2∧p.2.2.2.2≤999999999):=by
 unfold aZ at h
 rw [h2,Bool.false_or] at h
 simp only [ZA9,cD] at h
 omega
theorem agJ (a b c d e:ByteArray):lb (zO ⟨#[46]⟩ [a,b,c,d,e])=lb a++46::(lb b++46::(lb c++46::(lb d++46::lb e))):=by
 rw [FD]
 show Lib.join [lb a,lb b,lb c,lb d,lb e] [46]=_
 simp [Lib.join,List.intercalate]
theorem agK (a b c d:ByteArray):lb (zO ⟨#[44]⟩ [a,b,c,d])=lb a++44::(lb b++44::(lb c++44::lb d)):=by
 rw [FD]
 show Lib.join [lb a,lb b,lb c,lb d] [44]=_
 simp [Lib.join,List.intercalate]
theorem RJ {p:Pt}(h:aZ p=true) (h2:au p=false):bc p=zO ⟨#[46]⟩ [cl p.1,cl p.2.1,cl p.2.2.1,cl p.2.2.2.1,cl p.2.2.2.2]:=by
 obtain⟨h1,h3,h4,h5,h6⟩:=VK h h2
 apply vB
 rw [wN h h2,agJ,sA h1.1 h1.2,sA h3.1 h3.2,sA h4.1 h4.2,sA h5.1 h5.2,sA h6.1 h6.2]
def acS (p:Pt):List ByteArray:=[cl p.1,cl p.2.1,cl p.2.2.1,cl p.2.2.2.1,cl p.2.2.2.2]
theorem nX (n:Int):(cl n).size≤12:=by
 unfold cl
 cases h:iB n 0 999999999 with
 |true=>exact dc (by have:=(cD.1 h).2;omega)
 |false=>exact ZA7 _
theorem abL (a b c d e:Int):(Lib.join ([cl a,cl b,cl c,cl d,cl e].map (·.data.toList)) (⟨#[46]⟩:ByteArray).data.toList).length≤1000000:=by
 have h:=congrArg List.length (agJ (cl a) (cl b) (cl c) (cl d) (cl e))
 have e1:=nX a;have e2:=nX b;have e3:=nX c;have e4:=nX d;have e5:=nX e
 rw [fo] at e1 e2 e3 e4 e5
 rw [FD] at h
 have h':(Lib.join ([cl a,cl b,cl c,cl d,cl e].map (·.data.toList)) (⟨#[46]⟩:ByteArray).data.toList).length=_:=h
 rw [h']
 simp only [ZA0,ZA1]
 omega
def eH (p:Pt):Prop:=True
def jj (p:Pt):AV:=.s (.str (bc p))
def V9 (p:Pt):List AV:=[]
def eS:ct where
 A:=[.a [.int,.int,.int,.int,.int]]
 B:=[]
 pre:=fun x b=>eH x
 r:=fun x b _=>jj x
 o:=fun x b _=>V9 x
theorem wW:Has Tryz.prog 235 eS:=by
 refine Has.zC zT zF zF (l:=[(23,bH),(64,cC),(234,eD),(241,gp),(237,kW)]) ⟨eP,jv,zL,CR,PH,aa⟩ Tryz.func235 ?_
 rintro⟨(p1:Int),(p2:Int),(p3:Int),(p4:Int),(p5:Int)⟩ _ (hp:eH (p1,p2,p3,p4,p5))
 show vc _ _ _ _ (entry [.a [.int p1,.int p2,.int p3,.int p4,.int p5]] []) _
 refine⟨⟨⟨⟨aa,aa,aa,aa,aa,aa⟩,aa⟩,aa⟩,fun x1 w2=>⟨fun w3=>?_,fun w4=>⟨⟨⟨⟨aa,aa,aa,aa,aa,aa⟩,aa⟩,aa⟩,fun x5 w6=>⟨fun w7=>?_,fun w8=>⟨⟨⟨⟨aa,aa⟩,aa⟩,fun x9 dy=>?_⟩,fun kB dK=>?_⟩⟩⟩⟩⟩
 all_goals first|refine aw ?_|refine ax ?_|exact a8|(dsimp only [bH,cc,cC,cS,eD,dJ,gp,fH];omega)|exact a7|skip
 ·have e:bc (p1,p2,p3,p4,p5)=⟨#[]⟩:=by unfold bc;rw [show aZ (p1,p2,p3,p4,p5)=false from xq w3];rfl
  refine⟨[],[],_,_,_,rfl,az,(),aa,?_,?_,rfl⟩
  ·(show _=jj (p1,p2,p3,p4,p5));unfold jj;first|(rw [e];rfl)|rfl
  ·rfl
 ·have e:bc (p1,p2,p3,p4,p5)=⟨#[45]⟩:=qY w7
  refine⟨[],[],_,_,_,rfl,az,(),aa,?_,?_,rfl⟩
  ·(show _=jj (p1,p2,p3,p4,p5));unfold jj;first|(rw [e];rfl)|rfl
  ·rfl
 ·have cH:aZ (p1,p2,p3,p4,p5)=true:=cM w4
  have hho:au (p1,p2,p3,p4,p5)=false:=w8
  refine l4 (l:=[(23,bH),(64,cC),(234,eD),(241,gp),(237,kW)]) (ex:=zT) (wr:=zF) (pt:=zF) ⟨eP,jv,zL,CR,PH,aa⟩ [.s 13,.s 14,.b 1001,.b 140000] (fun n:Nat=>match n with |0=>[(.s 3,.s (.v (.slice none 0 0))),(.s 15,.int 0)] |n+1=>[(.s 3,.s (.xs 1019 1 0 (n+1))),(.s 15,.int ((n+1:Nat):Int)),(.b 1019,.rs ab ((acS (p1,p2,p3,p4,p5)).take (n+1)))]) (fun n=>n≤5) (fun n=>5-n) 0 [] (ZA7 _) dN ?_
  rintro n (hn:n≤5)
  have h5:n=0∨n=1∨n=2∨n=3∨n=4∨n=5:=by omega
  rcases h5 with rfl |rfl |rfl |rfl |rfl |rfl
  ·refine⟨fun w1=>⟨⟨?_,?_⟩,⟨⟨aa,aa⟩,aa⟩,fun x2 w3=>⟨aa,⟨⟨?_,?_⟩,?_,?_⟩,⟨?_,?_⟩,?_⟩⟩,fun w4=>⟨⟨⟨aa,aa,aa⟩,?_,?_⟩,fun x5 w6=>?_⟩⟩
   all_goals first|(exfalso;simp only [decide_eq_true_eq,decide_eq_false_iff_not] at *;omega)|refine aw ?_|refine ax ?_|exact a8|(dsimp only [bH,cc,cC,cS,eD,dJ,gp,fH];omega)|exact a7|(show (0:Nat)+1≤1048576;omega)|skip
   ·refine⟨(1),[(1019,1025)],?_,?_,?_⟩
    rotate_right
    ·exact bW
    ·show (1:Nat)≤5;omega
    ·show 5-1<5-0;omega
  ·refine⟨fun w1=>⟨⟨?_,?_⟩,⟨⟨aa,aa⟩,aa⟩,fun x2 w3=>⟨aa,⟨⟨?_,?_⟩,?_,?_⟩,⟨?_,?_⟩,?_⟩⟩,fun w4=>⟨⟨⟨⟨?_,?_⟩,aa,aa⟩,?_,?_⟩,fun x5 w6=>?_⟩⟩
   all_goals first|(exfalso;simp only [decide_eq_true_eq,decide_eq_false_iff_not] at *;omega)|refine aw ?_|refine ax ?_|exact a8|(dsimp only [bH,cc,cC,cS,eD,dJ,gp,fH];omega)|exact a7|(show (1:Nat)+1≤1048576;omega)|skip
   ·refine⟨(2),[(1019,1025)],?_,?_,?_⟩
    rotate_right
    ·exact bW
    ·show (2:Nat)≤5;omega
    ·show 5-2<5-1;omega
  ·refine⟨fun w1=>⟨⟨?_,?_⟩,⟨⟨aa,aa⟩,aa⟩,fun x2 w3=>⟨aa,⟨⟨?_,?_⟩,?_,?_⟩,⟨?_,?_⟩,?_⟩⟩,fun w4=>⟨⟨⟨⟨?_,?_⟩,aa,aa⟩,?_,?_⟩,fun x5 w6=>?_⟩⟩
   all_goals first|(exfalso;simp only [decide_eq_true_eq,decide_eq_false_iff_not] at *;omega)|refine aw ?_|refine ax ?_|exact a8|(dsimp only [bH,cc,cC,cS,eD,dJ,gp,fH];omega)|exact a7|(show (2:Nat)+1≤1048576;omega)|skip
   ·refine⟨(3),[(1019,1025)],?_,?_,?_⟩
    rotate_right
    ·exact bW
    ·show (3:Nat)≤5;omega
    ·show 5-3<5-2;omega
  ·refine⟨fun w1=>⟨⟨?_,?_⟩,⟨⟨aa,aa⟩,aa⟩,fun x2 w3=>⟨aa,⟨⟨?_,?_⟩,?_,?_⟩,⟨?_,?_⟩,?_⟩⟩,fun w4=>⟨⟨⟨⟨?_,?_⟩,aa,aa⟩,?_,?_⟩,fun x5 w6=>?_⟩⟩
   all_goals first|(exfalso;simp only [decide_eq_true_eq,decide_eq_false_iff_not] at *;omega)|refine aw ?_|refine ax ?_|exact a8|(dsimp only [bH,cc,cC,cS,eD,dJ,gp,fH];omega)|exact a7|(show (3:Nat)+1≤1048576;omega)|skip
   ·refine⟨(4),[(1019,1025)],?_,?_,?_⟩
    rotate_right
    ·exact bW
    ·show (4:Nat)≤5;omega
    ·show 5-4<5-3;omega
  ·refine⟨fun w1=>⟨⟨?_,?_⟩,⟨⟨aa,aa⟩,aa⟩,fun x2 w3=>⟨aa,⟨⟨?_,?_⟩,?_,?_⟩,⟨?_,?_⟩,?_⟩⟩,fun w4=>⟨⟨⟨⟨?_,?_⟩,aa,aa⟩,?_,?_⟩,fun x5 w6=>?_⟩⟩
   all_goals first|(exfalso;simp only [decide_eq_true_eq,decide_eq_false_iff_not] at *;omega)|refine aw ?_|refine ax ?_|exact a8|(dsimp only [bH,cc,cC,cS,eD,dJ,gp,fH];omega)|exact a7|(show (4:Nat)+1≤1048576;omega)|skip
   ·refine⟨(5),[(1019,1025)],?_,?_,?_⟩
    rotate_right
    ·exact bW
    ·show (5:Nat)≤5;omega
    ·show 5-5<5-4;omega
  ·refine⟨fun w1=>⟨⟨?_,?_⟩,?_⟩,fun w2=>⟨⟨⟨⟨?_,?_⟩,aa,aa⟩,?_,?_⟩,fun x3 w4=>?_⟩⟩
   all_goals first|(exfalso;simp only [decide_eq_true_eq,decide_eq_false_iff_not] at *;omega)|refine aw ?_|refine ax ?_|exact a8|(dsimp only [bH,cc,cC,cS,eD,dJ,gp,fH];omega)|exact a7|(exact abL p1 p2 p3 p4 p5)|(show (5:Nat)≤1000000;omega)|skip
   ·have e:bc (p1,p2,p3,p4,p5)=zO ⟨#[46]⟩ (acS (p1,p2,p3,p4,p5)):=RJ cH hho
    refine⟨[],[],_,_,_,rfl,az,(),aa,?_,?_,rfl⟩
    ·(show _=jj (p1,p2,p3,p4,p5));unfold jj;first|(rw [e];rfl)|rfl
    ·rfl
end GL
namespace GL
def X2 (c:UInt8):List (List UInt8)→List UInt8
 |[]=>[]
 |[x]=>x
 |x::y::l=>x++c::X2 c (y::l)
theorem NH (c:UInt8):∀l:List UInt8,X2 c (mo c l)=l
 |[]=>rfl
 |x::l=>by
  have ih:=NH c l
  rw [r7]
  split
  ·rename_i hx
   cases e:mo c l with
   |nil=>exact absurd e (zj c l)
   |cons w a=>rw [e] at ih;show []++c::X2 c (w::a)=_;rw [ih,hx];rfl
  ·cases e:mo c l with
   |nil=>exact absurd e (zj c l)
   |cons w a=>
    rw [e] at ih
    cases a with
    |nil=>show x::w=_;rw [show w=l from ih]
    |cons v a=>show x::(w++c::X2 c (v::a))=_;rw [show w++c::X2 c (v::a)=l from ih]
theorem aao (s:ByteArray) (c:UInt8) {l:List ByteArray}(h:bn s c.toNat=l):X2 c (l.map lb)=lb s:=by
 rw [←h,JQ];exact NH c _
theorem CC:∀(l:List ByteArray) (acc:List Int) (j:Nat),j<l.length→(aD (nth ab l j)).2=false→lk l acc=none
 |t::l,acc,0,_,h=>by rw [lk,show (aD t).2=false from h];rfl
 |t::l,acc,j+1,hj,h=>by
  rw [lk]
  cases (aD t).2 with
  |false=>rfl
  |true=>exact CC l _ j (by simpa using hj) h
theorem vu {t:ByteArray}(h:(aD t).2=true):aD t=((aD t).1,true):=by rw [←h]
def OB (l:List ByteArray):Pt:=((aD (nth ab l 0)).1,(aD (nth ab l 1)).1,(aD (nth ab l 2)).1,(aD (nth ab l 3)).1,(aD (nth ab l 4)).1)
theorem G3 {s:ByteArray}(h0:decide (s=⟨#[45]⟩)=false) (h5:(bn s 46).length=5) (hk:∀j,j<5→(aD (nth ab (bn s 46) j)).2=true):bQ s=bif decide (bc (OB (bn s 46))≠s) then (bN,false) else (OB (bn s 46),true):=by
 rw [sd h0 (by rw [h5];rfl)]
 have hs0:s≠⟨#[45]⟩:=aA h0
 have aej:=fun l h=>aao s 46 (l:=l) h
 have fB:s≠⟨#[]⟩:=by
  rintro rfl
  exact absurd h5 (by decide)
 change (∀l,bn s 46=l→X2 46 (l.map lb)=lb s) at aej
 match hl:bn s 46,h5 with
 |[a,b,c,d,e],_=>
  rw [hl] at hk
  have ha:=vu (t:=a) (hk 0 (by omega))
  have hb:=vu (t:=b) (hk 1 (by omega))
  have hc:=vu (t:=c) (hk 2 (by omega))
  have hd:=vu (t:=d) (hk 3 (by omega))
  have he:=vu (t:=e) (hk 4 (by omega))
  have hn:lk [a,b,c,d,e] []=some [(aD a).1,(aD b).1,(aD c).1,(aD d).1,(aD e).1]:=by
   simp [lk,show (aD a).2=true from hk 0 (by omega),show (aD b).2=true from hk 1 (by omega),show (aD c).2=true from hk 2 (by omega),show (aD d).2=true from hk 3 (by omega),show (aD e).2=true from hk 4 (by omega)]
  rw [BY hn]
  show pW [(aD a).1,(aD b).1,(aD c).1,(aD d).1,(aD e).1]=bif decide (bc (lK [(aD a).1,(aD b).1,(aD c).1,(aD d).1,(aD e).1])≠s) then (bN,false) else (lK [(aD a).1,(aD b).1,(aD c).1,(aD d).1,(aD e).1],true)
  generalize hp:lK [(aD a).1,(aD b).1,(aD c).1,(aD d).1,(aD e).1]=p
  have hf:∀r,lK [(aD a).1,(aD b).1,(aD c).1,(aD d).1,(aD e).1]=r→r=p:=fun r h=>h ▸ hp
  cases hh:au p with
  |true=>
   rw [RM (by rw [hp];exact hh),qY hh,decide_eq_true (p:=¬(⟨#[45]⟩:ByteArray)=s) (fun h=>hs0 h.symm)];rfl
  |false=>
   cases ho:aZ p with
   |false=>
    rw [RN (by rw [hp,ho];rfl),show bc p=⟨#[]⟩ by unfold bc;rw [ho];rfl,decide_eq_true (p:=¬(⟨#[]⟩:ByteArray)=s) (fun h=>fB h.symm)];rfl
   |true=>
    rw [G5 (by rw [hp,ho];rfl) (by rw [hp];exact hh),hp]
    have e1:bc p=s:=by
     apply vB
     rw [wN ho hh,←aej _ hl]
     have q1:=(num_inv ha).1;have q2:=(num_inv hb).1;have q3:=(num_inv hc).1;have q4:=(num_inv hd).1;have q5:=(num_inv he).1
     rw [show p.1=(aD a).1 by rw [←hp];rfl,show p.2.1=(aD b).1 by rw [←hp];rfl,show p.2.2.1=(aD c).1 by rw [←hp];rfl,show p.2.2.2.1=(aD d).1 by rw [←hp];rfl,show p.2.2.2.2=(aD e).1 by rw [←hp];rfl,←q1,←q2,←q3,←q4,←q5]
     rfl
    rw [decide_eq_false (p:=¬bc p=s) (fun h=>h e1)];rfl
def akz (l:List ByteArray) (n:Nat):List SV:=[.int (bif Nat.blt 0 n then (aD (nth ab l 0)).1 else 0),.int (bif Nat.blt 1 n then (aD (nth ab l 1)).1 else 0),.int (bif Nat.blt 2 n then (aD (nth ab l 2)).1 else 0),.int (bif Nat.blt 3 n then (aD (nth ab l 3)).1 else 0),.int (bif Nat.blt 4 n then (aD (nth ab l 4)).1 else 0)]
def lh (s:ByteArray):Prop:=s.size≤1000000
def cJ (s:ByteArray):AV:=.t [ptA (bQ s).1,.s (.q (bQ s).2)]
def WA (s:ByteArray):List AV:=[]
def pw:ct where
 A:=[.s .str]
 B:=[]
 pre:=fun x b=>lh x
 r:=fun x b _=>cJ x
 o:=fun x b _=>WA x
theorem MD:Has Tryz.prog 193 pw:=by
 refine Has.zC zT zF zF (l:=[(192,iG),(234,eD),(204,iU),(235,eS)]) ⟨FG,zL,ME,wW,aa⟩ Tryz.func193 ?_
 rintro (s:ByteArray) _ (hp:lh s)
 show vc _ _ _ _ (entry [.str s] []) _
 unfold lh at hp
 have hsp:ib s ⟨#[46]⟩=bn s 46:=QM s 46
 refine⟨fun w1=>?_,fun w2=>⟨⟨⟨aa,aa,aa⟩,?_,?_⟩,fun x3 w4=>⟨⟨⟨⟨aa,aa⟩,aa⟩,fun x5 w6=>?_⟩,fun x7 w8=>⟨fun w9=>?_,fun dy=>?_⟩⟩⟩⟩
 all_goals first|refine aw ?_|refine ax ?_|exact a8|(dsimp only [eD,dJ,iU,gx,eS,eH];omega)|exact a7|(show 1≤(1:Nat);omega)|skip
 ·refine⟨[],[],_,_,_,rfl,az,(),aa,?_,?_,rfl⟩
  ·(show _=cJ s);unfold cJ;first|(rw [wG (by assumption)];rfl)|rfl
  ·rfl
 ·have e:=w9
  rw [hsp] at e
  refine⟨[],[],_,_,_,rfl,az,(),aa,?_,?_,rfl⟩
  ·(show _=cJ s);unfold cJ;first|(rw [B0 w2 e];rfl)|rfl
  ·rfl
 ·have h0:=w2
  rw [hsp] at dy
  have h5:(bn s 46).length=5:=by have:=aA (p:=((bn s 46).length:Int)≠5) dy;omega
  refine l4 (l:=[(192,iG),(234,eD),(204,iU),(235,eS)]) (ex:=zT) (wr:=zF) (pt:=zF) ⟨FG,zL,ME,wW,trivial⟩ [.s 0,.s 2,.b 1002,.s 4,.s 6,.b 170000,.s 23,.s 24] (fun n:Nat=>[(.s 25,.int n),(.b 1004,.a (akz (ib s ⟨#[46]⟩) n))]) (fun n=>n≤5∧∀j,j<n→(aD (nth ab (ib s ⟨#[46]⟩) j)).2=true) (fun n=>5-n) 0 [] ⟨ZA7 _,fun j hj=>absurd hj (by omega)⟩ dN ?_
  rintro n ⟨(hn:n≤5),hk⟩
  have dj:∀n,n<5→(nth ab (ib s ⟨#[46]⟩) n).size≤1000000:=fun n h=>by rw [hsp];exact ZB0 (oZ (s:=s) (c:=46) _ (bS (ek:=ab) (by omega))) hp
  have hL:((ib s ⟨#[46]⟩).length:Int)=5:=by rw [hsp,h5];rfl
  have iC:∀n,n<5→(!(aD (nth ab (ib s ⟨#[46]⟩) n)).2)=true→bQ s=(bN,false):=fun n hn h=>by
   rw [hsp] at h
   rw [sd h0 dy,BZ (CC _ [] n (by rw [h5];exact hn) (xq h))]
  have cP:∀n,(∀j,j<n→(aD (nth ab (ib s ⟨#[46]⟩) j)).2=true)→(!(aD (nth ab (ib s ⟨#[46]⟩) n)).2)=false→∀j,j<n+1→(aD (nth ab (ib s ⟨#[46]⟩) j)).2=true:=fun n h h2 j hj=>by
   by_cases hjn:j=n
   ·rw [hjn];exact cM h2
   ·exact h j (by omega)
  have af3:(∀j,j<5→(aD (nth ab (ib s ⟨#[46]⟩) j)).2=true)→bQ s=bif decide (bc (OB (ib s ⟨#[46]⟩))≠s) then (bN,false) else (OB (ib s ⟨#[46]⟩),true):=by
   rw [hsp];exact G3 h0 h5
  have h6:n=0∨n=1∨n=2∨n=3∨n=4∨n=5:=by omega
  rcases h6 with rfl |rfl |rfl |rfl |rfl |rfl
  ·refine⟨fun w1=>⟨⟨?_,?_⟩,⟨⟨aa,aa⟩,?_⟩,fun x2 w3=>⟨fun w4=>?_,fun w5=>⟨⟨?_,?_⟩,⟨?_,?_⟩,?_⟩⟩⟩,fun w6=>⟨⟨⟨⟨aa,aa,aa,aa,aa,aa⟩,aa⟩,aa⟩,fun x7 w8=>⟨fun w9=>?_,fun dy=>?_⟩⟩⟩
   all_goals first|(exfalso;simp only [decide_eq_true_eq,decide_eq_false_iff_not] at *;omega)|refine aw ?_|refine ax ?_|exact a8|(dsimp only [eD,dJ,iU,gx,eS,eH];omega)|exact a7|exact dj 0 (by omega)|skip
   ·refine⟨[],[],_,_,_,rfl,az,(),aa,?_,?_,rfl⟩
    ·(show _=cJ s);unfold cJ;first|(rw [iC 0 (by omega) w4];rfl)|rfl
    ·rfl
   ·refine⟨(1),[],?_,?_,?_⟩
    rotate_right
    ·exact bW
    ·exact⟨by omega,cP 0 hk w5⟩
    ·show 5-1<5-0;omega
  ·refine⟨fun w1=>⟨⟨?_,?_⟩,⟨⟨aa,aa⟩,?_⟩,fun x2 w3=>⟨fun w4=>?_,fun w5=>⟨⟨?_,?_⟩,⟨?_,?_⟩,?_⟩⟩⟩,fun w6=>⟨⟨⟨⟨aa,aa,aa,aa,aa,aa⟩,aa⟩,aa⟩,fun x7 w8=>⟨fun w9=>?_,fun dy=>?_⟩⟩⟩
   all_goals first|(exfalso;simp only [decide_eq_true_eq,decide_eq_false_iff_not] at *;omega)|refine aw ?_|refine ax ?_|exact a8|(dsimp only [eD,dJ,iU,gx,eS,eH];omega)|exact a7|exact dj 1 (by omega)|skip
   ·refine⟨[],[],_,_,_,rfl,az,(),aa,?_,?_,rfl⟩
    ·(show _=cJ s);unfold cJ;first|(rw [iC 1 (by omega) w4];rfl)|rfl
    ·rfl
   ·refine⟨(2),[],?_,?_,?_⟩
    rotate_right
    ·exact bW
    ·exact⟨by omega,cP 1 hk w5⟩
    ·show 5-2<5-1;omega
  ·refine⟨fun w1=>⟨⟨?_,?_⟩,⟨⟨aa,aa⟩,?_⟩,fun x2 w3=>⟨fun w4=>?_,fun w5=>⟨⟨?_,?_⟩,⟨?_,?_⟩,?_⟩⟩⟩,fun w6=>⟨⟨⟨⟨aa,aa,aa,aa,aa,aa⟩,aa⟩,aa⟩,fun x7 w8=>⟨fun w9=>?_,fun dy=>?_⟩⟩⟩
   all_goals first|(exfalso;simp only [decide_eq_true_eq,decide_eq_false_iff_not] at *;omega)|refine aw ?_|refine ax ?_|exact a8|(dsimp only [eD,dJ,iU,gx,eS,eH];omega)|exact a7|exact dj 2 (by omega)|skip
   ·refine⟨[],[],_,_,_,rfl,az,(),aa,?_,?_,rfl⟩
    ·(show _=cJ s);unfold cJ;first|(rw [iC 2 (by omega) w4];rfl)|rfl
    ·rfl
   ·refine⟨(3),[],?_,?_,?_⟩
    rotate_right
    ·exact bW
    ·exact⟨by omega,cP 2 hk w5⟩
    ·show 5-3<5-2;omega
  ·refine⟨fun w1=>⟨⟨?_,?_⟩,⟨⟨aa,aa⟩,?_⟩,fun x2 w3=>⟨fun w4=>?_,fun w5=>⟨⟨?_,?_⟩,⟨?_,?_⟩,?_⟩⟩⟩,fun w6=>⟨⟨⟨⟨aa,aa,aa,aa,aa,aa⟩,aa⟩,aa⟩,fun x7 w8=>⟨fun w9=>?_,fun dy=>?_⟩⟩⟩
   all_goals first|(exfalso;simp only [decide_eq_true_eq,decide_eq_false_iff_not] at *;omega)|refine aw ?_|refine ax ?_|exact a8|(dsimp only [eD,dJ,iU,gx,eS,eH];omega)|exact a7|exact dj 3 (by omega)|skip
   ·refine⟨[],[],_,_,_,rfl,az,(),aa,?_,?_,rfl⟩
    ·(show _=cJ s);unfold cJ;first|(rw [iC 3 (by omega) w4];rfl)|rfl
    ·rfl
   ·refine⟨(4),[],?_,?_,?_⟩
    rotate_right
    ·exact bW
    ·exact⟨by omega,cP 3 hk w5⟩
    ·show 5-4<5-3;omega
  ·refine⟨fun w1=>⟨⟨?_,?_⟩,⟨⟨aa,aa⟩,?_⟩,fun x2 w3=>⟨fun w4=>?_,fun w5=>⟨⟨?_,?_⟩,⟨?_,?_⟩,?_⟩⟩⟩,fun w6=>⟨⟨⟨⟨aa,aa,aa,aa,aa,aa⟩,aa⟩,aa⟩,fun x7 w8=>⟨fun w9=>?_,fun dy=>?_⟩⟩⟩
   all_goals first|(exfalso;simp only [decide_eq_true_eq,decide_eq_false_iff_not] at *;omega)|refine aw ?_|refine ax ?_|exact a8|(dsimp only [eD,dJ,iU,gx,eS,eH];omega)|exact a7|exact dj 4 (by omega)|skip
   ·refine⟨[],[],_,_,_,rfl,az,(),aa,?_,?_,rfl⟩
    ·(show _=cJ s);unfold cJ;first|(rw [iC 4 (by omega) w4];rfl)|rfl
    ·rfl
   ·refine⟨(5),[],?_,?_,?_⟩
    rotate_right
    ·exact bW
    ·exact⟨by omega,cP 4 hk w5⟩
    ·show 5-5<5-4;omega
  ·refine⟨fun w1=>⟨⟨?_,?_⟩,⟨⟨aa,aa⟩,?_⟩,fun x2 w3=>⟨fun w4=>?_,fun w5=>⟨⟨?_,?_⟩,?_⟩⟩⟩,fun w6=>⟨⟨⟨⟨aa,aa,aa,aa,aa,aa⟩,aa⟩,aa⟩,fun x7 w8=>⟨fun w9=>?_,fun dy=>?_⟩⟩⟩
   all_goals first|(exfalso;simp only [decide_eq_true_eq,decide_eq_false_iff_not] at *;omega)|refine aw ?_|refine ax ?_|exact a8|(dsimp only [eD,dJ,iU,gx,eS,eH];omega)|exact a7|skip
   ·have e:bQ s=(bN,false):=by rw [af3 hk,show decide (bc (OB (ib s ⟨#[46]⟩))≠s)=true from w9];rfl
    refine⟨[],[],_,_,_,rfl,az,(),aa,?_,?_,rfl⟩
    ·(show _=cJ s);unfold cJ;first|(rw [e];rfl)|rfl
    ·rfl
   ·have e:bQ s=(OB (ib s ⟨#[46]⟩),true):=by rw [af3 hk,show decide (bc (OB (ib s ⟨#[46]⟩))≠s)=false from dy];rfl
    refine⟨[],[],_,_,_,rfl,az,(),aa,?_,?_,rfl⟩
    ·(show _=cJ s);unfold cJ;first|(rw [e];rfl)|rfl
    ·rfl
end GL
end Go.Proofs.YtkgpljpmdkflmaaGreatDoor
