/- A drawn law returns true for every code (its row lists package variables, tied by the card): part 41. -/
import Derived.Lib.CountLaws
import Derived.Lib.CutLaws
import Derived.Lib.IndexBytes
import Derived.Lib.IndexLaws
import Derived.Lib.Join
import Derived.Lib.SplitLaws
import Derived.Test.YtnkbdhldiinfdaaGreatDoorPan
import Derived.Test.YtnkbdhldiinfdaaGreatDoorPao
import Derived.Test.YtnkbdhldiinfdaaGreatDoorPaz
import Derived.Test.YtnkbdhldiinfdaaGreatDoorPbn
set_option maxHeartbeats 20000000
set_option maxRecDepth 100000
set_option linter.all false
namespace Go.Proofs.YtnkbdhldiinfdaaGreatDoor
namespace GL
theorem ajO (k:Nat):Lib.decDigits k=lb (dec k):=by
 induction k using Nat.strongRecOn with
 |_ k ih=>
  by_cases h:k<10
  ·rw [Lib.decDigits,dif_pos h,mU h]
  ·rw [Lib.decDigits,dif_neg h,pb h,ih (k / 10) (by omega)]
theorem abP {n:Int}(h:0≤n):ad4 n=bX n:=by
 apply vx
 show Lib.itoa n=lb (dec n.toNat)
 unfold Lib.itoa
 rw [if_neg (by omega),ajO]
def IS (b:UInt8):Prop:=48≤b.toNat∧b.toNat≤57
theorem EG:∀(l:List UInt8) (acc m:Nat),Lib.decFrom acc l=some m→(∀b∈l,IS b)∧(m:Int)=l.foldl (fun n b=>10*n+((b.toNat:Int)-48)) (acc:Int)
 |[],acc,m,h=>by
  cases h
  refine⟨fun b hb=>?_,rfl⟩
  cases hb
 |b::l,acc,m,h=>by
  unfold Lib.decFrom at h
  split at h
  ·rename_i d hd
   unfold Lib.digitVal at hd
   split at hd
   ·rename_i hb
    cases hd
    obtain⟨h1,h2⟩:=EG l _ _ h
    refine⟨fun c hc=>?_,?_⟩
    ·rcases ZB8.1 hc with rfl |hc
     ·exact hb
     ·exact h1 c hc
    ·rw [h2,List.foldl_cons]
     congr 1
     have:=hb.1
     omega
   ·cases hd
  ·cases h
theorem JN:∀(l:List UInt8) (acc:Nat),(∀b∈l,IS b)→∃m,Lib.decFrom acc l=some m
 |[],acc,_=>⟨acc,rfl⟩
 |b::l,acc,h=>by
  unfold Lib.decFrom Lib.digitVal
  have hb:48≤b.toNat∧b.toNat≤57:=h b (List.mem_cons_self ..)
  rw [if_pos hb]
  exact JN l _ fun c hc=>h c (List.mem_cons_of_mem _ hc)
theorem afr (k:Nat):Lib.atoi (lb (dec k))=some (k:Int):=by
 obtain⟨b,l,e,_⟩:=xe k
 have hd:=tV k
 rw [e] at hd ⊢
 have hb:=hd b (List.mem_cons_self ..)
 unfold Lib.atoi
 have h1:¬(b==45)=true:=fun h=>by have:=beq_iff_eq.1 h;subst this;exact absurd hb.1 (by decide)
 have h2:¬(b==43)=true:=fun h=>by have:=beq_iff_eq.1 h;subst this;exact absurd hb.1 (by decide)
 show (if (b==45)=true then _ else if (b==43)=true then _ else _)=_
 rw [if_neg h1,if_neg h2]
 unfold Lib.decNat
 rw [if_neg (by simp)]
 obtain⟨m,hm⟩:=JN (b::l) 0 hd
 rw [hm]
 have h3:=(EG _ _ _ hm).2
 have h4:=QB k
 rw [e] at h4
 unfold qL at h4
 simp only [Option.map_some,Option.some.injEq]
 rw [h3]
 exact h4
theorem canon:∀(n:Nat) (l:List UInt8),l.length=n→l≠[]→(∀b∈l,IS b)→(∀b,l.head?=some b→b.toNat=48→l.length=1)→0≤qL l∧lb (dec (qL l).toNat)=l
 |0,l,hn,fA,_,_=>absurd (ZD4.1 hn) fA
 |n+1,l,hn,fA,hd,h0=>by
  obtain⟨l',b,rfl⟩:∃l' b,l=l'++[b]:=⟨l.dropLast,l.getLast fA,(List.dropLast_concat_getLast fA).symm⟩
  have hb:IS b:=hd b (by simp)
  have hv:qL (l'++[b])=10*qL l'+((b.toNat:Int)-48):=wu l' b
  have hbo:UInt8.ofNat (48+(b.toNat-48))=b:=by
   have h1:=hb.1
   rw [show 48+(b.toNat-48)=b.toNat by omega]
   exact UInt8.ofNat_toNat
  by_cases hl:l'=[]
  ·subst hl
   rw [hv]
   have h1:qL []=0:=rfl
   rw [h1]
   obtain⟨h2,h3⟩:=hb
   refine⟨by omega,?_⟩
   rw [show (10*0+((b.toNat:Int)-48)).toNat=b.toNat-48 by omega,mU (by omega),hbo]
   rfl
  ·have hn':l'.length=n:=by simpa using hn
   obtain⟨c,m,rfl⟩:∃c m,l'=c::m:=by
    cases l' with
    |nil=>exact absurd rfl hl
    |cons c m=>exact⟨c,m,rfl⟩
   have ajy:c.toNat≠48:=fun h=>by
    have:=h0 c rfl h
    simp at this
   obtain⟨g1,g2⟩:=canon n (c::m) hn' (by simp) (fun x hx=>hd x (List.mem_append_left _ hx)) (fun x hx akL=>by cases hx;exact absurd akL ajy)
   have oU:1≤(qL (c::m)).toNat:=by
    rcases Nat.eq_zero_or_pos (qL (c::m)).toNat with h |h
    ·rw [h,mU (by omega)] at g2
     cases g2
     exact absurd rfl ajy
    ·exact h
   obtain⟨h2,h3⟩:=hb
   rw [hv]
   refine⟨by omega,?_⟩
   have e:(10*qL (c::m)+((b.toNat:Int)-48)).toNat=10*(qL (c::m)).toNat+(b.toNat-48):=by omega
   rw [e,pb (by omega),show (10*(qL (c::m)).toNat+(b.toNat-48)) / 10=(qL (c::m)).toNat by omega,show (10*(qL (c::m)).toNat+(b.toNat-48)) % 10=b.toNat-48 by omega,g2,hbo]
theorem OZ:∀(f:Nat) (s:ByteArray) (k:Nat),k≤sA f s k∧sA f s k≤k+f∧∀i,k≤i→i<sA f s k→C9 s i=true
 |0,s,k=>⟨ZB5 _,ZB5 _,fun i h1 h2=>by unfold sA at h2;omega⟩
 |f+1,s,k=>by
  unfold sA
  cases h:C9 s k with
  |false=>simp only [cond_false];exact⟨ZB5 _,by omega,fun i h1 h2=>by omega⟩
  |true=>
   simp only [cond_true]
   obtain⟨h1,h2,h3⟩:=OZ f s (k+1)
   refine⟨by omega,by omega,fun i h4 h5=>?_⟩
   by_cases e:i=k
   ·subst e;exact h
   ·exact h3 i (by omega) h5
theorem aeU {s:ByteArray}{i:Nat}(h:C9 s i=true):i<(lb s).length∧∀b,(lb s)[i]?=some b→IS b:=by
 unfold C9 at h
 simp only [ZA9,decide_eq_true_eq] at h
 obtain⟨h1,_,h3,h4⟩:=h
 have hi:i<(lb s).length:=by rw [←fo];omega
 refine⟨hi,fun b hb=>?_⟩
 rw [ni,hb] at h3 h4
 simp only at h3 h4
 exact⟨by omega,by omega⟩
theorem num_inv {s:ByteArray}{m:Int}(h:aD s=(m,true)):s=bX m∧0≤m∧m≤999999999:=by
 unfold aD at h
 cases hc:decide ((CN s).2=0)||decide ((CN s).2≠(s.size:Int)) with
 |true=>rw [hc] at h;cases h
 |false=>
  rw [hc] at h
  simp only [cond_false,Prod.mk.injEq,and_true] at h
  simp only [ZE1,decide_eq_false_iff_not,ZE9] at hc
  obtain⟨hc1,hc2⟩:=hc
  obtain⟨b1,b2,b3⟩:=OZ 9 s 0
  have hnl:sA 9 s 0=cW s:=rfl
  rw [hnl] at b2 b3
  have hle:cW s≤(lb s).length:=by
   by_cases h0:cW s=0
   ·omega
   ·have:=(aeU (b3 (cW s-1) (ZA7 _) (by omega))).1
    omega
  unfold CN at h hc1 hc2
  cases hq:decide ((cW s:Int)>1)&&decide (bL s 0=48) with
  |true=>
   rw [hq] at hc2
   simp only [ZA9,decide_eq_true_eq] at hq
   have h1:(1:Int)=s.size:=hc2
   rw [fo] at h1
   have:=hq.1
   omega
  |false=>
   rw [hq] at h hc1 hc2
   have h1:(cW s:Int)=s.size:=hc2
   have h0:(cW s:Int)≠0:=hc1
   have h2:iN s (cW s)=m:=h
   rw [fo] at h1
   have hlen:cW s=(lb s).length:=by omega
   have af1:iN s (cW s)=qL (lb s):=by
    rw [CD s _ (by omega),hlen,List.take_length]
   have aga:∀b∈lb s,IS b:=fun b hb=>by
    obtain⟨i,hi⟩:=ZF3 hb
    have bU:i<(lb s).length:=(ZC0.1 hi).1
    exact (aeU (b3 i (ZA7 _) (by omega))).2 b hi
   have fA:lb s≠[]:=fun e=>by rw [e] at hlen;simp at hlen;omega
   obtain⟨g1,g2⟩:=canon _ (lb s) rfl fA aga (fun b hb h48=>by
    have hb0:(lb s)[0]?=some b:=by rw [←List.head?_eq_getElem?];exact hb
    have hby:bL s 0=48:=by rw [ni,hb0];simp only;omega
    rw [Bool.and_eq_false_iff] at hq
    rcases hq with hq |hq
    ·have:=aA hq;omega
    ·exact absurd hby (aA hq))
   rw [←h2,af1]
   refine⟨vx g2.symm,g1,?_⟩
   have hb9:(lb s).length≤9:=by omega
   have key:∀(l:List UInt8),(∀b∈l,IS b)→qL l<(10:Int) ^ l.length:=by
    intro l
    generalize hk:l.length=k
    induction k generalizing l with
    |zero=>intro _;rw [ZD4.1 hk];exact (by decide:(0:Int)<1)
    |succ k ih=>
     intro hd
     have fA:l≠[]:=fun e=>by subst e;simp at hk
     obtain⟨l',b,rfl⟩:∃l' b,l=l'++[b]:=⟨l.dropLast,l.getLast fA,(List.dropLast_concat_getLast fA).symm⟩
     have h1:=ih l' (by simpa using hk) (fun x hx=>hd x (List.mem_append_left _ hx))
     have h2:=(hd b (by simp)).2
     rw [wu,Int.pow_succ]
     omega
   have h5:=key (lb s) aga
   have h6:(10:Int) ^ (lb s).length≤10 ^ 9:=by exact_mod_cast Nat.pow_le_pow_right (by omega) hb9
   omega
def cj (n:Int):ByteArray:=bif ik n 0 999999999 then bX n else ⟨#[]⟩
theorem wb {s:ByteArray}(h9:s.size≤9):aD s=bif !(ja s).2||decide (cj (ja s).1≠s) then (0,false) else ((ja s).1,true):=by
 have uy:∀{r:Int×Bool},r=aD s→r.2=false→r=(0,false):=fun {r} e h=>by
  subst e
  unfold aD at h ⊢
  cases hq:decide ((CN s).2=0)||decide ((CN s).2≠(s.size:Int)) with
  |true=>rfl
  |false=>rw [hq] at h;cases h
 cases hg:(aD s).2 with
 |true=>
  have e:aD s=((aD s).1,true):=by rw [←hg]
  obtain⟨h1,h2,h3⟩:=num_inv e
  have ha:ja s=((aD s).1,true):=by
   unfold ja
   have:Lib.atoi s.data.toList=some (aD s).1:=by
    have h4:=afr (aD s).1.toNat
    rw [show (((aD s).1.toNat:Nat):Int)=(aD s).1 by omega] at h4
    rw [←h4]
    show Lib.atoi (lb s)=Lib.atoi (lb (bX (aD s).1))
    rw [←h1]
   rw [this]
  have hp:cj (aD s).1=s:=by
   unfold cj
   rw [show ik (aD s).1 0 999999999=true from cC.2 ⟨h2,h3⟩]
   exact h1.symm
  rw [ha]
  simp only [Bool.not_true,Bool.false_or]
  rw [hp]
  simpa using e
 |false=>
  rw [uy rfl hg]
  cases ha:(ja s).2 with
  |false=>rfl
  |true=>
   have hd:decide (cj (ja s).1≠s)=true:=by
    apply decide_eq_true
    intro hp
    unfold cj at hp
    cases hi:ik (ja s).1 0 999999999 with
    |false=>
     rw [hi] at hp
     have hp:(⟨#[]⟩:ByteArray)=s:=hp
     subst hp
     exact absurd ha (by decide)
    |true=>
     rw [hi] at hp
     have hp:bX (ja s).1=s:=hp
     obtain⟨g1,g2⟩:=cC.1 hi
     have:=eu g1 (by omega)
     rw [hp] at this
     rw [this] at hg
     cases hg
   rw [hd];rfl
theorem SH {s:ByteArray}(h9:9<s.size):aD s=(0,false):=by
 unfold aD
 obtain⟨_,b2,_⟩:=OZ 9 s 0
 have hnl:sA 9 s 0=cW s:=rfl
 rw [hnl] at b2
 have:decide ((CN s).2≠(s.size:Int))=true:=by
  apply decide_eq_true
  unfold CN
  cases decide ((cW s:Int)>1)&&decide (bL s 0=48) with
  |true=>show (1:Int)≠s.size;omega
  |false=>show (cW s:Int)≠s.size;omega
 rw [this,ZC4];rfl
theorem QP (c:UInt8):∀(n:Nat) (s:ByteArray),Lib.countB s ⟨#[c]⟩=n→(Lib.splitB ⟨#[c]⟩ 0 n s).map lb=mj c (lb s)
 |n,s,hn=>by
  rcases Lib.indexB_cases s ⟨#[c]⟩ with hix |⟨i,hix,n0⟩
  ·have h1:Lib.indexByte (lb s) c= -1:=by rw [←Lib.index_one];exact hix
   have uy:c∉lb s:=fun h=>by
    obtain⟨k,hk⟩:=ZF3 h
    exact Lib.indexByte_none h1 k hk
   rw [Lib.splitB_miss _ _ _ _ hix,gj c _ uy];rfl
  ·have h1:Lib.indexByte (lb s) c=i:=by rw [←Lib.index_one];exact hix
   obtain⟨h2,h3⟩:=Lib.indexByte_some h1
   have amk:=Lib.countB_hit s ⟨#[c]⟩ i (ZB5 _) hix
   obtain⟨m,rfl⟩:∃m,n=m+1:=⟨n-1,by omega⟩
   rw [Lib.splitB_hit _ _ _ _ i hix,ZE7,QP c m _ (by omega)]
   have dj:(⟨#[c]⟩:ByteArray).size=1:=rfl
   have hi:i<(lb s).length:=(ZC0.1 h2).1
   have e:lb s=(lb s).take i++c::(lb s).drop (i+1):=by
    have h4:(lb s)[i]=c:=by have:=ZB1 hi;rw [this] at h2;exact ZG8 h2
    rw [←h4,List.getElem_cons_drop,ZG1]
   have hni:c∉(lb s).take i:=fun h=>by
    obtain⟨k,hk⟩:=ZF3 h
    rw [List.getElem?_take] at hk
    split at hk
    ·rename_i bU;exact h3 k bU hk
    ·cases hk
   rw [e,lB,gj c _ hni]
   show lb (s.extract 0 (i+0))::mj c (lb (s.extract (i+1) s.size))=_
   rw [mT,mT,fo,List.take_length,Nat.add_zero,ZF0]
   rfl
theorem QO (s:ByteArray) (c:UInt8):ia s ⟨#[c]⟩=bm s c.toNat:=by
 apply yz
 rw [JR]
 exact QP c _ s rfl
theorem FE (sep:ByteArray) (l:List ByteArray):lb (zN sep l)=Lib.join (l.map lb) (lb sep):=rfl
end GL
namespace GL
def df (n:Int) (lo:Int) (hi:Int):Prop:=True
def u7 (n:Int) (lo:Int) (hi:Int):AV:=.s (.q (ik n lo hi))
def WA (n:Int) (lo:Int) (hi:Int):List AV:=[]
def cr:cn where
 A:=[.s .int,.s .int,.s .int]
 B:=[]
 pre:=fun x b=>df (x.1) (x.2.1) (x.2.2)
 r:=fun x b _=>u7 (x.1) (x.2.1) (x.2.2)
 o:=fun x b _=>WA (x.1) (x.2.1) (x.2.2)
theorem fM:Has Tryz.prog 32 cr:=by
 refine Has.fm zT zF zF (l:=[]) trivial Tryz.func32 ?_
 rintro⟨(n:Int),(lo:Int),(hi:Int)⟩ _ (hp:df n lo hi)
 show vc _ _ _ _ (entry [.int n,.int lo,.int hi] []) _
 refine⟨aa,fun w1=>?_,fun w2=>?_⟩
 all_goals first|refine aw ?_|refine ax ?_|exact a8|exact a7|skip
 all_goals
  refine⟨[],[],_,_,_,rfl,az,(),aa,?_,?_,rfl⟩
  ·show AV.q _=u7 n lo hi;unfold u7;refine congrArg AV.q ?_;(simp_all [ik]<;>omega)
  ·rfl
def yk (n:Int):Prop:=True
def xX (n:Int):AV:=.s (.q (ik n 8 63))
def abk (n:Int):List AV:=[]
def J3:cn where
 A:=[.s .int]
 B:=[]
 pre:=fun x b=>yk x
 r:=fun x b _=>xX x
 o:=fun x b _=>abk x
theorem ad0:Has Tryz.prog 86 J3:=by
 refine Has.fm zT zF zF (l:=[(32,cr)]) ⟨fM,aa⟩ Tryz.func86 ?_
 rintro (n:Int) _ (hp:yk n)
 show vc _ _ _ _ (entry [.int n] []) _
 refine⟨⟨tv4,aa⟩,fun x1 w2=>?_⟩
 all_goals first|refine aw ?_|refine ax ?_|exact a8|(dsimp only [cr,df];omega)|exact a7|skip
 refine⟨[],[],_,_,_,rfl,az,(),aa,?_,?_,rfl⟩
 ·(show _=xX n);unfold xX;first|rfl
 ·rfl
def zu (s:ByteArray):Prop:=True
def s5 (s:ByteArray):AV:=.s (.q (ik s.size 1 128))
def R2 (s:ByteArray):List AV:=[]
def X6:cn where
 A:=[.s .str]
 B:=[]
 pre:=fun x b=>zu x
 r:=fun x b _=>s5 x
 o:=fun x b _=>R2 x
theorem ahG:Has Tryz.prog 155 X6:=by
 refine Has.fm zT zF zF (l:=[(32,cr)]) ⟨fM,aa⟩ Tryz.func155 ?_
 rintro (s:ByteArray) _ (hp:zu s)
 show vc _ _ _ _ (entry [.str s] []) _
 refine⟨⟨tv4,aa⟩,fun x1 w2=>?_⟩
 all_goals first|refine aw ?_|refine ax ?_|exact a8|(dsimp only [cr,df];omega)|exact a7|skip
 refine⟨[],[],_,_,_,rfl,az,(),aa,?_,?_,rfl⟩
 ·(show _=s5 s);unfold s5;first|rfl
 ·rfl
def cb (p:Pt):Prop:=True
def s7 (p:Pt):AV:=.s (.q (au p))
def R6 (p:Pt):List AV:=[]
def bG:cn where
 A:=[.a [.int,.int,.int,.int,.int]]
 B:=[]
 pre:=fun x b=>cb x
 r:=fun x b _=>s7 x
 o:=fun x b _=>R6 x
theorem eO:Has Tryz.prog 56 bG:=by
 refine Has.fm zT zF zF (l:=[]) trivial Tryz.func56 ?_
 rintro⟨(p1:Int),(p2:Int),(p3:Int),(p4:Int),(p5:Int)⟩ _ (hp:cb (p1,p2,p3,p4,p5))
 show vc _ _ _ _ (entry [.a [.int p1,.int p2,.int p3,.int p4,.int p5]] []) _
 refine ?_
 all_goals first|refine aw ?_|refine ax ?_|exact a8|exact a7|skip
 refine⟨[],[],_,_,_,rfl,az,(),aa,?_,?_,rfl⟩
 ·(show _=s7 (p1,p2,p3,p4,p5));unfold s7;first|rfl
 ·rfl
def cR (p:Pt):Prop:=True
def xZ (p:Pt):AV:=.s (.q (aZ p))
def abm (p:Pt):List AV:=[]
def cB:cn where
 A:=[.a [.int,.int,.int,.int,.int]]
 B:=[]
 pre:=fun x b=>cR x
 r:=fun x b _=>xZ x
 o:=fun x b _=>abm x
theorem jt:Has Tryz.prog 55 cB:=by
 refine Has.fm zT zF zF (l:=[(56,bG),(86,J3),(32,cr)]) ⟨eO,ad0,fM,aa⟩ Tryz.func55 ?_
 rintro⟨(p1:Int),(p2:Int),(p3:Int),(p4:Int),(p5:Int)⟩ _ (hp:cR (p1,p2,p3,p4,p5))
 show vc _ _ _ _ (entry [.a [.int p1,.int p2,.int p3,.int p4,.int p5]] []) _
 refine⟨⟨⟨tv6,aa⟩,aa⟩,fun x1 w2=>⟨aa,fun w3=>?_,fun w4=>⟨⟨tv2,aa⟩,fun x5 w6=>⟨aa,fun w7=>⟨⟨tv4,aa⟩,fun x8 w9=>⟨aa,fun dy=>⟨⟨tv4,aa⟩,fun kz dJ=>⟨aa,fun iU=>⟨⟨tv4,aa⟩,fun x14 qK=>⟨aa,fun kg=>⟨⟨tv4,aa⟩,fun x17 rS=>?_⟩,fun oL=>?_⟩⟩,fun uI=>?_⟩⟩,fun A4=>?_⟩⟩,fun A3=>?_⟩⟩⟩⟩
 all_goals first|refine aw ?_|refine ax ?_|exact a8|(dsimp only [bG,cb,J3,yk,cr,df];omega)|exact a7|skip
 all_goals
  refine⟨[],[],_,_,_,rfl,az,(),aa,?_,?_,rfl⟩
  ·show AV.q _=xZ (p1,p2,p3,p4,p5);unfold xZ;refine congrArg AV.q ?_;simp_all [aZ]
  ·rfl
def tk (s:ByteArray):Prop:=s.size≤1000000000
def xY (s:ByteArray):AV:=.s (.int (qN s))
def abl (s:ByteArray):List AV:=[]
def J4:cn where
 A:=[.s .str]
 B:=[]
 pre:=fun x b=>tk x
 r:=fun x b _=>xY x
 o:=fun x b _=>abl x
theorem ad1:Has Tryz.prog 104 J4:=by
 refine Has.fm zT zF zF (l:=[]) trivial Tryz.func104 ?_
 rintro (s:ByteArray) _ (hp:tk s)
 show vc _ _ _ _ (entry [.str s] []) _
 unfold tk at hp
 refine ?_
 all_goals first|refine aw ?_|refine ax ?_|exact a8|exact a7|skip
 refine cN (l:=[]) (ex:=zT) (wr:=zF) (pt:=zF) trivial [.s 0,.s 7] (fun k:Nat=>[(.s 3,.int (rZ s k).1),(.s 4,.int (rZ s k).2),(.s 8,.int k)]) (fun k=>k≤s.size) (fun k=>s.size-k) 0 [] (ZA7 _) dM ?_
 rintro k hk
 have hb:=xf s k
 have hs:=zf s k
 refine⟨fun w1=>⟨⟨?_,?_⟩,⟨⟨?_,?_⟩,⟨⟨?_,?_⟩,⟨⟨?_,?_⟩,⟨⟨?_,?_⟩,⟨⟨?_,?_⟩,⟨⟨?_,?_⟩,⟨⟨?_,?_⟩,?_⟩⟩⟩⟩⟩⟩⟩⟩,fun w2=>⟨⟨?_,?_⟩,⟨⟨?_,?_⟩,?_⟩⟩⟩
 all_goals first|refine aw ?_|refine ax ?_|exact a8|exact a7|skip
 ·refine⟨(k+1),[],?_,?_,?_⟩
  rotate_right
  ·repeat' (first|exact trivial|rfl|exact rfl|exact fP ZA0.symm|exact oP|exact congrArg (fun n:Int=>some (AV.int n)) (congrArg (· % 9973) (Int.add_comm _ _))|apply And.intro)
  ·have:=aJ w1;omega
  ·have:=aJ w1;omega
 ·have h2:¬(k:Int)<(s.size:Int):=aA w2
  have hk':k=s.size:=by omega
  subst hk'
  refine⟨[],[],_,_,_,rfl,az,(),aa,?_,?_,rfl⟩
  ·(show _=xY s);unfold xY;first|rfl
  ·rfl
end GL
namespace GL
def tm (p:Pt) (s:ByteArray):Prop:=s.size≤1000000000
def s8 (p:Pt) (s:ByteArray):AV:=.s (.q (iX p s))
def R7 (p:Pt) (s:ByteArray):List AV:=[]
def yY:cn where
 A:=[.a [.int,.int,.int,.int,.int],.s .str]
 B:=[]
 pre:=fun x b=>tm (x.1) (x.2)
 r:=fun x b _=>s8 (x.1) (x.2)
 o:=fun x b _=>R7 (x.1) (x.2)
theorem W8:Has Tryz.prog 68 yY:=by
 refine Has.fm zT zF zF (l:=[(56,bG),(55,cB),(104,J4)]) ⟨eO,jt,ad1,aa⟩ Tryz.func68 ?_
 rintro⟨⟨(p1:Int),(p2:Int),(p3:Int),(p4:Int),(p5:Int)⟩,(s:ByteArray)⟩ _ (hp:tm (p1,p2,p3,p4,p5) s)
 show vc _ _ _ _ (entry [.a [.int p1,.int p2,.int p3,.int p4,.int p5],.str s] []) _
 have hp:s.size≤1000000000:=hp
 refine⟨[.s 2,.b 1002],Sq5,rfl,Sq5,Sq6,rfl,⟨⟨tv6,aa⟩,aa⟩,?_,fun x1 w2=>⟨Sq6,Sq7,rfl,aa,fun w3=>⟨[.s 7,.s 2,.b 1002],Sq8,rfl,[.s 7,.s 8],Sq9,rfl,⟨⟨tv6,aa⟩,aa⟩,?_,fun x4 w5=>⟨[.s 7,.s 9],Sq10,rfl,[.s 7,.s 10],Sq11,rfl,Sq11,Sq12,rfl,aa,fun w6=>⟨[.s 12,.s 2],Sq13,rfl,[.s 12,.s 13,.b 1002],Sq14,rfl,[.s 12,.s 1],Sq15,rfl,[.s 12,.s 15],Sq16,rfl,[.s 12,.s 14,.s 16],Sq17,rfl,[.s 12,.s 17],Sq18,rfl,Sq18,Sq19,rfl,aa,fun w7=>⟨[.s 19,.s 2],Sq20,rfl,[.s 19,.s 20,.b 1002],Sq21,rfl,[.s 19,.s 1],Sq22,rfl,[.s 19,.s 22],Sq23,rfl,⟨tv2,?_⟩,?_,fun x8 w9=>⟨[.s 19,.s 21,.s 23],Sq24,rfl,[.s 19,.s 24],Sq25,rfl,Sq25,Sq4,rfl,?_⟩⟩,fun dy=>⟨Sq19,Sq20,rfl,Sq19,Sq21,rfl,Sq19,Sq22,rfl,Sq19,Sq23,rfl,Sq19,Sq24,rfl,[.s 19,.s 24],Sq25,rfl,Sq25,Sq4,rfl,?_⟩⟩,fun kA=>⟨Sq12,Sq13,rfl,Sq12,Sq14,rfl,Sq12,Sq15,rfl,Sq12,Sq16,rfl,Sq12,Sq17,rfl,[.s 12,.s 17],Sq18,rfl,Sq18,Sq19,rfl,Sq19,Sq20,rfl,Sq19,Sq21,rfl,Sq19,Sq22,rfl,Sq19,Sq23,rfl,Sq19,Sq24,rfl,[.s 19,.s 24],Sq25,rfl,Sq25,Sq4,rfl,?_⟩⟩⟩,fun dJ=>⟨Sq7,Sq8,rfl,Sq7,Sq9,rfl,Sq7,Sq10,rfl,[.s 7,.s 10],Sq11,rfl,Sq11,Sq12,rfl,Sq12,Sq13,rfl,Sq12,Sq14,rfl,Sq12,Sq15,rfl,Sq12,Sq16,rfl,Sq12,Sq17,rfl,[.s 12,.s 17],Sq18,rfl,Sq18,Sq19,rfl,Sq19,Sq20,rfl,Sq19,Sq21,rfl,Sq19,Sq22,rfl,Sq19,Sq23,rfl,Sq19,Sq24,rfl,[.s 19,.s 24],Sq25,rfl,Sq25,Sq4,rfl,?_⟩⟩⟩
 all_goals first|refine aw ?_|refine ax ?_|exact a8|(dsimp only [bG,cb,cB,cR,J4,tk];omega)|exact a7|skip
 all_goals
  refine⟨[],[],_,_,_,rfl,az,(),aa,?_,?_,rfl⟩
  ·show AV.q _=s8 (p1,p2,p3,p4,p5) s;unfold s8;refine congrArg AV.q ?_;simp_all [iX]
  ·rfl
def fG (n:Int):Prop:=True
def nH (n:Int):AV:=.s (.str (cj n))
def WE (n:Int):List AV:=[]
def gn:cn where
 A:=[.s .int]
 B:=[]
 pre:=fun x b=>fG x
 r:=fun x b _=>nH x
 o:=fun x b _=>WE x
theorem CR:Has Tryz.prog 130 gn:=by
 refine Has.fm zT zF zF (l:=[(32,cr),(126,afi)]) ⟨fM,ahH,aa⟩ Tryz.func130 ?_
 rintro (n:Int) _ (hp:fG n)
 show vc _ _ _ _ (entry [.int n] []) _
 have cm:(!(ik n 0 999999999))=false→0≤n∧n≤999999999:=fun h=>cC.1 (cL h)
 refine⟨⟨tv4,aa⟩,fun x1 w2=>⟨fun w3=>?_,fun w4=>⟨⟨tv2,?_,?_⟩,fun x5 w6=>?_⟩⟩⟩
 all_goals first|refine aw ?_|refine ax ?_|exact a8|(dsimp only [cr,df];omega)|exact a7|(have:=cm w4;show (-9223372036854775808:Int)≤n;omega)|(have:=cm w4;show n≤(9223372036854775807:Int);omega)|skip
 ·have e:cj n=⟨#[]⟩:=by unfold cj;rw [show ik n 0 999999999=false from xm w3];rfl
  refine⟨[],[],_,_,_,rfl,az,(),aa,?_,?_,rfl⟩
  ·(show _=nH n);unfold nH;first|(rw [e];rfl)|rfl
  ·rfl
 ·have e:cj n=ad4 n:=by unfold cj;rw [show ik n 0 999999999=true from cL w4,abP (cm w4).1];rfl
  refine⟨[],[],_,_,_,rfl,az,(),aa,?_,?_,rfl⟩
  ·(show _=nH n);unfold nH;first|(rw [e];rfl)|rfl
  ·rfl
def gw (s:ByteArray):Prop:=s.size≤1000000
def gr (s:ByteArray):AV:=.t [.s (.int (aD s).1),.s (.q (aD s).2)]
def WG (s:ByteArray):List AV:=[]
def iT:cn where
 A:=[.s .str]
 B:=[]
 pre:=fun x b=>gw x
 r:=fun x b _=>gr x
 o:=fun x b _=>WG x
theorem MG:Has Tryz.prog 164 iT:=by
 refine Has.fm zT zF zF (l:=[(130,gn),(199,afj)]) ⟨CR,ahI,aa⟩ Tryz.func164 ?_
 rintro (s:ByteArray) _ (hp:gw s)
 show vc _ _ _ _ (entry [.str s] []) _
 have hp:s.size≤1000000:=hp
 have h9:decide ((s.size:Int)>9)=false→s.size≤9:=fun h=>by have:=aA h;omega
 refine⟨fun w1=>?_,fun w2=>⟨⟨tv2,?_⟩,fun x3 w4=>⟨aa,fun w5=>?_,fun w6=>⟨⟨tv2,aa⟩,fun x7 w8=>⟨fun w9=>?_,fun dy=>?_⟩⟩⟩⟩⟩
 all_goals first|refine aw ?_|refine ax ?_|exact a8|(dsimp only [gn,fG];omega)|exact a7|(show s.size≤18;have:=h9 w2;omega)|skip
 ·have e:aD s=(0,false):=SH (by have:=aJ (p:=(s.size:Int)>9) w1;omega)
  refine⟨[],[],_,_,_,rfl,az,(),aa,?_,?_,rfl⟩
  ·(show _=gr s);unfold gr;first|(rw [e];rfl)|rfl
  ·rfl
 ·have e:aD s=(0,false):=by rw [wb (h9 w2),show (!(ja s).2)=true from w5];rfl
  refine⟨[],[],_,_,_,rfl,az,(),aa,?_,?_,rfl⟩
  ·(show _=gr s);unfold gr;first|(rw [e];rfl)|rfl
  ·rfl
 ·have e:aD s=(0,false):=by rw [wb (h9 w2),show decide (cj (ja s).1≠s)=true from w9,ZC4];rfl
  refine⟨[],[],_,_,_,rfl,az,(),aa,?_,?_,rfl⟩
  ·(show _=gr s);unfold gr;first|(rw [e];rfl)|rfl
  ·rfl
 ·have e:aD s=((ja s).1,true):=by rw [wb (h9 w2),show (!(ja s).2)=false from w6,show decide (cj (ja s).1≠s)=false from dy];rfl
  refine⟨[],[],_,_,_,rfl,az,(),aa,?_,?_,rfl⟩
  ·(show _=gr s);unfold gr;first|(rw [e];rfl)|rfl
  ·rfl
def dI (p:Pt):Prop:=True
def xW (p:Pt):AV:=.s (.xs 1 1 0 5)
def B9 (p:Pt):List AV:=[.a [.int p.1,.int p.2.1,.int p.2.2.1,.int p.2.2.2.1,.int p.2.2.2.2],.a [.bp 0 0,.bp 0 1,.bp 0 2,.bp 0 3,.bp 0 4]]
def eC:cn where
 A:=[.b 0]
 B:=[.a [.int,.int,.int,.int,.int]]
 pre:=fun x b=>dI b
 r:=fun x b _=>xW b
 o:=fun x b _=>B9 b
 nf:=1
 ro:=true
theorem zK:Has Tryz.prog 171 eC:=by
 refine Has.fm zT zF zF (l:=[]) trivial Tryz.func171 ?_
 rintro _ ⟨(p1:Int),(p2:Int),(p3:Int),(p4:Int),(p5:Int)⟩ (hp:dI (p1,p2,p3,p4,p5))
 show vc _ _ _ _ (entry [.s (.bp 0 0)] [.a [.int p1,.int p2,.int p3,.int p4,.int p5]]) _
 refine⟨Sq0,Sq3,rfl,Sq3,Sq4,rfl,Sq4,Sq5,rfl,Sq0,Sq6,rfl,Sq6,Sq7,rfl,Sq7,Sq8,rfl,Sq0,Sq9,rfl,Sq9,Sq10,rfl,Sq10,Sq11,rfl,Sq0,Sq12,rfl,Sq12,Sq13,rfl,Sq13,Sq14,rfl,Sq0,Sq15,rfl,Sq15,Sq16,rfl,Sq16,Sq17,rfl,[.s 5,.s 8,.s 11,.s 14,.s 17,.b 1018],[.s 18,.b 1018],rfl,Sq18,Sq2,rfl,?_⟩
 all_goals first|refine aw ?_|refine ax ?_|exact a8|exact a7|skip
 refine⟨[1018],[],_,_,_,rfl,az,(),aa,?_,?_,rfl⟩
 ·(show _=xW (p1,p2,p3,p4,p5));unfold xW;first|rfl
 ·(show _=B9 (p1,p2,p3,p4,p5));unfold B9;first|rfl
end GL
namespace GL
theorem su {n:Int}(h0:0≤n) (h1:n≤999999999):cj n=bX n:=by unfold cj;rw [show ik n 0 999999999=true from cC.2 ⟨h0,h1⟩];rfl
theorem VN {p:Pt}(h:aZ p=true) (h2:au p=false):(0≤p.1∧p.1≤999999999)∧(0≤p.2.1∧p.2.1≤999999999)∧(0≤p.2.2.1∧p.2.2.1≤999999999)∧(0≤p.2.2.2.1∧p.2.2.2.1≤999999999)∧(0≤p.2.2.2.2∧p.2.2.2.2≤999999999):=by
 unfold aZ at h
 rw [h2,Bool.false_or] at h
 simp only [ZA9,cC] at h
 omega
theorem agP (a b c d e:ByteArray):lb (zN ⟨#[46]⟩ [a,b,c,d,e])=lb a++46::(lb b++46::(lb c++46::(lb d++46::lb e))):=by
 rw [FE]
 show Lib.join [lb a,lb b,lb c,lb d,lb e] [46]=_
 simp [Lib.join,List.intercalate]
theorem agQ (a b c d:ByteArray):lb (zN ⟨#[44]⟩ [a,b,c,d])=lb a++44::(lb b++44::(lb c++44::lb d)):=by
 rw [FE]
 show Lib.join [lb a,lb b,lb c,lb d] [44]=_
 simp [Lib.join,List.intercalate]
theorem RM {p:Pt}(h:aZ p=true) (h2:au p=false):bc p=zN ⟨#[46]⟩ [cj p.1,cj p.2.1,cj p.2.2.1,cj p.2.2.2.1,cj p.2.2.2.2]:=by
 obtain⟨h1,h3,h4,h5,h6⟩:=VN h h2
 apply vx
 rw [wK h h2,agP,su h1.1 h1.2,su h3.1 h3.2,su h4.1 h4.2,su h5.1 h5.2,su h6.1 h6.2]
def acW (p:Pt):List ByteArray:=[cj p.1,cj p.2.1,cj p.2.2.1,cj p.2.2.2.1,cj p.2.2.2.2]
theorem nU (n:Int):(cj n).size≤12:=by
 unfold cj
 cases h:ik n 0 999999999 with
 |true=>exact db (by have:=(cC.1 h).2;omega)
 |false=>exact ZA7 _
theorem abO (a b c d e:Int):(Lib.join ([cj a,cj b,cj c,cj d,cj e].map (·.data.toList)) (⟨#[46]⟩:ByteArray).data.toList).length≤1000000:=by
 have h:=congrArg List.length (agP (cj a) (cj b) (cj c) (cj d) (cj e))
 have e1:=nU a;have e2:=nU b;have e3:=nU c;have e4:=nU d;have e5:=nU e
 rw [fo] at e1 e2 e3 e4 e5
 rw [FE] at h
 have h':(Lib.join ([cj a,cj b,cj c,cj d,cj e].map (·.data.toList)) (⟨#[46]⟩:ByteArray).data.toList).length=_:=h
 rw [h']
 simp only [ZA0,ZA1]
 omega
def eG (p:Pt):Prop:=True
def jh (p:Pt):AV:=.s (.str (bc p))
def WC (p:Pt):List AV:=[]
def eR:cn where
 A:=[.a [.int,.int,.int,.int,.int]]
 B:=[]
 pre:=fun x b=>eG x
 r:=fun x b _=>jh x
 o:=fun x b _=>WC x
theorem wT:Has Tryz.prog 131 eR:=by
 refine Has.zB zT zF zF (l:=[(56,bG),(55,cB),(171,eC),(130,gn),(158,J6)]) ⟨eO,jt,zK,CR,PJ,aa⟩ Tryz.func131 ?_
 rintro⟨(p1:Int),(p2:Int),(p3:Int),(p4:Int),(p5:Int)⟩ _ (hp:eG (p1,p2,p3,p4,p5))
 show vc _ _ _ _ (entry [.a [.int p1,.int p2,.int p3,.int p4,.int p5]] []) _
 let g':=(p1,p2,p3,p4,p5)
 let A':=(1019,1025)
 refine⟨⟨⟨tv6,aa⟩,aa⟩,fun x1 w2=>⟨fun w3=>?_,fun w4=>⟨⟨⟨tv6,aa⟩,aa⟩,fun x5 w6=>⟨fun w7=>?_,fun w8=>⟨⟨⟨tv2,aa⟩,fun x9 dy=>?_⟩,fun kz dJ=>?_⟩⟩⟩⟩⟩
 all_goals first|refine aw ?_|refine ax ?_|exact a8|(dsimp only [bG,cb,cB,cR,eC,dI,gn,fG];omega)|exact a7|skip
 ·have e:bc g'=⟨#[]⟩:=by unfold bc;rw [show aZ g'=false from xm w3];rfl
  refine⟨[],[],_,_,_,rfl,az,(),aa,?_,?_,rfl⟩
  ·(show _=jh g');unfold jh;first|(rw [e];rfl)|rfl
  ·rfl
 ·have e:bc g'=⟨#[45]⟩:=qV w7
  refine⟨[],[],_,_,_,rfl,az,(),aa,?_,?_,rfl⟩
  ·(show _=jh g');unfold jh;first|(rw [e];rfl)|rfl
  ·rfl
 ·have cG:aZ g'=true:=cL w4
  have hho:au g'=false:=w8
  refine lW (l:=[(56,bG),(55,cB),(171,eC),(130,gn),(158,J6)]) (ex:=zT) (wr:=zF) (pt:=zF) ⟨eO,jt,zK,CR,PJ,aa⟩ [.s 13,.s 14,.b 1001,.b 140000] (fun n:Nat=>match n with |0=>[(.s 3,.s (.v (.slice none 0 0))),(.s 15,.int 0)] |n+1=>[(.s 3,.s (.xs 1019 1 0 (n+1))),(.s 15,.int ((n+1:Nat):Int)),(.b 1019,.rs ab ((acW g').take (n+1)))]) (fun n=>n≤5) (fun n=>5-n) 0 [] (ZA7 _) dM ?_
  rintro n (hn:n≤5)
  have h5:n=0∨n=1∨n=2∨n=3∨n=4∨n=5:=by omega
  rcases h5 with rfl |rfl |rfl |rfl |rfl |rfl
  ·refine⟨fun w1=>⟨⟨?_,?_⟩,⟨tv2,aa⟩,fun x2 w3=>⟨aa,⟨⟨?_,?_⟩,?_,?_⟩,⟨?_,?_⟩,?_⟩⟩,fun w4=>⟨⟨tv3,?_,?_⟩,fun x5 w6=>?_⟩⟩
   all_goals first|(exfalso;simp only [decide_eq_true_eq,decide_eq_false_iff_not] at *;omega)|refine aw ?_|refine ax ?_|exact a8|(dsimp only [bG,cb,cB,cR,eC,dI,gn,fG];omega)|exact a7|(show (0:Nat)+1≤1048576;omega)|skip
   ·refine⟨(1),[A'],?_,?_,?_⟩
    rotate_right
    ·exact bV
    ·show (1:Nat)≤5;omega
    ·show 5-1<5-0;omega
  ·refine⟨fun w1=>⟨⟨?_,?_⟩,⟨tv2,aa⟩,fun x2 w3=>⟨aa,⟨⟨?_,?_⟩,?_,?_⟩,⟨?_,?_⟩,?_⟩⟩,fun w4=>⟨⟨⟨⟨?_,?_⟩,tv2⟩,?_,?_⟩,fun x5 w6=>?_⟩⟩
   all_goals first|(exfalso;simp only [decide_eq_true_eq,decide_eq_false_iff_not] at *;omega)|refine aw ?_|refine ax ?_|exact a8|(dsimp only [bG,cb,cB,cR,eC,dI,gn,fG];omega)|exact a7|(show (1:Nat)+1≤1048576;omega)|skip
   ·refine⟨(2),[A'],?_,?_,?_⟩
    rotate_right
    ·exact bV
    ·show (2:Nat)≤5;omega
    ·show 5-2<5-1;omega
  ·refine⟨fun w1=>⟨⟨?_,?_⟩,⟨tv2,aa⟩,fun x2 w3=>⟨aa,⟨⟨?_,?_⟩,?_,?_⟩,⟨?_,?_⟩,?_⟩⟩,fun w4=>⟨⟨⟨⟨?_,?_⟩,tv2⟩,?_,?_⟩,fun x5 w6=>?_⟩⟩
   all_goals first|(exfalso;simp only [decide_eq_true_eq,decide_eq_false_iff_not] at *;omega)|refine aw ?_|refine ax ?_|exact a8|(dsimp only [bG,cb,cB,cR,eC,dI,gn,fG];omega)|exact a7|(show (2:Nat)+1≤1048576;omega)|skip
   ·refine⟨(3),[A'],?_,?_,?_⟩
    rotate_right
    ·exact bV
    ·show (3:Nat)≤5;omega
    ·show 5-3<5-2;omega
  ·refine⟨fun w1=>⟨⟨?_,?_⟩,⟨tv2,aa⟩,fun x2 w3=>⟨aa,⟨⟨?_,?_⟩,?_,?_⟩,⟨?_,?_⟩,?_⟩⟩,fun w4=>⟨⟨⟨⟨?_,?_⟩,tv2⟩,?_,?_⟩,fun x5 w6=>?_⟩⟩
   all_goals first|(exfalso;simp only [decide_eq_true_eq,decide_eq_false_iff_not] at *;omega)|refine aw ?_|refine ax ?_|exact a8|(dsimp only [bG,cb,cB,cR,eC,dI,gn,fG];omega)|exact a7|(show (3:Nat)+1≤1048576;omega)|skip
   ·refine⟨(4),[A'],?_,?_,?_⟩
    rotate_right
    ·exact bV
    ·show (4:Nat)≤5;omega
    ·show 5-4<5-3;omega
  ·refine⟨fun w1=>⟨⟨?_,?_⟩,⟨tv2,aa⟩,fun x2 w3=>⟨aa,⟨⟨?_,?_⟩,?_,?_⟩,⟨?_,?_⟩,?_⟩⟩,fun w4=>⟨⟨⟨⟨?_,?_⟩,tv2⟩,?_,?_⟩,fun x5 w6=>?_⟩⟩
   all_goals first|(exfalso;simp only [decide_eq_true_eq,decide_eq_false_iff_not] at *;omega)|refine aw ?_|refine ax ?_|exact a8|(dsimp only [bG,cb,cB,cR,eC,dI,gn,fG];omega)|exact a7|(show (4:Nat)+1≤1048576;omega)|skip
   ·refine⟨(5),[A'],?_,?_,?_⟩
    rotate_right
    ·exact bV
    ·show (5:Nat)≤5;omega
    ·show 5-5<5-4;omega
  ·refine⟨fun w1=>⟨⟨?_,?_⟩,?_⟩,fun w2=>⟨⟨⟨⟨?_,?_⟩,tv2⟩,?_,?_⟩,fun x3 w4=>?_⟩⟩
   all_goals first|(exfalso;simp only [decide_eq_true_eq,decide_eq_false_iff_not] at *;omega)|refine aw ?_|refine ax ?_|exact a8|(dsimp only [bG,cb,cB,cR,eC,dI,gn,fG];omega)|exact a7|(exact abO p1 p2 p3 p4 p5)|(show (5:Nat)≤1000000;omega)|skip
   ·have e:bc g'=zN ⟨#[46]⟩ (acW g'):=RM cG hho
    refine⟨[],[],_,_,_,rfl,az,(),aa,?_,?_,rfl⟩
    ·(show _=jh g');unfold jh;first|(rw [e];rfl)|rfl
    ·rfl
end GL
namespace GL
def X5 (c:UInt8):List (List UInt8)→List UInt8
 |[]=>[]
 |[x]=>x
 |x::y::l=>x++c::X5 c (y::l)
theorem NJ (c:UInt8):∀l:List UInt8,X5 c (mj c l)=l
 |[]=>rfl
 |x::l=>by
  have ih:=NJ c l
  rw [r4]
  split
  ·rename_i hx
   cases e:mj c l with
   |nil=>exact absurd e (zh c l)
   |cons w a=>rw [e] at ih;show []++c::X5 c (w::a)=_;rw [ih,hx];rfl
  ·cases e:mj c l with
   |nil=>exact absurd e (zh c l)
   |cons w a=>
    rw [e] at ih
    cases a with
    |nil=>show x::w=_;rw [show w=l from ih]
    |cons v a=>show x::(w++c::X5 c (v::a))=_;rw [show w++c::X5 c (v::a)=l from ih]
theorem aar (s:ByteArray) (c:UInt8) {l:List ByteArray}(h:bm s c.toNat=l):X5 c (l.map lb)=lb s:=by
 rw [←h,JR];exact NJ c _
theorem CC:∀(l:List ByteArray) (acc:List Int) (j:Nat),j<l.length→(aD (nth ab l j)).2=false→lg l acc=none
 |t::l,acc,0,_,h=>by rw [lg,show (aD t).2=false from h];rfl
 |t::l,acc,j+1,hj,h=>by
  rw [lg]
  cases (aD t).2 with
  |false=>rfl
  |true=>exact CC l _ j (by simpa using hj) h
theorem vq {t:ByteArray}(h:(aD t).2=true):aD t=((aD t).1,true):=by rw [←h]
def OD (l:List ByteArray):Pt:=((aD (nth ab l 0)).1,(aD (nth ab l 1)).1,(aD (nth ab l 2)).1,(aD (nth ab l 3)).1,(aD (nth ab l 4)).1)
theorem G4 {s:ByteArray}(h0:decide (s=⟨#[45]⟩)=false) (h5:(bm s 46).length=5) (hk:∀j,j<5→(aD (nth ab (bm s 46) j)).2=true):bP s=bif decide (bc (OD (bm s 46))≠s) then (bM,false) else (OD (bm s 46),true):=by
 rw [sa h0 (by rw [h5];rfl)]
 have hs0:s≠⟨#[45]⟩:=aA h0
 have aen:=fun l h=>aar s 46 (l:=l) h
 have fA:s≠⟨#[]⟩:=by
  rintro rfl
  exact absurd h5 (by decide)
 change (∀l,bm s 46=l→X5 46 (l.map lb)=lb s) at aen
 match hl:bm s 46,h5 with
 |[a,b,c,d,e],_=>
  rw [hl] at hk
  have ha:=vq (t:=a) (hk 0 (by omega))
  have hb:=vq (t:=b) (hk 1 (by omega))
  have hc:=vq (t:=c) (hk 2 (by omega))
  have hd:=vq (t:=d) (hk 3 (by omega))
  have he:=vq (t:=e) (hk 4 (by omega))
  have hn:lg [a,b,c,d,e] []=some [(aD a).1,(aD b).1,(aD c).1,(aD d).1,(aD e).1]:=by
   simp [lg,show (aD a).2=true from hk 0 (by omega),show (aD b).2=true from hk 1 (by omega),show (aD c).2=true from hk 2 (by omega),show (aD d).2=true from hk 3 (by omega),show (aD e).2=true from hk 4 (by omega)]
  rw [BY hn]
  show pU [(aD a).1,(aD b).1,(aD c).1,(aD d).1,(aD e).1]=bif decide (bc (lH [(aD a).1,(aD b).1,(aD c).1,(aD d).1,(aD e).1])≠s) then (bM,false) else (lH [(aD a).1,(aD b).1,(aD c).1,(aD d).1,(aD e).1],true)
  generalize hp:lH [(aD a).1,(aD b).1,(aD c).1,(aD d).1,(aD e).1]=p
  have hf:∀r,lH [(aD a).1,(aD b).1,(aD c).1,(aD d).1,(aD e).1]=r→r=p:=fun r h=>h ▸ hp
  cases hh:au p with
  |true=>
   rw [RO (by rw [hp];exact hh),qV hh,decide_eq_true (p:=¬(⟨#[45]⟩:ByteArray)=s) (fun h=>hs0 h.symm)];rfl
  |false=>
   cases ho:aZ p with
   |false=>
    rw [RP (by rw [hp,ho];rfl),show bc p=⟨#[]⟩ by unfold bc;rw [ho];rfl,decide_eq_true (p:=¬(⟨#[]⟩:ByteArray)=s) (fun h=>fA h.symm)];rfl
   |true=>
    rw [G6 (by rw [hp,ho];rfl) (by rw [hp];exact hh),hp]
    have e1:bc p=s:=by
     apply vx
     rw [wK ho hh,←aen _ hl]
     have q1:=(num_inv ha).1;have q2:=(num_inv hb).1;have q3:=(num_inv hc).1;have q4:=(num_inv hd).1;have q5:=(num_inv he).1
     rw [show p.1=(aD a).1 by rw [←hp];rfl,show p.2.1=(aD b).1 by rw [←hp];rfl,show p.2.2.1=(aD c).1 by rw [←hp];rfl,show p.2.2.2.1=(aD d).1 by rw [←hp];rfl,show p.2.2.2.2=(aD e).1 by rw [←hp];rfl,←q1,←q2,←q3,←q4,←q5]
     rfl
    rw [decide_eq_false (p:=¬bc p=s) (fun h=>h e1)];rfl
def akF (l:List ByteArray) (n:Nat):List SV:=[.int (bif Nat.blt 0 n then (aD (nth ab l 0)).1 else 0),.int (bif Nat.blt 1 n then (aD (nth ab l 1)).1 else 0),.int (bif Nat.blt 2 n then (aD (nth ab l 2)).1 else 0),.int (bif Nat.blt 3 n then (aD (nth ab l 3)).1 else 0),.int (bif Nat.blt 4 n then (aD (nth ab l 4)).1 else 0)]
def ld (s:ByteArray):Prop:=s.size≤1000000
def cI (s:ByteArray):AV:=.t [ptA (bP s).1,.s (.q (bP s).2)]
def WD (s:ByteArray):List AV:=[]
def pq:cn where
 A:=[.s .str]
 B:=[]
 pre:=fun x b=>ld x
 r:=fun x b _=>cI x
 o:=fun x b _=>WD x
theorem MF:Has Tryz.prog 193 pq:=by
 refine Has.zB zT zF zF (l:=[(192,AF),(171,eC),(164,iT),(131,eR)]) ⟨FH,zK,MG,wT,aa⟩ Tryz.func193 ?_
 rintro (s:ByteArray) _ (hp:ld s)
 show vc _ _ _ _ (entry [.str s] []) _
 unfold ld at hp
 have hsp:ia s ⟨#[46]⟩=bm s 46:=QO s 46
 refine⟨fun w1=>?_,fun w2=>⟨⟨tv3,?_,?_⟩,fun x3 w4=>⟨⟨⟨tv2,aa⟩,fun x5 w6=>?_⟩,fun x7 w8=>⟨fun w9=>?_,fun dy=>?_⟩⟩⟩⟩
 all_goals first|refine aw ?_|refine ax ?_|exact a8|(dsimp only [eC,dI,iT,gw,eR,eG];omega)|exact a7|(show 1≤(1:Nat);omega)|skip
 ·refine⟨[],[],_,_,_,rfl,az,(),aa,?_,?_,rfl⟩
  ·(show _=cI s);unfold cI;first|(rw [wD (by assumption)];rfl)|rfl
  ·rfl
 ·have e:=w9
  rw [hsp] at e
  refine⟨[],[],_,_,_,rfl,az,(),aa,?_,?_,rfl⟩
  ·(show _=cI s);unfold cI;first|(rw [B0 w2 e];rfl)|rfl
  ·rfl
 ·have h0:=w2
  rw [hsp] at dy
  have h5:(bm s 46).length=5:=by have:=aA (p:=((bm s 46).length:Int)≠5) dy;omega
  refine lW (l:=[(192,AF),(171,eC),(164,iT),(131,eR)]) (ex:=zT) (wr:=zF) (pt:=zF) ⟨FH,zK,MG,wT,trivial⟩ [.s 0,.s 2,.b 1002,.s 4,.s 6,.b 170000,.s 23,.s 24] (fun n:Nat=>[(.s 25,.int n),(.b 1004,.a (akF (ia s ⟨#[46]⟩) n))]) (fun n=>n≤5∧∀j,j<n→(aD (nth ab (ia s ⟨#[46]⟩) j)).2=true) (fun n=>5-n) 0 [] ⟨ZA7 _,fun j hj=>absurd hj (by omega)⟩ dM ?_
  rintro n ⟨(hn:n≤5),hk⟩
  have dj:∀n,n<5→(nth ab (ia s ⟨#[46]⟩) n).size≤1000000:=fun n h=>by rw [hsp];exact ZB0 (oX (s:=s) (c:=46) _ (bR (ek:=ab) (by omega))) hp
  have hL:((ia s ⟨#[46]⟩).length:Int)=5:=by rw [hsp,h5];rfl
  have iC:∀n,n<5→(!(aD (nth ab (ia s ⟨#[46]⟩) n)).2)=true→bP s=(bM,false):=fun n hn h=>by
   rw [hsp] at h
   rw [sa h0 dy,BZ (CC _ [] n (by rw [h5];exact hn) (xm h))]
  have cO:∀n,(∀j,j<n→(aD (nth ab (ia s ⟨#[46]⟩) j)).2=true)→(!(aD (nth ab (ia s ⟨#[46]⟩) n)).2)=false→∀j,j<n+1→(aD (nth ab (ia s ⟨#[46]⟩) j)).2=true:=fun n h h2 j hj=>by
   by_cases hjn:j=n
   ·rw [hjn];exact cL h2
   ·exact h j (by omega)
  have af9:(∀j,j<5→(aD (nth ab (ia s ⟨#[46]⟩) j)).2=true)→bP s=bif decide (bc (OD (ia s ⟨#[46]⟩))≠s) then (bM,false) else (OD (ia s ⟨#[46]⟩),true):=by
   rw [hsp];exact G4 h0 h5
  have h6:n=0∨n=1∨n=2∨n=3∨n=4∨n=5:=by omega
  rcases h6 with rfl |rfl |rfl |rfl |rfl |rfl
  ·refine⟨fun w1=>⟨⟨?_,?_⟩,⟨tv2,?_⟩,fun x2 w3=>⟨fun w4=>?_,fun w5=>⟨⟨?_,?_⟩,⟨?_,?_⟩,?_⟩⟩⟩,fun w6=>⟨⟨⟨tv6,aa⟩,aa⟩,fun x7 w8=>⟨fun w9=>?_,fun dy=>?_⟩⟩⟩
   all_goals first|(exfalso;simp only [decide_eq_true_eq,decide_eq_false_iff_not] at *;omega)|refine aw ?_|refine ax ?_|exact a8|(dsimp only [eC,dI,iT,gw,eR,eG];omega)|exact a7|exact dj 0 (by omega)|skip
   ·refine⟨[],[],_,_,_,rfl,az,(),aa,?_,?_,rfl⟩
    ·(show _=cI s);unfold cI;first|(rw [iC 0 (by omega) w4];rfl)|rfl
    ·rfl
   ·refine⟨(1),[],?_,?_,?_⟩
    rotate_right
    ·exact bV
    ·exact⟨by omega,cO 0 hk w5⟩
    ·show 5-1<5-0;omega
  ·refine⟨fun w1=>⟨⟨?_,?_⟩,⟨tv2,?_⟩,fun x2 w3=>⟨fun w4=>?_,fun w5=>⟨⟨?_,?_⟩,⟨?_,?_⟩,?_⟩⟩⟩,fun w6=>⟨⟨⟨tv6,aa⟩,aa⟩,fun x7 w8=>⟨fun w9=>?_,fun dy=>?_⟩⟩⟩
   all_goals first|(exfalso;simp only [decide_eq_true_eq,decide_eq_false_iff_not] at *;omega)|refine aw ?_|refine ax ?_|exact a8|(dsimp only [eC,dI,iT,gw,eR,eG];omega)|exact a7|exact dj 1 (by omega)|skip
   ·refine⟨[],[],_,_,_,rfl,az,(),aa,?_,?_,rfl⟩
    ·(show _=cI s);unfold cI;first|(rw [iC 1 (by omega) w4];rfl)|rfl
    ·rfl
   ·refine⟨(2),[],?_,?_,?_⟩
    rotate_right
    ·exact bV
    ·exact⟨by omega,cO 1 hk w5⟩
    ·show 5-2<5-1;omega
  ·refine⟨fun w1=>⟨⟨?_,?_⟩,⟨tv2,?_⟩,fun x2 w3=>⟨fun w4=>?_,fun w5=>⟨⟨?_,?_⟩,⟨?_,?_⟩,?_⟩⟩⟩,fun w6=>⟨⟨⟨tv6,aa⟩,aa⟩,fun x7 w8=>⟨fun w9=>?_,fun dy=>?_⟩⟩⟩
   all_goals first|(exfalso;simp only [decide_eq_true_eq,decide_eq_false_iff_not] at *;omega)|refine aw ?_|refine ax ?_|exact a8|(dsimp only [eC,dI,iT,gw,eR,eG];omega)|exact a7|exact dj 2 (by omega)|skip
   ·refine⟨[],[],_,_,_,rfl,az,(),aa,?_,?_,rfl⟩
    ·(show _=cI s);unfold cI;first|(rw [iC 2 (by omega) w4];rfl)|rfl
    ·rfl
   ·refine⟨(3),[],?_,?_,?_⟩
    rotate_right
    ·exact bV
    ·exact⟨by omega,cO 2 hk w5⟩
    ·show 5-3<5-2;omega
  ·refine⟨fun w1=>⟨⟨?_,?_⟩,⟨tv2,?_⟩,fun x2 w3=>⟨fun w4=>?_,fun w5=>⟨⟨?_,?_⟩,⟨?_,?_⟩,?_⟩⟩⟩,fun w6=>⟨⟨⟨tv6,aa⟩,aa⟩,fun x7 w8=>⟨fun w9=>?_,fun dy=>?_⟩⟩⟩
   all_goals first|(exfalso;simp only [decide_eq_true_eq,decide_eq_false_iff_not] at *;omega)|refine aw ?_|refine ax ?_|exact a8|(dsimp only [eC,dI,iT,gw,eR,eG];omega)|exact a7|exact dj 3 (by omega)|skip
   ·refine⟨[],[],_,_,_,rfl,az,(),aa,?_,?_,rfl⟩
    ·(show _=cI s);unfold cI;first|(rw [iC 3 (by omega) w4];rfl)|rfl
    ·rfl
   ·refine⟨(4),[],?_,?_,?_⟩
    rotate_right
    ·exact bV
    ·exact⟨by omega,cO 3 hk w5⟩
    ·show 5-4<5-3;omega
  ·refine⟨fun w1=>⟨⟨?_,?_⟩,⟨tv2,?_⟩,fun x2 w3=>⟨fun w4=>?_,fun w5=>⟨⟨?_,?_⟩,⟨?_,?_⟩,?_⟩⟩⟩,fun w6=>⟨⟨⟨tv6,aa⟩,aa⟩,fun x7 w8=>⟨fun w9=>?_,fun dy=>?_⟩⟩⟩
   all_goals first|(exfalso;simp only [decide_eq_true_eq,decide_eq_false_iff_not] at *;omega)|refine aw ?_|refine ax ?_|exact a8|(dsimp only [eC,dI,iT,gw,eR,eG];omega)|exact a7|exact dj 4 (by omega)|skip
   ·refine⟨[],[],_,_,_,rfl,az,(),aa,?_,?_,rfl⟩
    ·(show _=cI s);unfold cI;first|(rw [iC 4 (by omega) w4];rfl)|rfl
    ·rfl
   ·refine⟨(5),[],?_,?_,?_⟩
    rotate_right
    ·exact bV
    ·exact⟨by omega,cO 4 hk w5⟩
    ·show 5-5<5-4;omega
  ·refine⟨fun w1=>⟨⟨?_,?_⟩,⟨tv2,?_⟩,fun x2 w3=>⟨fun w4=>?_,fun w5=>⟨⟨?_,?_⟩,?_⟩⟩⟩,fun w6=>⟨⟨⟨tv6,aa⟩,aa⟩,fun x7 w8=>⟨fun w9=>?_,fun dy=>?_⟩⟩⟩
   all_goals first|(exfalso;simp only [decide_eq_true_eq,decide_eq_false_iff_not] at *;omega)|refine aw ?_|refine ax ?_|exact a8|(dsimp only [eC,dI,iT,gw,eR,eG];omega)|exact a7|skip
   ·have e:bP s=(bM,false):=by rw [af9 hk,show decide (bc (OD (ia s ⟨#[46]⟩))≠s)=true from w9];rfl
    refine⟨[],[],_,_,_,rfl,az,(),aa,?_,?_,rfl⟩
    ·(show _=cI s);unfold cI;first|(rw [e];rfl)|rfl
    ·rfl
   ·have e:bP s=(OD (ia s ⟨#[46]⟩),true):=by rw [af9 hk,show decide (bc (OD (ia s ⟨#[46]⟩))≠s)=false from dy];rfl
    refine⟨[],[],_,_,_,rfl,az,(),aa,?_,?_,rfl⟩
    ·(show _=cI s);unfold cI;first|(rw [e];rfl)|rfl
    ·rfl
end GL
end Go.Proofs.YtnkbdhldiinfdaaGreatDoor
