/- FnTreeOk returns true for every code (its row lists package variables, tied by the card): part 38. -/
import Derived.Lib.CountLaws
import Derived.Lib.CutLaws
import Derived.Lib.IndexBytes
import Derived.Lib.IndexLaws
import Derived.Lib.Join
import Derived.Lib.SplitLaws
import Derived.Test.YtbfgjadbfjkcdaaGreatDoorPal
import Derived.Test.YtbfgjadbfjkcdaaGreatDoorPaw
import Derived.Test.YtbfgjadbfjkcdaaGreatDoorPbk
set_option maxHeartbeats 20000000
set_option linter.all false
namespace Go.Proofs.YtbfgjadbfjkcdaaGreatDoor
namespace GL
theorem aj7 (k:Nat):Lib.decDigits k=lb (dec k):=by
 induction k using Nat.strongRecOn with
 |_ k ih=>
  by_cases h:k<10
  ·rw [Lib.decDigits,dif_pos h,na h]
  ·rw [Lib.decDigits,dif_neg h,pj h,ih (k / 10) (by omega)]
theorem aca {n:Int}(h:0≤n):aen n=ca n:=by
 apply vF
 show Lib.itoa n=lb (dec n.toNat)
 unfold Lib.itoa
 rw [if_neg (by omega),aj7]
def I2 (b:UInt8):Prop:=48≤b.toNat∧b.toNat≤57
theorem ET:∀(l:List UInt8) (acc m:Nat),Lib.decFrom acc l=some m→(∀b∈l,I2 b)∧(m:Int)=l.foldl (fun n b=>10*n+((b.toNat:Int)-48)) (acc:Int)
 |[],acc,m,h=>by
  cases h
  refine⟨fun b hb=>?_,rfl⟩
  cases hb
 |b::l,acc,m,h=>by
  unfold Lib.decFrom at h
  split at h
  ·rename_i d hd
   unfold Lib.digitVal at hd
   split at hd
   ·rename_i hb
    cases hd
    obtain⟨h1,h2⟩:=ET l _ _ h
    refine⟨fun c hc=>?_,?_⟩
    ·rcases ZB9.1 hc with rfl |hc
     ·exact hb
     ·exact h1 c hc
    ·rw [h2,List.foldl_cons]
     congr 1
     have:=hb.1
     omega
   ·cases hd
  ·cases h
theorem JX:∀(l:List UInt8) (acc:Nat),(∀b∈l,I2 b)→∃m,Lib.decFrom acc l=some m
 |[],acc,_=>⟨acc,rfl⟩
 |b::l,acc,h=>by
  unfold Lib.decFrom Lib.digitVal
  have hb:48≤b.toNat∧b.toNat≤57:=h b (List.mem_cons_self ..)
  rw [if_pos hb]
  exact JX l _ fun c hc=>h c (List.mem_cons_of_mem _ hc)
theorem afI (k:Nat):Lib.atoi (lb (dec k))=some (k:Int):=by
 obtain⟨b,l,e,_⟩:=xm k
 have hd:=tZ k
 rw [e] at hd ⊢
 have hb:=hd b (List.mem_cons_self ..)
 unfold Lib.atoi
 have h1:¬(b==45)=true:=fun h=>by have:=beq_iff_eq.1 h;subst this;exact absurd hb.1 (by decide)
 have h2:¬(b==43)=true:=fun h=>by have:=beq_iff_eq.1 h;subst this;exact absurd hb.1 (by decide)
 show (if (b==45)=true then _ else if (b==43)=true then _ else _)=_
 rw [if_neg h1,if_neg h2]
 unfold Lib.decNat
 rw [if_neg (by simp)]
 obtain⟨m,hm⟩:=JX (b::l) 0 hd
 rw [hm]
 have h3:=(ET _ _ _ hm).2
 have h4:=QQ k
 rw [e] at h4
 unfold qP at h4
 simp only [Option.map_some,Option.some.injEq]
 rw [h3]
 exact h4
theorem canon:∀(n:Nat) (l:List UInt8),l.length=n→l≠[]→(∀b∈l,I2 b)→(∀b,l.head?=some b→b.toNat=48→l.length=1)→0≤qP l∧lb (dec (qP l).toNat)=l
 |0,l,hn,fB,_,_=>absurd (ZD4.1 hn) fB
 |n+1,l,hn,fB,hd,h0=>by
  obtain⟨l',b,rfl⟩:∃l' b,l=l'++[b]:=⟨l.dropLast,l.getLast fB,(List.dropLast_concat_getLast fB).symm⟩
  have hb:I2 b:=hd b (by simp)
  have hv:qP (l'++[b])=10*qP l'+((b.toNat:Int)-48):=wD l' b
  have hbo:UInt8.ofNat (48+(b.toNat-48))=b:=by
   have h1:=hb.1
   rw [show 48+(b.toNat-48)=b.toNat by omega]
   exact UInt8.ofNat_toNat
  by_cases hl:l'=[]
  ·subst hl
   rw [hv]
   have h1:qP []=0:=rfl
   rw [h1]
   obtain⟨h2,h3⟩:=hb
   refine⟨by omega,?_⟩
   rw [show (10*0+((b.toNat:Int)-48)).toNat=b.toNat-48 by omega,na (by omega),hbo]
   rfl
  ·have hn':l'.length=n:=by simpa using hn
   obtain⟨c,m,rfl⟩:∃c m,l'=c::m:=by
    cases l' with
    |nil=>exact absurd rfl hl
    |cons c m=>exact⟨c,m,rfl⟩
   have ajR:c.toNat≠48:=fun h=>by
    have:=h0 c rfl h
    simp at this
   obtain⟨g1,g2⟩:=canon n (c::m) hn' (by simp) (fun x hx=>hd x (List.mem_append_left _ hx)) (fun x hx ak2=>by cases hx;exact absurd ak2 ajR)
   have nc:1≤(qP (c::m)).toNat:=by
    rcases Nat.eq_zero_or_pos (qP (c::m)).toNat with h |h
    ·rw [h,na (by omega)] at g2
     cases g2
     exact absurd rfl ajR
    ·exact h
   obtain⟨h2,h3⟩:=hb
   rw [hv]
   refine⟨by omega,?_⟩
   have e:(10*qP (c::m)+((b.toNat:Int)-48)).toNat=10*(qP (c::m)).toNat+(b.toNat-48):=by omega
   rw [e,pj (by omega),show (10*(qP (c::m)).toNat+(b.toNat-48)) / 10=(qP (c::m)).toNat by omega,show (10*(qP (c::m)).toNat+(b.toNat-48)) % 10=b.toNat-48 by omega,g2,hbo]
theorem PC:∀(f:Nat) (s:ByteArray) (k:Nat),k≤sF f s k∧sF f s k≤k+f∧∀i,k≤i→i<sF f s k→DG s i=true
 |0,s,k=>⟨ZB6 _,ZB6 _,fun i h1 h2=>by unfold sF at h2;omega⟩
 |f+1,s,k=>by
  unfold sF
  cases h:DG s k with
  |false=>simp only [cond_false];exact⟨ZB6 _,by omega,fun i h1 h2=>by omega⟩
  |true=>
   simp only [cond_true]
   obtain⟨h1,h2,h3⟩:=PC f s (k+1)
   refine⟨by omega,by omega,fun i h4 h5=>?_⟩
   by_cases e:i=k
   ·subst e;exact h
   ·exact h3 i (by omega) h5
theorem aff {s:ByteArray}{i:Nat}(h:DG s i=true):i<(lb s).length∧∀b,(lb s)[i]?=some b→I2 b:=by
 unfold DG at h
 simp only [ZB0,decide_eq_true_eq] at h
 obtain⟨h1,_,h3,h4⟩:=h
 have hi:i<(lb s).length:=by rw [←fp];omega
 refine⟨hi,fun b hb=>?_⟩
 rw [nt,hb] at h3 h4
 simp only at h3 h4
 exact⟨by omega,by omega⟩
theorem num_inv {s:ByteArray}{m:Int}(h:aD s=(m,true)):s=ca m∧0≤m∧m≤999999999:=by
 unfold aD at h
 cases hc:decide ((CT s).2=0)||decide ((CT s).2≠(s.size:Int)) with
 |true=>rw [hc] at h;cases h
 |false=>
  rw [hc] at h
  simp only [cond_false,Prod.mk.injEq,and_true] at h
  simp only [ZD7,decide_eq_false_iff_not,ZF0] at hc
  obtain⟨hc1,hc2⟩:=hc
  obtain⟨b1,b2,b3⟩:=PC 9 s 0
  have hnl:sF 9 s 0=cX s:=rfl
  rw [hnl] at b2 b3
  have hle:cX s≤(lb s).length:=by
   by_cases h0:cX s=0
   ·omega
   ·have:=(aff (b3 (cX s-1) (ZA8 _) (by omega))).1
    omega
  unfold CT at h hc1 hc2
  cases hq:decide ((cX s:Int)>1)&&decide (bN s 0=48) with
  |true=>
   rw [hq] at hc2
   simp only [ZB0,decide_eq_true_eq] at hq
   have h1:(1:Int)=s.size:=hc2
   rw [fp] at h1
   have:=hq.1
   omega
  |false=>
   rw [hq] at h hc1 hc2
   have h1:(cX s:Int)=s.size:=hc2
   have h0:(cX s:Int)≠0:=hc1
   have h2:iP s (cX s)=m:=h
   rw [fp] at h1
   have hlen:cX s=(lb s).length:=by omega
   have XW:iP s (cX s)=qP (lb s):=by
    rw [CI s _ (by omega),hlen,List.take_length]
   have ags:∀b∈lb s,I2 b:=fun b hb=>by
    obtain⟨i,hi⟩:=ZF5 hb
    have bU:i<(lb s).length:=(ZC0.1 hi).1
    exact (aff (b3 i (ZA8 _) (by omega))).2 b hi
   have fB:lb s≠[]:=fun e=>by rw [e] at hlen;simp at hlen;omega
   obtain⟨g1,g2⟩:=canon _ (lb s) rfl fB ags (fun b hb h48=>by
    have hb0:(lb s)[0]?=some b:=by rw [←List.head?_eq_getElem?];exact hb
    have hby:bN s 0=48:=by rw [nt,hb0];simp only;omega
    rw [Bool.and_eq_false_iff] at hq
    rcases hq with hq |hq
    ·have:=aA hq;omega
    ·exact absurd hby (aA hq))
   rw [←h2,XW]
   refine⟨vF g2.symm,g1,?_⟩
   have hb9:(lb s).length≤9:=by omega
   have key:∀(l:List UInt8),(∀b∈l,I2 b)→qP l<(10:Int) ^ l.length:=by
    intro l
    generalize hk:l.length=k
    induction k generalizing l with
    |zero=>intro _;rw [ZD4.1 hk];exact (by decide:(0:Int)<1)
    |succ k ih=>
     intro hd
     have fB:l≠[]:=fun e=>by subst e;simp at hk
     obtain⟨l',b,rfl⟩:∃l' b,l=l'++[b]:=⟨l.dropLast,l.getLast fB,(List.dropLast_concat_getLast fB).symm⟩
     have h1:=ih l' (by simpa using hk) (fun x hx=>hd x (List.mem_append_left _ hx))
     have h2:=(hd b (by simp)).2
     rw [wD,Int.pow_succ]
     omega
   have h5:=key (lb s) ags
   have h6:(10:Int) ^ (lb s).length≤10 ^ 9:=by exact_mod_cast Nat.pow_le_pow_right (by omega) hb9
   omega
def cm (n:Int):ByteArray:=bif iC n 0 999999999 then ca n else ⟨#[]⟩
theorem wm {s:ByteArray}(h9:s.size≤9):aD s=bif !(jb s).2||decide (cm (jb s).1≠s) then (0,false) else ((jb s).1,true):=by
 have uD:∀{r:Int×Bool},r=aD s→r.2=false→r=(0,false):=fun {r} e h=>by
  subst e
  unfold aD at h ⊢
  cases hq:decide ((CT s).2=0)||decide ((CT s).2≠(s.size:Int)) with
  |true=>rfl
  |false=>rw [hq] at h;cases h
 cases hg:(aD s).2 with
 |true=>
  have e:aD s=((aD s).1,true):=by rw [←hg]
  obtain⟨h1,h2,h3⟩:=num_inv e
  have ha:jb s=((aD s).1,true):=by
   unfold jb
   have:Lib.atoi s.data.toList=some (aD s).1:=by
    have h4:=afI (aD s).1.toNat
    rw [show (((aD s).1.toNat:Nat):Int)=(aD s).1 by omega] at h4
    rw [←h4]
    show Lib.atoi (lb s)=Lib.atoi (lb (ca (aD s).1))
    rw [←h1]
   rw [this]
  have hp:cm (aD s).1=s:=by
   unfold cm
   rw [show iC (aD s).1 0 999999999=true from cz.2 ⟨h2,h3⟩]
   exact h1.symm
  rw [ha]
  simp only [Bool.not_true,Bool.false_or]
  rw [hp]
  simpa using e
 |false=>
  rw [uD rfl hg]
  cases ha:(jb s).2 with
  |false=>rfl
  |true=>
   have hd:decide (cm (jb s).1≠s)=true:=by
    apply decide_eq_true
    intro hp
    unfold cm at hp
    cases hi:iC (jb s).1 0 999999999 with
    |false=>
     rw [hi] at hp
     have hp:(⟨#[]⟩:ByteArray)=s:=hp
     subst hp
     exact absurd ha (by decide)
    |true=>
     rw [hi] at hp
     have hp:ca (jb s).1=s:=hp
     obtain⟨g1,g2⟩:=cz.1 hi
     have:=ey g1 (by omega)
     rw [hp] at this
     rw [this] at hg
     cases hg
   rw [hd];rfl
theorem S0 {s:ByteArray}(h9:9<s.size):aD s=(0,false):=by
 unfold aD
 obtain⟨_,b2,_⟩:=PC 9 s 0
 have hnl:sF 9 s 0=cX s:=rfl
 rw [hnl] at b2
 have:decide ((CT s).2≠(s.size:Int))=true:=by
  apply decide_eq_true
  unfold CT
  cases decide ((cX s:Int)>1)&&decide (bN s 0=48) with
  |true=>show (1:Int)≠s.size;omega
  |false=>show (cX s:Int)≠s.size;omega
 rw [this,ZC4];rfl
theorem Q5 (c:UInt8):∀(n:Nat) (s:ByteArray),Lib.countB s ⟨#[c]⟩=n→(Lib.splitB ⟨#[c]⟩ 0 n s).map lb=mw c (lb s)
 |n,s,hn=>by
  rcases Lib.indexB_cases s ⟨#[c]⟩ with hix |⟨i,hix,oi⟩
  ·have h1:Lib.indexByte (lb s) c= -1:=by rw [←Lib.index_one];exact hix
   have uD:c∉lb s:=fun h=>by
    obtain⟨k,hk⟩:=ZF5 h
    exact Lib.indexByte_none h1 k hk
   rw [Lib.splitB_miss _ _ _ _ hix,gl c _ uD];rfl
  ·have h1:Lib.indexByte (lb s) c=i:=by rw [←Lib.index_one];exact hix
   obtain⟨h2,h3⟩:=Lib.indexByte_some h1
   have amB:=Lib.countB_hit s ⟨#[c]⟩ i (ZB6 _) hix
   obtain⟨m,rfl⟩:∃m,n=m+1:=⟨n-1,by omega⟩
   rw [Lib.splitB_hit _ _ _ _ i hix,ZE8,Q5 c m _ (by omega)]
   have dk:(⟨#[c]⟩:ByteArray).size=1:=rfl
   have hi:i<(lb s).length:=(ZC0.1 h2).1
   have e:lb s=(lb s).take i++c::(lb s).drop (i+1):=by
    have h4:(lb s)[i]=c:=by have:=ZB2 hi;rw [this] at h2;exact ZE7 h2
    rw [←h4,List.getElem_cons_drop,List.take_append_drop]
   have hni:c∉(lb s).take i:=fun h=>by
    obtain⟨k,hk⟩:=ZF5 h
    rw [List.getElem?_take] at hk
    split at hk
    ·rename_i bU;exact h3 k bU hk
    ·cases hk
   rw [e,lI,gl c _ hni]
   show lb (s.extract 0 (i+0))::mw c (lb (s.extract (i+1) s.size))=_
   rw [mZ,mZ,fp,List.take_length,Nat.add_zero,ZF1]
   rfl
theorem Q4 (s:ByteArray) (c:UInt8):ic s ⟨#[c]⟩=bo s c.toNat:=by
 apply yJ
 rw [J1]
 exact Q5 c _ s rfl
theorem FQ (sep:ByteArray) (l:List ByteArray):lb (zX sep l)=Lib.join (l.map lb) (lb sep):=rfl
end GL
namespace GL
def dv (n:Int) (lo:Int) (hi:Int):Prop:=True
def ve (n:Int) (lo:Int) (hi:Int):AV:=.s (.q (iC n lo hi))
def WU (n:Int) (lo:Int) (hi:Int):List AV:=[]
def cD:Con where
 A:=[.s .int,.s .int,.s .int]
 B:=[]
 pre:=fun x b=>dv (x.1) (x.2.1) (x.2.2)
 α:=fun _ _=>Unit
 φ:=fun _ _ _=>True
 r:=fun x b _=>ve (x.1) (x.2.1) (x.2.2)
 o:=fun x b _=>WU (x.1) (x.2.1) (x.2.2)
 nf:=0
set_option maxRecDepth 100000 in
theorem gp:Has Tryz.prog 31 cD:=by
 refine Has.ofE (fun _=>true) (fun _=>false) (fun _=>false) (l:=[]) trivial (fn:=Tryz.f31) Tryz.func31 rfl (by decide) (aZ rfl) ?_
 rintro⟨(n:Int),(lo:Int),(hi:Int)⟩ _ (hp:dv n lo hi)
 show vc _ _ _ _ (entry [.int n,.int lo,.int hi] []) _
 refine⟨aa,fun w1=>?_,fun w2=>?_⟩
 all_goals first|refine aw ?_|refine ax ?_|exact ba|exact a8|skip
 all_goals
  refine⟨[],[],_,_,_,rfl,az,(),aa,?_,?_,rfl⟩
  ·show AV.q _=ve n lo hi;unfold ve;refine congrArg AV.q ?_;(simp_all [iC]<;>omega)
  ·rfl
def yu (n:Int):Prop:=True
def yf (n:Int):AV:=.s (.q (iC n 8 63))
def abC (n:Int):List AV:=[]
def KE:Con where
 A:=[.s .int]
 B:=[]
 pre:=fun x b=>yu x
 α:=fun _ _=>Unit
 φ:=fun _ _ _=>True
 r:=fun x b _=>yf x
 o:=fun x b _=>abC x
 nf:=0
set_option maxRecDepth 100000 in
theorem aei:Has Tryz.prog 58 KE:=by
 refine Has.ofE (fun _=>true) (fun _=>false) (fun _=>false) (l:=[(31,cD)]) ⟨gp,trivial⟩ (fn:=Tryz.f58) Tryz.func58 rfl (by decide) (aZ rfl) ?_
 rintro (n:Int) _ (hp:yu n)
 show vc _ _ _ _ (entry [.int n] []) _
 refine⟨⟨⟨aa,aa,aa,aa⟩,aa⟩,fun x1 w2=>?_⟩
 all_goals first|refine aw ?_|refine ax ?_|exact ba|(dsimp only [cD,dv];omega)|exact a8|skip
 refine⟨[],[],_,_,_,rfl,az,(),aa,?_,?_,rfl⟩
 ·(show _=yf n);unfold yf;first|rfl
 ·rfl
def cf (p:Pt):Prop:=True
def tc (p:Pt):AV:=.s (.q (au p))
def SK (p:Pt):List AV:=[]
def bI:Con where
 A:=[.a [.int,.int,.int,.int,.int]]
 B:=[]
 pre:=fun x b=>cf x
 α:=fun _ _=>Unit
 φ:=fun _ _ _=>True
 r:=fun x b _=>tc x
 o:=fun x b _=>SK x
 nf:=0
set_option maxRecDepth 100000 in
theorem eQ:Has Tryz.prog 35 bI:=by
 refine Has.ofE (fun _=>true) (fun _=>false) (fun _=>false) (l:=[]) trivial (fn:=Tryz.f35) Tryz.func35 rfl (by decide) (aZ rfl) ?_
 rintro⟨(p1:Int),(p2:Int),(p3:Int),(p4:Int),(p5:Int)⟩ _ (hp:cf (p1,p2,p3,p4,p5))
 show vc _ _ _ _ (entry [.a [.int p1,.int p2,.int p3,.int p4,.int p5]] []) _
 refine ?_
 all_goals first|refine aw ?_|refine ax ?_|exact ba|exact a8|skip
 refine⟨[],[],_,_,_,rfl,az,(),aa,?_,?_,rfl⟩
 ·(show _=tc (p1,p2,p3,p4,p5));unfold tc;first|rfl
 ·rfl
def cS (p:Pt):Prop:=True
def yh (p:Pt):AV:=.s (.q (a6 p))
def abE (p:Pt):List AV:=[]
def cE:Con where
 A:=[.a [.int,.int,.int,.int,.int]]
 B:=[]
 pre:=fun x b=>cS x
 α:=fun _ _=>Unit
 φ:=fun _ _ _=>True
 r:=fun x b _=>yh x
 o:=fun x b _=>abE x
 nf:=0
set_option maxRecDepth 100000 in
theorem jv:Has Tryz.prog 34 cE:=by
 refine Has.ofE (fun _=>true) (fun _=>false) (fun _=>false) (l:=[(35,bI),(58,KE),(31,cD)]) ⟨eQ,aei,gp,trivial⟩ (fn:=Tryz.f34) Tryz.func34 rfl (by decide) (aZ rfl) ?_
 rintro⟨(p1:Int),(p2:Int),(p3:Int),(p4:Int),(p5:Int)⟩ _ (hp:cS (p1,p2,p3,p4,p5))
 show vc _ _ _ _ (entry [.a [.int p1,.int p2,.int p3,.int p4,.int p5]] []) _
 refine⟨⟨⟨⟨aa,aa,aa,aa,aa,aa⟩,aa⟩,aa⟩,fun x1 w2=>⟨aa,fun w3=>?_,fun w4=>⟨⟨⟨aa,aa⟩,aa⟩,fun x5 w6=>⟨aa,fun w7=>⟨⟨⟨aa,aa,aa,aa⟩,aa⟩,fun x8 w9=>⟨aa,fun dq=>⟨⟨⟨aa,aa,aa,aa⟩,aa⟩,fun kE dI=>⟨aa,fun iJ=>⟨⟨⟨aa,aa,aa,aa⟩,aa⟩,fun x14 pe=>⟨aa,fun kj=>⟨⟨⟨aa,aa,aa,aa⟩,aa⟩,fun x17 qX=>?_⟩,fun oB=>?_⟩⟩,fun uw=>?_⟩⟩,fun zm=>?_⟩⟩,fun zl=>?_⟩⟩⟩⟩
 all_goals first|refine aw ?_|refine ax ?_|exact ba|(dsimp only [bI,cf];omega)|(dsimp only [KE,yu];omega)|(dsimp only [cD,dv];omega)|exact a8|skip
 all_goals
  refine⟨[],[],_,_,_,rfl,az,(),aa,?_,?_,rfl⟩
  ·show AV.q _=yh (p1,p2,p3,p4,p5);unfold yh;refine congrArg AV.q ?_;simp_all [a6]
  ·rfl
def tq (s:ByteArray):Prop:=s.size≤1000000000
def yg (s:ByteArray):AV:=.s (.int (qR s))
def abD (s:ByteArray):List AV:=[]
def KF:Con where
 A:=[.s .str]
 B:=[]
 pre:=fun x b=>tq x
 α:=fun _ _=>Unit
 φ:=fun _ _ _=>True
 r:=fun x b _=>yg x
 o:=fun x b _=>abD x
 nf:=0
set_option maxRecDepth 100000 in
theorem aej:Has Tryz.prog 94 KF:=by
 refine Has.ofE (fun _=>true) (fun _=>false) (fun _=>false) (l:=[]) trivial (fn:=Tryz.f94) Tryz.func94 rfl (by decide) (aZ rfl) ?_
 rintro (s:ByteArray) _ (hp:tq s)
 show vc _ _ _ _ (entry [.str s] []) _
 unfold tq at hp
 refine ?_
 all_goals first|refine aw ?_|refine ax ?_|exact ba|exact a8|skip
 refine cO (l:=[]) (ex:=fun _=>true) (wr:=fun _=>false) (pt:=fun _=>false) trivial [.s 0,.s 7] (fun k:Nat=>[(.s 3,.int (r7 s k).1),(.s 4,.int (r7 s k).2),(.s 8,.int k)]) (fun k=>k≤s.size) (fun k=>s.size-k) 0 [] (ZA8 _) dN ?_
 rintro k hk
 have hb:=xn s k
 have hs:=zr s k
 refine⟨fun w1=>⟨⟨?_,?_⟩,⟨⟨?_,?_⟩,⟨⟨?_,?_⟩,⟨⟨?_,?_⟩,⟨⟨?_,?_⟩,⟨⟨?_,?_⟩,⟨⟨?_,?_⟩,⟨⟨?_,?_⟩,?_⟩⟩⟩⟩⟩⟩⟩⟩,fun w2=>⟨⟨?_,?_⟩,⟨⟨?_,?_⟩,?_⟩⟩⟩
 all_goals first|refine aw ?_|refine ax ?_|exact ba|exact a8|skip
 ·refine⟨(k+1),[],?_,?_,?_⟩
  rotate_right
  ·repeat' (first|exact trivial|rfl|exact rfl|exact fP ZA0.symm|exact oU|exact congrArg (fun n:Int=>some (AV.int n)) (congrArg (· % 9973) (Int.add_comm _ _))|apply And.intro)
  ·have:=aE w1;omega
  ·have:=aE w1;omega
 ·have h2:¬(k:Int)<(s.size:Int):=aA w2
  have hk':k=s.size:=by omega
  subst hk'
  refine⟨[],[],_,_,_,rfl,az,(),aa,?_,?_,rfl⟩
  ·(show _=yg s);unfold yg;first|rfl
  ·rfl
end GL
namespace GL
def tv (p:Pt) (s:ByteArray):Prop:=s.size≤1000000000
def tf (p:Pt) (s:ByteArray):AV:=.s (.q (iY p s))
def SL (p:Pt) (s:ByteArray):List AV:=[]
def zd:Con where
 A:=[.a [.int,.int,.int,.int,.int],.s .str]
 B:=[]
 pre:=fun x b=>tv (x.1) (x.2)
 α:=fun _ _=>Unit
 φ:=fun _ _ _=>True
 r:=fun x b _=>tf (x.1) (x.2)
 o:=fun x b _=>SL (x.1) (x.2)
 nf:=0
set_option maxRecDepth 100000 in
theorem XO:Has Tryz.prog 62 zd:=by
 refine Has.ofE (fun _=>true) (fun _=>false) (fun _=>false) (l:=[(35,bI),(34,cE),(94,KF)]) ⟨eQ,jv,aej,trivial⟩ (fn:=Tryz.f62) Tryz.func62 rfl (by decide) (aZ rfl) ?_
 rintro⟨⟨(p1:Int),(p2:Int),(p3:Int),(p4:Int),(p5:Int)⟩,(s:ByteArray)⟩ _ (hp:tv (p1,p2,p3,p4,p5) s)
 show vc _ _ _ _ (entry [.a [.int p1,.int p2,.int p3,.int p4,.int p5],.str s] []) _
 have hp:s.size≤1000000000:=hp
 refine⟨[.s 2,.b 1002],[.s 5],rfl,[.s 5],[.s 6],rfl,⟨⟨⟨aa,aa,aa,aa,aa,aa⟩,aa⟩,aa⟩,?_,fun x1 w2=>⟨[.s 6],[.s 7],rfl,aa,fun w3=>⟨[.s 7,.s 2,.b 1002],[.s 8],rfl,[.s 7,.s 8],[.s 9],rfl,⟨⟨⟨aa,aa,aa,aa,aa,aa⟩,aa⟩,aa⟩,?_,fun x4 w5=>⟨[.s 7,.s 9],[.s 10],rfl,[.s 7,.s 10],[.s 11],rfl,[.s 11],[.s 12],rfl,aa,fun w6=>⟨[.s 12,.s 2],[.s 13],rfl,[.s 12,.s 13,.b 1002],[.s 14],rfl,[.s 12,.s 1],[.s 15],rfl,[.s 12,.s 15],[.s 16],rfl,[.s 12,.s 14,.s 16],[.s 17],rfl,[.s 12,.s 17],[.s 18],rfl,[.s 18],[.s 19],rfl,aa,fun w7=>⟨[.s 19,.s 2],[.s 20],rfl,[.s 19,.s 20,.b 1002],[.s 21],rfl,[.s 19,.s 1],[.s 22],rfl,[.s 19,.s 22],[.s 23],rfl,⟨⟨aa,aa⟩,?_⟩,?_,fun x8 w9=>⟨[.s 19,.s 21,.s 23],[.s 24],rfl,[.s 19,.s 24],[.s 25],rfl,[.s 25],[.s 4],rfl,?_⟩⟩,fun dq=>⟨[.s 19],[.s 20],rfl,[.s 19],[.s 21],rfl,[.s 19],[.s 22],rfl,[.s 19],[.s 23],rfl,[.s 19],[.s 24],rfl,[.s 19,.s 24],[.s 25],rfl,[.s 25],[.s 4],rfl,?_⟩⟩,fun kk=>⟨[.s 12],[.s 13],rfl,[.s 12],[.s 14],rfl,[.s 12],[.s 15],rfl,[.s 12],[.s 16],rfl,[.s 12],[.s 17],rfl,[.s 12,.s 17],[.s 18],rfl,[.s 18],[.s 19],rfl,[.s 19],[.s 20],rfl,[.s 19],[.s 21],rfl,[.s 19],[.s 22],rfl,[.s 19],[.s 23],rfl,[.s 19],[.s 24],rfl,[.s 19,.s 24],[.s 25],rfl,[.s 25],[.s 4],rfl,?_⟩⟩⟩,fun dI=>⟨[.s 7],[.s 8],rfl,[.s 7],[.s 9],rfl,[.s 7],[.s 10],rfl,[.s 7,.s 10],[.s 11],rfl,[.s 11],[.s 12],rfl,[.s 12],[.s 13],rfl,[.s 12],[.s 14],rfl,[.s 12],[.s 15],rfl,[.s 12],[.s 16],rfl,[.s 12],[.s 17],rfl,[.s 12,.s 17],[.s 18],rfl,[.s 18],[.s 19],rfl,[.s 19],[.s 20],rfl,[.s 19],[.s 21],rfl,[.s 19],[.s 22],rfl,[.s 19],[.s 23],rfl,[.s 19],[.s 24],rfl,[.s 19,.s 24],[.s 25],rfl,[.s 25],[.s 4],rfl,?_⟩⟩⟩
 all_goals first|refine aw ?_|refine ax ?_|exact ba|(dsimp only [bI,cf];omega)|(dsimp only [cE,cS];omega)|(dsimp only [KF,tq];omega)|exact a8|skip
 all_goals
  refine⟨[],[],_,_,_,rfl,az,(),aa,?_,?_,rfl⟩
  ·show AV.q _=tf (p1,p2,p3,p4,p5) s;unfold tf;refine congrArg AV.q ?_;simp_all [iY]
  ·rfl
def fH (n:Int):Prop:=True
def nO (n:Int):AV:=.s (.str (cm n))
def WY (n:Int):List AV:=[]
def gq:Con where
 A:=[.s .int]
 B:=[]
 pre:=fun x b=>fH x
 α:=fun _ _=>Unit
 φ:=fun _ _ _=>True
 r:=fun x b _=>nO x
 o:=fun x b _=>WY x
 nf:=0
set_option maxRecDepth 100000 in
theorem CX:Has Tryz.prog 147 gq:=by
 refine Has.ofE (fun _=>true) (fun _=>false) (fun _=>false) (l:=[(31,cD),(163,YO)]) ⟨gp,ahZ,trivial⟩ (fn:=Tryz.f147) Tryz.func147 rfl (by decide) (aZ rfl) ?_
 rintro (n:Int) _ (hp:fH n)
 show vc _ _ _ _ (entry [.int n] []) _
 have cr:(!(iC n 0 999999999))=false→0≤n∧n≤999999999:=fun h=>cz.1 (cI h)
 refine⟨⟨⟨aa,aa,aa,aa⟩,aa⟩,fun x1 w2=>⟨fun w3=>?_,fun w4=>⟨⟨⟨aa,aa⟩,?_,?_⟩,fun x5 w6=>?_⟩⟩⟩
 all_goals first|refine aw ?_|refine ax ?_|exact ba|(dsimp only [cD,dv];omega)|(dsimp only [YO,aja];omega)|exact a8|(have:=cr w4;show (-9223372036854775808:Int)≤n;omega)|(have:=cr w4;show n≤(9223372036854775807:Int);omega)|skip
 ·have e:cm n=⟨#[]⟩:=by unfold cm;rw [show iC n 0 999999999=false from xv w3];rfl
  refine⟨[],[],_,_,_,rfl,az,(),aa,?_,?_,rfl⟩
  ·(show _=nO n);unfold nO;first|(rw [e];rfl)|rfl
  ·rfl
 ·have e:cm n=aen n:=by unfold cm;rw [show iC n 0 999999999=true from cI w4,aca (cr w4).1];rfl
  refine⟨[],[],_,_,_,rfl,az,(),aa,?_,?_,rfl⟩
  ·(show _=nO n);unfold nO;first|(rw [e];rfl)|rfl
  ·rfl
def gy (s:ByteArray):Prop:=s.size≤1000000
def gv (s:ByteArray):AV:=.t [.s (.int (aD s).1),.s (.q (aD s).2)]
def WZ (s:ByteArray):List AV:=[]
def iV:Con where
 A:=[.s .str]
 B:=[]
 pre:=fun x b=>gy x
 α:=fun _ _=>Unit
 φ:=fun _ _ _=>True
 r:=fun x b _=>gv x
 o:=fun x b _=>WZ x
 nf:=0
set_option maxRecDepth 100000 in
theorem MR:Has Tryz.prog 124 iV:=by
 refine Has.ofE (fun _=>true) (fun _=>false) (fun _=>false) (l:=[(147,gq),(146,YQ)]) ⟨CX,ah0,trivial⟩ (fn:=Tryz.f124) Tryz.func124 rfl (by decide) (aZ rfl) ?_
 rintro (s:ByteArray) _ (hp:gy s)
 show vc _ _ _ _ (entry [.str s] []) _
 have hp:s.size≤1000000:=hp
 have h9:decide ((s.size:Int)>9)=false→s.size≤9:=fun h=>by have:=aA h;omega
 refine⟨fun w1=>?_,fun w2=>⟨⟨⟨aa,aa⟩,?_⟩,fun x3 w4=>⟨aa,fun w5=>?_,fun w6=>⟨⟨⟨aa,aa⟩,aa⟩,fun x7 w8=>⟨fun w9=>?_,fun dq=>?_⟩⟩⟩⟩⟩
 all_goals first|refine aw ?_|refine ax ?_|exact ba|(dsimp only [gq,fH];omega)|(dsimp only [YQ,ajb];omega)|exact a8|(show s.size≤18;have:=h9 w2;omega)|skip
 ·have e:aD s=(0,false):=S0 (by have:=aE (p:=(s.size:Int)>9) w1;omega)
  refine⟨[],[],_,_,_,rfl,az,(),aa,?_,?_,rfl⟩
  ·(show _=gv s);unfold gv;first|(rw [e];rfl)|rfl
  ·rfl
 ·have e:aD s=(0,false):=by rw [wm (h9 w2),show (!(jb s).2)=true from w5];rfl
  refine⟨[],[],_,_,_,rfl,az,(),aa,?_,?_,rfl⟩
  ·(show _=gv s);unfold gv;first|(rw [e];rfl)|rfl
  ·rfl
 ·have e:aD s=(0,false):=by rw [wm (h9 w2),show decide (cm (jb s).1≠s)=true from w9,ZC4];rfl
  refine⟨[],[],_,_,_,rfl,az,(),aa,?_,?_,rfl⟩
  ·(show _=gv s);unfold gv;first|(rw [e];rfl)|rfl
  ·rfl
 ·have e:aD s=((jb s).1,true):=by rw [wm (h9 w2),show (!(jb s).2)=false from w6,show decide (cm (jb s).1≠s)=false from dq];rfl
  refine⟨[],[],_,_,_,rfl,az,(),aa,?_,?_,rfl⟩
  ·(show _=gv s);unfold gv;first|(rw [e];rfl)|rfl
  ·rfl
def dK (p:Pt):Prop:=True
def ye (p:Pt):AV:=.s (.xs 1 1 0 5)
def CE (p:Pt):List AV:=[.a [.int p.1,.int p.2.1,.int p.2.2.1,.int p.2.2.2.1,.int p.2.2.2.2],.a [.bp 0 0,.bp 0 1,.bp 0 2,.bp 0 3,.bp 0 4]]
def eE:Con where
 A:=[.b 0]
 B:=[.a [.int,.int,.int,.int,.int]]
 pre:=fun x b=>dK b
 α:=fun _ _=>Unit
 φ:=fun _ _ _=>True
 r:=fun x b _=>ye b
 o:=fun x b _=>CE b
 nf:=1
 ro:=true
set_option maxRecDepth 100000 in
theorem zU:Has Tryz.prog 123 eE:=by
 refine Has.ofE (fun _=>true) (fun _=>false) (fun _=>false) (l:=[]) trivial (fn:=Tryz.f123) Tryz.func123 rfl (by decide) (aZ rfl) ?_
 rintro _ ⟨(p1:Int),(p2:Int),(p3:Int),(p4:Int),(p5:Int)⟩ (hp:dK (p1,p2,p3,p4,p5))
 show vc _ _ _ _ (entry [.s (.bp 0 0)] [.a [.int p1,.int p2,.int p3,.int p4,.int p5]]) _
 refine⟨[.s 0],[.s 3],rfl,[.s 3],[.s 4],rfl,[.s 4],[.s 5],rfl,[.s 0],[.s 6],rfl,[.s 6],[.s 7],rfl,[.s 7],[.s 8],rfl,[.s 0],[.s 9],rfl,[.s 9],[.s 10],rfl,[.s 10],[.s 11],rfl,[.s 0],[.s 12],rfl,[.s 12],[.s 13],rfl,[.s 13],[.s 14],rfl,[.s 0],[.s 15],rfl,[.s 15],[.s 16],rfl,[.s 16],[.s 17],rfl,[.s 5,.s 8,.s 11,.s 14,.s 17,.b 1018],[.s 18,.b 1018],rfl,[.s 18],[.s 2],rfl,?_⟩
 all_goals first|refine aw ?_|refine ax ?_|exact ba|exact a8|skip
 refine⟨[1018],[],_,_,_,rfl,az,(),aa,?_,?_,rfl⟩
 ·(show _=ye (p1,p2,p3,p4,p5));unfold ye;first|rfl
 ·(show _=CE (p1,p2,p3,p4,p5));unfold CE;first|rfl
end GL
namespace GL
theorem sC {n:Int}(h0:0≤n) (h1:n≤999999999):cm n=ca n:=by unfold cm;rw [show iC n 0 999999999=true from cz.2 ⟨h0,h1⟩];rfl
theorem V5 {p:Pt}(h:a6 p=true) (h2:au p=false):(0≤p.1∧p.1≤999999999)∧(0≤p.2.1∧p.2.1≤999999999)∧(0≤p.2.2.1∧p.2.2.1≤999999999)∧(0≤p.2.2.2.1∧p.2.2.2.1≤999999999)∧(0≤p.2.2.2.2∧p.2.2.2.2≤999999999):=by
 unfold a6 at h
 rw [h2,Bool.false_or] at h
 simp only [ZB0,cz] at h
 omega
theorem ag9 (a b c d e:ByteArray):lb (zX ⟨#[46]⟩ [a,b,c,d,e])=lb a++46::(lb b++46::(lb c++46::(lb d++46::lb e))):=by
 rw [FQ]
 show Lib.join [lb a,lb b,lb c,lb d,lb e] [46]=_
 simp [Lib.join,List.intercalate]
theorem aha (a b c d:ByteArray):lb (zX ⟨#[44]⟩ [a,b,c,d])=lb a++44::(lb b++44::(lb c++44::lb d)):=by
 rw [FQ]
 show Lib.join [lb a,lb b,lb c,lb d] [44]=_
 simp [Lib.join,List.intercalate]
theorem R1 {p:Pt}(h:a6 p=true) (h2:au p=false):bd p=zX ⟨#[46]⟩ [cm p.1,cm p.2.1,cm p.2.2.1,cm p.2.2.2.1,cm p.2.2.2.2]:=by
 obtain⟨h1,h3,h4,h5,h6⟩:=V5 h h2
 apply vF
 rw [wS h h2,ag9,sC h1.1 h1.2,sC h3.1 h3.2,sC h4.1 h4.2,sC h5.1 h5.2,sC h6.1 h6.2]
def adg (p:Pt):List ByteArray:=[cm p.1,cm p.2.1,cm p.2.2.1,cm p.2.2.2.1,cm p.2.2.2.2]
theorem oa (n:Int):(cm n).size≤12:=by
 unfold cm
 cases h:iC n 0 999999999 with
 |true=>exact dc (by have:=(cz.1 h).2;omega)
 |false=>exact ZA8 _
theorem ab9 (a b c d e:Int):(Lib.join ([cm a,cm b,cm c,cm d,cm e].map (·.data.toList)) (⟨#[46]⟩:ByteArray).data.toList).length≤1000000:=by
 have h:=congrArg List.length (ag9 (cm a) (cm b) (cm c) (cm d) (cm e))
 have e1:=oa a;have e2:=oa b;have e3:=oa c;have e4:=oa d;have e5:=oa e
 rw [fp] at e1 e2 e3 e4 e5
 rw [FQ] at h
 have h':(Lib.join ([cm a,cm b,cm c,cm d,cm e].map (·.data.toList)) (⟨#[46]⟩:ByteArray).data.toList).length=_:=h
 rw [h']
 simp only [ZA0,ZA1]
 omega
def eI (p:Pt):Prop:=True
def jj (p:Pt):AV:=.s (.str (bd p))
def WW (p:Pt):List AV:=[]
def eU:Con where
 A:=[.a [.int,.int,.int,.int,.int]]
 B:=[]
 pre:=fun x b=>eI x
 α:=fun _ _=>Unit
 φ:=fun _ _ _=>True
 r:=fun x b _=>jj x
 o:=fun x b _=>WW x
 nf:=0
set_option maxRecDepth 100000 in
theorem xa:Has Tryz.prog 125 eU:=by
 refine Has.ofEI (fun _=>true) (fun _=>false) (fun _=>false) (l:=[(35,bI),(34,cE),(123,eE),(147,gq),(127,k6)]) ⟨eQ,jv,zU,CX,PW,trivial⟩ (fn:=Tryz.f125) Tryz.func125 rfl (by decide) (aZ rfl) ?_
 rintro⟨(p1:Int),(p2:Int),(p3:Int),(p4:Int),(p5:Int)⟩ _ (hp:eI (p1,p2,p3,p4,p5))
 show vc _ _ _ _ (entry [.a [.int p1,.int p2,.int p3,.int p4,.int p5]] []) _
 refine⟨⟨⟨⟨aa,aa,aa,aa,aa,aa⟩,aa⟩,aa⟩,fun x1 w2=>⟨fun w3=>?_,fun w4=>⟨⟨⟨⟨aa,aa,aa,aa,aa,aa⟩,aa⟩,aa⟩,fun x5 w6=>⟨fun w7=>?_,fun w8=>⟨⟨⟨⟨aa,aa⟩,aa⟩,fun x9 dq=>?_⟩,fun kE dI=>?_⟩⟩⟩⟩⟩
 all_goals first|refine aw ?_|refine ax ?_|exact ba|(dsimp only [bI,cf];omega)|(dsimp only [cE,cS];omega)|(dsimp only [eE,dK];omega)|(dsimp only [gq,fH];omega)|(dsimp only [k6,lX];omega)|exact a8|skip
 ·have e:bd (p1,p2,p3,p4,p5)=⟨#[]⟩:=by unfold bd;rw [show a6 (p1,p2,p3,p4,p5)=false from xv w3];rfl
  refine⟨[],[],_,_,_,rfl,az,(),aa,?_,?_,rfl⟩
  ·(show _=jj (p1,p2,p3,p4,p5));unfold jj;first|(rw [e];rfl)|rfl
  ·rfl
 ·have e:bd (p1,p2,p3,p4,p5)=⟨#[45]⟩:=q7 w7
  refine⟨[],[],_,_,_,rfl,az,(),aa,?_,?_,rfl⟩
  ·(show _=jj (p1,p2,p3,p4,p5));unfold jj;first|(rw [e];rfl)|rfl
  ·rfl
 ·have cA:a6 (p1,p2,p3,p4,p5)=true:=cI w4
  have hho:au (p1,p2,p3,p4,p5)=false:=w8
  refine l9 (l:=[(35,bI),(34,cE),(123,eE),(147,gq),(127,k6)]) (ex:=fun _=>true) (wr:=fun _=>false) (pt:=fun _=>false) ⟨eQ,jv,zU,CX,PW,aa⟩ [.s 13,.s 14,.b 1001,.b 140000] (fun n:Nat=>match n with |0=>[(.s 3,.s (.v (.slice none 0 0))),(.s 15,.int 0)] |n+1=>[(.s 3,.s (.xs 1019 1 0 (n+1))),(.s 15,.int ((n+1:Nat):Int)),(.b 1019,.rs ab ((adg (p1,p2,p3,p4,p5)).take (n+1)))]) (fun n=>n≤5) (fun n=>5-n) 0 [] (ZA8 _) dN ?_
  rintro n (hn:n≤5)
  have h5:n=0∨n=1∨n=2∨n=3∨n=4∨n=5:=by omega
  rcases h5 with rfl |rfl |rfl |rfl |rfl |rfl
  ·refine⟨fun w1=>⟨⟨?_,?_⟩,⟨⟨aa,aa⟩,aa⟩,fun x2 w3=>⟨aa,⟨⟨?_,?_⟩,?_,?_⟩,⟨?_,?_⟩,?_⟩⟩,fun w4=>⟨⟨⟨aa,aa,aa⟩,?_,?_⟩,fun x5 w6=>?_⟩⟩
   all_goals first|(exfalso;simp only [decide_eq_true_eq,decide_eq_false_iff_not] at *;omega)|refine aw ?_|refine ax ?_|exact ba|(dsimp only [bI,cf];omega)|(dsimp only [cE,cS];omega)|(dsimp only [eE,dK];omega)|(dsimp only [gq,fH];omega)|(dsimp only [k6,lX];omega)|exact a8|(show (0:Nat)+1≤1048576;omega)|skip
   ·refine⟨(1),[(1019,1025)],?_,?_,?_⟩
    rotate_right
    ·exact bX
    ·show (1:Nat)≤5;omega
    ·show 5-1<5-0;omega
  ·refine⟨fun w1=>⟨⟨?_,?_⟩,⟨⟨aa,aa⟩,aa⟩,fun x2 w3=>⟨aa,⟨⟨?_,?_⟩,?_,?_⟩,⟨?_,?_⟩,?_⟩⟩,fun w4=>⟨⟨⟨⟨?_,?_⟩,aa,aa⟩,?_,?_⟩,fun x5 w6=>?_⟩⟩
   all_goals first|(exfalso;simp only [decide_eq_true_eq,decide_eq_false_iff_not] at *;omega)|refine aw ?_|refine ax ?_|exact ba|(dsimp only [bI,cf];omega)|(dsimp only [cE,cS];omega)|(dsimp only [eE,dK];omega)|(dsimp only [gq,fH];omega)|(dsimp only [k6,lX];omega)|exact a8|(show (1:Nat)+1≤1048576;omega)|skip
   ·refine⟨(2),[(1019,1025)],?_,?_,?_⟩
    rotate_right
    ·exact bX
    ·show (2:Nat)≤5;omega
    ·show 5-2<5-1;omega
  ·refine⟨fun w1=>⟨⟨?_,?_⟩,⟨⟨aa,aa⟩,aa⟩,fun x2 w3=>⟨aa,⟨⟨?_,?_⟩,?_,?_⟩,⟨?_,?_⟩,?_⟩⟩,fun w4=>⟨⟨⟨⟨?_,?_⟩,aa,aa⟩,?_,?_⟩,fun x5 w6=>?_⟩⟩
   all_goals first|(exfalso;simp only [decide_eq_true_eq,decide_eq_false_iff_not] at *;omega)|refine aw ?_|refine ax ?_|exact ba|(dsimp only [bI,cf];omega)|(dsimp only [cE,cS];omega)|(dsimp only [eE,dK];omega)|(dsimp only [gq,fH];omega)|(dsimp only [k6,lX];omega)|exact a8|(show (2:Nat)+1≤1048576;omega)|skip
   ·refine⟨(3),[(1019,1025)],?_,?_,?_⟩
    rotate_right
    ·exact bX
    ·show (3:Nat)≤5;omega
    ·show 5-3<5-2;omega
  ·refine⟨fun w1=>⟨⟨?_,?_⟩,⟨⟨aa,aa⟩,aa⟩,fun x2 w3=>⟨aa,⟨⟨?_,?_⟩,?_,?_⟩,⟨?_,?_⟩,?_⟩⟩,fun w4=>⟨⟨⟨⟨?_,?_⟩,aa,aa⟩,?_,?_⟩,fun x5 w6=>?_⟩⟩
   all_goals first|(exfalso;simp only [decide_eq_true_eq,decide_eq_false_iff_not] at *;omega)|refine aw ?_|refine ax ?_|exact ba|(dsimp only [bI,cf];omega)|(dsimp only [cE,cS];omega)|(dsimp only [eE,dK];omega)|(dsimp only [gq,fH];omega)|(dsimp only [k6,lX];omega)|exact a8|(show (3:Nat)+1≤1048576;omega)|skip
   ·refine⟨(4),[(1019,1025)],?_,?_,?_⟩
    rotate_right
    ·exact bX
    ·show (4:Nat)≤5;omega
    ·show 5-4<5-3;omega
  ·refine⟨fun w1=>⟨⟨?_,?_⟩,⟨⟨aa,aa⟩,aa⟩,fun x2 w3=>⟨aa,⟨⟨?_,?_⟩,?_,?_⟩,⟨?_,?_⟩,?_⟩⟩,fun w4=>⟨⟨⟨⟨?_,?_⟩,aa,aa⟩,?_,?_⟩,fun x5 w6=>?_⟩⟩
   all_goals first|(exfalso;simp only [decide_eq_true_eq,decide_eq_false_iff_not] at *;omega)|refine aw ?_|refine ax ?_|exact ba|(dsimp only [bI,cf];omega)|(dsimp only [cE,cS];omega)|(dsimp only [eE,dK];omega)|(dsimp only [gq,fH];omega)|(dsimp only [k6,lX];omega)|exact a8|(show (4:Nat)+1≤1048576;omega)|skip
   ·refine⟨(5),[(1019,1025)],?_,?_,?_⟩
    rotate_right
    ·exact bX
    ·show (5:Nat)≤5;omega
    ·show 5-5<5-4;omega
  ·refine⟨fun w1=>⟨⟨?_,?_⟩,?_⟩,fun w2=>⟨⟨⟨⟨?_,?_⟩,aa,aa⟩,?_,?_⟩,fun x3 w4=>?_⟩⟩
   all_goals first|(exfalso;simp only [decide_eq_true_eq,decide_eq_false_iff_not] at *;omega)|refine aw ?_|refine ax ?_|exact ba|(dsimp only [bI,cf];omega)|(dsimp only [cE,cS];omega)|(dsimp only [eE,dK];omega)|(dsimp only [gq,fH];omega)|(dsimp only [k6,lX];omega)|exact a8|(exact ab9 p1 p2 p3 p4 p5)|(show (5:Nat)≤1000000;omega)|skip
   ·have e:bd (p1,p2,p3,p4,p5)=zX ⟨#[46]⟩ (adg (p1,p2,p3,p4,p5)):=R1 cA hho
    refine⟨[],[],_,_,_,rfl,az,(),aa,?_,?_,rfl⟩
    ·(show _=jj (p1,p2,p3,p4,p5));unfold jj;first|(rw [e];rfl)|rfl
    ·rfl
end GL
namespace GL
def YN (c:UInt8):List (List UInt8)→List UInt8
 |[]=>[]
 |[x]=>x
 |x::y::l=>x++c::YN c (y::l)
theorem NU (c:UInt8):∀l:List UInt8,YN c (mw c l)=l
 |[]=>rfl
 |x::l=>by
  have ih:=NU c l
  rw [r9]
  split
  ·rename_i hx
   cases e:mw c l with
   |nil=>exact absurd e (zu c l)
   |cons w a=>rw [e] at ih;show []++c::YN c (w::a)=_;rw [ih,hx];rfl
  ·cases e:mw c l with
   |nil=>exact absurd e (zu c l)
   |cons w a=>
    rw [e] at ih
    cases a with
    |nil=>show x::w=_;rw [show w=l from ih]
    |cons v a=>show x::(w++c::YN c (v::a))=_;rw [show w++c::YN c (v::a)=l from ih]
theorem aaI (s:ByteArray) (c:UInt8) {l:List ByteArray}(h:bo s c.toNat=l):YN c (l.map lb)=lb s:=by
 rw [←h,J1];exact NU c _
theorem CH:∀(l:List ByteArray) (acc:List Int) (j:Nat),j<l.length→(aD (nth ab l j)).2=false→lx l acc=none
 |t::l,acc,0,_,h=>by rw [lx,show (aD t).2=false from h];rfl
 |t::l,acc,j+1,hj,h=>by
  rw [lx]
  cases (aD t).2 with
  |false=>rfl
  |true=>exact CH l _ j (by simpa using hj) h
theorem vB {t:ByteArray}(h:(aD t).2=true):aD t=((aD t).1,true):=by rw [←h]
def OO (l:List ByteArray):Pt:=((aD (nth ab l 0)).1,(aD (nth ab l 1)).1,(aD (nth ab l 2)).1,(aD (nth ab l 3)).1,(aD (nth ab l 4)).1)
theorem HG {s:ByteArray}(h0:decide (s=⟨#[45]⟩)=false) (h5:(bo s 46).length=5) (hk:∀j,j<5→(aD (nth ab (bo s 46) j)).2=true):bR s=bif decide (bd (OO (bo s 46))≠s) then (bO,false) else (OO (bo s 46),true):=by
 rw [sf h0 (by rw [h5];rfl)]
 have hs0:s≠⟨#[45]⟩:=aA h0
 have aeH:=fun l h=>aaI s 46 (l:=l) h
 have fB:s≠⟨#[]⟩:=by
  rintro rfl
  exact absurd h5 (by decide)
 change (∀l,bo s 46=l→YN 46 (l.map lb)=lb s) at aeH
 match hl:bo s 46,h5 with
 |[a,b,c,d,e],_=>
  rw [hl] at hk
  have ha:=vB (t:=a) (hk 0 (by omega))
  have hb:=vB (t:=b) (hk 1 (by omega))
  have hc:=vB (t:=c) (hk 2 (by omega))
  have hd:=vB (t:=d) (hk 3 (by omega))
  have he:=vB (t:=e) (hk 4 (by omega))
  have hn:lx [a,b,c,d,e] []=some [(aD a).1,(aD b).1,(aD c).1,(aD d).1,(aD e).1]:=by
   simp [lx,show (aD a).2=true from hk 0 (by omega),show (aD b).2=true from hk 1 (by omega),show (aD c).2=true from hk 2 (by omega),show (aD d).2=true from hk 3 (by omega),show (aD e).2=true from hk 4 (by omega)]
  rw [B3 hn]
  show pY [(aD a).1,(aD b).1,(aD c).1,(aD d).1,(aD e).1]=bif decide (bd (lO [(aD a).1,(aD b).1,(aD c).1,(aD d).1,(aD e).1])≠s) then (bO,false) else (lO [(aD a).1,(aD b).1,(aD c).1,(aD d).1,(aD e).1],true)
  generalize hp:lO [(aD a).1,(aD b).1,(aD c).1,(aD d).1,(aD e).1]=p
  have hf:∀r,lO [(aD a).1,(aD b).1,(aD c).1,(aD d).1,(aD e).1]=r→r=p:=fun r h=>h ▸ hp
  cases hh:au p with
  |true=>
   rw [R3 (by rw [hp];exact hh),q7 hh,decide_eq_true (p:=¬(⟨#[45]⟩:ByteArray)=s) (fun h=>hs0 h.symm)];rfl
  |false=>
   cases ho:a6 p with
   |false=>
    rw [R4 (by rw [hp,ho];rfl),show bd p=⟨#[]⟩ by unfold bd;rw [ho];rfl,decide_eq_true (p:=¬(⟨#[]⟩:ByteArray)=s) (fun h=>fB h.symm)];rfl
   |true=>
    rw [HI (by rw [hp,ho];rfl) (by rw [hp];exact hh),hp]
    have e1:bd p=s:=by
     apply vF
     rw [wS ho hh,←aeH _ hl]
     have q1:=(num_inv ha).1;have q2:=(num_inv hb).1;have q3:=(num_inv hc).1;have q4:=(num_inv hd).1;have q5:=(num_inv he).1
     rw [show p.1=(aD a).1 by rw [←hp];rfl,show p.2.1=(aD b).1 by rw [←hp];rfl,show p.2.2.1=(aD c).1 by rw [←hp];rfl,show p.2.2.2.1=(aD d).1 by rw [←hp];rfl,show p.2.2.2.2=(aD e).1 by rw [←hp];rfl,←q1,←q2,←q3,←q4,←q5]
     rfl
    rw [decide_eq_false (p:=¬bd p=s) (fun h=>h e1)];rfl
def akW (l:List ByteArray) (n:Nat):List SV:=[.int (bif Nat.blt 0 n then (aD (nth ab l 0)).1 else 0),.int (bif Nat.blt 1 n then (aD (nth ab l 1)).1 else 0),.int (bif Nat.blt 2 n then (aD (nth ab l 2)).1 else 0),.int (bif Nat.blt 3 n then (aD (nth ab l 3)).1 else 0),.int (bif Nat.blt 4 n then (aD (nth ab l 4)).1 else 0)]
def lq (s:ByteArray):Prop:=s.size≤1000000
def cK (s:ByteArray):AV:=.t [ptA (bR s).1,.s (.q (bR s).2)]
def WX (s:ByteArray):List AV:=[]
def pA:Con where
 A:=[.s .str]
 B:=[]
 pre:=fun x b=>lq x
 α:=fun _ _=>Unit
 φ:=fun _ _ _=>True
 r:=fun x b _=>cK x
 o:=fun x b _=>WX x
 nf:=0
set_option maxRecDepth 100000 in
theorem MQ:Has Tryz.prog 91 pA:=by
 refine Has.ofEI (fun _=>true) (fun _=>false) (fun _=>false) (l:=[(90,iH),(123,eE),(124,iV),(125,eU)]) ⟨FU,zU,MR,xa,trivial⟩ (fn:=Tryz.f91) Tryz.func91 rfl (by decide) (aZ rfl) ?_
 rintro (s:ByteArray) _ (hp:lq s)
 show vc _ _ _ _ (entry [.str s] []) _
 unfold lq at hp
 have hsp:ic s ⟨#[46]⟩=bo s 46:=Q4 s 46
 refine⟨fun w1=>?_,fun w2=>⟨⟨⟨aa,aa,aa⟩,?_,?_⟩,fun x3 w4=>⟨⟨⟨⟨aa,aa⟩,aa⟩,fun x5 w6=>?_⟩,fun x7 w8=>⟨fun w9=>?_,fun dq=>?_⟩⟩⟩⟩
 all_goals first|refine aw ?_|refine ax ?_|exact ba|(dsimp only [iH,jR];omega)|(dsimp only [eE,dK];omega)|(dsimp only [iV,gy];omega)|(dsimp only [eU,eI];omega)|exact a8|(show 1≤(1:Nat);omega)|skip
 ·refine⟨[],[],_,_,_,rfl,az,(),aa,?_,?_,rfl⟩
  ·(show _=cK s);unfold cK;first|(rw [wL (by assumption)];rfl)|rfl
  ·rfl
 ·have e:=w9
  rw [hsp] at e
  refine⟨[],[],_,_,_,rfl,az,(),aa,?_,?_,rfl⟩
  ·(show _=cK s);unfold cK;first|(rw [B5 w2 e];rfl)|rfl
  ·rfl
 ·have h0:=w2
  rw [hsp] at dq
  have h5:(bo s 46).length=5:=by have:=aA (p:=((bo s 46).length:Int)≠5) dq;omega
  refine l9 (l:=[(90,iH),(123,eE),(124,iV),(125,eU)]) (ex:=fun _=>true) (wr:=fun _=>false) (pt:=fun _=>false) ⟨FU,zU,MR,xa,trivial⟩ [.s 0,.s 2,.b 1002,.s 4,.s 6,.b 170000,.s 23,.s 24] (fun n:Nat=>[(.s 25,.int n),(.b 1004,.a (akW (ic s ⟨#[46]⟩) n))]) (fun n=>n≤5∧∀j,j<n→(aD (nth ab (ic s ⟨#[46]⟩) j)).2=true) (fun n=>5-n) 0 [] ⟨ZA8 _,fun j hj=>absurd hj (by omega)⟩ dN ?_
  rintro n ⟨(hn:n≤5),hk⟩
  have dk:∀n,n<5→(nth ab (ic s ⟨#[46]⟩) n).size≤1000000:=fun n h=>by rw [hsp];exact ZB1 (o6 (s:=s) (c:=46) _ (bT (ek:=ab) (by omega))) hp
  have hL:((ic s ⟨#[46]⟩).length:Int)=5:=by rw [hsp,h5];rfl
  have iD:∀n,n<5→(!(aD (nth ab (ic s ⟨#[46]⟩) n)).2)=true→bR s=(bO,false):=fun n hn h=>by
   rw [hsp] at h
   rw [sf h0 dq,B4 (CH _ [] n (by rw [h5];exact hn) (xv h))]
  have cP:∀n,(∀j,j<n→(aD (nth ab (ic s ⟨#[46]⟩) j)).2=true)→(!(aD (nth ab (ic s ⟨#[46]⟩) n)).2)=false→∀j,j<n+1→(aD (nth ab (ic s ⟨#[46]⟩) j)).2=true:=fun n h h2 j hj=>by
   by_cases hjn:j=n
   ·rw [hjn];exact cI h2
   ·exact h j (by omega)
  have agr:(∀j,j<5→(aD (nth ab (ic s ⟨#[46]⟩) j)).2=true)→bR s=bif decide (bd (OO (ic s ⟨#[46]⟩))≠s) then (bO,false) else (OO (ic s ⟨#[46]⟩),true):=by
   rw [hsp];exact HG h0 h5
  have h6:n=0∨n=1∨n=2∨n=3∨n=4∨n=5:=by omega
  rcases h6 with rfl |rfl |rfl |rfl |rfl |rfl
  ·refine⟨fun w1=>⟨⟨?_,?_⟩,⟨⟨aa,aa⟩,?_⟩,fun x2 w3=>⟨fun w4=>?_,fun w5=>⟨⟨?_,?_⟩,⟨?_,?_⟩,?_⟩⟩⟩,fun w6=>⟨⟨⟨⟨aa,aa,aa,aa,aa,aa⟩,aa⟩,aa⟩,fun x7 w8=>⟨fun w9=>?_,fun dq=>?_⟩⟩⟩
   all_goals first|(exfalso;simp only [decide_eq_true_eq,decide_eq_false_iff_not] at *;omega)|refine aw ?_|refine ax ?_|exact ba|(dsimp only [iH,jR];omega)|(dsimp only [eE,dK];omega)|(dsimp only [iV,gy];omega)|(dsimp only [eU,eI];omega)|exact a8|exact dk 0 (by omega)|skip
   ·refine⟨[],[],_,_,_,rfl,az,(),aa,?_,?_,rfl⟩
    ·(show _=cK s);unfold cK;first|(rw [iD 0 (by omega) w4];rfl)|rfl
    ·rfl
   ·refine⟨(1),[],?_,?_,?_⟩
    rotate_right
    ·exact bX
    ·exact⟨by omega,cP 0 hk w5⟩
    ·show 5-1<5-0;omega
  ·refine⟨fun w1=>⟨⟨?_,?_⟩,⟨⟨aa,aa⟩,?_⟩,fun x2 w3=>⟨fun w4=>?_,fun w5=>⟨⟨?_,?_⟩,⟨?_,?_⟩,?_⟩⟩⟩,fun w6=>⟨⟨⟨⟨aa,aa,aa,aa,aa,aa⟩,aa⟩,aa⟩,fun x7 w8=>⟨fun w9=>?_,fun dq=>?_⟩⟩⟩
   all_goals first|(exfalso;simp only [decide_eq_true_eq,decide_eq_false_iff_not] at *;omega)|refine aw ?_|refine ax ?_|exact ba|(dsimp only [iH,jR];omega)|(dsimp only [eE,dK];omega)|(dsimp only [iV,gy];omega)|(dsimp only [eU,eI];omega)|exact a8|exact dk 1 (by omega)|skip
   ·refine⟨[],[],_,_,_,rfl,az,(),aa,?_,?_,rfl⟩
    ·(show _=cK s);unfold cK;first|(rw [iD 1 (by omega) w4];rfl)|rfl
    ·rfl
   ·refine⟨(2),[],?_,?_,?_⟩
    rotate_right
    ·exact bX
    ·exact⟨by omega,cP 1 hk w5⟩
    ·show 5-2<5-1;omega
  ·refine⟨fun w1=>⟨⟨?_,?_⟩,⟨⟨aa,aa⟩,?_⟩,fun x2 w3=>⟨fun w4=>?_,fun w5=>⟨⟨?_,?_⟩,⟨?_,?_⟩,?_⟩⟩⟩,fun w6=>⟨⟨⟨⟨aa,aa,aa,aa,aa,aa⟩,aa⟩,aa⟩,fun x7 w8=>⟨fun w9=>?_,fun dq=>?_⟩⟩⟩
   all_goals first|(exfalso;simp only [decide_eq_true_eq,decide_eq_false_iff_not] at *;omega)|refine aw ?_|refine ax ?_|exact ba|(dsimp only [iH,jR];omega)|(dsimp only [eE,dK];omega)|(dsimp only [iV,gy];omega)|(dsimp only [eU,eI];omega)|exact a8|exact dk 2 (by omega)|skip
   ·refine⟨[],[],_,_,_,rfl,az,(),aa,?_,?_,rfl⟩
    ·(show _=cK s);unfold cK;first|(rw [iD 2 (by omega) w4];rfl)|rfl
    ·rfl
   ·refine⟨(3),[],?_,?_,?_⟩
    rotate_right
    ·exact bX
    ·exact⟨by omega,cP 2 hk w5⟩
    ·show 5-3<5-2;omega
  ·refine⟨fun w1=>⟨⟨?_,?_⟩,⟨⟨aa,aa⟩,?_⟩,fun x2 w3=>⟨fun w4=>?_,fun w5=>⟨⟨?_,?_⟩,⟨?_,?_⟩,?_⟩⟩⟩,fun w6=>⟨⟨⟨⟨aa,aa,aa,aa,aa,aa⟩,aa⟩,aa⟩,fun x7 w8=>⟨fun w9=>?_,fun dq=>?_⟩⟩⟩
   all_goals first|(exfalso;simp only [decide_eq_true_eq,decide_eq_false_iff_not] at *;omega)|refine aw ?_|refine ax ?_|exact ba|(dsimp only [iH,jR];omega)|(dsimp only [eE,dK];omega)|(dsimp only [iV,gy];omega)|(dsimp only [eU,eI];omega)|exact a8|exact dk 3 (by omega)|skip
   ·refine⟨[],[],_,_,_,rfl,az,(),aa,?_,?_,rfl⟩
    ·(show _=cK s);unfold cK;first|(rw [iD 3 (by omega) w4];rfl)|rfl
    ·rfl
   ·refine⟨(4),[],?_,?_,?_⟩
    rotate_right
    ·exact bX
    ·exact⟨by omega,cP 3 hk w5⟩
    ·show 5-4<5-3;omega
  ·refine⟨fun w1=>⟨⟨?_,?_⟩,⟨⟨aa,aa⟩,?_⟩,fun x2 w3=>⟨fun w4=>?_,fun w5=>⟨⟨?_,?_⟩,⟨?_,?_⟩,?_⟩⟩⟩,fun w6=>⟨⟨⟨⟨aa,aa,aa,aa,aa,aa⟩,aa⟩,aa⟩,fun x7 w8=>⟨fun w9=>?_,fun dq=>?_⟩⟩⟩
   all_goals first|(exfalso;simp only [decide_eq_true_eq,decide_eq_false_iff_not] at *;omega)|refine aw ?_|refine ax ?_|exact ba|(dsimp only [iH,jR];omega)|(dsimp only [eE,dK];omega)|(dsimp only [iV,gy];omega)|(dsimp only [eU,eI];omega)|exact a8|exact dk 4 (by omega)|skip
   ·refine⟨[],[],_,_,_,rfl,az,(),aa,?_,?_,rfl⟩
    ·(show _=cK s);unfold cK;first|(rw [iD 4 (by omega) w4];rfl)|rfl
    ·rfl
   ·refine⟨(5),[],?_,?_,?_⟩
    rotate_right
    ·exact bX
    ·exact⟨by omega,cP 4 hk w5⟩
    ·show 5-5<5-4;omega
  ·refine⟨fun w1=>⟨⟨?_,?_⟩,⟨⟨aa,aa⟩,?_⟩,fun x2 w3=>⟨fun w4=>?_,fun w5=>⟨⟨?_,?_⟩,?_⟩⟩⟩,fun w6=>⟨⟨⟨⟨aa,aa,aa,aa,aa,aa⟩,aa⟩,aa⟩,fun x7 w8=>⟨fun w9=>?_,fun dq=>?_⟩⟩⟩
   all_goals first|(exfalso;simp only [decide_eq_true_eq,decide_eq_false_iff_not] at *;omega)|refine aw ?_|refine ax ?_|exact ba|(dsimp only [iH,jR];omega)|(dsimp only [eE,dK];omega)|(dsimp only [iV,gy];omega)|(dsimp only [eU,eI];omega)|exact a8|skip
   ·have e:bR s=(bO,false):=by rw [agr hk,show decide (bd (OO (ic s ⟨#[46]⟩))≠s)=true from w9];rfl
    refine⟨[],[],_,_,_,rfl,az,(),aa,?_,?_,rfl⟩
    ·(show _=cK s);unfold cK;first|(rw [e];rfl)|rfl
    ·rfl
   ·have e:bR s=(OO (ic s ⟨#[46]⟩),true):=by rw [agr hk,show decide (bd (OO (ic s ⟨#[46]⟩))≠s)=false from dq];rfl
    refine⟨[],[],_,_,_,rfl,az,(),aa,?_,?_,rfl⟩
    ·(show _=cK s);unfold cK;first|(rw [e];rfl)|rfl
    ·rfl
end GL
end Go.Proofs.YtbfgjadbfjkcdaaGreatDoor
