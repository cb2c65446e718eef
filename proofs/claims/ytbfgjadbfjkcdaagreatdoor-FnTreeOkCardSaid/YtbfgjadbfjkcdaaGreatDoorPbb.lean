/- FnTreeOk returns true for every code (its row lists package variables, tied by the card): part 28 of 39. -/
import Derived.Lib.CountLaws
import Derived.Lib.CutLaws
import Derived.Lib.IndexBytes
import Derived.Lib.IndexLaws
import Derived.Lib.Join
import Derived.Lib.SplitLaws
import Derived.LoopN
import Derived.Test.YtbfgjadbfjkcdaaGreatDoorPak
import Derived.Test.YtbfgjadbfjkcdaaGreatDoorPaq
import Derived.Test.YtbfgjadbfjkcdaaGreatDoorPau
import Derived.Test.YtbfgjadbfjkcdaaGreatDoorPba
set_option maxHeartbeats 20000000
set_option linter.all false
namespace Go.Proofs.YtbfgjadbfjkcdaaGreatDoor
namespace GL
theorem ajN (k:Nat):Lib.decDigits k=lb (dec k):=by
 induction k using Nat.strongRecOn with
 |_ k ih=>
  by_cases h:k < 10
  ·rw [Lib.decDigits,dif_pos h,mT h]
  ·rw [Lib.decDigits,dif_neg h,oX h,ih (k / 10) (by omega)]
theorem ab1 {n:Int} (h:0≤n):aee n=bQ n:=by
 apply vy
 show Lib.itoa n=lb (dec n.toNat)
 unfold Lib.itoa
 rw [if_neg (by omega),ajN]
def IQ (b:UInt8):Prop:=48≤b.toNat∧b.toNat≤57
theorem ED:∀(l:List UInt8) (acc m:Nat),Lib.decFrom acc l=some m→(∀b∈l,IQ b)∧(m:Int)=l.foldl (fun n b=>10 * n+((b.toNat:Int) - 48)) (acc:Int)
 |[],acc,m,h=>by
  cases h
  refine ⟨fun b hb=>?_,rfl⟩
  cases hb
 |b::l,acc,m,h=>by
  unfold Lib.decFrom at h
  split at h
  ·rename_i d hd
   unfold Lib.digitVal at hd
   split at hd
   ·rename_i hb
    cases hd
    obtain ⟨h1,h2⟩:=ED l _ _ h
    refine ⟨fun c hc=>?_,?_⟩
    ·rcases List.mem_cons.1 hc with rfl |hc
     ·exact hb
     ·exact h1 c hc
    ·rw [h2,List.foldl_cons]
     congr 1
     have:=hb.1
     omega
   ·cases hd
  ·cases h
theorem JM:∀(l:List UInt8) (acc:Nat),(∀b∈l,IQ b)→∃m,Lib.decFrom acc l=some m
 |[],acc,_=>⟨acc,rfl⟩
 |b::l,acc,h=>by
  unfold Lib.decFrom Lib.digitVal
  have hb:48≤b.toNat∧b.toNat≤57:=h b (List.mem_cons_self ..)
  rw [if_pos hb]
  exact JM l _ fun c hc=>h c (List.mem_cons_of_mem _ hc)
theorem afz (k:Nat):Lib.atoi (lb (dec k))=some (k:Int):=by
 obtain ⟨b,l,e,_⟩:=xf k
 have hd:=tT k
 rw [e] at hd ⊢
 have hb:=hd b (List.mem_cons_self ..)
 unfold Lib.atoi
 have h1:¬(b==45)=true:=fun h=>by have:=beq_iff_eq.1 h;subst this;exact absurd hb.1 (by decide)
 have h2:¬(b==43)=true:=fun h=>by have:=beq_iff_eq.1 h;subst this;exact absurd hb.1 (by decide)
 show (if (b==45)=true then _ else if (b==43)=true then _ else _)=_
 rw [if_neg h1,if_neg h2]
 unfold Lib.decNat
 rw [if_neg (by simp)]
 obtain ⟨m,hm⟩:=JM (b::l) 0 hd
 rw [hm]
 have h3:=(ED _ _ _ hm).2
 have h4:=QH k
 rw [e] at h4
 unfold qA at h4
 simp only [Option.map_some,Option.some.injEq]
 rw [h3]
 exact h4
theorem canon:∀(n:Nat) (l:List UInt8),l.length=n→l≠[]→(∀b∈l,IQ b)→(∀b,l.head?=some b→b.toNat=48→l.length=1)→0≤qA l∧lb (dec (qA l).toNat)=l
 |0,l,hn,fq,_,_=>absurd (List.length_eq_zero_iff.1 hn) fq
 |n+1,l,hn,fq,hd,h0=>by
  obtain ⟨l',b,rfl⟩:∃l' b,l=l'++[b]:=⟨l.dropLast,l.getLast fq,(List.dropLast_concat_getLast fq).symm⟩
  have hb:IQ b:=hd b (by simp)
  have hv:qA (l'++[b])=10 * qA l'+((b.toNat:Int) - 48):=wv l' b
  have hbo:UInt8.ofNat (48+(b.toNat - 48))=b:=by
   have h1:=hb.1
   rw [show 48+(b.toNat - 48)=b.toNat by omega]
   exact UInt8.ofNat_toNat
  by_cases hl:l'=[]
  ·subst hl
   rw [hv]
   have h1:qA []=0:=rfl
   rw [h1]
   obtain ⟨h2,h3⟩:=hb
   refine ⟨by omega,?_⟩
   rw [show (10 * 0+((b.toNat:Int) - 48)).toNat=b.toNat - 48 by omega,mT (by omega),hbo]
   rfl
  ·have hn':l'.length=n:=by simpa using hn
   obtain ⟨c,m,rfl⟩:∃c m,l'=c::m:=by
    cases l' with
    |nil=>exact absurd rfl hl
    |cons c m=>exact ⟨c,m,rfl⟩
   have ajx:c.toNat≠48:=fun h=>by
    have:=h0 c rfl h
    simp at this
   obtain ⟨g1,g2⟩:=canon n (c::m) hn' (by simp) (fun x hx=>hd x (List.mem_append_left _ hx)) (fun x hx akD=>by cases hx;exact absurd akD ajx)
   have mV:1≤(qA (c::m)).toNat:=by
    rcases Nat.eq_zero_or_pos (qA (c::m)).toNat with h |h
    ·rw [h,mT (by omega)] at g2
     cases g2
     exact absurd rfl ajx
    ·exact h
   obtain ⟨h2,h3⟩:=hb
   rw [hv]
   refine ⟨by omega,?_⟩
   have e:(10 * qA (c::m)+((b.toNat:Int) - 48)).toNat=10 * (qA (c::m)).toNat+(b.toNat - 48):=by omega
   rw [e,oX (by omega),show (10 * (qA (c::m)).toNat+(b.toNat - 48)) / 10=(qA (c::m)).toNat by omega,show (10 * (qA (c::m)).toNat+(b.toNat - 48)) % 10=b.toNat - 48 by omega,g2,hbo]
theorem O3:∀(f:Nat) (s:ByteArray) (k:Nat),k≤sr f s k∧sr f s k≤k+f∧∀i,k≤i→i < sr f s k→C5 s i=true
 |0,s,k=>⟨Nat.le_refl _,Nat.le_refl _,fun i h1 h2=>by unfold sr at h2;omega⟩
 |f+1,s,k=>by
  unfold sr
  cases h:C5 s k with
  |false=>simp only [cond_false];exact ⟨Nat.le_refl _,by omega,fun i h1 h2=>by omega⟩
  |true=>
   simp only [cond_true]
   obtain ⟨h1,h2,h3⟩:=O3 f s (k+1)
   refine ⟨by omega,by omega,fun i h4 h5=>?_⟩
   by_cases e:i=k
   ·subst e;exact h
   ·exact h3 i (by omega) h5
theorem ae6 {s:ByteArray} {i:Nat} (h:C5 s i=true):i < (lb s).length∧∀b,(lb s)[i]?=some b→IQ b:=by
 unfold C5 at h
 simp only [Bool.and_eq_true,decide_eq_true_eq] at h
 obtain ⟨h1,_,h3,h4⟩:=h
 have hi:i < (lb s).length:=by rw [←ff];omega
 refine ⟨hi,fun b hb=>?_⟩
 rw [ni,hb] at h3 h4
 simp only at h3 h4
 exact ⟨by omega,by omega⟩
theorem num_inv {s:ByteArray} {m:Int} (h:aA s=(m,true)):s=bQ m∧0≤m∧m≤999999999:=by
 unfold aA at h
 cases hc:decide ((CI s).2=0)||decide ((CI s).2≠(s.size:Int)) with
 |true=>rw [hc] at h;cases h
 |false=>
  rw [hc] at h
  simp only [cond_false,Prod.mk.injEq,and_true] at h
  simp only [Bool.or_eq_false_iff,decide_eq_false_iff_not,Decidable.not_not] at hc
  obtain ⟨hc1,hc2⟩:=hc
  obtain ⟨b1,b2,b3⟩:=O3 9 s 0
  have hnl:sr 9 s 0=cR s:=rfl
  rw [hnl] at b2 b3
  have hle:cR s≤(lb s).length:=by
   by_cases h0:cR s=0
   ·omega
   ·have:=(ae6 (b3 (cR s - 1) (Nat.zero_le _) (by omega))).1
    omega
  unfold CI at h hc1 hc2
  cases hq:decide ((cR s:Int) > 1)&&decide (bG s 0=48) with
  |true=>
   rw [hq] at hc2
   simp only [Bool.and_eq_true,decide_eq_true_eq] at hq
   have h1:(1:Int)=s.size:=hc2
   rw [ff] at h1
   have:=hq.1
   omega
  |false=>
   rw [hq] at h hc1 hc2
   have h1:(cR s:Int)=s.size:=hc2
   have h0:(cR s:Int)≠0:=hc1
   have h2:iG s (cR s)=m:=h
   rw [ff] at h1
   have hlen:cR s=(lb s).length:=by omega
   have XO:iG s (cR s)=qA (lb s):=by
    rw [B8 s _ (by omega),hlen,List.take_length]
   have agi:∀b∈lb s,IQ b:=fun b hb=>by
    obtain ⟨i,hi⟩:=List.getElem?_of_mem hb
    have bM:i < (lb s).length:=(List.getElem?_eq_some_iff.1 hi).1
    exact (ae6 (b3 i (Nat.zero_le _) (by omega))).2 b hi
   have fq:lb s≠[]:=fun e=>by rw [e] at hlen;simp at hlen;omega
   obtain ⟨g1,g2⟩:=canon _ (lb s) rfl fq agi (fun b hb h48=>by
    have hb0:(lb s)[0]?=some b:=by rw [←List.head?_eq_getElem?];exact hb
    have hby:bG s 0=48:=by rw [ni,hb0];simp only;omega
    rw [Bool.and_eq_false_iff] at hq
    rcases hq with hq |hq
    ·have:=ca hq;omega
    ·exact absurd hby (ca hq))
   rw [←h2,XO]
   refine ⟨vy g2.symm,g1,?_⟩
   have hb9:(lb s).length≤9:=by omega
   have key:∀(l:List UInt8),(∀b∈l,IQ b)→qA l < (10:Int) ^ l.length:=by
    intro l
    generalize hk:l.length=k
    induction k generalizing l with
    |zero=>intro _;rw [List.length_eq_zero_iff.1 hk];exact (by decide:(0:Int) < 1)
    |succ k ih=>
     intro hd
     have fq:l≠[]:=fun e=>by subst e;simp at hk
     obtain ⟨l',b,rfl⟩:∃l' b,l=l'++[b]:=⟨l.dropLast,l.getLast fq,(List.dropLast_concat_getLast fq).symm⟩
     have h1:=ih l' (by simpa using hk) (fun x hx=>hd x (List.mem_append_left _ hx))
     have h2:=(hd b (by simp)).2
     rw [wv,Int.pow_succ]
     omega
   have h5:=key (lb s) agi
   have h6:(10:Int) ^ (lb s).length≤10 ^ 9:=by exact_mod_cast Nat.pow_le_pow_right (by omega) hb9
   omega
def cb (n:Int):ByteArray:=bif ir n 0 999999999 then bQ n else ⟨#[]⟩
theorem wc {s:ByteArray} (h9:s.size≤9):aA s=bif !(iT s).2||decide (cb (iT s).1≠s) then (0,false) else ((iT s).1,true):=by
 have uy:∀ {r:Int×Bool},r=aA s→r.2=false→r=(0,false):=fun {r} e h=>by
  subst e
  unfold aA at h ⊢
  cases hq:decide ((CI s).2=0)||decide ((CI s).2≠(s.size:Int)) with
  |true=>rfl
  |false=>rw [hq] at h;cases h
 cases hg:(aA s).2 with
 |true=>
  have e:aA s=((aA s).1,true):=by rw [←hg]
  obtain ⟨h1,h2,h3⟩:=num_inv e
  have ha:iT s=((aA s).1,true):=by
   unfold iT
   have:Lib.atoi s.data.toList=some (aA s).1:=by
    have h4:=afz (aA s).1.toNat
    rw [show (((aA s).1.toNat:Nat):Int)=(aA s).1 by omega] at h4
    rw [←h4]
    show Lib.atoi (lb s)=Lib.atoi (lb (bQ (aA s).1))
    rw [←h1]
   rw [this]
  have hp:cb (aA s).1=s:=by
   unfold cb
   rw [show ir (aA s).1 0 999999999=true from cn.2 ⟨h2,h3⟩]
   exact h1.symm
  rw [ha]
  simp only [Bool.not_true,Bool.false_or]
  rw [hp]
  simpa using e
 |false=>
  rw [uy rfl hg]
  cases ha:(iT s).2 with
  |false=>rfl
  |true=>
   have hd:decide (cb (iT s).1≠s)=true:=by
    apply decide_eq_true
    intro hp
    unfold cb at hp
    cases hi:ir (iT s).1 0 999999999 with
    |false=>
     rw [hi] at hp
     have hp:(⟨#[]⟩:ByteArray)=s:=hp
     subst hp
     exact absurd ha (by decide)
    |true=>
     rw [hi] at hp
     have hp:bQ (iT s).1=s:=hp
     obtain ⟨g1,g2⟩:=cn.1 hi
     have:=eg g1 (by omega)
     rw [hp] at this
     rw [this] at hg
     cases hg
   rw [hd];rfl
theorem SR {s:ByteArray} (h9:9 < s.size):aA s=(0,false):=by
 unfold aA
 obtain ⟨_,b2,_⟩:=O3 9 s 0
 have hnl:sr 9 s 0=cR s:=rfl
 rw [hnl] at b2
 have:decide ((CI s).2≠(s.size:Int))=true:=by
  apply decide_eq_true
  unfold CI
  cases decide ((cR s:Int) > 1)&&decide (bG s 0=48) with
  |true=>show (1:Int)≠s.size;omega
  |false=>show (cR s:Int)≠s.size;omega
 rw [this,Bool.or_true];rfl
theorem QW (c:UInt8):∀(n:Nat) (s:ByteArray),Lib.countB s ⟨#[c]⟩=n→(Lib.splitB ⟨#[c]⟩ 0 n s).map lb=mj c (lb s)
 |n,s,hn=>by
  rcases Lib.indexB_cases s ⟨#[c]⟩ with hix |⟨i,hix,n0⟩
  ·have h1:Lib.indexByte (lb s) c= -1:=by rw [←Lib.index_one];exact hix
   have uy:c∉lb s:=fun h=>by
    obtain ⟨k,hk⟩:=List.getElem?_of_mem h
    exact Lib.indexByte_none h1 k hk
   rw [Lib.splitB_miss _ _ _ _ hix,fX c _ uy];rfl
  ·have h1:Lib.indexByte (lb s) c=i:=by rw [←Lib.index_one];exact hix
   obtain ⟨h2,h3⟩:=Lib.indexByte_some h1
   have ama:=Lib.countB_hit s ⟨#[c]⟩ i (Nat.le_refl _) hix
   obtain ⟨m,rfl⟩:∃m,n=m+1:=⟨n - 1,by omega⟩
   rw [Lib.splitB_hit _ _ _ _ i hix,List.map_cons,QW c m _ (by omega)]
   have db:(⟨#[c]⟩:ByteArray).size=1:=rfl
   have hi:i < (lb s).length:=(List.getElem?_eq_some_iff.1 h2).1
   have e:lb s=(lb s).take i++c::(lb s).drop (i+1):=by
    have h4:(lb s)[i]=c:=by have:=List.getElem?_eq_getElem hi;rw [this] at h2;exact Option.some.inj h2
    rw [←h4,List.getElem_cons_drop,List.take_append_drop]
   have hni:c∉(lb s).take i:=fun h=>by
    obtain ⟨k,hk⟩:=List.getElem?_of_mem h
    rw [List.getElem?_take] at hk
    split at hk
    ·rename_i bM;exact h3 k bM hk
    ·cases hk
   rw [e,lB,fX c _ hni]
   show lb (s.extract 0 (i+0))::mj c (lb (s.extract (i+1) s.size))=_
   rw [mS,mS,ff,List.take_length,Nat.add_zero,List.drop_zero]
   rfl
theorem QV (s:ByteArray) (c:UInt8):gU s ⟨#[c]⟩=bf s c.toNat:=by
 apply yF
 rw [JQ]
 exact QW c _ s rfl
theorem FC (sep:ByteArray) (l:List ByteArray):lb (zO sep l)=Lib.join (l.map lb) (lb sep):=rfl
end GL
namespace GL
def di (n:Int) (lo:Int) (hi:Int):Prop:=True
def u6 (n:Int) (lo:Int) (hi:Int):AV:=.s (.q (ir n lo hi))
def WK (n:Int) (lo:Int) (hi:Int):List AV:=[]
def cu:Con where
 A:=[.s .int, .s .int, .s .int]
 B:=[]
 pre:=fun x b=>di (x.1) (x.2.1) (x.2.2)
 α:=fun _ _=>Unit
 φ:=fun _ _ _=>True
 r:=fun x b _=>u6 (x.1) (x.2.1) (x.2.2)
 o:=fun x b _=>WK (x.1) (x.2.1) (x.2.2)
 nf:=0
set_option maxRecDepth 100000 in
theorem ga:Has Tryz.prog 31 cu:=by
 refine Has.ofE (fun _=>true) (fun _=>false) (fun _=>false) (l:=[]) trivial (fn:=Tryz.f31) Tryz.func31 rfl (by decide) (cH rfl) ?_
 rintro ⟨(n:Int),(lo:Int),(hi:Int)⟩ _ (hp:di n lo hi)
 show vc _ _ _ _ (entry [.int n, .int lo, .int hi] []) _
 refine ⟨tv,fun w1=>?_,fun w2=>?_⟩
 all_goals first|refine au ?_|refine aw ?_|exact sa|exact sb|skip
 all_goals
  refine ⟨[],[],_,_,_,rfl,rp,(),tv,?_,?_,rfl⟩
  ·show AV.q _=u6 n lo hi;unfold u6;refine congrArg AV.q ?_;(simp_all [ir]<;>omega)
  ·rfl
def yp (n:Int):Prop:=True
def yb (n:Int):AV:=.s (.q (ir n 8 63))
def abu (n:Int):List AV:=[]
def J3:Con where
 A:=[.s .int]
 B:=[]
 pre:=fun x b=>yp x
 α:=fun _ _=>Unit
 φ:=fun _ _ _=>True
 r:=fun x b _=>yb x
 o:=fun x b _=>abu x
 nf:=0
set_option maxRecDepth 100000 in
theorem ad9:Has Tryz.prog 58 J3:=by
 refine Has.ofE (fun _=>true) (fun _=>false) (fun _=>false) (l:=[(31,cu)]) ⟨ga,trivial⟩ (fn:=Tryz.f58) Tryz.func58 rfl (by decide) (cH rfl) ?_
 rintro (n:Int) _ (hp:yp n)
 show vc _ _ _ _ (entry [.int n] []) _
 refine ⟨⟨⟨tv,tv,tv,tv⟩,tv⟩,fun x1 w2=>?_⟩
 all_goals first|refine au ?_|refine aw ?_|exact sa|(dsimp only [cu,di];omega)|exact sb|skip
 refine ⟨[],[],_,_,_,rfl,rp,(),tv,?_,?_,rfl⟩
 ·(show _=yb n);unfold yb;first |rfl
 ·rfl
def bV (p:Pt):Prop:=True
def s4 (p:Pt):AV:=.s (.q (ar p))
def SD (p:Pt):List AV:=[]
def bB:Con where
 A:=[.a [.int, .int, .int, .int, .int]]
 B:=[]
 pre:=fun x b=>bV x
 α:=fun _ _=>Unit
 φ:=fun _ _ _=>True
 r:=fun x b _=>s4 x
 o:=fun x b _=>SD x
 nf:=0
set_option maxRecDepth 100000 in
theorem eJ:Has Tryz.prog 35 bB:=by
 refine Has.ofE (fun _=>true) (fun _=>false) (fun _=>false) (l:=[]) trivial (fn:=Tryz.f35) Tryz.func35 rfl (by decide) (cH rfl) ?_
 rintro ⟨(p1:Int),(p2:Int),(p3:Int),(p4:Int),(p5:Int)⟩ _ (hp:bV (p1,p2,p3,p4,p5))
 show vc _ _ _ _ (entry [.a [.int p1, .int p2, .int p3, .int p4, .int p5]] []) _
 refine ?_
 all_goals first|refine au ?_|refine aw ?_|exact sa|exact sb|skip
 refine ⟨[],[],_,_,_,rfl,rp,(),tv,?_,?_,rfl⟩
 ·(show _=s4 (p1,p2,p3,p4,p5));unfold s4;first |rfl
 ·rfl
def cM (p:Pt):Prop:=True
def yd (p:Pt):AV:=.s (.q (aV p))
def abw (p:Pt):List AV:=[]
def cx:Con where
 A:=[.a [.int, .int, .int, .int, .int]]
 B:=[]
 pre:=fun x b=>cM x
 α:=fun _ _=>Unit
 φ:=fun _ _ _=>True
 r:=fun x b _=>yd x
 o:=fun x b _=>abw x
 nf:=0
set_option maxRecDepth 100000 in
theorem jl:Has Tryz.prog 34 cx:=by
 refine Has.ofE (fun _=>true) (fun _=>false) (fun _=>false) (l:=[(35,bB),(58,J3),(31,cu)]) ⟨eJ,ad9,ga,trivial⟩ (fn:=Tryz.f34) Tryz.func34 rfl (by decide) (cH rfl) ?_
 rintro ⟨(p1:Int),(p2:Int),(p3:Int),(p4:Int),(p5:Int)⟩ _ (hp:cM (p1,p2,p3,p4,p5))
 show vc _ _ _ _ (entry [.a [.int p1, .int p2, .int p3, .int p4, .int p5]] []) _
 refine ⟨⟨⟨⟨tv,tv,tv,tv,tv,tv⟩,tv⟩,tv⟩,fun x1 w2=>⟨tv,fun w3=>?_,fun w4=>⟨⟨⟨tv,tv⟩,tv⟩,fun x5 w6=>⟨tv,fun w7=>⟨⟨⟨tv,tv,tv,tv⟩,tv⟩,fun x8 w9=>⟨tv,fun df=>⟨⟨⟨tv,tv,tv,tv⟩,tv⟩,fun kx dC=>⟨tv,fun iA=>⟨⟨⟨tv,tv,tv,tv⟩,tv⟩,fun x14 oU=>⟨tv,fun j9=>⟨⟨⟨tv,tv,tv,tv⟩,tv⟩,fun x17 qI=>?_⟩,fun ot=>?_⟩⟩,fun um=>?_⟩⟩,fun zg=>?_⟩⟩,fun zf=>?_⟩⟩⟩⟩
 all_goals first|refine au ?_|refine aw ?_|exact sa|(dsimp only [bB,bV];omega)|(dsimp only [J3,yp];omega)|(dsimp only [cu,di];omega)|exact sb|skip
 all_goals
  refine ⟨[],[],_,_,_,rfl,rp,(),tv,?_,?_,rfl⟩
  ·show AV.q _=yd (p1,p2,p3,p4,p5);unfold yd;refine congrArg AV.q ?_;simp_all [aV]
  ·rfl
def ti (s:ByteArray):Prop:=s.size≤1000000000
def yc (s:ByteArray):AV:=.s (.int (sV s))
def abv (s:ByteArray):List AV:=[]
def J4:Con where
 A:=[.s .str]
 B:=[]
 pre:=fun x b=>ti x
 α:=fun _ _=>Unit
 φ:=fun _ _ _=>True
 r:=fun x b _=>yc x
 o:=fun x b _=>abv x
 nf:=0
set_option maxRecDepth 100000 in
theorem aea:Has Tryz.prog 94 J4:=by
 refine Has.ofE (fun _=>true) (fun _=>false) (fun _=>false) (l:=[]) trivial (fn:=Tryz.f94) Tryz.func94 rfl (by decide) (cH rfl) ?_
 rintro (s:ByteArray) _ (hp:ti s)
 show vc _ _ _ _ (entry [.str s] []) _
 unfold ti at hp
 refine ?_
 all_goals first|refine au ?_|refine aw ?_|exact sa|exact sb|skip
 refine cI (l:=[]) (ex:=fun _=>true) (wr:=fun _=>false) (pt:=fun _=>false) trivial [.s 0, .s 7] (fun k:Nat=>[(.s 3, .int (rS s k).1),(.s 4, .int (rS s k).2),(.s 8, .int k)]) (fun k=>k≤s.size) (fun k=>s.size - k) 0 [] (Nat.zero_le _) ru ?_
 rintro k hk
 have hb:=xg s k
 have hs:=GB s k
 refine ⟨fun w1=>⟨⟨?_,?_⟩,⟨⟨?_,?_⟩,⟨⟨?_,?_⟩,⟨⟨?_,?_⟩,⟨⟨?_,?_⟩,⟨⟨?_,?_⟩,⟨⟨?_,?_⟩,⟨⟨?_,?_⟩,?_⟩⟩⟩⟩⟩⟩⟩⟩,fun w2=>⟨⟨?_,?_⟩,⟨⟨?_,?_⟩,?_⟩⟩⟩
 all_goals first|refine au ?_|refine aw ?_|exact sa|exact sb|skip
 ·refine ⟨(k+1),[],?_,?_,?_⟩
  rotate_right
  ·repeat' (first |exact trivial |rfl |exact rfl |exact fH List.length_append.symm |exact oK |exact congrArg (fun n:Int=>some (AV.int n)) (congrArg (· % 9973) (Int.add_comm _ _)) |apply And.intro)
  ·have:=cw w1;omega
  ·have:=cw w1;omega
 ·have h2:¬(k:Int) < (s.size:Int):=ca w2
  have hk':k=s.size:=by omega
  subst hk'
  refine ⟨[],[],_,_,_,rfl,rp,(),tv,?_,?_,rfl⟩
  ·(show _=yc s);unfold yc;first |rfl
  ·rfl
end GL
namespace GL
end GL
namespace GL
def tk (p:Pt) (s:ByteArray):Prop:=s.size≤1000000000
def s5 (p:Pt) (s:ByteArray):AV:=.s (.q (iP p s))
def SE (p:Pt) (s:ByteArray):List AV:=[]
def y6:Con where
 A:=[.a [.int, .int, .int, .int, .int], .s .str]
 B:=[]
 pre:=fun x b=>tk (x.1) (x.2)
 α:=fun _ _=>Unit
 φ:=fun _ _ _=>True
 r:=fun x b _=>s5 (x.1) (x.2)
 o:=fun x b _=>SE (x.1) (x.2)
 nf:=0
set_option maxRecDepth 100000 in
theorem XG:Has Tryz.prog 62 y6:=by
 refine Has.ofE (fun _=>true) (fun _=>false) (fun _=>false) (l:=[(35,bB),(34,cx),(94,J4)]) ⟨eJ,jl,aea,trivial⟩ (fn:=Tryz.f62) Tryz.func62 rfl (by decide) (cH rfl) ?_
 rintro ⟨⟨(p1:Int),(p2:Int),(p3:Int),(p4:Int),(p5:Int)⟩,(s:ByteArray)⟩ _ (hp:tk (p1,p2,p3,p4,p5) s)
 show vc _ _ _ _ (entry [.a [.int p1, .int p2, .int p3, .int p4, .int p5], .str s] []) _
 have hp:s.size≤1000000000:=hp
 refine ⟨[.s 2, .b 1002],[.s 5],rfl,[.s 5],[.s 6],rfl,⟨⟨⟨tv,tv,tv,tv,tv,tv⟩,tv⟩,tv⟩,?_,fun x1 w2=>⟨[.s 6],[.s 7],rfl,tv,fun w3=>⟨[.s 7, .s 2, .b 1002],[.s 8],rfl,[.s 7, .s 8],[.s 9],rfl,⟨⟨⟨tv,tv,tv,tv,tv,tv⟩,tv⟩,tv⟩,?_,fun x4 w5=>⟨[.s 7, .s 9],[.s 10],rfl,[.s 7, .s 10],[.s 11],rfl,[.s 11],[.s 12],rfl,tv,fun w6=>⟨[.s 12, .s 2],[.s 13],rfl,[.s 12, .s 13, .b 1002],[.s 14],rfl,[.s 12, .s 1],[.s 15],rfl,[.s 12, .s 15],[.s 16],rfl,[.s 12, .s 14, .s 16],[.s 17],rfl,[.s 12, .s 17],[.s 18],rfl,[.s 18],[.s 19],rfl,tv,fun w7=>⟨[.s 19, .s 2],[.s 20],rfl,[.s 19, .s 20, .b 1002],[.s 21],rfl,[.s 19, .s 1],[.s 22],rfl,[.s 19, .s 22],[.s 23],rfl,⟨⟨tv,tv⟩,?_⟩,?_,fun x8 w9=>⟨[.s 19, .s 21, .s 23],[.s 24],rfl,[.s 19, .s 24],[.s 25],rfl,[.s 25],[.s 4],rfl,?_⟩⟩,fun df=>⟨[.s 19],[.s 20],rfl,[.s 19],[.s 21],rfl,[.s 19],[.s 22],rfl,[.s 19],[.s 23],rfl,[.s 19],[.s 24],rfl,[.s 19, .s 24],[.s 25],rfl,[.s 25],[.s 4],rfl,?_⟩⟩,fun ka=>⟨[.s 12],[.s 13],rfl,[.s 12],[.s 14],rfl,[.s 12],[.s 15],rfl,[.s 12],[.s 16],rfl,[.s 12],[.s 17],rfl,[.s 12, .s 17],[.s 18],rfl,[.s 18],[.s 19],rfl,[.s 19],[.s 20],rfl,[.s 19],[.s 21],rfl,[.s 19],[.s 22],rfl,[.s 19],[.s 23],rfl,[.s 19],[.s 24],rfl,[.s 19, .s 24],[.s 25],rfl,[.s 25],[.s 4],rfl,?_⟩⟩⟩,fun dC=>⟨[.s 7],[.s 8],rfl,[.s 7],[.s 9],rfl,[.s 7],[.s 10],rfl,[.s 7, .s 10],[.s 11],rfl,[.s 11],[.s 12],rfl,[.s 12],[.s 13],rfl,[.s 12],[.s 14],rfl,[.s 12],[.s 15],rfl,[.s 12],[.s 16],rfl,[.s 12],[.s 17],rfl,[.s 12, .s 17],[.s 18],rfl,[.s 18],[.s 19],rfl,[.s 19],[.s 20],rfl,[.s 19],[.s 21],rfl,[.s 19],[.s 22],rfl,[.s 19],[.s 23],rfl,[.s 19],[.s 24],rfl,[.s 19, .s 24],[.s 25],rfl,[.s 25],[.s 4],rfl,?_⟩⟩⟩
 all_goals first|refine au ?_|refine aw ?_|exact sa|(dsimp only [bB,bV];omega)|(dsimp only [cx,cM];omega)|(dsimp only [J4,ti];omega)|exact sb|skip
 all_goals
  refine ⟨[],[],_,_,_,rfl,rp,(),tv,?_,?_,rfl⟩
  ·show AV.q _=s5 (p1,p2,p3,p4,p5) s;unfold s5;refine congrArg AV.q ?_;simp_all [iP]
  ·rfl
def fy (n:Int):Prop:=True
def nH (n:Int):AV:=.s (.str (cb n))
def WO (n:Int):List AV:=[]
def gb:Con where
 A:=[.s .int]
 B:=[]
 pre:=fun x b=>fy x
 α:=fun _ _=>Unit
 φ:=fun _ _ _=>True
 r:=fun x b _=>nH x
 o:=fun x b _=>WO x
 nf:=0
set_option maxRecDepth 100000 in
theorem CL:Has Tryz.prog 147 gb:=by
 refine Has.ofE (fun _=>true) (fun _=>false) (fun _=>false) (l:=[(31,cu),(163,YG)]) ⟨ga,ahM,trivial⟩ (fn:=Tryz.f147) Tryz.func147 rfl (by decide) (cH rfl) ?_
 rintro (n:Int) _ (hp:fy n)
 show vc _ _ _ _ (entry [.int n] []) _
 have cg:(!(ir n 0 999999999))=false→0≤n∧n≤999999999:=fun h=>cn.1 (cB h)
 refine ⟨⟨⟨tv,tv,tv,tv⟩,tv⟩,fun x1 w2=>⟨fun w3=>?_,fun w4=>⟨⟨⟨tv,tv⟩,?_,?_⟩,fun x5 w6=>?_⟩⟩⟩
 all_goals first|refine au ?_|refine aw ?_|exact sa|(dsimp only [cu,di];omega)|(dsimp only [YG,aiS];omega)|exact sb|(have:=cg w4;show (-9223372036854775808:Int)≤n;omega)|(have:=cg w4;show n≤(9223372036854775807:Int);omega)|skip
 ·have e:cb n=⟨#[]⟩:=by unfold cb;rw [show ir n 0 999999999=false from xk w3];rfl
  refine ⟨[],[],_,_,_,rfl,rp,(),tv,?_,?_,rfl⟩
  ·(show _=nH n);unfold nH;first |(rw [e];rfl) |rfl
  ·rfl
 ·have e:cb n=aee n:=by unfold cb;rw [show ir n 0 999999999=true from cB w4,ab1 (cg w4).1];rfl
  refine ⟨[],[],_,_,_,rfl,rp,(),tv,?_,?_,rfl⟩
  ·(show _=nH n);unfold nH;first |(rw [e];rfl) |rfl
  ·rfl
def gj (s:ByteArray):Prop:=s.size≤1000000
def gf (s:ByteArray):AV:=.t [.s (.int (aA s).1), .s (.q (aA s).2)]
def WQ (s:ByteArray):List AV:=[]
def iM:Con where
 A:=[.s .str]
 B:=[]
 pre:=fun x b=>gj x
 α:=fun _ _=>Unit
 φ:=fun _ _ _=>True
 r:=fun x b _=>gf x
 o:=fun x b _=>WQ x
 nf:=0
set_option maxRecDepth 100000 in
theorem MH:Has Tryz.prog 124 iM:=by
 refine Has.ofE (fun _=>true) (fun _=>false) (fun _=>false) (l:=[(147,gb),(146,YI)]) ⟨CL,ahN,trivial⟩ (fn:=Tryz.f124) Tryz.func124 rfl (by decide) (cH rfl) ?_
 rintro (s:ByteArray) _ (hp:gj s)
 show vc _ _ _ _ (entry [.str s] []) _
 have hp:s.size≤1000000:=hp
 have h9:decide ((s.size:Int) > 9)=false→s.size≤9:=fun h=>by have:=ca h;omega
 refine ⟨fun w1=>?_,fun w2=>⟨⟨⟨tv,tv⟩,?_⟩,fun x3 w4=>⟨tv,fun w5=>?_,fun w6=>⟨⟨⟨tv,tv⟩,tv⟩,fun x7 w8=>⟨fun w9=>?_,fun df=>?_⟩⟩⟩⟩⟩
 all_goals first|refine au ?_|refine aw ?_|exact sa|(dsimp only [gb,fy];omega)|(dsimp only [YI,aiT];omega)|exact sb|(show s.size≤18;have:=h9 w2;omega)|skip
 ·have e:aA s=(0,false):=SR (by have:=cw (p:=(s.size:Int) > 9) w1;omega)
  refine ⟨[],[],_,_,_,rfl,rp,(),tv,?_,?_,rfl⟩
  ·(show _=gf s);unfold gf;first |(rw [e];rfl) |rfl
  ·rfl
 ·have e:aA s=(0,false):=by rw [wc (h9 w2),show (!(iT s).2)=true from w5];rfl
  refine ⟨[],[],_,_,_,rfl,rp,(),tv,?_,?_,rfl⟩
  ·(show _=gf s);unfold gf;first |(rw [e];rfl) |rfl
  ·rfl
 ·have e:aA s=(0,false):=by rw [wc (h9 w2),show decide (cb (iT s).1≠s)=true from w9,Bool.or_true];rfl
  refine ⟨[],[],_,_,_,rfl,rp,(),tv,?_,?_,rfl⟩
  ·(show _=gf s);unfold gf;first |(rw [e];rfl) |rfl
  ·rfl
 ·have e:aA s=((iT s).1,true):=by rw [wc (h9 w2),show (!(iT s).2)=false from w6,show decide (cb (iT s).1≠s)=false from df];rfl
  refine ⟨[],[],_,_,_,rfl,rp,(),tv,?_,?_,rfl⟩
  ·(show _=gf s);unfold gf;first |(rw [e];rfl) |rfl
  ·rfl
def dE (p:Pt):Prop:=True
def ya (p:Pt):AV:=.s (.xs 1 1 0 5)
def B4 (p:Pt):List AV:=[.a [.int p.1, .int p.2.1, .int p.2.2.1, .int p.2.2.2.1, .int p.2.2.2.2], .a [.bp 0 0, .bp 0 1, .bp 0 2, .bp 0 3, .bp 0 4]]
def ew:Con where
 A:=[.b 0]
 B:=[.a [.int, .int, .int, .int, .int]]
 pre:=fun x b=>dE b
 α:=fun _ _=>Unit
 φ:=fun _ _ _=>True
 r:=fun x b _=>ya b
 o:=fun x b _=>B4 b
 nf:=1
 ro:=true
set_option maxRecDepth 100000 in
theorem zL:Has Tryz.prog 123 ew:=by
 refine Has.ofE (fun _=>true) (fun _=>false) (fun _=>false) (l:=[]) trivial (fn:=Tryz.f123) Tryz.func123 rfl (by decide) (cH rfl) ?_
 rintro _ ⟨(p1:Int),(p2:Int),(p3:Int),(p4:Int),(p5:Int)⟩ (hp:dE (p1,p2,p3,p4,p5))
 show vc _ _ _ _ (entry [.s (.bp 0 0)] [.a [.int p1, .int p2, .int p3, .int p4, .int p5]]) _
 refine ⟨[.s 0],[.s 3],rfl,[.s 3],[.s 4],rfl,[.s 4],[.s 5],rfl,[.s 0],[.s 6],rfl,[.s 6],[.s 7],rfl,[.s 7],[.s 8],rfl,[.s 0],[.s 9],rfl,[.s 9],[.s 10],rfl,[.s 10],[.s 11],rfl,[.s 0],[.s 12],rfl,[.s 12],[.s 13],rfl,[.s 13],[.s 14],rfl,[.s 0],[.s 15],rfl,[.s 15],[.s 16],rfl,[.s 16],[.s 17],rfl,[.s 5, .s 8, .s 11, .s 14, .s 17, .b 1018],[.s 18, .b 1018],rfl,[.s 18],[.s 2],rfl,?_⟩
 all_goals first|refine au ?_|refine aw ?_|exact sa|exact sb|skip
 refine ⟨[1018],[],_,_,_,rfl,rp,(),tv,?_,?_,rfl⟩
 ·(show _=ya (p1,p2,p3,p4,p5));unfold ya;first |rfl
 ·(show _=B4 (p1,p2,p3,p4,p5));unfold B4;first |rfl
end GL
namespace GL
def eC:TI:=⟨false,1, .other,[.pointer none],[],[]⟩
theorem ml:TIok Tryz.prog 15 eC:=⟨by show Sh Tryz.prog 15=some (false,1);kernel_rfl,by show zeroOf Tryz.prog 15=some [.pointer none];kernel_rfl,by simp [eC], .inl rfl,trivial⟩
def fI:TI:=⟨false,1, .other,[.pointer none],[],[]⟩
theorem qb:TIok Tryz.prog 16 fI:=⟨by show Sh Tryz.prog 16=some (false,1);kernel_rfl,by show zeroOf Tryz.prog 16=some [.pointer none];kernel_rfl,by simp [fI], .inl rfl,trivial⟩
def rv:TI:=⟨false,1, .other,[.pointer none],[],[]⟩
theorem KZ:TIok Tryz.prog 17 rv:=⟨by show Sh Tryz.prog 17=some (false,1);kernel_rfl,by show zeroOf Tryz.prog 17=some [.pointer none];kernel_rfl,by simp [rv], .inl rfl,trivial⟩
def ph:TI:=⟨false,1, .other,[.pointer none],[],[]⟩
theorem HO:TIok Tryz.prog 40 ph:=⟨by show Sh Tryz.prog 40=some (false,1);kernel_rfl,by show zeroOf Tryz.prog 40=some [.pointer none];kernel_rfl,by simp [ph], .inl rfl,trivial⟩
def ov:TI:=⟨false,1, .other,[.pointer none],[],[]⟩
theorem ES:TIok Tryz.prog 66 ov:=⟨by show Sh Tryz.prog 66=some (false,1);kernel_rfl,by show zeroOf Tryz.prog 66=some [.pointer none];kernel_rfl,by simp [ov], .inl rfl,trivial⟩
def ou:TI:=⟨false,1, .other,[.pointer none],[],[]⟩
theorem ER:TIok Tryz.prog 98 ou:=⟨by show Sh Tryz.prog 98=some (false,1);kernel_rfl,by show zeroOf Tryz.prog 98=some [.pointer none];kernel_rfl,by simp [ou], .inl rfl,trivial⟩
def F4:TI:=⟨false,1, .other,[.pointer none],[],[]⟩
theorem adu:TIok Tryz.prog 156 F4:=⟨by show Sh Tryz.prog 156=some (false,1);kernel_rfl,by show zeroOf Tryz.prog 156=some [.pointer none];kernel_rfl,by simp [F4], .inl rfl,trivial⟩
def rn:TI:=⟨false,1, .other,[.pointer none],[],[]⟩
theorem KY:TIok Tryz.prog 169 rn:=⟨by show Sh Tryz.prog 169=some (false,1);kernel_rfl,by show zeroOf Tryz.prog 169=some [.pointer none];kernel_rfl,by simp [rn], .inl rfl,trivial⟩
def iW:TI:=⟨false,1, .other,[.pointer none],[],[]⟩
theorem vq:TIok Tryz.prog 174 iW:=⟨by show Sh Tryz.prog 174=some (false,1);kernel_rfl,by show zeroOf Tryz.prog 174=some [.pointer none];kernel_rfl,by simp [iW], .inl rfl,trivial⟩
def xM:TI:=⟨false,1, .other,[.pointer none],[],[]⟩
theorem WY:TIok Tryz.prog 186 xM:=⟨by show Sh Tryz.prog 186=some (false,1);kernel_rfl,by show zeroOf Tryz.prog 186=some [.pointer none];kernel_rfl,by simp [xM], .inl rfl,trivial⟩
def iN:TI:=⟨false,1, .other,[.pointer none],[],[]⟩
theorem uF:TIok Tryz.prog 192 iN:=⟨by show Sh Tryz.prog 192=some (false,1);kernel_rfl,by show zeroOf Tryz.prog 192=some [.pointer none];kernel_rfl,by simp [iN], .inl rfl,trivial⟩
def gJ:TI:=⟨false,1, .other,[.pointer none],[],[]⟩
theorem si:TIok Tryz.prog 213 gJ:=⟨by show Sh Tryz.prog 213=some (false,1);kernel_rfl,by show zeroOf Tryz.prog 213=some [.pointer none];kernel_rfl,by simp [gJ], .inl rfl,trivial⟩
def ahi:TypeId→Option TI
 |15=>some eC
 |16=>some fI
 |17=>some rv
 |40=>some ph
 |66=>some ov
 |98=>some ou
 |156=>some F4
 |169=>some rn
 |174=>some iW
 |186=>some xM
 |192=>some iN
 |213=>some gJ
 |t=>tab t
theorem afI:∀t i,ahi t=some i→TIok Tryz.prog t i:=by
 intro t i h
 unfold ahi at h
 split at h
 ·cases h;exact ml
 ·cases h;exact qb
 ·cases h;exact KZ
 ·cases h;exact HO
 ·cases h;exact ES
 ·cases h;exact ER
 ·cases h;exact adu
 ·cases h;exact KY
 ·cases h;exact vq
 ·cases h;exact WY
 ·cases h;exact uF
 ·cases h;exact si
 ·exact acD _ _ h
def O2 (n:Nat) (l:List (FuncId×Con)) (ex wr pt:Nat→Bool):Env:=⟨n,ahi,look l,ex,wr,pt⟩
theorem FA {n:Nat} {l:List (FuncId×Con)} {ex wr pt:Nat→Bool} (h:AllHas Tryz.prog l):AT Tryz.prog (O2 n l ex wr pt):=⟨afI,fun _ _ hc=>HZ h hc⟩
theorem Has.ofEI (ex wr pt : Nat → Bool) {l : List (FuncId × Con)} (hl : AllHas Tryz.prog l) {f : FuncId} {fn : Func} {cd : Code} {C : Con} (hf : Tryz.prog.funcs[f]? = some fn) (hb : fn.body = some cd) (hnm : fn.name ≠ "runtime.NumGoroutine") (hlen : C.A.length ≤ fn.ntmps)
  (h:∀x y,C.pre x y→vc Tryz.prog fn.ntmps (sem (O2 fn.ntmps l ex wr pt)) cd (entry (APs.iS C.A x) (APs.iS C.B y)) (K5 (O2 fn.ntmps l ex wr pt).sh fn.results.toList C.B.length C.mv (fun r os=>∃z,C.φ x y z∧r=C.r x y z∧os=C.o x y z∧os.length=C.B.length+C.nf))):Has Tryz.prog f C:=
 ⟨xK.of (FA hl) mixed hf hb rfl hlen h,fn,hf,by rw [hb];rfl,hnm⟩
theorem Has.ofZI (ex wr pt : Nat → Bool) {l : List (FuncId × Con)} (hl : AllHas Tryz.prog l) {f : FuncId} {fn : Func} {cd : Code} {C : Con} (hf : Tryz.prog.funcs[f]? = some fn) (hb : fn.body = some cd) (hnm : fn.name ≠ "runtime.NumGoroutine") (hlen : C.A.length ≤ fn.ntmps)
  (h:∀x y,C.pre x y→vc Tryz.prog fn.ntmps (sem (O2 fn.ntmps l ex wr pt)) cd (entry (APs.iS C.A x) (APs.iS C.B y)) (K5 (O2 fn.ntmps l ex wr pt).sh fn.results.toList C.B.length C.mv (fun r os=>∃z j,C.φ x y z∧r=C.r x y z∧os++List.replicate j .zz=C.o x y z∧(C.o x y z).length=C.B.length+C.nf))):Has Tryz.prog f C:=by
 refine ⟨fun x y hp=>?_,fn,hf,by rw [hb];rfl,hnm⟩
 have hx:(APs.iS C.A x).length≤fn.ntmps:=by rw [APs.jY];exact hlen
 have hy:(APs.iS C.B y).length=C.B.length:=APs.jY C.B y
 refine TC.ac5 (TC.E7 (P:=Tryz.prog) (N:=fn.ntmps) (S:=sem (O2 fn.ntmps l ex wr pt)) (sh:=(O2 fn.ntmps l ex wr pt).sh) (f:=f) (fn:=fn) (cd:=cd) (args:=APs.iS C.A x) (bs:=APs.iS C.B y) (mv:=C.mv) (post:=fun r os=>∃z j,C.φ x y z∧r=C.r x y z∧os++List.replicate j .zz=C.o x y z∧(C.o x y z).length=C.B.length+C.nf) mixed (xS (FA (n:=fn.ntmps) (ex:=ex) (wr:=wr) (pt:=pt) hl)) (Env.QY (FA (n:=fn.ntmps) (ex:=ex) (wr:=wr) (pt:=pt) hl)) hf hb rfl hx (by rw [hy];exact h x y hp)) ?_
 rintro r os ⟨z,j,h1,h2,h3,h4⟩
 exact ⟨j,z,h1,h2,h3,by rw [h3];exact h4⟩
theorem lW {l:List (FuncId×Con)} {n:Nat} {ex wr pt:Nat→Bool} (hl:AllHas Tryz.prog l) {τ:St} {Q':sO} {cd:Code} {ι:Type} (bT:List fC) (J:ι→AM) (φ:ι→Prop) (μ:ι→Nat) (x0:ι) (sg0:List (Nat×Nat)) (h0:φ x0) (hs:EM sg0 τ τ bT (J x0))
  (tK:∀x,φ x→vc Tryz.prog n (sem (O2 n l ex wr pt)) cd ((oH τ bT).ap (J x)) (DK (fun τ'=>∃y sg,φ y∧μ y < μ x∧EM sg τ τ' bT (J y)) Q')):TW Tryz.prog n (.loop cd) τ Q':=
 agT (E:=O2 n l ex wr pt) (FA hl) mixed bT J φ μ x0 sg0 h0 hs tK
end GL
namespace GL
theorem sn {n:Int} (h0:0≤n) (h1:n≤999999999):cb n=bQ n:=by unfold cb;rw [show ir n 0 999999999=true from cn.2 ⟨h0,h1⟩];rfl
theorem VW {p:Pt} (h:aV p=true) (h2:ar p=false):(0≤p.1∧p.1≤999999999)∧(0≤p.2.1∧p.2.1≤999999999)∧(0≤p.2.2.1∧p.2.2.1≤999999999)∧(0≤p.2.2.2.1∧p.2.2.2.1≤999999999)∧(0≤p.2.2.2.2∧p.2.2.2.2≤999999999):=by
 unfold aV at h
 rw [h2,Bool.false_or] at h
 simp only [Bool.and_eq_true,cn] at h
 omega
theorem agY (a b c d e:ByteArray):lb (zO ⟨#[46]⟩ [a,b,c,d,e])=lb a++46::(lb b++46::(lb c++46::(lb d++46::lb e))):=by
 rw [FC]
 show Lib.join [lb a,lb b,lb c,lb d,lb e] [46]=_
 simp [Lib.join,List.intercalate]
theorem agZ (a b c d:ByteArray):lb (zO ⟨#[44]⟩ [a,b,c,d])=lb a++44::(lb b++44::(lb c++44::lb d)):=by
 rw [FC]
 show Lib.join [lb a,lb b,lb c,lb d] [44]=_
 simp [Lib.join,List.intercalate]
theorem RT {p:Pt} (h:aV p=true) (h2:ar p=false):aY p=zO ⟨#[46]⟩ [cb p.1,cb p.2.1,cb p.2.2.1,cb p.2.2.2.1,cb p.2.2.2.2]:=by
 obtain ⟨h1,h3,h4,h5,h6⟩:=VW h h2
 apply vy
 rw [wL h h2,agY,sn h1.1 h1.2,sn h3.1 h3.2,sn h4.1 h4.2,sn h5.1 h5.2,sn h6.1 h6.2]
def ac4 (p:Pt):List ByteArray:=[cb p.1,cb p.2.1,cb p.2.2.1,cb p.2.2.2.1,cb p.2.2.2.2]
theorem nU (n:Int):(cb n).size≤12:=by
 unfold cb
 cases h:ir n 0 999999999 with
 |true=>exact cZ (by have:=(cn.1 h).2;omega)
 |false=>exact Nat.zero_le _
theorem ab0 (a b c d e:Int):(Lib.join ([cb a,cb b,cb c,cb d,cb e].map (·.data.toList)) (⟨#[46]⟩:ByteArray).data.toList).length≤1000000:=by
 have h:=congrArg List.length (agY (cb a) (cb b) (cb c) (cb d) (cb e))
 have e1:=nU a;have e2:=nU b;have e3:=nU c;have e4:=nU d;have e5:=nU e
 rw [ff] at e1 e2 e3 e4 e5
 rw [FC] at h
 have h':(Lib.join ([cb a,cb b,cb c,cb d,cb e].map (·.data.toList)) (⟨#[46]⟩:ByteArray).data.toList).length=_:=h
 rw [h']
 simp only [List.length_append,List.length_cons]
 omega
def eB (p:Pt):Prop:=True
def jb (p:Pt):AV:=.s (.str (aY p))
def WM (p:Pt):List AV:=[]
def eM:Con where
 A:=[.a [.int, .int, .int, .int, .int]]
 B:=[]
 pre:=fun x b=>eB x
 α:=fun _ _=>Unit
 φ:=fun _ _ _=>True
 r:=fun x b _=>jb x
 o:=fun x b _=>WM x
 nf:=0
set_option maxRecDepth 100000 in
theorem wU:Has Tryz.prog 125 eM:=by
 refine Has.ofEI (fun _=>true) (fun _=>false) (fun _=>false) (l:=[(35,bB),(34,cx),(123,ew),(147,gb),(127,kT)]) ⟨eJ,jl,zL,CL,PM,trivial⟩ (fn:=Tryz.f125) Tryz.func125 rfl (by decide) (cH rfl) ?_
 rintro ⟨(p1:Int),(p2:Int),(p3:Int),(p4:Int),(p5:Int)⟩ _ (hp:eB (p1,p2,p3,p4,p5))
 show vc _ _ _ _ (entry [.a [.int p1, .int p2, .int p3, .int p4, .int p5]] []) _
 refine ⟨⟨⟨⟨tv,tv,tv,tv,tv,tv⟩,tv⟩,tv⟩,fun x1 w2=>⟨fun w3=>?_,fun w4=>⟨⟨⟨⟨tv,tv,tv,tv,tv,tv⟩,tv⟩,tv⟩,fun x5 w6=>⟨fun w7=>?_,fun w8=>⟨⟨⟨⟨tv,tv⟩,tv⟩,fun x9 df=>?_⟩,fun kx dC=>?_⟩⟩⟩⟩⟩
 all_goals first|refine au ?_|refine aw ?_|exact sa|(dsimp only [bB,bV];omega)|(dsimp only [cx,cM];omega)|(dsimp only [ew,dE];omega)|(dsimp only [gb,fy];omega)|(dsimp only [kT,lQ];omega)|exact sb|skip
 ·have e:aY (p1,p2,p3,p4,p5)=⟨#[]⟩:=by unfold aY;rw [show aV (p1,p2,p3,p4,p5)=false from xk w3];rfl
  refine ⟨[],[],_,_,_,rfl,rp,(),tv,?_,?_,rfl⟩
  ·(show _=jb (p1,p2,p3,p4,p5));unfold jb;first |(rw [e];rfl) |rfl
  ·rfl
 ·have e:aY (p1,p2,p3,p4,p5)=⟨#[45]⟩:=qL w7
  refine ⟨[],[],_,_,_,rfl,rp,(),tv,?_,?_,rfl⟩
  ·(show _=jb (p1,p2,p3,p4,p5));unfold jb;first |(rw [e];rfl) |rfl
  ·rfl
 ·have cq:aV (p1,p2,p3,p4,p5)=true:=cB w4
  have hho:ar (p1,p2,p3,p4,p5)=false:=w8
  refine lW (l:=[(35,bB),(34,cx),(123,ew),(147,gb),(127,kT)]) (ex:=fun _=>true) (wr:=fun _=>false) (pt:=fun _=>false) ⟨eJ,jl,zL,CL,PM,tv⟩ [.s 13, .s 14, .b 1001, .b 140000] (fun n:Nat=>match n with |0=>[(.s 3, .s (.v (.slice none 0 0))),(.s 15, .int 0)] |n+1=>[(.s 3, .s (.xs 1019 1 0 (n+1))),(.s 15, .int ((n+1:Nat):Int)),(.b 1019, .rs aa ((ac4 (p1,p2,p3,p4,p5)).take (n+1)))]) (fun n=>n≤5) (fun n=>5 - n) 0 [] (Nat.zero_le _) ru ?_
  rintro n (hn:n≤5)
  have h5:n=0∨n=1∨n=2∨n=3∨n=4∨n=5:=by omega
  rcases h5 with rfl |rfl |rfl |rfl |rfl |rfl
  ·refine ⟨fun w1=>⟨⟨?_,?_⟩,⟨⟨tv,tv⟩,tv⟩,fun x2 w3=>⟨tv,⟨⟨?_,?_⟩,?_,?_⟩,⟨?_,?_⟩,?_⟩⟩,fun w4=>⟨⟨⟨tv,tv,tv⟩,?_,?_⟩,fun x5 w6=>?_⟩⟩
   all_goals first|(exfalso;simp only [decide_eq_true_eq,decide_eq_false_iff_not] at *;omega)|refine au ?_|refine aw ?_|exact sa|(dsimp only [bB,bV];omega)|(dsimp only [cx,cM];omega)|(dsimp only [ew,dE];omega)|(dsimp only [gb,fy];omega)|(dsimp only [kT,lQ];omega)|exact sb|(show (0:Nat)+1≤1048576;omega)|skip
   ·refine ⟨(1),[(1019,1025)],?_,?_,?_⟩
    rotate_right
    ·exact rq
    ·show (1:Nat)≤5;omega
    ·show 5 - 1 < 5 - 0;omega
  ·refine ⟨fun w1=>⟨⟨?_,?_⟩,⟨⟨tv,tv⟩,tv⟩,fun x2 w3=>⟨tv,⟨⟨?_,?_⟩,?_,?_⟩,⟨?_,?_⟩,?_⟩⟩,fun w4=>⟨⟨⟨⟨?_,?_⟩,tv,tv⟩,?_,?_⟩,fun x5 w6=>?_⟩⟩
   all_goals first|(exfalso;simp only [decide_eq_true_eq,decide_eq_false_iff_not] at *;omega)|refine au ?_|refine aw ?_|exact sa|(dsimp only [bB,bV];omega)|(dsimp only [cx,cM];omega)|(dsimp only [ew,dE];omega)|(dsimp only [gb,fy];omega)|(dsimp only [kT,lQ];omega)|exact sb|(show (1:Nat)+1≤1048576;omega)|skip
   ·refine ⟨(2),[(1019,1025)],?_,?_,?_⟩
    rotate_right
    ·exact rq
    ·show (2:Nat)≤5;omega
    ·show 5 - 2 < 5 - 1;omega
  ·refine ⟨fun w1=>⟨⟨?_,?_⟩,⟨⟨tv,tv⟩,tv⟩,fun x2 w3=>⟨tv,⟨⟨?_,?_⟩,?_,?_⟩,⟨?_,?_⟩,?_⟩⟩,fun w4=>⟨⟨⟨⟨?_,?_⟩,tv,tv⟩,?_,?_⟩,fun x5 w6=>?_⟩⟩
   all_goals first|(exfalso;simp only [decide_eq_true_eq,decide_eq_false_iff_not] at *;omega)|refine au ?_|refine aw ?_|exact sa|(dsimp only [bB,bV];omega)|(dsimp only [cx,cM];omega)|(dsimp only [ew,dE];omega)|(dsimp only [gb,fy];omega)|(dsimp only [kT,lQ];omega)|exact sb|(show (2:Nat)+1≤1048576;omega)|skip
   ·refine ⟨(3),[(1019,1025)],?_,?_,?_⟩
    rotate_right
    ·exact rq
    ·show (3:Nat)≤5;omega
    ·show 5 - 3 < 5 - 2;omega
  ·refine ⟨fun w1=>⟨⟨?_,?_⟩,⟨⟨tv,tv⟩,tv⟩,fun x2 w3=>⟨tv,⟨⟨?_,?_⟩,?_,?_⟩,⟨?_,?_⟩,?_⟩⟩,fun w4=>⟨⟨⟨⟨?_,?_⟩,tv,tv⟩,?_,?_⟩,fun x5 w6=>?_⟩⟩
   all_goals first|(exfalso;simp only [decide_eq_true_eq,decide_eq_false_iff_not] at *;omega)|refine au ?_|refine aw ?_|exact sa|(dsimp only [bB,bV];omega)|(dsimp only [cx,cM];omega)|(dsimp only [ew,dE];omega)|(dsimp only [gb,fy];omega)|(dsimp only [kT,lQ];omega)|exact sb|(show (3:Nat)+1≤1048576;omega)|skip
   ·refine ⟨(4),[(1019,1025)],?_,?_,?_⟩
    rotate_right
    ·exact rq
    ·show (4:Nat)≤5;omega
    ·show 5 - 4 < 5 - 3;omega
  ·refine ⟨fun w1=>⟨⟨?_,?_⟩,⟨⟨tv,tv⟩,tv⟩,fun x2 w3=>⟨tv,⟨⟨?_,?_⟩,?_,?_⟩,⟨?_,?_⟩,?_⟩⟩,fun w4=>⟨⟨⟨⟨?_,?_⟩,tv,tv⟩,?_,?_⟩,fun x5 w6=>?_⟩⟩
   all_goals first|(exfalso;simp only [decide_eq_true_eq,decide_eq_false_iff_not] at *;omega)|refine au ?_|refine aw ?_|exact sa|(dsimp only [bB,bV];omega)|(dsimp only [cx,cM];omega)|(dsimp only [ew,dE];omega)|(dsimp only [gb,fy];omega)|(dsimp only [kT,lQ];omega)|exact sb|(show (4:Nat)+1≤1048576;omega)|skip
   ·refine ⟨(5),[(1019,1025)],?_,?_,?_⟩
    rotate_right
    ·exact rq
    ·show (5:Nat)≤5;omega
    ·show 5 - 5 < 5 - 4;omega
  ·refine ⟨fun w1=>⟨⟨?_,?_⟩,?_⟩,fun w2=>⟨⟨⟨⟨?_,?_⟩,tv,tv⟩,?_,?_⟩,fun x3 w4=>?_⟩⟩
   all_goals first|(exfalso;simp only [decide_eq_true_eq,decide_eq_false_iff_not] at *;omega)|refine au ?_|refine aw ?_|exact sa|(dsimp only [bB,bV];omega)|(dsimp only [cx,cM];omega)|(dsimp only [ew,dE];omega)|(dsimp only [gb,fy];omega)|(dsimp only [kT,lQ];omega)|exact sb|(exact ab0 p1 p2 p3 p4 p5)|(show (5:Nat)≤1000000;omega)|skip
   ·have e:aY (p1,p2,p3,p4,p5)=zO ⟨#[46]⟩ (ac4 (p1,p2,p3,p4,p5)):=RT cq hho
    refine ⟨[],[],_,_,_,rfl,rp,(),tv,?_,?_,rfl⟩
    ·(show _=jb (p1,p2,p3,p4,p5));unfold jb;first |(rw [e];rfl) |rfl
    ·rfl
end GL
end Go.Proofs.YtbfgjadbfjkcdaaGreatDoor
