/- FnTreeOk returns true for every code (its row lists package variables, tied by the card): part 23 of 39. -/
import Derived.Test.YtbfgjadbfjkcdaaGreatDoorPar
import Derived.Test.YtbfgjadbfjkcdaaGreatDoorPat
import Derived.Test.YtbfgjadbfjkcdaaGreatDoorPav
set_option maxHeartbeats 20000000
set_option linter.all false
namespace Go.Proofs.YtbfgjadbfjkcdaaGreatDoor
namespace GL
abbrev cO (n:fl):aZ:=(n.2.2.2.1,n.2.2.2.2.1,n.2.2.2.2.2.1,n.2.2.2.2.2.2.1,n.2.2.2.2.2.2.2.1,n.2.2.2.2.2.2.2.2.1,n.2.2.2.2.2.2.2.2.2)
abbrev aZ.d (t:aZ):Nat:=t.depth.toNat
theorem oF.ajF {s:ax} {t:aZ} {d:Nat} (h:oF s t d):d=t.d:=by have:=h.dep;show d=t.depth.toNat;omega
theorem Tree.at {s:ax} {t:aZ} {d:Nat} (h:Tree s t d):Tree s t t.d:=by rw [←h.rm.ajF];exact h
structure xJ (s:ax) (n:fl):Prop where
 ok:cm n=true
 tree:Tree s (cO n) (cO n).d
abbrev c8 (s:ax) (t:aZ):List Pt:=hZ s t.d t.root
abbrev du (s:ax) (n:fl):List Pt:=c8 s (cO n)
abbrev nodeAt (s:ax) (t:aZ) (k:Nat):fl:=(bm (getM s t k)).1
def gy (s:ax) (t:aZ) (E:Nat→Bool) (r:Nat):Nat:=((List.range 16).map fun k=>bif E k then 0 else bj (du s (nodeAt s t k)) r).sum
theorem U6 {f g:Nat→Nat}:∀ {l:List Nat},(∀k∈l,f k≤g k)→(l.map f).sum≤(l.map g).sum
 |[],_=>Nat.le_refl _
 |k::l,h=>by
  simp only [List.map_cons,List.sum_cons]
  have h1:=h k (by simp)
  have h2:=U6 (f:=f) (g:=g) (l:=l) fun x hx=>h x (by simp [hx])
  omega
theorem NY {f g:Nat→Nat} {l:List Nat} (h:∀k∈l,f k=g k):(l.map f).sum=(l.map g).sum:=by
 have h1:=U6 (f:=f) (g:=g) (l:=l) fun k hk=>Nat.le_of_eq (h k hk)
 have h2:=U6 (f:=g) (g:=f) (l:=l) fun k hk=>Nat.le_of_eq (h k hk).symm
 omega
theorem H9 {f:Nat→Nat} {k:Nat}:∀ {l:List Nat},k∈l→f k≤(l.map f).sum
 |x::l,h=>by
  simp only [List.map_cons,List.sum_cons]
  rcases List.mem_cons.1 h with rfl |h
  ·omega
  ·have:=H9 (f:=f) h;omega
theorem NX {f g:Nat→Nat} {i:Nat}:∀ {l:List Nat},l.Nodup→i∈l→(∀k∈l,k≠i→f k=g k)→f i=0→(l.map g).sum=(l.map f).sum+g i
 |x::l,hn,hi,h,h0=>by
  simp only [List.map_cons,List.sum_cons]
  have hn':=List.nodup_cons.1 hn
  by_cases e:x=i
  ·subst e
   have:(l.map f).sum=(l.map g).sum:=NY fun k hk=>h k (by simp [hk]) (fun e=>hn'.1 (e ▸ hk))
   omega
  ·have CS:i∈l:=by
    rcases List.mem_cons.1 hi with e' |h
    ·exact absurd e'.symm e
    ·exact h
   have:=NX (f:=f) (g:=g) hn'.2 CS (fun k hk fq=>h k (by simp [hk]) fq) h0
   have:=h x (by simp) e
   omega
structure FI (s:ax) (t:aZ) (E:Nat→Bool) (O:Nat→Nat):Prop where
 tree:Tree s t t.d
 nodes:∀k,k < 16→E k=false→getM s t k=⟨#[]⟩∨(bm (getM s t k)).2=true∧xJ s (nodeAt s t k)
 acc:Acc s (fun r=>O r+bj (c8 s t) r+gy s t E r)
theorem fA:bm ⟨#[]⟩=(nz,false):=by
 have h:bh ⟨#[]⟩=([],true):=by
  unfold bh
  rw [show JA ((⟨#[]⟩:ByteArray).size+1) ⟨#[]⟩ 0 []=some [] by rw [aeM (by decide)]]
  rfl
 rw [tA (by rw [h];decide)]
theorem jL {s:ax} {t:aZ} {k:Nat} (h:getM s t k=⟨#[]⟩) (r:Nat):bj (du s (nodeAt s t k)) r=0:=by
 show bj (du s (bm (getM s t k)).1) r=0
 rw [h,fA]
 exact ma rfl r
theorem FI.bT {s u:ax} {t:aZ} {E:Nat→Bool} {O X:Nat→Nat} (h:FI s t E O) (ht:s.bY≤u.bY) (hk:Kp X s u) (hX:∀r,bj (c8 s t) r+gy s t E r≤X r):
  Tree u t t.d∧(∀k,k < 16→getM u t k=getM s t k)∧c8 u t=c8 s t∧(∀k,k < 16→E k=false→getM u t k=⟨#[]⟩∨(bm (getM u t k)).2=true∧xJ u (nodeAt u t k))∧∀r,gy u t E r=gy s t E r:=by
 have h1:=xh h.tree ht hk fun r=>by have:=hX r;show bj (c8 s t) r≤_;omega
 have tL:∀k,k < 16→getM u t k=getM s t k:=fun k rG=>by
  unfold getM
  rw [h1.2.2,mH (s:=s)]
  intro hh
  refine hk _ ?_
  have hm:nth ab (ay s t) k∈ay s t:=bS (ek:=ab) (by rw [fW h.tree.rm.trd];exact rG)
  have c1:=tV hm hh
  have c2:bj (c8 s t) (at' (nth ab (ay s t) k))=bj (bl s t) (at' (nth ab (ay s t) k))+bj (ay s t) (at' (nth ab (ay s t) k)):=FZ h.tree.rm (at' (nth ab (ay s t) k))
  have c3:=hX (at' (nth ab (ay s t) k))
  omega
 have D1:∀k,k < 16→E k=false→getM s t k≠⟨#[]⟩→xJ u (nodeAt s t k)∧du u (nodeAt s t k)=du s (nodeAt s t k):=fun k rG hE fq=>by
  have hn:=(h.nodes k rG hE).resolve_left fq
  have h2:=xh hn.2.tree ht hk fun r=>by
   have c1:=H9 (f:=fun k=>bif E k then 0 else bj (du s (nodeAt s t k)) r) (l:=List.range 16) (List.mem_range.2 rG)
   have c2:=hX r
   have c1:(bif E k then 0 else bj (du s (nodeAt s t k)) r)≤gy s t E r:=c1
   rw [hE,cond_false] at c1
   show bj (du s (nodeAt s t k)) r≤_
   omega
  exact ⟨⟨hn.2.ok,h2.1⟩,h2.2.1⟩
 refine ⟨h1.1,tL,h1.2.1,fun k rG hE=>?_,fun r=>?_⟩
 ·by_cases fq:getM s t k=⟨#[]⟩
  ·left;rw [tL k rG];exact fq
  ·right
   have hn:=(h.nodes k rG hE).resolve_left fq
   unfold nodeAt
   rw [tL k rG]
   exact ⟨hn.1,(D1 k rG hE fq).1⟩
 ·unfold gy
  refine NY fun k rG=>?_
  have rG:=List.mem_range.1 rG
  cases hE:E k with
  |true=>rfl
  |false=>
   simp only [cond_false]
   by_cases fq:getM s t k=⟨#[]⟩
   ·rw [jL (by rw [tL k rG];exact fq),jL fq]
   ·show bj (du u (bm (getM u t k)).1) r=_
    rw [tL k rG]
    show bj (du u (nodeAt s t k)) r=_
    rw [(D1 k rG hE fq).2]
abbrev rL (E:Nat→Bool) (i:Nat):Nat→Bool:=fun k=>decide (k=i)||E k
theorem FI.take {s:ax} {t:aZ} {E:Nat→Bool} {O:Nat→Nat} {i:Nat} (h:FI s t E O) (hi:i < 16) (hE:E i=false):FI s t (rL E i) (fun r=>O r+bj (du s (nodeAt s t i)) r):=by
 refine ⟨h.tree,fun k hk hk2=>h.nodes k hk ?_,h.acc.mono fun r=>?_⟩
 ·unfold rL at hk2
  simp only [Bool.or_eq_false_iff] at hk2;exact hk2.2
 ·have:=NX (f:=fun k=>bif rL E i k then 0 else bj (du s (nodeAt s t k)) r) (g:=fun k=>bif E k then 0 else bj (du s (nodeAt s t k)) r) (i:=i) (l:=List.range 16) List.nodup_range (List.mem_range.2 hi) (fun k _ fq=>by
   have:rL E i k=E k:=by unfold rL;rw [decide_eq_false fq];rfl
   simp only [this]) (by
   have:rL E i i=true:=by unfold rL;rw [decide_eq_true rfl];rfl
   simp only [this,cond_true])
  have e:gy s t E r=gy s t (rL E i) r+bj (du s (nodeAt s t i)) r:=by
   have h2:=this
   simp only [hE,cond_false] at h2
   exact h2
  show O r+bj (du s (nodeAt s t i)) r+bj (c8 s t) r+gy s t (rL E i) r≤O r+bj (c8 s t) r+gy s t E r
  omega
theorem FI.more {s:ax} {t:aZ} {E:Nat→Bool} {O O':Nat→Nat} (h:FI s t E O) (hO:∀r,O' r≤O r):FI s t E O':=
 ⟨h.tree,h.nodes,h.acc.mono fun r=>by have:=hO r;show O' r+_+_≤O r+_+_;omega⟩
theorem FI.other {s u:ax} {t:aZ} {E:Nat→Bool} {O O':Nat→Nat} (h:FI s t E O) (ht:u.bY=s.bY) (hk:Kp (fun r=>O' r+bj (c8 s t) r+gy s t E r) s u) {Y:Nat→Nat} (ha:Acc u (fun r=>O' r+bj (c8 s t) r+gy s t E r+Y r)):FI u t E (fun r=>O' r+Y r):=by
 have hK:=h.bT (Int.le_of_eq ht.symm) hk fun r=>by show _≤O' r+_+_;omega
 refine ⟨hK.1,hK.2.2.2.1,ha.mono fun r=>?_⟩
 rw [hK.2.2.1,hK.2.2.2.2 r];omega
theorem F2 {s:ax} {t:aZ} {d:Nat} (h:Tree s t d):hZ s d t.root=c8 s t:=by rw [h.rm.ajF]
theorem FI.akw {s:ax} {t:aZ} {E:Nat→Bool} {O:Nat→Nat} {t2:aZ} {k:Int} {text:ByteArray} (h:FI s t E (fun r=>O r+bj (c8 s t2) r)) (h2:Tree s t2 t2.d) (hk0:0≤k) (hk:k≤15) (hz:(aU s t2 k text).2.2=true):
  ∃d,aiz s t2 (fun r=>O r+bj (c8 s t) r+gy s t E r) k.toNat text (bH t2 k) (aU s t2 k text).1 (aU s t2 k text).2.1 d∧FI (aU s t2 k text).1 t E (fun r=>O r+bj (c8 (aU s t2 k text).1 (aU s t2 k text).2.1) r)∧Tree (aU s t2 k text).1 (aU s t2 k text).2.1 (aU s t2 k text).2.1.d:=by
 obtain ⟨d,hP⟩:=BN (X:=fun r=>O r+bj (c8 s t) r+gy s t E r) (h.acc.mono fun r=>by show O r+bj (c8 s t) r+gy s t E r+bj (c8 s t2) r≤O r+bj (c8 s t2) r+bj (c8 s t) r+gy s t E r;omega) h2 hk0 hk hz
 refine ⟨d,hP,?_,hP.tree.at⟩
 have:=h.other (O':=O) (Y:=fun r=>bj (hZ _ d _) r) hP.same.bY hP.kp hP.acc
 rw [F2 hP.tree] at this
 exact this
theorem FI.alj {s:ax} {t:aZ} {E:Nat→Bool} {O:Nat→Nat} {t2:aZ} {many:Int} (h:FI s t E (fun r=>O r+bj (c8 s t2) r)) (h2:Tree s t2 t2.d) (h0:0≤many) (h1:many≤16) (hz:(cA s t2 many).2.2=true):
  ∃d,aj8 s t2 (fun r=>O r+bj (c8 s t) r+gy s t E r) many (cA s t2 many).1 (cA s t2 many).2.1 d∧FI (cA s t2 many).1 t E (fun r=>O r+bj (c8 (cA s t2 many).1 (cA s t2 many).2.1) r)∧Tree (cA s t2 many).1 (cA s t2 many).2.1 (cA s t2 many).2.1.d:=by
 obtain ⟨d,hP⟩:=NH (X:=fun r=>O r+bj (c8 s t) r+gy s t E r) (h.acc.mono fun r=>by show O r+bj (c8 s t) r+gy s t E r+bj (c8 s t2) r≤O r+bj (c8 s t2) r+bj (c8 s t) r+gy s t E r;omega) h2 h0 h1 hz
 refine ⟨d,hP,?_,hP.tree.at⟩
 have:=h.other (O':=O) (Y:=fun r=>bj (hZ _ d _) r) hP.same.bY hP.kp hP.acc
 rw [F2 hP.tree] at this
 exact this
theorem FI.next {s:ax} {t:aZ} {E:Nat→Bool} {O:Nat→Nat} (h:FI s t E O) (ht:s.bY < 1000000):FI (gY s) t E O∧∀k,k < 16→getM (gY s) t k=getM s t k:=by
 obtain ⟨ha,hk,htx,_,_⟩:=yC h.acc ht
 have hK:=h.bT (by rw [htx];omega) hk fun r=>by show _≤O r+_+_;omega
 exact ⟨⟨hK.1,hK.2.2.2.1,ha.mono fun r=>by rw [hK.2.2.1,hK.2.2.2.2 r];exact Nat.le_refl _⟩,hK.2.1⟩
end GL
namespace GL
theorem xJ.kp {s u:ax} {n:fl} {X:Nat→Nat} (h:xJ s n) (ht:s.bY≤u.bY) (hk:Kp X s u) (hX:∀r,bj (du s n) r≤X r):xJ u n∧du u n=du s n:=by
 have:=xh h.tree ht hk hX
 exact ⟨⟨h.ok,this.1⟩,this.2.1⟩
structure aiA (s:ax) (t:aZ) (E:Nat→Bool) (O:Nat→Nat) (i:Nat) (text:ByteArray) (u:ax) (t':aZ):Prop where
 fi:FI u t' E O
 at_:getM u t' i=text
 other:∀k,k < 16→k≠i→getM u t' k=getM s t k
 kp:Kp O s u
 same:dJ s u
 many:t'.many=bH t i
theorem FI.aiQ {s:ax} {t:aZ} {E:Nat→Bool} {O:Nat→Nat} {i:Nat} {text:ByteArray} (h:FI s t E O) (hi:i < 16) (hE:E i=true) (hz:(aU s t i text).2.2=true):aiA s t E O i text (aU s t i text).1 (aU s t i text).2.1:=by
 obtain ⟨d,hP⟩:=BN (X:=fun r=>O r+gy s t E r) (h.acc.mono fun r=>by show O r+gy s t E r+bj (c8 s t) r≤O r+bj (c8 s t) r+gy s t E r;omega) h.tree (by omega) (by omega) hz
 generalize (aU s t i text).1=u at *
 generalize (aU s t i text).2.1=t' at *
 have htx:s.bY≤u.bY:=by rw [hP.same.bY];exact Int.le_refl _
 have tL:∀k,k < 16→k≠i→getM u t' k=getM s t k:=fun k hk fq=>by
  rw [hP.get k hk,if_neg (by rw [Int.toNat_natCast];exact fq)]
 have D1:∀k,k < 16→E k=false→getM s t k≠⟨#[]⟩→xJ u (nodeAt s t k)∧du u (nodeAt s t k)=du s (nodeAt s t k):=fun k rG hEk fq=>by
  have hn:=(h.nodes k rG hEk).resolve_left fq
  refine hn.2.kp htx hP.kp fun r=>?_
  have c1:=H9 (f:=fun k=>bif E k then 0 else bj (du s (nodeAt s t k)) r) (l:=List.range 16) (List.mem_range.2 rG)
  have c1:(bif E k then 0 else bj (du s (nodeAt s t k)) r)≤gy s t E r:=c1
  rw [hEk,cond_false] at c1
  show bj (du s (nodeAt s t k)) r≤O r+_
  omega
 refine ⟨⟨hP.tree.at,fun k hk hEk=>?_,?_⟩,?_,tL,hP.kp.mono fun r=>Nat.le_add_right _ _,hP.same,hP.many⟩
 ·have fq:k≠i:=fun e=>by rw [e,hE] at hEk;cases hEk
  by_cases h0:getM s t k=⟨#[]⟩
  ·left;rw [tL k hk fq];exact h0
  ·right
   have hn:=(h.nodes k hk hEk).resolve_left h0
   unfold nodeAt
   rw [tL k hk fq]
   exact ⟨hn.1,(D1 k hk hEk h0).1⟩
 ·refine hP.acc.mono fun r=>?_
  have e:gy u t' E r=gy s t E r:=by
   unfold gy
   refine NY fun k hk=>?_
   have hk:=List.mem_range.1 hk
   cases hEk:E k with
   |true=>rfl
   |false=>
    have fq:k≠i:=fun e=>by rw [e,hE] at hEk;cases hEk
    simp only [cond_false]
    by_cases h0:getM s t k=⟨#[]⟩
    ·rw [jL (by rw [tL k hk fq];exact h0),jL h0]
    ·show bj (du u (bm (getM u t' k)).1) r=_
     rw [tL k hk fq]
     show bj (du u (nodeAt s t k)) r=_
     rw [(D1 k hk hEk h0).2]
  rw [e,F2 hP.tree]
  show O r+_+_≤O r+_+_;omega
 ·rw [hP.get i hi,if_pos (by rw [Int.toNat_natCast])]
abbrev vR (E:Nat→Bool) (i:Nat):Nat→Bool:=fun k=> !(decide (k=i))&&E k
theorem QO {s:ax} {t:aZ} {E:Nat→Bool} {i:Nat} (hi:i < 16) (hE:E i=true) (r:Nat):gy s t (vR E i) r=gy s t E r+bj (du s (nodeAt s t i)) r:=by
 have h:=NX (f:=fun k=>bif E k then 0 else bj (du s (nodeAt s t k)) r) (g:=fun k=>bif vR E i k then 0 else bj (du s (nodeAt s t k)) r) (i:=i) (l:=List.range 16) List.nodup_range (List.mem_range.2 hi) (fun k _ fq=>by
  have:vR E i k=E k:=by unfold vR;rw [decide_eq_false fq];rfl
  simp only [this]) (by simp only [hE,cond_true])
 have hd:vR E i i=false:=by unfold vR;rw [decide_eq_true rfl];rfl
 simp only [hd,cond_false] at h
 exact h
theorem FI.back {s:ax} {t:aZ} {E:Nat→Bool} {O:Nat→Nat} {i:Nat} {n:fl} (h:FI s t E (fun r=>O r+bj (du s n) r)) (hi:i < 16) (hE:E i=true) (hg:bm (getM s t i)=(n,true)) (hn:xJ s n):FI s t (vR E i) O:=by
 have hna:nodeAt s t i=n:=by show (bm (getM s t i)).1=n;rw [hg]
 refine ⟨h.tree,fun k hk hEk=>?_,h.acc.mono fun r=>?_⟩
 ·by_cases e:k=i
  ·subst e;right;rw [hna,hg];exact ⟨rfl,hn⟩
  ·refine h.nodes k hk ?_
   have:vR E i k=E k:=by unfold vR;rw [decide_eq_false e];rfl
   rw [←this];exact hEk
 ·rw [QO hi hE,hna]
  show O r+_+_≤O r+_+_+_;omega
theorem FI.ahc {s:ax} {t:aZ} {E:Nat→Bool} {O:Nat→Nat} {i:Nat} (h:FI s t E O) (hi:i < 16) (hE:E i=true) (hg:getM s t i=⟨#[]⟩):FI s t (vR E i) O:=by
 refine ⟨h.tree,fun k hk hEk=>?_,h.acc.mono fun r=>?_⟩
 ·by_cases e:k=i
  ·subst e;left;exact hg
  ·refine h.nodes k hk ?_
   have:vR E i k=E k:=by unfold vR;rw [decide_eq_false e];rfl
   rw [←this];exact hEk
 ·rw [QO hi hE,jL hg]
  show O r+bj (c8 s t) r+(gy s t E r+0)≤O r+bj (c8 s t) r+gy s t E r;omega
theorem aay {E:Nat→Bool} {i:Nat} (h:E i=false):vR (rL E i) i=E:=by
 funext k
 unfold vR rL
 by_cases e:k=i
 ·subst e;rw [decide_eq_true rfl,h];rfl
 ·rw [decide_eq_false e];rfl
theorem FI.ZD {s:ax} {t:aZ} {E:Nat→Bool} {O:Nat→Nat} {i:Nat} {n:fl} (h:FI s t E (fun r=>O r+bj (du s n) r)) (hi:i < 16) (hE:E i=true) (hn:cm n=true→xJ s n) (hz:(aU s t i (az n)).2.2=true):
  FI (aU s t i (az n)).1 (aU s t i (az n)).2.1 (vR E i) O∧aiA s t E O i (az n) (aU s t i (az n)).1 (aU s t i (az n)).2.1:=by
 have hP:=h.aiQ (text:=az n) hi hE hz
 have hP0:aiA s t E O i (az n) (aU s t i (az n)).1 (aU s t i (az n)).2.1:=⟨hP.fi.more fun r=>Nat.le_add_right _ _,hP.at_,hP.other,hP.kp.mono fun r=>Nat.le_add_right _ _,hP.same,hP.many⟩
 refine ⟨?_,hP0⟩
 cases ho:cm n with
 |false=>
  have he:az n=⟨#[]⟩:=by unfold az;rw [ho];rfl
  exact hP0.fi.ahc hi hE (by rw [hP.at_,he])
 |true=>
  have hk:=(hn ho).kp (u:=(aU s t i (az n)).1) (by rw [hP.same.bY];exact Int.le_refl _) hP.kp fun r=>Nat.le_add_left _ _
  refine (hP.fi.more fun r=>?_).back (n:=n) hi hE (by rw [hP.at_];exact tz ho) hk.1
  rw [hk.2];exact Nat.le_refl _
end GL
namespace GL
def iO:List ByteArray→Nat→ax→aZ→ax×aZ×Bool
 |[],_,s,t=>(s,t,true)
 |x::l,i,s,t=>bif !(aU s t i x).2.2 then ((aU s t i x).1,t,false) else iO l (i+1) (aU s t i x).1 (aU s t i x).2.1
theorem OC {x:ByteArray} {l:List ByteArray} {i:Nat} {s:ax} {t:aZ} (h:(aU s t i x).2.2=false):iO (x::l) i s t=((aU s t i x).1,t,false):=by rw [iO,h];rfl
theorem OB {x:ByteArray} {l:List ByteArray} {i:Nat} {s:ax} {t:aZ} (h:(aU s t i x).2.2=true):iO (x::l) i s t=iO l (i+1) (aU s t i x).1 (aU s t i x).2.1:=by rw [iO,h];rfl
def KB (r:ax×aZ×Bool) (n:Int):ax×aZ×Bool:=bif !r.2.2 then r else cA r.1 r.2.1 n
def dB (s:ax) (t:aZ) (text:ByteArray):ax×aZ×Bool:=bif decide (((kA text).length:Int) > 16) then (s,t,false) else KB (iO (kA text) 0 s t) (kA text).length
theorem RS:∀ {l:List ByteArray} {i:Nat} {s:ax} {t:aZ} {n:Nat},s.wg n→t.ok→i+l.length≤16→(iO l i s t).1.wg (n+6 * l.length)∧(iO l i s t).2.1.ok
 |[],i,s,t,n,hs,ht,_=>⟨hs,ht⟩
 |x::l,i,s,t,n,hs,ht,hi=>by
  rw [List.length_cons] at hi
  have h:=nq (k:=(i:Int)) (text:=x) hs ht (by omega) (by omega)
  cases hz:(aU s t i x).2.2 with
  |false=>rw [OC hz];exact ⟨h.1.mono (by rw [List.length_cons];omega),ht⟩
  |true=>
   rw [OB hz]
   have h2:=RS (l:=l) (i:=i+1) h.1 h.2.1 (by omega)
   exact ⟨h2.1.mono (by rw [List.length_cons];omega),h2.2⟩
theorem UR {s:ax} {t:aZ} {text:ByteArray} {n:Nat} (hs:s.wg n) (ht:t.ok):(dB s t text).1.wg (n+117)∧(dB s t text).2.1.ok:=by
 unfold dB
 cases h:decide (((kA text).length:Int) > 16) with
 |true=>exact ⟨hs.mono (by omega),ht⟩
 |false=>
  have hl:=ca h
  have h1:=RS (l:=kA text) (i:=0) hs ht (by omega)
  show (KB (iO (kA text) 0 s t) (kA text).length).1.wg (n+117)∧(KB (iO (kA text) 0 s t) (kA text).length).2.1.ok
  unfold KB
  cases !(iO (kA text) 0 s t).2.2 with
  |true=>exact ⟨h1.1.mono (by omega),h1.2⟩
  |false=>
   have h2:=FP (many:=((kA text).length:Int)) h1.1 h1.2 (by omega) (by omega)
   exact ⟨h2.1.mono (by omega),h2.2.1⟩
theorem ZF:∀ {f:Nat} {s:ByteArray},s.size < f→(pcF f s).length=(s.size+127) / 128
 |f+1,s,h=>by
  cases h1:decide ((s.size:Int) > 128) with
  |true=>
   have h2:=cw h1
   have hx:(s.extract 128 s.size).size=s.size - 128:=by rw [ByteArray.size_extract];omega
   rw [ac3 h1,List.length_cons,ZF (by omega),hx];omega
  |false=>
   have h2:=ca h1
   cases h3:decide (s≠⟨#[]⟩) with
   |true=>
    have:=size_pos (cw h3)
    rw [ac2 h1 h3,List.length_cons,List.length_nil];omega
   |false=>
    have h4:s=⟨#[]⟩:=Decidable.not_not.1 (ca h3)
    rw [ac1 h1 h3,h4];rfl
theorem ZE (s:ByteArray):(kA s).length=(s.size+127) / 128:=ZF (Nat.lt_succ_self _)
structure kt (s:ax) (t:aZ) (E:Nat→Bool) (O:Nat→Nat) (u:ax) (t2:aZ):Prop where
 fi:FI u t E (fun r=>O r+bj (c8 u t2) r)
 tree:Tree u t2 t2.d
 get:∀k,k < 16→getM u t k=getM s t k
 same:dJ s u
theorem kt.trans {s u v:ax} {t:aZ} {E:Nat→Bool} {O:Nat→Nat} {t2 t3:aZ} (h:kt s t E O u t2) (h2:kt u t E O v t3):kt s t E O v t3:=
 ⟨h2.fi,h2.tree,fun k hk=>(h2.get k hk).trans (h.get k hk),h.same.trans h2.same⟩
theorem kt.put {s u:ax} {t:aZ} {E:Nat→Bool} {O:Nat→Nat} {t2:aZ} {k:Int} {text:ByteArray} (h:kt s t E O u t2) (hk0:0≤k) (hk:k≤15) (hz:(aU u t2 k text).2.2=true):kt s t E O (aU u t2 k text).1 (aU u t2 k text).2.1∧(aU u t2 k text).2.1.many=bH t2 k:=by
 obtain ⟨d,hP,h1,h2⟩:=h.fi.akw h.tree hk0 hk hz
 have hK:=h.fi.bT (by rw [hP.same.bY];exact Int.le_refl _) hP.kp fun r=>by show _≤O r+_+_;omega
 exact ⟨⟨h1,h2,fun j hj=>(hK.2.1 j hj).trans (h.get j hj),h.same.trans hP.same⟩,hP.many⟩
theorem kt.cut {s u:ax} {t:aZ} {E:Nat→Bool} {O:Nat→Nat} {t2:aZ} {many:Int} (h:kt s t E O u t2) (h0:0≤many) (h1:many≤16) (hz:(cA u t2 many).2.2=true):kt s t E O (cA u t2 many).1 (cA u t2 many).2.1∧(cA u t2 many).2.1.many=many:=by
 obtain ⟨d,hP,h3,h2⟩:=h.fi.alj h.tree h0 h1 hz
 have hK:=h.fi.bT (by rw [hP.same.bY];exact Int.le_refl _) hP.kp fun r=>by show _≤O r+_+_;omega
 exact ⟨⟨h3,h2,fun j hj=>(hK.2.1 j hj).trans (h.get j hj),h.same.trans hP.same⟩,hP.many⟩
theorem kt.aiP {s:ax} {t:aZ} {E:Nat→Bool} {O:Nat→Nat}:∀ {l:List ByteArray} {i:Nat} {u:ax} {t2:aZ},kt s t E O u t2→i+l.length≤16→(iO l i u t2).2.2=true→kt s t E O (iO l i u t2).1 (iO l i u t2).2.1
 |[],i,u,t2,h,_,_=>h
 |x::l,i,u,t2,h,hi,hz=>by
  rw [List.length_cons] at hi
  cases hx:(aU u t2 i x).2.2 with
  |false=>rw [OC hx] at hz;cases hz
  |true=>
   rw [OB hx] at hz ⊢
   exact kt.aiP (h.put (by omega) (by omega) hx).1 (by omega) hz
theorem kt.alm {s u:ax} {t:aZ} {E:Nat→Bool} {O:Nat→Nat} {t2:aZ} {text:ByteArray} (h:kt s t E O u t2) (hz:(dB u t2 text).2.2=true):kt s t E O (dB u t2 text).1 (dB u t2 text).2.1∧(dB u t2 text).2.1.many=((kA text).length:Int):=by
 unfold dB at hz ⊢
 cases hg:decide (((kA text).length:Int) > 16) with
 |true=>rw [hg] at hz;cases hz
 |false=>
  rw [hg] at hz
  have hl:=ca hg
  simp only [cond_false] at hz ⊢
  unfold KB at hz ⊢
  cases h1:(iO (kA text) 0 u t2).2.2 with
  |false=>rw [h1] at hz;simp only [Bool.not_false,cond_true] at hz;rw [h1] at hz;cases hz
  |true=>
   rw [h1] at hz
   simp only [Bool.not_true,cond_false] at hz ⊢
   exact (h.aiP (by omega) h1).cut (by omega) (by omega) hz
theorem NQ (s:ax):Tree s ny 0:=by
 have h:oF s ny 0:=⟨rfl,Nat.zero_le _,kr s 0⟩
 refine ⟨h,Int.le_refl _,by decide,by decide,fun i _=>?_⟩
 rw [mz h]
 show ar (nth ab (bL::cl 15) i)=true
 rw [show (bL::cl 15)=cl 16 from rfl,B9];rfl
theorem rj.level {s:ax} {n:Nat} {p:Pt} (h:rj s n p):ar p=true∨p.2.2.2.2=(n:Int):=by
 cases hh:ar p with
 |true=>exact .inl rfl
 |false=>
  right
  cases n with
  |zero=>exact (h.2 hh).1
  |succ n=>exact (oq hh (h.2.1 hh)).2.1
abbrev kb (n:fl) (sz:Int) (t:aZ):fl:=(n.1,n.2.1,sz,t)
theorem abK {n:fl} {u:ax} {t:aZ} {sz:Int} (hn:cm n=true) (db:0≤sz∧sz≤16 * kl n.1) (ht:Tree u t t.d) (hm:t.many=ba sz (kl n.1)):cm (kb n sz t)=true:=by
 obtain ⟨b1,b2,b3,b4,b5,b6,b7,b8,b9⟩:=lh hn
 have he:kl n.1≠0:=by
  intro e
  have:bC n.1 n.2.2.1= -1:=by unfold bC;rw [e];rfl
  omega
 have hp:bC n.1 sz=t.many:=by
  unfold bC
  rw [decide_eq_false he,show ir sz 0 (16 * kl n.1)=true from cn.2 db,hm];rfl
 have hl:ir n.2.1 1 (bif decide (n.1=2) then 1 else 9)=true:=by
  unfold cm at hn
  cases hb:decide (bC n.1 n.2.2.1 < 0)||(decide (n.2.2.2.2.2.2.2.2.2≠bC n.1 n.2.2.1)||(decide (n.2.2.2.2.2.2.2.2.1≠bb (bC n.1 n.2.2.1))|| !(aV n.root))) with
  |true=>rw [hb] at hn;cases hn
  |false=>
   rw [hb,cond_false] at hn
   simp only [Bool.and_eq_true] at hn
   exact hn.1
 have h0:=ht.m0
 have hd:t.depth=bb t.many:=by rw [ht.dm];exact ht.rm.dep
 have FH:=ht.rm.snd.level
 have hdd:=ht.rm.dep
 unfold cm
 have e1:decide (bC (kb n sz t).1 (kb n sz t).2.2.1 < 0)=false:=by
  show decide (bC n.1 sz < 0)=false
  rw [hp];exact decide_eq_false (by omega)
 have e2:decide ((kb n sz t).2.2.2.2.2.2.2.2.2≠bC (kb n sz t).1 (kb n sz t).2.2.1)=false:=by
  show decide (t.many≠bC n.1 sz)=false
  rw [hp];exact decide_eq_false (by simp)
 have e3:decide ((kb n sz t).2.2.2.2.2.2.2.2.1≠bb (bC (kb n sz t).1 (kb n sz t).2.2.1))=false:=by
  show decide (t.depth≠bb (bC n.1 sz))=false
  rw [hp,hd];exact decide_eq_false (by simp)
 have e4:aV (kb n sz t).root=true:=ht.rm.snd.pok
 rw [e1,e2,e3,e4]
 show (ir n.2.1 1 (bif decide (n.1=2) then 1 else 9)&&(ar t.root||decide (t.root.2.2.2.2=t.depth)))=true
 rw [hl,Bool.true_and]
 rcases FH with h |h
 ·rw [h];rfl
 ·rw [decide_eq_true (by rw [h,hdd]),Bool.or_true]
abbrev E0:Nat→Bool:=fun _=>false
abbrev O0:Nat→Nat:=fun _=>0
structure FS (s:ax) (t:aZ):Prop where
 fi:FI s t E0 O0
 root:(nodeAt s t 0).1=2
theorem FS.cF {s:ax} {t:aZ} (h:FS s t) {k:Int} (h0:0≤k):GL.cF s t k=bm (getM s t k.toNat):=by
 cases hc: !(ir k 0 (t.many - 1)) with
 |false=>exact aeE hc
 |true=>
  have h1:¬(0≤k∧k≤t.many - 1):=fun e=>by
   have:ir k 0 (t.many - 1)=true:=cn.2 e
   rw [this] at hc;cases hc
  rw [aeF hc,mW h.fi.tree (j:=k.toNat) (by omega),fA]
theorem W5 {s:ByteArray} (h:(bm s).2=true):cm (bm s).1=true:=by
 cases h1: !(bh s).2 with
 |true=>rw [yA h1] at h;cases h
 |false=>cases h2:decide (((bh s).1.length:Int)≠7) with
  |true=>rw [tA h2] at h;cases h
  |false=>cases h3: !(cm (mR (bh s).1)) with
   |true=>rw [yz h3] at h;cases h
   |false=>cases h4:decide (az (mR (bh s).1)≠s) with
    |true=>rw [yy h4] at h;cases h
    |false=>rw [yB h1 h2 h3 h4];exact cB h3
theorem W6 {s:ByteArray} (h:(bm s).2=false):(bm s).1=nz:=by
 cases h1: !(bh s).2 with
 |true=>rw [yA h1]
 |false=>cases h2:decide (((bh s).1.length:Int)≠7) with
  |true=>rw [tA h2]
  |false=>cases h3: !(cm (mR (bh s).1)) with
   |true=>rw [yz h3]
   |false=>cases h4:decide (az (mR (bh s).1)≠s) with
    |true=>rw [yy h4]
    |false=>rw [yB h1 h2 h3 h4] at h;cases h
theorem FS.at {s:ax} {t:aZ} (h:FS s t) {i:Nat} (hi:i < 16):Tree s (cO (nodeAt s t i)) (cO (nodeAt s t i)).d∧(cm (nodeAt s t i)=true∨nodeAt s t i=nz):=by
 rcases h.fi.nodes i hi rfl with h1 |h1
 ·have e:nodeAt s t i=nz:=by show (bm (getM s t i)).1=_;rw [h1,fA]
  rw [e]
  exact ⟨NQ s, .inr rfl⟩
 ·exact ⟨h1.2.tree, .inl h1.2.ok⟩
theorem FS.take {s:ax} {t:aZ} (h:FS s t) {i:Nat} (hi:i < 16):kt s t (rL E0 i) O0 s (cO (nodeAt s t i)):=
 ⟨h.fi.take hi rfl,(h.at hi).1,fun _ _=>rfl,dJ.refl _⟩
theorem FS.back {s u:ax} {t:aZ} {i:Nat} {n:fl} (h:FS s t) (hi:i < 16) (hB:kt s t (rL E0 i) O0 u (cO n)) (hr:i=0→cm n=true∧n.1=2) (hz:(aU u t i (az n)).2.2=true):
  FS (aU u t i (az n)).1 (aU u t i (az n)).2.1∧(∀k,k < 16→k≠i→getM (aU u t i (az n)).1 (aU u t i (az n)).2.1 k=getM s t k)∧dJ s (aU u t i (az n)).1:=by
 have hE:rL E0 i i=true:=by unfold rL;rw [decide_eq_true rfl];rfl
 have h1:=hB.fi.ZD (n:=n) hi hE (fun ho=>⟨ho,hB.tree⟩) hz
 have hg:∀k,k < 16→k≠i→getM (aU u t i (az n)).1 (aU u t i (az n)).2.1 k=getM s t k:=fun k hk fq=>(h1.2.other k hk fq).trans (hB.get k hk)
 have hf:=h1.1
 rw [aay (show E0 i=false from rfl)] at hf
 refine ⟨⟨hf,?_⟩,hg,hB.same.trans h1.2.same⟩
 show (bm (getM _ _ 0)).1.1=2
 by_cases e:i=0
 ·obtain ⟨ho,h2⟩:=hr e
  subst e
  rw [h1.2.at_,tz ho];exact h2
 ·rw [hg 0 (by omega) (fun h=>e h.symm)];exact h.root
theorem FS.write {s:ax} {t:aZ} {i:Nat} {text:ByteArray} (h:FS s t) (hi:i < 16) (hb:(dB s (cO (nodeAt s t i)) text).2.2=true)
  (hz:(aU (dB s (cO (nodeAt s t i)) text).1 t i (az (kb (nodeAt s t i) text.size (dB s (cO (nodeAt s t i)) text).2.1))).2.2=true):
  FS (aU (dB s (cO (nodeAt s t i)) text).1 t i (az (kb (nodeAt s t i) text.size (dB s (cO (nodeAt s t i)) text).2.1))).1 (aU (dB s (cO (nodeAt s t i)) text).1 t i (az (kb (nodeAt s t i) text.size (dB s (cO (nodeAt s t i)) text).2.1))).2.1∧
  (∀k,k < 16→k≠i→getM (aU (dB s (cO (nodeAt s t i)) text).1 t i (az (kb (nodeAt s t i) text.size (dB s (cO (nodeAt s t i)) text).2.1))).1 (aU (dB s (cO (nodeAt s t i)) text).1 t i (az (kb (nodeAt s t i) text.size (dB s (cO (nodeAt s t i)) text).2.1))).2.1 k=getM s t k)∧
  dJ s (aU (dB s (cO (nodeAt s t i)) text).1 t i (az (kb (nodeAt s t i) text.size (dB s (cO (nodeAt s t i)) text).2.1))).1:=by
 have hB:=(h.take hi).alm hb
 have hl:((kA text).length:Int)≤16:=by rw [←hB.2];exact hB.1.tree.m1
 refine h.back hi (n:=kb (nodeAt s t i) text.size (dB s (cO (nodeAt s t i)) text).2.1) hB.1 (fun e=>?_) hz
 subst e
 have h2:(nodeAt s t 0).1=2:=h.root
 have cq:cm (nodeAt s t 0)=true:=by
  rcases (h.at hi).2 with h3 |h3
  ·exact h3
  ·rw [h3] at h2;exact absurd h2 (by decide)
 refine ⟨abK cq ?_ hB.1.tree ?_,h2⟩
 ·rw [h2];have:=ZE text;show 0≤(text.size:Int)∧(text.size:Int)≤16 * 128;omega
 ·rw [hB.2,h2,ZE];show _=((text.size:Int)+128 - 1) / 128;omega
theorem FS.make {s:ax} {t:aZ} {i:Nat} {kind:Int} (h:FS s t) (hi:i < 16) (h0:getM s t i=⟨#[]⟩) (hz:(aU s t i (az (kind,1,0,ny))).2.2=true):
  FS (aU s t i (az (kind,1,0,ny))).1 (aU s t i (az (kind,1,0,ny))).2.1∧(∀k,k < 16→k≠i→getM (aU s t i (az (kind,1,0,ny))).1 (aU s t i (az (kind,1,0,ny))).2.1 k=getM s t k)∧dJ s (aU s t i (az (kind,1,0,ny))).1:=by
 have e:nodeAt s t i=nz:=by show (bm (getM s t i)).1=_;rw [h0,fA]
 have hB:=h.take hi
 rw [e] at hB
 refine h.back hi (n:=(kind,1,0,ny)) hB (fun e0=>?_) hz
 subst e0
 have:=h.root
 rw [e] at this;exact absurd this (by decide)
theorem FS.adO {s:ax} {t:aZ} {i:Nat} {l:Int} (h:FS s t) (hi:i < 16) (hi0:0 < i)
  (hz:(aU s t i (az ((nodeAt s t i).1,l,(nodeAt s t i).2.2))).2.2=true):
  FS (aU s t i (az ((nodeAt s t i).1,l,(nodeAt s t i).2.2))).1 (aU s t i (az ((nodeAt s t i).1,l,(nodeAt s t i).2.2))).2.1∧(∀k,k < 16→k≠i→getM (aU s t i (az ((nodeAt s t i).1,l,(nodeAt s t i).2.2))).1 (aU s t i (az ((nodeAt s t i).1,l,(nodeAt s t i).2.2))).2.1 k=getM s t k)∧dJ s (aU s t i (az ((nodeAt s t i).1,l,(nodeAt s t i).2.2))).1:=
 h.back hi (n:=((nodeAt s t i).1,l,(nodeAt s t i).2.2)) (h.take hi) (fun e=>absurd e (by omega)) hz
theorem FI.ah7 {s:ax} {t:aZ} {many:Int} (h:FI s t E0 O0) (h0:0≤many) (h1:many≤16) (qE:∀k:Nat,k < 16→many≤(k:Int)→getM s t k=⟨#[]⟩) (hz:(cA s t many).2.2=true):
  FI (cA s t many).1 (cA s t many).2.1 E0 O0∧(∀k,k < 16→getM (cA s t many).1 (cA s t many).2.1 k=getM s t k)∧dJ s (cA s t many).1:=by
 obtain ⟨d,hP⟩:=NH (X:=fun r=>gy s t E0 r) (h.acc.mono fun r=>by show gy s t E0 r+bj (c8 s t) r≤0+bj (c8 s t) r+gy s t E0 r;omega) h.tree h0 h1 hz
 generalize (cA s t many).1=u at *
 generalize (cA s t many).2.1=t' at *
 have hg:∀k,k < 16→getM u t' k=getM s t k:=fun k hk=>by
  rw [hP.get k hk]
  split
  ·rfl
  ·rename_i hc;exact (qE k hk (by omega)).symm
 have D1:∀k,k < 16→getM s t k≠⟨#[]⟩→xJ u (nodeAt s t k)∧du u (nodeAt s t k)=du s (nodeAt s t k):=fun k rG fq=>by
  have hn:=(h.nodes k rG rfl).resolve_left fq
  refine hn.2.kp (by rw [hP.same.bY];exact Int.le_refl _) hP.kp fun r=>?_
  exact H9 (f:=fun k=>bif E0 k then 0 else bj (du s (nodeAt s t k)) r) (l:=List.range 16) (List.mem_range.2 rG)
 refine ⟨⟨hP.tree.at,fun k hk _=>?_,hP.acc.mono fun r=>?_⟩,hg,hP.same⟩
 ·by_cases h2:getM s t k=⟨#[]⟩
  ·left;rw [hg k hk];exact h2
  ·right
   have hn:=(h.nodes k hk rfl).resolve_left h2
   unfold nodeAt
   rw [hg k hk]
   exact ⟨hn.1,(D1 k hk h2).1⟩
 ·have e:gy u t' E0 r=gy s t E0 r:=by
   unfold gy
   refine NY fun k hk=>?_
   have hk:=List.mem_range.1 hk
   show bj (du u (bm (getM u t' k)).1) r=bj (du s (nodeAt s t k)) r
   rw [hg k hk]
   by_cases h2:getM s t k=⟨#[]⟩
   ·rw [show (bm (getM s t k)).1=nz by rw [h2,fA],show nodeAt s t k=nz by show (bm (getM s t k)).1=_;rw [h2,fA]]
    rfl
   ·show bj (du u (nodeAt s t k)) r=_
    rw [(D1 k hk h2).2]
  rw [e,F2 hP.tree]
  show 0+_+_≤_;omega
theorem FI.ajE {s:ax} {t:aZ} {E:Nat→Bool} {l:List Pt} (h:FI s t E (fun r=>0+bj l r)) (hl:∀p∈l,aV p=true):FI (dq l s) t E O0∧(∀k,k < 16→getM (dq l s) t k=getM s t k)∧dJ s (dq l s):=by
 rw [vH]
 obtain ⟨h1,h2,h3⟩:=yT (l:=l) (O':=fun r=>bj (c8 s t) r+gy s t E r) h.acc hl fun r=>by show _≤0+bj l r+_+_;omega
 have hK:=h.bT (by rw [h3.bY];exact Int.le_refl _) h2 fun r=>Nat.le_refl _
 refine ⟨⟨hK.1,hK.2.2.2.1,h1.mono fun r=>?_⟩,hK.2.1,h3⟩
 rw [hK.2.2.1,hK.2.2.2.2 r];show 0+_+_≤_;omega
theorem Y1 {s:ax}:∀ {n:Nat} {p:Pt},rj s n p→∀q∈hZ s n p,aV q=true
 |0,p,h,q,hq=>by rw [List.mem_singleton.1 hq];exact h.1
 |n+1,p,h,q,hq=>by
  rcases List.mem_cons.1 hq with rfl |hq
  ·exact h.1
  ·obtain ⟨x,hx,hq⟩:=List.mem_flatMap.1 hq
   exact Y1 (h.2.2 x hx) q hq
def ch (s:ax) (t:aZ) (k:Int):ax×aZ×Bool:=
 bif !(aU (dq (allM s (cO (cF s t k).1)) s) t k ⟨#[]⟩).2.2 then ((aU (dq (allM s (cO (cF s t k).1)) s) t k ⟨#[]⟩).1,(aU (dq (allM s (cO (cF s t k).1)) s) t k ⟨#[]⟩).2.1,false)
 else cA (aU (dq (allM s (cO (cF s t k).1)) s) t k ⟨#[]⟩).1 (aU (dq (allM s (cO (cF s t k).1)) s) t k ⟨#[]⟩).2.1 (mw s t k)
theorem zH (mh:Int):∀ {l:List ByteArray} {k:Nat} {n:Int},0≤n→n≤k→0≤iQ mh l k n∧n≤iQ mh l k n∧iQ mh l k n≤k+l.length
 |[],k,n,h0,h1=>⟨h0,Int.le_refl _,by show n≤(k:Int)+((0:Nat):Int);omega⟩
 |x::l,k,n,h0,h1=>by
  unfold iQ
  cases decide ((k:Int)≠mh)&&decide (x≠⟨#[]⟩) with
  |true=>
   have:=zH mh (l:=l) (k:=k+1) (n:=(k:Int)+1) (by omega) (by omega)
   rw [List.length_cons];exact ⟨this.1,by have:=this.2.1;show n≤iQ mh l (k+1) ((k:Int)+1);omega,by have:=this.2.2;show iQ mh l (k+1) ((k:Int)+1)≤_;omega⟩
  |false=>
   have:=zH mh (l:=l) (k:=k+1) (n:=n) (by omega) (by omega)
   rw [List.length_cons];exact ⟨this.1,by have:=this.2.1;show n≤iQ mh l (k+1) n;omega,by have:=this.2.2;show iQ mh l (k+1) n≤_;omega⟩
theorem IC (mh:Int):∀ {l:List ByteArray} {k:Nat} {n:Int},0≤n→n≤k→∀j,j < l.length→((k+j:Nat):Int)≠mh→nth aa l j≠⟨#[]⟩→((k+j:Nat):Int) < iQ mh l k n
 |x::l,k,n,h0,h1,j,hj,hb,hx=>by
  unfold iQ
  cases j with
  |zero=>
   have hx:x≠⟨#[]⟩:=hx
   have hb:(k:Int)≠mh:=hb
   rw [decide_eq_true hx,decide_eq_true hb]
   have:=zH mh (l:=l) (k:=k+1) (n:=(k:Int)+1) (by omega) (by omega)
   show ((k+0:Nat):Int) < iQ mh l (k+1) ((k:Int)+1);omega
  |succ j=>
   have hj:j < l.length:=by rw [List.length_cons] at hj;omega
   have hx:nth aa l j≠⟨#[]⟩:=hx
   have e:k+(j+1)=k+1+j:=by omega
   rw [e] at hb ⊢
   cases decide ((k:Int)≠mh)&&decide (x≠⟨#[]⟩) with
   |true=>exact IC mh (l:=l) (k:=k+1) (n:=(k:Int)+1) (by omega) (by omega) j hj hb hx
   |false=>exact IC mh (l:=l) (k:=k+1) (n:=n) (by omega) (by omega) j hj hb hx
theorem IB {s:ax} {t:aZ} (h:t.ok) (mh:Int):0≤mw s t mh∧mw s t mh≤t.many:=by
 have h1:=zH mh (l:=bg s t) (k:=0) (n:=0) (Int.le_refl _) (Int.le_refl _)
 rw [fg h] at h1
 have:=h.m0
 exact ⟨h1.1,by have:=h1.2.2;unfold mw;omega⟩
theorem adT {s:ax} {t:aZ} (h:Tree s t t.d) {mh:Int} {j:Nat} (hj:(j:Int)≠mh) (hx:getM s t j≠⟨#[]⟩):(j:Int) < mw s t mh:=by
 have cq:=h.ok
 have hm:j < t.many.toNat:=by
  refine Decidable.byContradiction fun hn=>hx (mW h (by have:=h.m0;omega))
 have:=IC mh (l:=bg s t) (k:=0) (n:=0) (Int.le_refl _) (Int.le_refl _) j (by rw [fg cq];exact hm) (by rw [Nat.zero_add];exact hj) (by rw [xP cq hm];exact hx)
 rw [Nat.zero_add] at this;exact this
theorem FS.drop {s:ax} {t:aZ} {i:Nat} (h:FS s t) (hi:i < 16) (hi0:0 < i) (hz:(ch s t i).2.2=true):FS (ch s t i).1 (ch s t i).2.1∧dJ s (ch s t i).1:=by
 have hn:(GL.cF s t i).1=nodeAt s t i:=by rw [h.cF (by omega)];rfl
 have hB:=h.take hi
 have qE:=UW hB.tree.rm
 have j6:=(hB.fi.more (O':=fun r=>0+bj (allM s (cO (nodeAt s t i))) r) fun r=>by
  rw [qE.2]
  have:=YE nhB (du s (nodeAt s t i)) r
  show 0+bj (List.filter nhB (du s (nodeAt s t i))) r≤0+bj (du s (nodeAt s t i)) r;omega).ajE fun p hp=>by
   rw [qE.2] at hp
   exact Y1 hB.tree.rm.snd p ((List.mem_filter.1 hp).1)
 unfold ch at hz ⊢
 rw [hn] at hz ⊢
 generalize dq (allM s (cO (nodeAt s t i))) s=u at *
 cases hp:(aU u t i ⟨#[]⟩).2.2 with
 |false=>rw [hp] at hz;cases hz
 |true=>
  rw [hp] at hz
  simp only [Bool.not_true,cond_false] at hz ⊢
  have hE:rL E0 i i=true:=by unfold rL;rw [decide_eq_true rfl];rfl
  have hP:=j6.1.aiQ (i:=i) (text:=⟨#[]⟩) hi hE hp
  have hF:=hP.fi.ahc hi hE hP.at_
  rw [aay (show E0 i=false from rfl)] at hF
  have hl:=IB (s:=s) h.fi.tree.ok i
  have hm1:=h.fi.tree.m1
  have hg:∀k,k < 16→k≠i→getM (aU u t i ⟨#[]⟩).1 (aU u t i ⟨#[]⟩).2.1 k=getM s t k:=fun k hk fq=>(hP.other k hk fq).trans (j6.2.1 k hk)
  have hc:=hF.ah7 (many:=mw s t i) hl.1 (by omega) (fun k hk hlk=>by
   by_cases e:k=i
   ·rw [e];exact hP.at_
   ·rw [hg k hk e]
    refine Decidable.byContradiction fun hx=>?_
    have:=adT h.fi.tree (mh:=(i:Int)) (j:=k) (by omega) hx
    omega) hz
  refine ⟨⟨hc.1,?_⟩,(j6.2.2.trans hP.same).trans hc.2.2⟩
  show (bm (getM _ _ 0)).1.1=2
  rw [hc.2.1 0 (by omega),hg 0 (by omega) (by omega)];exact h.root
theorem FS.next {s:ax} {t:aZ} (h:FS s t) (ht:s.bY < 1000000):FS (gY s) t:=by
 obtain ⟨h1,h2⟩:=h.fi.next ht
 refine ⟨h1,?_⟩
 show (bm (getM _ _ 0)).1.1=2
 rw [h2 0 (by omega)];exact h.root
theorem FS.many {s:ax} {t:aZ} (h:FS s t):1≤t.many:=by
 refine Decidable.byContradiction fun hn=>?_
 have e:=mW h.fi.tree (j:=0) (by omega)
 have:=h.root
 unfold nodeAt at this
 rw [e,fA] at this
 exact absurd this (by decide)
end GL
end Go.Proofs.YtbfgjadbfjkcdaaGreatDoor
