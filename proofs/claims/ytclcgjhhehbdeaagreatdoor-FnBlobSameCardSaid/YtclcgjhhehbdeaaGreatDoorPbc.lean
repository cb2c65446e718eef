/- A drawn law returns true for every code (its row lists package variables, tied by the card): part 29. -/
import Derived.Test.YtclcgjhhehbdeaaGreatDoorPav
import Derived.Test.YtclcgjhhehbdeaaGreatDoorPax
import Derived.Test.YtclcgjhhehbdeaaGreatDoorPbb
set_option maxHeartbeats 20000000
set_option maxRecDepth 100000
set_option linter.all false
namespace Go.Proofs.YtclcgjhhehbdeaaGreatDoor
namespace GL
def iU:List ByteArray→Nat→ay→bf→ay×bf×Bool
 |[],_,s,t=>(s,t,true)
 |x::l,i,s,t=>bif !(aY s t i x).2.2 then ((aY s t i x).1,t,false) else iU l (i+1) (aY s t i x).1 (aY s t i x).2.1
theorem N5 {x:ByteArray}{l:List ByteArray}{i:Nat}{s:ay}{t:bf}(h:(aY s t i x).2.2=false):iU (x::l) i s t=((aY s t i x).1,t,false):=by rw [iU,h];rfl
theorem N4 {x:ByteArray}{l:List ByteArray}{i:Nat}{s:ay}{t:bf}(h:(aY s t i x).2.2=true):iU (x::l) i s t=iU l (i+1) (aY s t i x).1 (aY s t i x).2.1:=by rw [iU,h];rfl
def J5 (r:ay×bf×Bool) (n:Int):ay×bf×Bool:=bif !r.2.2 then r else cF r.1 r.2.1 n
def dF (s:ay) (t:bf) (text:ByteArray):ay×bf×Bool:=bif decide (((kz text).length:Int)>16) then (s,t,false) else J5 (iU (kz text) 0 s t) (kz text).length
theorem RE:∀{l:List ByteArray}{i:Nat}{s:ay}{t:bf}{n:Nat},s.wg n→t.ok→i+l.length≤16→(iU l i s t).1.wg (n+6*l.length)∧(iU l i s t).2.1.ok
 |[],i,s,t,n,hs,ht,_=>⟨hs,ht⟩
 |x::l,i,s,t,n,hs,ht,hi=>by
  rw [ZA1] at hi
  have h:=ni (k:=(i:Int)) (text:=x) hs ht (by omega) (by omega)
  cases hz:(aY s t i x).2.2 with
  |false=>rw [N5 hz];exact⟨h.1.mono (by rw [ZA1];omega),ht⟩
  |true=>
   rw [N4 hz]
   have h2:=RE (l:=l) (i:=i+1) h.1 h.2.1 (by omega)
   exact⟨h2.1.mono (by rw [ZA1];omega),h2.2⟩
theorem UC {s:ay}{t:bf}{text:ByteArray}{n:Nat}(hs:s.wg n) (ht:t.ok):(dF s t text).1.wg (n+117)∧(dF s t text).2.1.ok:=by
 unfold dF
 cases h:decide (((kz text).length:Int)>16) with
 |true=>exact⟨hs.mono (by omega),ht⟩
 |false=>
  have hl:=aA h
  have h1:=RE (l:=kz text) (i:=0) hs ht (by omega)
  show (J5 (iU (kz text) 0 s t) (kz text).length).1.wg (n+117)∧(J5 (iU (kz text) 0 s t) (kz text).length).2.1.ok
  unfold J5
  cases !(iU (kz text) 0 s t).2.2 with
  |true=>exact⟨h1.1.mono (by omega),h1.2⟩
  |false=>
   have h2:=FM (many:=((kz text).length:Int)) h1.1 h1.2 (by omega) (by omega)
   exact⟨h2.1.mono (by omega),h2.2.1⟩
theorem YW:∀{f:Nat}{s:ByteArray},s.size<f→(pcF f s).length=(s.size+127) / 128
 |f+1,s,h=>by
  cases h1:decide ((s.size:Int)>128) with
  |true=>
   have h2:=aJ h1
   have hx:(s.extract 128 s.size).size=s.size-128:=by rw [ZC5];omega
   rw [acN h1,ZA1,YW (by omega),hx];omega
  |false=>
   have h2:=aA h1
   cases h3:decide (s≠⟨#[]⟩) with
   |true=>
    have:=size_pos (aJ h3)
    rw [acM h1 h3,ZA1,ZA4];omega
   |false=>
    have h4:s=⟨#[]⟩:=ZE9.1 (aA h3)
    rw [acL h1 h3,h4];rfl
theorem YV (s:ByteArray):(kz s).length=(s.size+127) / 128:=YW (ZD9 _)
structure kr (s:ay) (t:bf) (E:Nat→Bool) (O:Nat→Nat) (u:ay) (t2:bf):Prop where
 fi:FI u t E (fun r=>O r+bn (di u t2) r)
 tree:Tree u t2 t2.d
 get:∀k,k<16→getM u t k=getM s t k
 same:dP s u
theorem kr.trans {s u v:ay}{t:bf}{E:Nat→Bool}{O:Nat→Nat}{t2 t3:bf}(h:kr s t E O u t2) (h2:kr u t E O v t3):kr s t E O v t3:=
 ⟨h2.fi,h2.tree,fun k hk=>(h2.get k hk).trans (h.get k hk),h.same.trans h2.same⟩
theorem kr.put {s u:ay}{t:bf}{E:Nat→Bool}{O:Nat→Nat}{t2:bf}{k:Int}{text:ByteArray}(h:kr s t E O u t2) (hk0:0≤k) (hk:k≤15) (hz:(aY u t2 k text).2.2=true):kr s t E O (aY u t2 k text).1 (aY u t2 k text).2.1∧(aY u t2 k text).2.1.many=bN t2 k:=by
 obtain⟨d,hP,h1,h2⟩:=h.fi.aku h.tree hk0 hk hz
 have hK:=h.fi.bZ (by rw [hP.same.cg];exact ZC1 _) hP.kp fun r=>by show _≤O r+_+_;omega
 exact⟨⟨h1,h2,fun j hj=>(hK.2.1 j hj).trans (h.get j hj),h.same.trans hP.same⟩,hP.many⟩
theorem kr.cut {s u:ay}{t:bf}{E:Nat→Bool}{O:Nat→Nat}{t2:bf}{many:Int}(h:kr s t E O u t2) (h0:0≤many) (h1:many≤16) (hz:(cF u t2 many).2.2=true):kr s t E O (cF u t2 many).1 (cF u t2 many).2.1∧(cF u t2 many).2.1.many=many:=by
 obtain⟨d,hP,h3,h2⟩:=h.fi.ali h.tree h0 h1 hz
 have hK:=h.fi.bZ (by rw [hP.same.cg];exact ZC1 _) hP.kp fun r=>by show _≤O r+_+_;omega
 exact⟨⟨h3,h2,fun j hj=>(hK.2.1 j hj).trans (h.get j hj),h.same.trans hP.same⟩,hP.many⟩
theorem kr.aiH {s:ay}{t:bf}{E:Nat→Bool}{O:Nat→Nat}:∀{l:List ByteArray}{i:Nat}{u:ay}{t2:bf},kr s t E O u t2→i+l.length≤16→(iU l i u t2).2.2=true→kr s t E O (iU l i u t2).1 (iU l i u t2).2.1
 |[],i,u,t2,h,_,_=>h
 |x::l,i,u,t2,h,hi,hz=>by
  rw [ZA1] at hi
  cases hx:(aY u t2 i x).2.2 with
  |false=>rw [N5 hx] at hz;cases hz
  |true=>
   rw [N4 hx] at hz ⊢
   exact kr.aiH (h.put (by omega) (by omega) hx).1 (by omega) hz
theorem kr.alk {s u:ay}{t:bf}{E:Nat→Bool}{O:Nat→Nat}{t2:bf}{text:ByteArray}(h:kr s t E O u t2) (hz:(dF u t2 text).2.2=true):kr s t E O (dF u t2 text).1 (dF u t2 text).2.1∧(dF u t2 text).2.1.many=((kz text).length:Int):=by
 unfold dF at hz ⊢
 cases hg:decide (((kz text).length:Int)>16) with
 |true=>rw [hg] at hz;cases hz
 |false=>
  rw [hg] at hz
  have hl:=aA hg
  simp only [cond_false] at hz ⊢
  unfold J5 at hz ⊢
  cases h1:(iU (kz text) 0 u t2).2.2 with
  |false=>rw [h1] at hz;simp only [Bool.not_false,cond_true] at hz;rw [h1] at hz;cases hz
  |true=>
   rw [h1] at hz
   simp only [Bool.not_true,cond_false] at hz ⊢
   exact (h.aiH (by omega) h1).cut (by omega) (by omega) hz
theorem NJ (s:ay):Tree s nt 0:=by
 have h:oF s nt 0:=⟨rfl,ZA7 _,kq s 0⟩
 refine⟨h,ZC1 _,by decide,by decide,fun i _=>?_⟩
 rw [mw h]
 show au (nth ae (bM::cu 15) i)=true
 rw [show (bM::cu 15)=cu 16 from rfl,B9];rfl
theorem rn.level {s:ay}{n:Nat}{p:Pt}(h:rn s n p):au p=true∨p.2.2.2.2=(n:Int):=by
 cases hh:au p with
 |true=>exact .inl rfl
 |false=>
  right
  cases n with
  |zero=>exact (h.2 hh).1
  |succ n=>exact (oh hh (h.2.1 hh)).2.1
abbrev j8 (n:ft) (sz:Int) (t:bf):ft:=(n.1,n.2.1,sz,t)
theorem abu {n:ft}{u:ay}{t:bf}{sz:Int}(hn:cy n=true) (dj:0≤sz∧sz≤16*kl n.1) (ht:Tree u t t.d) (hm:t.many=bh sz (kl n.1)):cy (j8 n sz t)=true:=by
 obtain⟨b1,b2,b3,b4,b5,b6,b7,b8,b9⟩:=ld hn
 have he:kl n.1≠0:=by
  intro e
  have:bH n.1 n.2.2.1= -1:=by unfold bH;rw [e];rfl
  omega
 have hp:bH n.1 sz=t.many:=by
  unfold bH
  rw [decide_eq_false he,show ig sz 0 (16*kl n.1)=true from cC.2 dj,hm];rfl
 have hl:ig n.2.1 1 (bif decide (n.1=2) then 1 else 9)=true:=by
  unfold cy at hn
  cases hb:decide (bH n.1 n.2.2.1<0)||(decide (n.2.2.2.2.2.2.2.2.2≠bH n.1 n.2.2.1)||(decide (n.2.2.2.2.2.2.2.2.1≠bj (bH n.1 n.2.2.1))|| !(aZ n.root))) with
  |true=>rw [hb] at hn;cases hn
  |false=>
   rw [hb,cond_false] at hn
   simp only [ZA9] at hn
   exact hn.1
 have h0:=ht.m0
 have hd:t.depth=bj t.many:=by rw [ht.dm];exact ht.rr.dep
 have FE:=ht.rr.snd.level
 have hdd:=ht.rr.dep
 unfold cy
 have e1:decide (bH (j8 n sz t).1 (j8 n sz t).2.2.1<0)=false:=by
  show decide (bH n.1 sz<0)=false
  rw [hp];exact decide_eq_false (by omega)
 have e2:decide ((j8 n sz t).2.2.2.2.2.2.2.2.2≠bH (j8 n sz t).1 (j8 n sz t).2.2.1)=false:=by
  show decide (t.many≠bH n.1 sz)=false
  rw [hp];exact decide_eq_false (by simp)
 have e3:decide ((j8 n sz t).2.2.2.2.2.2.2.2.1≠bj (bH (j8 n sz t).1 (j8 n sz t).2.2.1))=false:=by
  show decide (t.depth≠bj (bH n.1 sz))=false
  rw [hp,hd];exact decide_eq_false (by simp)
 have e4:aZ (j8 n sz t).root=true:=ht.rr.snd.pok
 rw [e1,e2,e3,e4]
 show (ig n.2.1 1 (bif decide (n.1=2) then 1 else 9)&&(au t.root||decide (t.root.2.2.2.2=t.depth)))=true
 rw [hl,Bool.true_and]
 rcases FE with h |h
 ·rw [h];rfl
 ·rw [decide_eq_true (by rw [h,hdd]),ZC4]
abbrev E0:Nat→Bool:=fun _=>false
abbrev O0:Nat→Nat:=fun _=>0
structure FS (s:ay) (t:bf):Prop where
 fi:FI s t E0 O0
 root:(nodeAt s t 0).1=2
theorem FS.cK {s:ay}{t:bf}(h:FS s t) {k:Int}(h0:0≤k):GL.cK s t k=bz (getM s t k.toNat):=by
 cases hc: !(ig k 0 (t.many-1)) with
 |false=>exact aek hc
 |true=>
  have h1:¬(0≤k∧k≤t.many-1):=fun e=>by
   have:ig k 0 (t.many-1)=true:=cC.2 e
   rw [this] at hc;cases hc
  rw [ael hc,mS h.fi.tree (j:=k.toNat) (by omega),fG]
theorem WQ {s:ByteArray}(h:(bz s).2=true):cy (bz s).1=true:=by
 cases h1: !(bq s).2 with
 |true=>rw [yo h1] at h;cases h
 |false=>cases h2:decide (((bq s).1.length:Int)≠7) with
  |true=>rw [tv h2] at h;cases h
  |false=>cases h3: !(cy (mO (bq s).1)) with
   |true=>rw [yn h3] at h;cases h
   |false=>cases h4:decide (aC (mO (bq s).1)≠s) with
    |true=>rw [ym h4] at h;cases h
    |false=>rw [yp h1 h2 h3 h4];exact cL h3
theorem WR {s:ByteArray}(h:(bz s).2=false):(bz s).1=nu:=by
 cases h1: !(bq s).2 with
 |true=>rw [yo h1]
 |false=>cases h2:decide (((bq s).1.length:Int)≠7) with
  |true=>rw [tv h2]
  |false=>cases h3: !(cy (mO (bq s).1)) with
   |true=>rw [yn h3]
   |false=>cases h4:decide (aC (mO (bq s).1)≠s) with
    |true=>rw [ym h4]
    |false=>rw [yp h1 h2 h3 h4] at h;cases h
theorem FS.at {s:ay}{t:bf}(h:FS s t) {i:Nat}(hi:i<16):Tree s (cT (nodeAt s t i)) (cT (nodeAt s t i)).d∧(cy (nodeAt s t i)=true∨nodeAt s t i=nu):=by
 rcases h.fi.nodes i hi rfl with h1 |h1
 ·have e:nodeAt s t i=nu:=by show (bz (getM s t i)).1=_;rw [h1,fG]
  rw [e]
  exact⟨NJ s,.inr rfl⟩
 ·exact⟨h1.2.tree,.inl h1.2.ok⟩
theorem FS.take {s:ay}{t:bf}(h:FS s t) {i:Nat}(hi:i<16):kr s t (rM E0 i) O0 s (cT (nodeAt s t i)):=
 ⟨h.fi.take hi rfl,(h.at hi).1,fun _ _=>rfl,dP.refl _⟩
theorem FS.back {s u:ay}{t:bf}{i:Nat}{n:ft}(h:FS s t) (hi:i<16) (hB:kr s t (rM E0 i) O0 u (cT n)) (hr:i=0→cy n=true∧n.1=2) (hz:(aY u t i (aC n)).2.2=true):
  FS (aY u t i (aC n)).1 (aY u t i (aC n)).2.1∧(∀k,k<16→k≠i→getM (aY u t i (aC n)).1 (aY u t i (aC n)).2.1 k=getM s t k)∧dP s (aY u t i (aC n)).1:=by
 have hE:rM E0 i i=true:=by unfold rM;rw [decide_eq_true rfl];rfl
 have h1:=hB.fi.YU (n:=n) hi hE (fun ho=>⟨ho,hB.tree⟩) hz
 have hg:∀k,k<16→k≠i→getM (aY u t i (aC n)).1 (aY u t i (aC n)).2.1 k=getM s t k:=fun k hk fy=>(h1.2.other k hk fy).trans (hB.get k hk)
 have hf:=h1.1
 rw [aai (show E0 i=false from rfl)] at hf
 refine⟨⟨hf,?_⟩,hg,hB.same.trans h1.2.same⟩
 show (bz (getM _ _ 0)).1.1=2
 by_cases e:i=0
 ·obtain⟨ho,h2⟩:=hr e
  subst e
  rw [h1.2.at_,tu ho];exact h2
 ·rw [hg 0 (by omega) (fun h=>e h.symm)];exact h.root
theorem aio (n:ft):j8 n n.2.2.1 (cT n)=n:=rfl
theorem FS.write {s:ay}{t:bf}{i:Nat}{text:ByteArray}(h:FS s t) (hi:i<16) (hb:(dF s (cT (nodeAt s t i)) text).2.2=true)
  (hz:(aY (dF s (cT (nodeAt s t i)) text).1 t i (aC (j8 (nodeAt s t i) text.size (dF s (cT (nodeAt s t i)) text).2.1))).2.2=true):
  FS (aY (dF s (cT (nodeAt s t i)) text).1 t i (aC (j8 (nodeAt s t i) text.size (dF s (cT (nodeAt s t i)) text).2.1))).1 (aY (dF s (cT (nodeAt s t i)) text).1 t i (aC (j8 (nodeAt s t i) text.size (dF s (cT (nodeAt s t i)) text).2.1))).2.1∧
  (∀k,k<16→k≠i→getM (aY (dF s (cT (nodeAt s t i)) text).1 t i (aC (j8 (nodeAt s t i) text.size (dF s (cT (nodeAt s t i)) text).2.1))).1 (aY (dF s (cT (nodeAt s t i)) text).1 t i (aC (j8 (nodeAt s t i) text.size (dF s (cT (nodeAt s t i)) text).2.1))).2.1 k=getM s t k)∧
  dP s (aY (dF s (cT (nodeAt s t i)) text).1 t i (aC (j8 (nodeAt s t i) text.size (dF s (cT (nodeAt s t i)) text).2.1))).1:=by
 have hB:=(h.take hi).alk hb
 have hl:((kz text).length:Int)≤16:=by rw [←hB.2];exact hB.1.tree.m1
 refine h.back hi (n:=j8 (nodeAt s t i) text.size (dF s (cT (nodeAt s t i)) text).2.1) hB.1 (fun e=>?_) hz
 subst e
 have h2:(nodeAt s t 0).1=2:=h.root
 have cG:cy (nodeAt s t 0)=true:=by
  rcases (h.at hi).2 with h3 |h3
  ·exact h3
  ·rw [h3] at h2;exact absurd h2 (by decide)
 refine⟨abu cG ?_ hB.1.tree ?_,h2⟩
 ·rw [h2];have:=YV text;show 0≤(text.size:Int)∧(text.size:Int)≤16*128;omega
 ·rw [hB.2,h2,YV];show _=((text.size:Int)+128-1) / 128;omega
theorem FS.make {s:ay}{t:bf}{i:Nat}{kind:Int}(h:FS s t) (hi:i<16) (h0:getM s t i=⟨#[]⟩) (hz:(aY s t i (aC (kind,1,0,nt))).2.2=true):
  FS (aY s t i (aC (kind,1,0,nt))).1 (aY s t i (aC (kind,1,0,nt))).2.1∧(∀k,k<16→k≠i→getM (aY s t i (aC (kind,1,0,nt))).1 (aY s t i (aC (kind,1,0,nt))).2.1 k=getM s t k)∧dP s (aY s t i (aC (kind,1,0,nt))).1:=by
 have e:nodeAt s t i=nu:=by show (bz (getM s t i)).1=_;rw [h0,fG]
 have hB:=h.take hi
 rw [e] at hB
 refine h.back hi (n:=(kind,1,0,nt)) hB (fun e0=>?_) hz
 subst e0
 have:=h.root
 rw [e] at this;exact absurd this (by decide)
theorem FS.ady {s:ay}{t:bf}{i:Nat}{l:Int}(h:FS s t) (hi:i<16) (hi0:0<i)
  (hz:(aY s t i (aC ((nodeAt s t i).1,l,(nodeAt s t i).2.2))).2.2=true):
  FS (aY s t i (aC ((nodeAt s t i).1,l,(nodeAt s t i).2.2))).1 (aY s t i (aC ((nodeAt s t i).1,l,(nodeAt s t i).2.2))).2.1∧(∀k,k<16→k≠i→getM (aY s t i (aC ((nodeAt s t i).1,l,(nodeAt s t i).2.2))).1 (aY s t i (aC ((nodeAt s t i).1,l,(nodeAt s t i).2.2))).2.1 k=getM s t k)∧dP s (aY s t i (aC ((nodeAt s t i).1,l,(nodeAt s t i).2.2))).1:=
 h.back hi (n:=((nodeAt s t i).1,l,(nodeAt s t i).2.2)) (h.take hi) (fun e=>absurd e (by omega)) hz
theorem FI.ahT {s:ay}{t:bf}{many:Int}(h:FI s t E0 O0) (h0:0≤many) (h1:many≤16) (uD:∀k:Nat,k<16→many≤(k:Int)→getM s t k=⟨#[]⟩) (hz:(cF s t many).2.2=true):
  FI (cF s t many).1 (cF s t many).2.1 E0 O0∧(∀k,k<16→getM (cF s t many).1 (cF s t many).2.1 k=getM s t k)∧dP s (cF s t many).1:=by
 obtain⟨d,hP⟩:=M9 (X:=fun r=>gF s t E0 r) (h.acc.mono fun r=>by show gF s t E0 r+bn (di s t) r≤0+bn (di s t) r+gF s t E0 r;omega) h.tree h0 h1 hz
 generalize (cF s t many).1=u at *
 generalize (cF s t many).2.1=t' at *
 have hg:∀k,k<16→getM u t' k=getM s t k:=fun k hk=>by
  rw [hP.get k hk]
  split
  ·rfl
  ·rename_i hc;exact (uD k hk (by omega)).symm
 have D1:∀k,k<16→getM s t k≠⟨#[]⟩→xD u (nodeAt s t k)∧dy u (nodeAt s t k)=dy s (nodeAt s t k):=fun k rG fy=>by
  have hn:=(h.nodes k rG rfl).resolve_left fy
  refine hn.2.kp (by rw [hP.same.cg];exact ZC1 _) hP.kp fun r=>?_
  exact H4 (f:=fun k=>bif E0 k then 0 else bn (dy s (nodeAt s t k)) r) (l:=List.range 16) (ZE2.2 rG)
 refine⟨⟨hP.tree.at,fun k hk _=>?_,hP.acc.mono fun r=>?_⟩,hg,hP.same⟩
 ·by_cases h2:getM s t k=⟨#[]⟩
  ·left;rw [hg k hk];exact h2
  ·right
   have hn:=(h.nodes k hk rfl).resolve_left h2
   unfold nodeAt
   rw [hg k hk]
   exact⟨hn.1,(D1 k hk h2).1⟩
 ·have e:gF u t' E0 r=gF s t E0 r:=by
   unfold gF
   refine NR fun k hk=>?_
   have hk:=ZE2.1 hk
   show bn (dy u (bz (getM u t' k)).1) r=bn (dy s (nodeAt s t k)) r
   rw [hg k hk]
   by_cases h2:getM s t k=⟨#[]⟩
   ·rw [show (bz (getM s t k)).1=nu by rw [h2,fG],show nodeAt s t k=nu by show (bz (getM s t k)).1=_;rw [h2,fG]]
    rfl
   ·show bn (dy u (nodeAt s t k)) r=_
    rw [(D1 k hk h2).2]
  rw [e,FZ hP.tree]
  show 0+_+_≤_;omega
theorem FI.ajx {s:ay}{t:bf}{E:Nat→Bool}{l:List Pt}(h:FI s t E (fun r=>0+bn l r)) (hl:∀p∈l,aZ p=true):FI (dw l s) t E O0∧(∀k,k<16→getM (dw l s) t k=getM s t k)∧dP s (dw l s):=by
 rw [vC]
 obtain⟨h1,h2,h3⟩:=yH (l:=l) (O':=fun r=>bn (di s t) r+gF s t E r) h.acc hl fun r=>by show _≤0+bn l r+_+_;omega
 have hK:=h.bZ (by rw [h3.cg];exact ZC1 _) h2 fun r=>ZB5 _
 refine⟨⟨hK.1,hK.2.2.2.1,h1.mono fun r=>?_⟩,hK.2.1,h3⟩
 rw [hK.2.2.1,hK.2.2.2.2 r];show 0+_+_≤_;omega
theorem YJ {s:ay}:∀{n:Nat}{p:Pt},rn s n p→∀q∈ik s n p,aZ q=true
 |0,p,h,q,hq=>by rw [ZC7.1 hq];exact h.1
 |n+1,p,h,q,hq=>by
  rcases ZB8.1 hq with rfl |hq
  ·exact h.1
  ·obtain⟨x,hx,hq⟩:=List.mem_flatMap.1 hq
   exact YJ (h.2.2 x hx) q hq
def cq (s:ay) (t:bf) (k:Int):ay×bf×Bool:=
 bif !(aY (dw (allM s (cT (cK s t k).1)) s) t k ⟨#[]⟩).2.2 then ((aY (dw (allM s (cT (cK s t k).1)) s) t k ⟨#[]⟩).1,(aY (dw (allM s (cT (cK s t k).1)) s) t k ⟨#[]⟩).2.1,false)
 else cF (aY (dw (allM s (cT (cK s t k).1)) s) t k ⟨#[]⟩).1 (aY (dw (allM s (cT (cK s t k).1)) s) t k ⟨#[]⟩).2.1 (mq s t k)
theorem zA (mc:Int):∀{l:List ByteArray}{k:Nat}{n:Int},0≤n→n≤k→0≤iW mc l k n∧n≤iW mc l k n∧iW mc l k n≤k+l.length
 |[],k,n,h0,h1=>⟨h0,ZC1 _,by show n≤(k:Int)+((0:Nat):Int);omega⟩
 |x::l,k,n,h0,h1=>by
  unfold iW
  cases decide ((k:Int)≠mc)&&decide (x≠⟨#[]⟩) with
  |true=>
   have:=zA mc (l:=l) (k:=k+1) (n:=(k:Int)+1) (by omega) (by omega)
   rw [ZA1];exact⟨this.1,by have:=this.2.1;show n≤iW mc l (k+1) ((k:Int)+1);omega,by have:=this.2.2;show iW mc l (k+1) ((k:Int)+1)≤_;omega⟩
  |false=>
   have:=zA mc (l:=l) (k:=k+1) (n:=n) (by omega) (by omega)
   rw [ZA1];exact⟨this.1,by have:=this.2.1;show n≤iW mc l (k+1) n;omega,by have:=this.2.2;show iW mc l (k+1) n≤_;omega⟩
theorem H7 (mc:Int):∀{l:List ByteArray}{k:Nat}{n:Int},0≤n→n≤k→∀j,j<l.length→((k+j:Nat):Int)≠mc→nth ab l j≠⟨#[]⟩→((k+j:Nat):Int)<iW mc l k n
 |x::l,k,n,h0,h1,j,hj,hb,hx=>by
  unfold iW
  cases j with
  |zero=>
   have hx:x≠⟨#[]⟩:=hx
   have hb:(k:Int)≠mc:=hb
   rw [decide_eq_true hx,decide_eq_true hb]
   have:=zA mc (l:=l) (k:=k+1) (n:=(k:Int)+1) (by omega) (by omega)
   show ((k+0:Nat):Int)<iW mc l (k+1) ((k:Int)+1);omega
  |succ j=>
   have hj:j<l.length:=by rw [ZA1] at hj;omega
   have hx:nth ab l j≠⟨#[]⟩:=hx
   have e:k+(j+1)=k+1+j:=by omega
   rw [e] at hb ⊢
   cases decide ((k:Int)≠mc)&&decide (x≠⟨#[]⟩) with
   |true=>exact H7 mc (l:=l) (k:=k+1) (n:=(k:Int)+1) (by omega) (by omega) j hj hb hx
   |false=>exact H7 mc (l:=l) (k:=k+1) (n:=n) (by omega) (by omega) j hj hb hx
theorem H6 {s:ay}{t:bf}(h:t.ok) (mc:Int):0≤mq s t mc∧mq s t mc≤t.many:=by
 have h1:=zA mc (l:=bo s t) (k:=0) (n:=0) (ZC1 _) (ZC1 _)
 rw [fp h] at h1
 have:=h.m0
 exact⟨h1.1,by have:=h1.2.2;unfold mq;omega⟩
theorem adD {s:ay}{t:bf}(h:Tree s t t.d) {mc:Int}{j:Nat}(hj:(j:Int)≠mc) (hx:getM s t j≠⟨#[]⟩):(j:Int)<mq s t mc:=by
 have cG:=h.ok
 have hm:j<t.many.toNat:=by
  refine Decidable.byContradiction fun hn=>hx (mS h (by have:=h.m0;omega))
 have:=H7 mc (l:=bo s t) (k:=0) (n:=0) (ZC1 _) (ZC1 _) j (by rw [fp cG];exact hm) (by rw [ZA6];exact hj) (by rw [xJ cG hm];exact hx)
 rw [ZA6] at this;exact this
theorem FS.drop {s:ay}{t:bf}{i:Nat}(h:FS s t) (hi:i<16) (hi0:0<i) (hz:(cq s t i).2.2=true):FS (cq s t i).1 (cq s t i).2.1∧dP s (cq s t i).1:=by
 have hn:(GL.cK s t i).1=nodeAt s t i:=by rw [h.cK (by omega)];rfl
 have hB:=h.take hi
 have uD:=UG hB.tree.rr
 have ka:=(hB.fi.more (O':=fun r=>0+bn (allM s (cT (nodeAt s t i))) r) fun r=>by
  rw [uD.2]
  have:=XY nhB (dy s (nodeAt s t i)) r
  show 0+bn (List.filter nhB (dy s (nodeAt s t i))) r≤0+bn (dy s (nodeAt s t i)) r;omega).ajx fun p hp=>by
   rw [uD.2] at hp
   exact YJ hB.tree.rr.snd p ((ZF4.1 hp).1)
 unfold cq at hz ⊢
 rw [hn] at hz ⊢
 generalize dw (allM s (cT (nodeAt s t i))) s=u at *
 cases hp:(aY u t i ⟨#[]⟩).2.2 with
 |false=>rw [hp] at hz;cases hz
 |true=>
  rw [hp] at hz
  simp only [Bool.not_true,cond_false] at hz ⊢
  have hE:rM E0 i i=true:=by unfold rM;rw [decide_eq_true rfl];rfl
  have hP:=ka.1.aiI (i:=i) (text:=⟨#[]⟩) hi hE hp
  have hF:=hP.fi.agX hi hE hP.at_
  rw [aai (show E0 i=false from rfl)] at hF
  have hl:=H6 (s:=s) h.fi.tree.ok i
  have hm1:=h.fi.tree.m1
  have hg:∀k,k<16→k≠i→getM (aY u t i ⟨#[]⟩).1 (aY u t i ⟨#[]⟩).2.1 k=getM s t k:=fun k hk fy=>(hP.other k hk fy).trans (ka.2.1 k hk)
  have hc:=hF.ahT (many:=mq s t i) hl.1 (by omega) (fun k hk hlk=>by
   by_cases e:k=i
   ·rw [e];exact hP.at_
   ·rw [hg k hk e]
    refine Decidable.byContradiction fun hx=>?_
    have:=adD h.fi.tree (mc:=(i:Int)) (j:=k) (by omega) hx
    omega) hz
  refine⟨⟨hc.1,?_⟩,(ka.2.2.trans hP.same).trans hc.2.2⟩
  show (bz (getM _ _ 0)).1.1=2
  rw [hc.2.1 0 (by omega),hg 0 (by omega) (by omega)];exact h.root
theorem FS.next {s:ay}{t:bf}(h:FS s t) (ht:s.cg<1000000):FS (ie s) t:=by
 obtain⟨h1,h2⟩:=h.fi.next ht
 refine⟨h1,?_⟩
 show (bz (getM _ _ 0)).1.1=2
 rw [h2 0 (by omega)];exact h.root
theorem FS.many {s:ay}{t:bf}(h:FS s t):1≤t.many:=by
 refine Decidable.byContradiction fun hn=>?_
 have e:=mS h.fi.tree (j:=0) (by omega)
 have:=h.root
 unfold nodeAt at this
 rw [e,fG] at this
 exact absurd this (by decide)
end GL
end Go.Proofs.YtclcgjhhehbdeaaGreatDoor
