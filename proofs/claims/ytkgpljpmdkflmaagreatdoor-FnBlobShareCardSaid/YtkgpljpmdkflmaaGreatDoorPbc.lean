/- A drawn law returns true for every code (its row lists package variables, tied by the card): part 29. -/
import Derived.Test.YtkgpljpmdkflmaaGreatDoorPav
import Derived.Test.YtkgpljpmdkflmaaGreatDoorPax
import Derived.Test.YtkgpljpmdkflmaaGreatDoorPbb
set_option maxHeartbeats 20000000
set_option maxRecDepth 100000
set_option linter.all false
namespace Go.Proofs.YtkgpljpmdkflmaaGreatDoor
namespace GL
def iY:List ByteArray→Nat→ay→bf→ay×bf×Bool
 |[],_,s,t=>(s,t,true)
 |x::l,i,s,t=>bif !(aY s t i x).2.2 then ((aY s t i x).1,t,false) else iY l (i+1) (aY s t i x).1 (aY s t i x).2.1
theorem N9 {x:ByteArray}{l:List ByteArray}{i:Nat}{s:ay}{t:bf}(h:(aY s t i x).2.2=false):iY (x::l) i s t=((aY s t i x).1,t,false):=by rw [iY,h];rfl
theorem N8 {x:ByteArray}{l:List ByteArray}{i:Nat}{s:ay}{t:bf}(h:(aY s t i x).2.2=true):iY (x::l) i s t=iY l (i+1) (aY s t i x).1 (aY s t i x).2.1:=by rw [iY,h];rfl
def J9 (r:ay×bf×Bool) (n:Int):ay×bf×Bool:=bif !r.2.2 then r else cG r.1 r.2.1 n
def dH (s:ay) (t:bf) (text:ByteArray):ay×bf×Bool:=bif decide (((kE text).length:Int)>16) then (s,t,false) else J9 (iY (kE text) 0 s t) (kE text).length
theorem RI:∀{l:List ByteArray}{i:Nat}{s:ay}{t:bf}{n:Nat},s.wg n→t.ok→i+l.length≤16→(iY l i s t).1.wg (n+6*l.length)∧(iY l i s t).2.1.ok
 |[],i,s,t,n,hs,ht,_=>⟨hs,ht⟩
 |x::l,i,s,t,n,hs,ht,hi=>by
  rw [ZA1] at hi
  have h:=nt (k:=(i:Int)) (text:=x) hs ht (by omega) (by omega)
  cases hz:(aY s t i x).2.2 with
  |false=>rw [N9 hz];exact⟨h.1.mono (by rw [ZA1];omega),ht⟩
  |true=>
   rw [N8 hz]
   have h2:=RI (l:=l) (i:=i+1) h.1 h.2.1 (by omega)
   exact⟨h2.1.mono (by rw [ZA1];omega),h2.2⟩
theorem UF {s:ay}{t:bf}{text:ByteArray}{n:Nat}(hs:s.wg n) (ht:t.ok):(dH s t text).1.wg (n+117)∧(dH s t text).2.1.ok:=by
 unfold dH
 cases h:decide (((kE text).length:Int)>16) with
 |true=>exact⟨hs.mono (by omega),ht⟩
 |false=>
  have hl:=aA h
  have h1:=RI (l:=kE text) (i:=0) hs ht (by omega)
  show (J9 (iY (kE text) 0 s t) (kE text).length).1.wg (n+117)∧(J9 (iY (kE text) 0 s t) (kE text).length).2.1.ok
  unfold J9
  cases !(iY (kE text) 0 s t).2.2 with
  |true=>exact⟨h1.1.mono (by omega),h1.2⟩
  |false=>
   have h2:=FQ (many:=((kE text).length:Int)) h1.1 h1.2 (by omega) (by omega)
   exact⟨h2.1.mono (by omega),h2.2.1⟩
theorem Y0:∀{f:Nat}{s:ByteArray},s.size<f→(pcF f s).length=(s.size+127) / 128
 |f+1,s,h=>by
  cases h1:decide ((s.size:Int)>128) with
  |true=>
   have h2:=aJ h1
   have hx:(s.extract 128 s.size).size=s.size-128:=by rw [ZC5];omega
   rw [acR h1,ZA1,Y0 (by omega),hx];omega
  |false=>
   have h2:=aA h1
   cases h3:decide (s≠⟨#[]⟩) with
   |true=>
    have:=size_pos (aJ h3)
    rw [acQ h1 h3,ZA1,ZA4];omega
   |false=>
    have h4:s=⟨#[]⟩:=ZE9.1 (aA h3)
    rw [acP h1 h3,h4];rfl
theorem YZ (s:ByteArray):(kE s).length=(s.size+127) / 128:=Y0 (ZD9 _)
structure kz (s:ay) (t:bf) (E:Nat→Bool) (O:Nat→Nat) (u:ay) (t2:bf):Prop where
 fi:FI u t E (fun r=>O r+bo (di u t2) r)
 tree:Tree u t2 t2.d
 get:∀k,k<16→getM u t k=getM s t k
 same:dR s u
theorem kz.trans {s u v:ay}{t:bf}{E:Nat→Bool}{O:Nat→Nat}{t2 t3:bf}(h:kz s t E O u t2) (h2:kz u t E O v t3):kz s t E O v t3:=
 ⟨h2.fi,h2.tree,fun k hk=>(h2.get k hk).trans (h.get k hk),h.same.trans h2.same⟩
theorem kz.put {s u:ay}{t:bf}{E:Nat→Bool}{O:Nat→Nat}{t2:bf}{k:Int}{text:ByteArray}(h:kz s t E O u t2) (hk0:0≤k) (hk:k≤15) (hz:(aY u t2 k text).2.2=true):kz s t E O (aY u t2 k text).1 (aY u t2 k text).2.1∧(aY u t2 k text).2.1.many=bO t2 k:=by
 obtain⟨d,hP,h1,h2⟩:=h.fi.akx h.tree hk0 hk hz
 have hK:=h.fi.ca (by rw [hP.same.cj];exact ZC1 _) hP.kp fun r=>by show _≤O r+_+_;omega
 exact⟨⟨h1,h2,fun j hj=>(hK.2.1 j hj).trans (h.get j hj),h.same.trans hP.same⟩,hP.many⟩
theorem kz.cut {s u:ay}{t:bf}{E:Nat→Bool}{O:Nat→Nat}{t2:bf}{many:Int}(h:kz s t E O u t2) (h0:0≤many) (h1:many≤16) (hz:(cG u t2 many).2.2=true):kz s t E O (cG u t2 many).1 (cG u t2 many).2.1∧(cG u t2 many).2.1.many=many:=by
 obtain⟨d,hP,h3,h2⟩:=h.fi.alm h.tree h0 h1 hz
 have hK:=h.fi.ca (by rw [hP.same.cj];exact ZC1 _) hP.kp fun r=>by show _≤O r+_+_;omega
 exact⟨⟨h3,h2,fun j hj=>(hK.2.1 j hj).trans (h.get j hj),h.same.trans hP.same⟩,hP.many⟩
theorem kz.aiI {s:ay}{t:bf}{E:Nat→Bool}{O:Nat→Nat}:∀{l:List ByteArray}{i:Nat}{u:ay}{t2:bf},kz s t E O u t2→i+l.length≤16→(iY l i u t2).2.2=true→kz s t E O (iY l i u t2).1 (iY l i u t2).2.1
 |[],i,u,t2,h,_,_=>h
 |x::l,i,u,t2,h,hi,hz=>by
  rw [ZA1] at hi
  cases hx:(aY u t2 i x).2.2 with
  |false=>rw [N9 hx] at hz;cases hz
  |true=>
   rw [N8 hx] at hz ⊢
   exact kz.aiI (h.put (by omega) (by omega) hx).1 (by omega) hz
theorem kz.alo {s u:ay}{t:bf}{E:Nat→Bool}{O:Nat→Nat}{t2:bf}{text:ByteArray}(h:kz s t E O u t2) (hz:(dH u t2 text).2.2=true):kz s t E O (dH u t2 text).1 (dH u t2 text).2.1∧(dH u t2 text).2.1.many=((kE text).length:Int):=by
 unfold dH at hz ⊢
 cases hg:decide (((kE text).length:Int)>16) with
 |true=>rw [hg] at hz;cases hz
 |false=>
  rw [hg] at hz
  have hl:=aA hg
  simp only [cond_false] at hz ⊢
  unfold J9 at hz ⊢
  cases h1:(iY (kE text) 0 u t2).2.2 with
  |false=>rw [h1] at hz;simp only [Bool.not_false,cond_true] at hz;rw [h1] at hz;cases hz
  |true=>
   rw [h1] at hz
   simp only [Bool.not_true,cond_false] at hz ⊢
   exact (h.aiI (by omega) h1).cut (by omega) (by omega) hz
theorem NN (s:ay):Tree s nB 0:=by
 have h:oL s nB 0:=⟨rfl,ZA7 _,ky s 0⟩
 refine⟨h,ZC1 _,by decide,by decide,fun i _=>?_⟩
 rw [mD h]
 show au (nth ae (bN::cw 15) i)=true
 rw [show (bN::cw 15)=cw 16 from rfl,CE];rfl
theorem rA.level {s:ay}{n:Nat}{p:Pt}(h:rA s n p):au p=true∨p.2.2.2.2=(n:Int):=by
 cases hh:au p with
 |true=>exact .inl rfl
 |false=>
  right
  cases n with
  |zero=>exact (h.2 hh).1
  |succ n=>exact (ov hh (h.2.1 hh)).2.1
abbrev ke (n:fv) (sz:Int) (t:bf):fv:=(n.1,n.2.1,sz,t)
theorem aby {n:fv}{u:ay}{t:bf}{sz:Int}(hn:cy n=true) (dj:0≤sz∧sz≤16*kr n.1) (ht:Tree u t t.d) (hm:t.many=bh sz (kr n.1)):cy (ke n sz t)=true:=by
 obtain⟨b1,b2,b3,b4,b5,b6,b7,b8,b9⟩:=ll hn
 have he:kr n.1≠0:=by
  intro e
  have:bI n.1 n.2.2.1= -1:=by unfold bI;rw [e];rfl
  omega
 have hp:bI n.1 sz=t.many:=by
  unfold bI
  rw [decide_eq_false he,show iB sz 0 (16*kr n.1)=true from cD.2 dj,hm];rfl
 have hl:iB n.2.1 1 (bif decide (n.1=2) then 1 else 9)=true:=by
  unfold cy at hn
  cases hb:decide (bI n.1 n.2.2.1<0)||(decide (n.2.2.2.2.2.2.2.2.2≠bI n.1 n.2.2.1)||(decide (n.2.2.2.2.2.2.2.2.1≠bj (bI n.1 n.2.2.1))|| !(aZ n.root))) with
  |true=>rw [hb] at hn;cases hn
  |false=>
   rw [hb,cond_false] at hn
   simp only [ZA9] at hn
   exact hn.1
 have h0:=ht.m0
 have hd:t.depth=bj t.many:=by rw [ht.dm];exact ht.rC.dep
 have FJ:=ht.rC.snd.level
 have hdd:=ht.rC.dep
 unfold cy
 have e1:decide (bI (ke n sz t).1 (ke n sz t).2.2.1<0)=false:=by
  show decide (bI n.1 sz<0)=false
  rw [hp];exact decide_eq_false (by omega)
 have e2:decide ((ke n sz t).2.2.2.2.2.2.2.2.2≠bI (ke n sz t).1 (ke n sz t).2.2.1)=false:=by
  show decide (t.many≠bI n.1 sz)=false
  rw [hp];exact decide_eq_false (by simp)
 have e3:decide ((ke n sz t).2.2.2.2.2.2.2.2.1≠bj (bI (ke n sz t).1 (ke n sz t).2.2.1))=false:=by
  show decide (t.depth≠bj (bI n.1 sz))=false
  rw [hp,hd];exact decide_eq_false (by simp)
 have e4:aZ (ke n sz t).root=true:=ht.rC.snd.pok
 rw [e1,e2,e3,e4]
 show (iB n.2.1 1 (bif decide (n.1=2) then 1 else 9)&&(au t.root||decide (t.root.2.2.2.2=t.depth)))=true
 rw [hl,Bool.true_and]
 rcases FJ with h |h
 ·rw [h];rfl
 ·rw [decide_eq_true (by rw [h,hdd]),ZC4]
abbrev E0:Nat→Bool:=fun _=>false
abbrev O0:Nat→Nat:=fun _=>0
structure FS (s:ay) (t:bf):Prop where
 fi:FI s t E0 O0
 root:(nodeAt s t 0).1=2
theorem FS.cL {s:ay}{t:bf}(h:FS s t) {k:Int}(h0:0≤k):GL.cL s t k=bA (getM s t k.toNat):=by
 cases hc: !(iB k 0 (t.many-1)) with
 |false=>exact aeo hc
 |true=>
  have h1:¬(0≤k∧k≤t.many-1):=fun e=>by
   have:iB k 0 (t.many-1)=true:=cD.2 e
   rw [this] at hc;cases hc
  rw [aep hc,mZ h.fi.tree (j:=k.toNat) (by omega),fI]
theorem WU {s:ByteArray}(h:(bA s).2=true):cy (bA s).1=true:=by
 cases h1: !(bw s).2 with
 |true=>rw [yw h1] at h;cases h
 |false=>cases h2:decide (((bw s).1.length:Int)≠7) with
  |true=>rw [tE h2] at h;cases h
  |false=>cases h3: !(cy (mV (bw s).1)) with
   |true=>rw [yv h3] at h;cases h
   |false=>cases h4:decide (aC (mV (bw s).1)≠s) with
    |true=>rw [yu h4] at h;cases h
    |false=>rw [yx h1 h2 h3 h4];exact cM h3
theorem WV {s:ByteArray}(h:(bA s).2=false):(bA s).1=nC:=by
 cases h1: !(bw s).2 with
 |true=>rw [yw h1]
 |false=>cases h2:decide (((bw s).1.length:Int)≠7) with
  |true=>rw [tE h2]
  |false=>cases h3: !(cy (mV (bw s).1)) with
   |true=>rw [yv h3]
   |false=>cases h4:decide (aC (mV (bw s).1)≠s) with
    |true=>rw [yu h4]
    |false=>rw [yx h1 h2 h3 h4] at h;cases h
theorem FS.at {s:ay}{t:bf}(h:FS s t) {i:Nat}(hi:i<16):Tree s (cU (nodeAt s t i)) (cU (nodeAt s t i)).d∧(cy (nodeAt s t i)=true∨nodeAt s t i=nC):=by
 rcases h.fi.nodes i hi rfl with h1 |h1
 ·have e:nodeAt s t i=nC:=by show (bA (getM s t i)).1=_;rw [h1,fI]
  rw [e]
  exact⟨NN s,.inr rfl⟩
 ·exact⟨h1.2.tree,.inl h1.2.ok⟩
theorem FS.take {s:ay}{t:bf}(h:FS s t) {i:Nat}(hi:i<16):kz s t (rT E0 i) O0 s (cU (nodeAt s t i)):=
 ⟨h.fi.take hi rfl,(h.at hi).1,fun _ _=>rfl,dR.refl _⟩
theorem FS.back {s u:ay}{t:bf}{i:Nat}{n:fv}(h:FS s t) (hi:i<16) (hB:kz s t (rT E0 i) O0 u (cU n)) (hr:i=0→cy n=true∧n.1=2) (hz:(aY u t i (aC n)).2.2=true):
  FS (aY u t i (aC n)).1 (aY u t i (aC n)).2.1∧(∀k,k<16→k≠i→getM (aY u t i (aC n)).1 (aY u t i (aC n)).2.1 k=getM s t k)∧dR s (aY u t i (aC n)).1:=by
 have hE:rT E0 i i=true:=by unfold rT;rw [decide_eq_true rfl];rfl
 have h1:=hB.fi.YY (n:=n) hi hE (fun ho=>⟨ho,hB.tree⟩) hz
 have hg:∀k,k<16→k≠i→getM (aY u t i (aC n)).1 (aY u t i (aC n)).2.1 k=getM s t k:=fun k hk fB=>(h1.2.other k hk fB).trans (hB.get k hk)
 have hf:=h1.1
 rw [aam (show E0 i=false from rfl)] at hf
 refine⟨⟨hf,?_⟩,hg,hB.same.trans h1.2.same⟩
 show (bA (getM _ _ 0)).1.1=2
 by_cases e:i=0
 ·obtain⟨ho,h2⟩:=hr e
  subst e
  rw [h1.2.at_,tD ho];exact h2
 ·rw [hg 0 (by omega) (fun h=>e h.symm)];exact h.root
theorem aip (n:fv):ke n n.2.2.1 (cU n)=n:=rfl
theorem FS.write {s:ay}{t:bf}{i:Nat}{text:ByteArray}(h:FS s t) (hi:i<16) (hb:(dH s (cU (nodeAt s t i)) text).2.2=true)
  (hz:(aY (dH s (cU (nodeAt s t i)) text).1 t i (aC (ke (nodeAt s t i) text.size (dH s (cU (nodeAt s t i)) text).2.1))).2.2=true):
  FS (aY (dH s (cU (nodeAt s t i)) text).1 t i (aC (ke (nodeAt s t i) text.size (dH s (cU (nodeAt s t i)) text).2.1))).1 (aY (dH s (cU (nodeAt s t i)) text).1 t i (aC (ke (nodeAt s t i) text.size (dH s (cU (nodeAt s t i)) text).2.1))).2.1∧
  (∀k,k<16→k≠i→getM (aY (dH s (cU (nodeAt s t i)) text).1 t i (aC (ke (nodeAt s t i) text.size (dH s (cU (nodeAt s t i)) text).2.1))).1 (aY (dH s (cU (nodeAt s t i)) text).1 t i (aC (ke (nodeAt s t i) text.size (dH s (cU (nodeAt s t i)) text).2.1))).2.1 k=getM s t k)∧
  dR s (aY (dH s (cU (nodeAt s t i)) text).1 t i (aC (ke (nodeAt s t i) text.size (dH s (cU (nodeAt s t i)) text).2.1))).1:=by
 have hB:=(h.take hi).alo hb
 have hl:((kE text).length:Int)≤16:=by rw [←hB.2];exact hB.1.tree.m1
 refine h.back hi (n:=ke (nodeAt s t i) text.size (dH s (cU (nodeAt s t i)) text).2.1) hB.1 (fun e=>?_) hz
 subst e
 have h2:(nodeAt s t 0).1=2:=h.root
 have cH:cy (nodeAt s t 0)=true:=by
  rcases (h.at hi).2 with h3 |h3
  ·exact h3
  ·rw [h3] at h2;exact absurd h2 (by decide)
 refine⟨aby cH ?_ hB.1.tree ?_,h2⟩
 ·rw [h2];have:=YZ text;show 0≤(text.size:Int)∧(text.size:Int)≤16*128;omega
 ·rw [hB.2,h2,YZ];show _=((text.size:Int)+128-1) / 128;omega
theorem FS.make {s:ay}{t:bf}{i:Nat}{kind:Int}(h:FS s t) (hi:i<16) (h0:getM s t i=⟨#[]⟩) (hz:(aY s t i (aC (kind,1,0,nB))).2.2=true):
  FS (aY s t i (aC (kind,1,0,nB))).1 (aY s t i (aC (kind,1,0,nB))).2.1∧(∀k,k<16→k≠i→getM (aY s t i (aC (kind,1,0,nB))).1 (aY s t i (aC (kind,1,0,nB))).2.1 k=getM s t k)∧dR s (aY s t i (aC (kind,1,0,nB))).1:=by
 have e:nodeAt s t i=nC:=by show (bA (getM s t i)).1=_;rw [h0,fI]
 have hB:=h.take hi
 rw [e] at hB
 refine h.back hi (n:=(kind,1,0,nB)) hB (fun e0=>?_) hz
 subst e0
 have:=h.root
 rw [e] at this;exact absurd this (by decide)
theorem FS.adC {s:ay}{t:bf}{i:Nat}{l:Int}(h:FS s t) (hi:i<16) (hi0:0<i)
  (hz:(aY s t i (aC ((nodeAt s t i).1,l,(nodeAt s t i).2.2))).2.2=true):
  FS (aY s t i (aC ((nodeAt s t i).1,l,(nodeAt s t i).2.2))).1 (aY s t i (aC ((nodeAt s t i).1,l,(nodeAt s t i).2.2))).2.1∧(∀k,k<16→k≠i→getM (aY s t i (aC ((nodeAt s t i).1,l,(nodeAt s t i).2.2))).1 (aY s t i (aC ((nodeAt s t i).1,l,(nodeAt s t i).2.2))).2.1 k=getM s t k)∧dR s (aY s t i (aC ((nodeAt s t i).1,l,(nodeAt s t i).2.2))).1:=
 h.back hi (n:=((nodeAt s t i).1,l,(nodeAt s t i).2.2)) (h.take hi) (fun e=>absurd e (by omega)) hz
theorem FI.ahU {s:ay}{t:bf}{many:Int}(h:FI s t E0 O0) (h0:0≤many) (h1:many≤16) (uK:∀k:Nat,k<16→many≤(k:Int)→getM s t k=⟨#[]⟩) (hz:(cG s t many).2.2=true):
  FI (cG s t many).1 (cG s t many).2.1 E0 O0∧(∀k,k<16→getM (cG s t many).1 (cG s t many).2.1 k=getM s t k)∧dR s (cG s t many).1:=by
 obtain⟨d,hP⟩:=ND (X:=fun r=>gH s t E0 r) (h.acc.mono fun r=>by show gH s t E0 r+bo (di s t) r≤0+bo (di s t) r+gH s t E0 r;omega) h.tree h0 h1 hz
 generalize (cG s t many).1=u at *
 generalize (cG s t many).2.1=t' at *
 have hg:∀k,k<16→getM u t' k=getM s t k:=fun k hk=>by
  rw [hP.get k hk]
  split
  ·rfl
  ·rename_i hc;exact (uK k hk (by omega)).symm
 have D6:∀k,k<16→getM s t k≠⟨#[]⟩→xK u (nodeAt s t k)∧dz u (nodeAt s t k)=dz s (nodeAt s t k):=fun k rN fB=>by
  have hn:=(h.nodes k rN rfl).resolve_left fB
  refine hn.2.kp (by rw [hP.same.cj];exact ZC1 _) hP.kp fun r=>?_
  exact H9 (f:=fun k=>bif E0 k then 0 else bo (dz s (nodeAt s t k)) r) (l:=List.range 16) (ZE2.2 rN)
 refine⟨⟨hP.tree.at,fun k hk _=>?_,hP.acc.mono fun r=>?_⟩,hg,hP.same⟩
 ·by_cases h2:getM s t k=⟨#[]⟩
  ·left;rw [hg k hk];exact h2
  ·right
   have hn:=(h.nodes k hk rfl).resolve_left h2
   unfold nodeAt
   rw [hg k hk]
   exact⟨hn.1,(D6 k hk h2).1⟩
 ·have e:gH u t' E0 r=gH s t E0 r:=by
   unfold gH
   refine NV fun k hk=>?_
   have hk:=ZE2.1 hk
   show bo (dz u (bA (getM u t' k)).1) r=bo (dz s (nodeAt s t k)) r
   rw [hg k hk]
   by_cases h2:getM s t k=⟨#[]⟩
   ·rw [show (bA (getM s t k)).1=nC by rw [h2,fI],show nodeAt s t k=nC by show (bA (getM s t k)).1=_;rw [h2,fI]]
    rfl
   ·show bo (dz u (nodeAt s t k)) r=_
    rw [(D6 k hk h2).2]
  rw [e,F3 hP.tree]
  show 0+_+_≤_;omega
theorem FI.ajA {s:ay}{t:bf}{E:Nat→Bool}{l:List Pt}(h:FI s t E (fun r=>0+bo l r)) (hl:∀p∈l,aZ p=true):FI (dx l s) t E O0∧(∀k,k<16→getM (dx l s) t k=getM s t k)∧dR s (dx l s):=by
 rw [vJ]
 obtain⟨h1,h2,h3⟩:=yO (l:=l) (O':=fun r=>bo (di s t) r+gH s t E r) h.acc hl fun r=>by show _≤0+bo l r+_+_;omega
 have hK:=h.ca (by rw [h3.cj];exact ZC1 _) h2 fun r=>ZB5 _
 refine⟨⟨hK.1,hK.2.2.2.1,h1.mono fun r=>?_⟩,hK.2.1,h3⟩
 rw [hK.2.2.1,hK.2.2.2.2 r];show 0+_+_≤_;omega
theorem YN {s:ay}:∀{n:Nat}{p:Pt},rA s n p→∀q∈il s n p,aZ q=true
 |0,p,h,q,hq=>by rw [ZC7.1 hq];exact h.1
 |n+1,p,h,q,hq=>by
  rcases ZB8.1 hq with rfl |hq
  ·exact h.1
  ·obtain⟨x,hx,hq⟩:=List.mem_flatMap.1 hq
   exact YN (h.2.2 x hx) q hq
def cr (s:ay) (t:bf) (k:Int):ay×bf×Bool:=
 bif !(aY (dx (allM s (cU (cL s t k).1)) s) t k ⟨#[]⟩).2.2 then ((aY (dx (allM s (cU (cL s t k).1)) s) t k ⟨#[]⟩).1,(aY (dx (allM s (cU (cL s t k).1)) s) t k ⟨#[]⟩).2.1,false)
 else cG (aY (dx (allM s (cU (cL s t k).1)) s) t k ⟨#[]⟩).1 (aY (dx (allM s (cU (cL s t k).1)) s) t k ⟨#[]⟩).2.1 (mA s t k)
theorem zH (mm:Int):∀{l:List ByteArray}{k:Nat}{n:Int},0≤n→n≤k→0≤ja mm l k n∧n≤ja mm l k n∧ja mm l k n≤k+l.length
 |[],k,n,h0,h1=>⟨h0,ZC1 _,by show n≤(k:Int)+((0:Nat):Int);omega⟩
 |x::l,k,n,h0,h1=>by
  unfold ja
  cases decide ((k:Int)≠mm)&&decide (x≠⟨#[]⟩) with
  |true=>
   have:=zH mm (l:=l) (k:=k+1) (n:=(k:Int)+1) (by omega) (by omega)
   rw [ZA1];exact⟨this.1,by have:=this.2.1;show n≤ja mm l (k+1) ((k:Int)+1);omega,by have:=this.2.2;show ja mm l (k+1) ((k:Int)+1)≤_;omega⟩
  |false=>
   have:=zH mm (l:=l) (k:=k+1) (n:=n) (by omega) (by omega)
   rw [ZA1];exact⟨this.1,by have:=this.2.1;show n≤ja mm l (k+1) n;omega,by have:=this.2.2;show ja mm l (k+1) n≤_;omega⟩
theorem IC (mm:Int):∀{l:List ByteArray}{k:Nat}{n:Int},0≤n→n≤k→∀j,j<l.length→((k+j:Nat):Int)≠mm→nth ab l j≠⟨#[]⟩→((k+j:Nat):Int)<ja mm l k n
 |x::l,k,n,h0,h1,j,hj,hb,hx=>by
  unfold ja
  cases j with
  |zero=>
   have hx:x≠⟨#[]⟩:=hx
   have hb:(k:Int)≠mm:=hb
   rw [decide_eq_true hx,decide_eq_true hb]
   have:=zH mm (l:=l) (k:=k+1) (n:=(k:Int)+1) (by omega) (by omega)
   show ((k+0:Nat):Int)<ja mm l (k+1) ((k:Int)+1);omega
  |succ j=>
   have hj:j<l.length:=by rw [ZA1] at hj;omega
   have hx:nth ab l j≠⟨#[]⟩:=hx
   have e:k+(j+1)=k+1+j:=by omega
   rw [e] at hb ⊢
   cases decide ((k:Int)≠mm)&&decide (x≠⟨#[]⟩) with
   |true=>exact IC mm (l:=l) (k:=k+1) (n:=(k:Int)+1) (by omega) (by omega) j hj hb hx
   |false=>exact IC mm (l:=l) (k:=k+1) (n:=n) (by omega) (by omega) j hj hb hx
theorem IB {s:ay}{t:bf}(h:t.ok) (mm:Int):0≤mA s t mm∧mA s t mm≤t.many:=by
 have h1:=zH mm (l:=bq s t) (k:=0) (n:=0) (ZC1 _) (ZC1 _)
 rw [fq h] at h1
 have:=h.m0
 exact⟨h1.1,by have:=h1.2.2;unfold mA;omega⟩
theorem adH {s:ay}{t:bf}(h:Tree s t t.d) {mm:Int}{j:Nat}(hj:(j:Int)≠mm) (hx:getM s t j≠⟨#[]⟩):(j:Int)<mA s t mm:=by
 have cH:=h.ok
 have hm:j<t.many.toNat:=by
  refine Decidable.byContradiction fun hn=>hx (mZ h (by have:=h.m0;omega))
 have:=IC mm (l:=bq s t) (k:=0) (n:=0) (ZC1 _) (ZC1 _) j (by rw [fq cH];exact hm) (by rw [ZA6];exact hj) (by rw [xQ cH hm];exact hx)
 rw [ZA6] at this;exact this
theorem FS.drop {s:ay}{t:bf}{i:Nat}(h:FS s t) (hi:i<16) (hi0:0<i) (hz:(cr s t i).2.2=true):FS (cr s t i).1 (cr s t i).2.1∧dR s (cr s t i).1:=by
 have hn:(GL.cL s t i).1=nodeAt s t i:=by rw [h.cL (by omega)];rfl
 have hB:=h.take hi
 have uK:=UJ hB.tree.rC
 have kg:=(hB.fi.more (O':=fun r=>0+bo (allM s (cU (nodeAt s t i))) r) fun r=>by
  rw [uK.2]
  have:=X1 nhB (dz s (nodeAt s t i)) r
  show 0+bo (List.filter nhB (dz s (nodeAt s t i))) r≤0+bo (dz s (nodeAt s t i)) r;omega).ajA fun p hp=>by
   rw [uK.2] at hp
   exact YN hB.tree.rC.snd p ((ZF4.1 hp).1)
 unfold cr at hz ⊢
 rw [hn] at hz ⊢
 generalize dx (allM s (cU (nodeAt s t i))) s=u at *
 cases hp:(aY u t i ⟨#[]⟩).2.2 with
 |false=>rw [hp] at hz;cases hz
 |true=>
  rw [hp] at hz
  simp only [Bool.not_true,cond_false] at hz ⊢
  have hE:rT E0 i i=true:=by unfold rT;rw [decide_eq_true rfl];rfl
  have hP:=kg.1.aiJ (i:=i) (text:=⟨#[]⟩) hi hE hp
  have hF:=hP.fi.agZ hi hE hP.at_
  rw [aam (show E0 i=false from rfl)] at hF
  have hl:=IB (s:=s) h.fi.tree.ok i
  have hm1:=h.fi.tree.m1
  have hg:∀k,k<16→k≠i→getM (aY u t i ⟨#[]⟩).1 (aY u t i ⟨#[]⟩).2.1 k=getM s t k:=fun k hk fB=>(hP.other k hk fB).trans (kg.2.1 k hk)
  have hc:=hF.ahU (many:=mA s t i) hl.1 (by omega) (fun k hk hlk=>by
   by_cases e:k=i
   ·rw [e];exact hP.at_
   ·rw [hg k hk e]
    refine Decidable.byContradiction fun hx=>?_
    have:=adH h.fi.tree (mm:=(i:Int)) (j:=k) (by omega) hx
    omega) hz
  refine⟨⟨hc.1,?_⟩,(kg.2.2.trans hP.same).trans hc.2.2⟩
  show (bA (getM _ _ 0)).1.1=2
  rw [hc.2.1 0 (by omega),hg 0 (by omega) (by omega)];exact h.root
theorem FS.next {s:ay}{t:bf}(h:FS s t) (ht:s.cj<1000000):FS (ij s) t:=by
 obtain⟨h1,h2⟩:=h.fi.next ht
 refine⟨h1,?_⟩
 show (bA (getM _ _ 0)).1.1=2
 rw [h2 0 (by omega)];exact h.root
theorem FS.many {s:ay}{t:bf}(h:FS s t):1≤t.many:=by
 refine Decidable.byContradiction fun hn=>?_
 have e:=mZ h.fi.tree (j:=0) (by omega)
 have:=h.root
 unfold nodeAt at this
 rw [e,fI] at this
 exact absurd this (by decide)
end GL
end Go.Proofs.YtkgpljpmdkflmaaGreatDoor
