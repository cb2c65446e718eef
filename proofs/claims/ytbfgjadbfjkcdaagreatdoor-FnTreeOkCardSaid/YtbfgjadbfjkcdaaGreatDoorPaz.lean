/- FnTreeOk returns true for every code (its row lists package variables, tied by the card): part 26. -/
import Derived.Test.YtbfgjadbfjkcdaaGreatDoorPas
import Derived.Test.YtbfgjadbfjkcdaaGreatDoorPau
import Derived.Test.YtbfgjadbfjkcdaaGreatDoorPay
set_option maxHeartbeats 20000000
set_option linter.all false
namespace Go.Proofs.YtbfgjadbfjkcdaaGreatDoor
namespace GL
def iX:List ByteArray→Nat→ay→bf→ay×bf×Bool
 |[],_,s,t=>(s,t,true)
 |x::l,i,s,t=>bif !(aY s t i x).2.2 then ((aY s t i x).1,t,false) else iX l (i+1) (aY s t i x).1 (aY s t i x).2.1
theorem OM {x:ByteArray}{l:List ByteArray}{i:Nat}{s:ay}{t:bf}(h:(aY s t i x).2.2=false):iX (x::l) i s t=((aY s t i x).1,t,false):=by rw [iX,h];rfl
theorem OL {x:ByteArray}{l:List ByteArray}{i:Nat}{s:ay}{t:bf}(h:(aY s t i x).2.2=true):iX (x::l) i s t=iX l (i+1) (aY s t i x).1 (aY s t i x).2.1:=by rw [iX,h];rfl
def KM (r:ay×bf×Bool) (n:Int):ay×bf×Bool:=bif !r.2.2 then r else cH r.1 r.2.1 n
def dH (s:ay) (t:bf) (text:ByteArray):ay×bf×Bool:=bif decide (((kH text).length:Int)>16) then (s,t,false) else KM (iX (kH text) 0 s t) (kH text).length
theorem R0:∀{l:List ByteArray}{i:Nat}{s:ay}{t:bf}{n:Nat},s.wg n→t.ok→i+l.length≤16→(iX l i s t).1.wg (n+6*l.length)∧(iX l i s t).2.1.ok
 |[],i,s,t,n,hs,ht,_=>⟨hs,ht⟩
 |x::l,i,s,t,n,hs,ht,hi=>by
  rw [ZA1] at hi
  have h:=ny (k:=(i:Int)) (text:=x) hs ht (by omega) (by omega)
  cases hz:(aY s t i x).2.2 with
  |false=>rw [OM hz];exact⟨h.1.mono (by rw [ZA1];omega),ht⟩
  |true=>
   rw [OL hz]
   have h2:=R0 (l:=l) (i:=i+1) h.1 h.2.1 (by omega)
   exact⟨h2.1.mono (by rw [ZA1];omega),h2.2⟩
theorem UZ {s:ay}{t:bf}{text:ByteArray}{n:Nat}(hs:s.wg n) (ht:t.ok):(dH s t text).1.wg (n+117)∧(dH s t text).2.1.ok:=by
 unfold dH
 cases h:decide (((kH text).length:Int)>16) with
 |true=>exact⟨hs.mono (by omega),ht⟩
 |false=>
  have hl:=aA h
  have h1:=R0 (l:=kH text) (i:=0) hs ht (by omega)
  show (KM (iX (kH text) 0 s t) (kH text).length).1.wg (n+117)∧(KM (iX (kH text) 0 s t) (kH text).length).2.1.ok
  unfold KM
  cases !(iX (kH text) 0 s t).2.2 with
  |true=>exact⟨h1.1.mono (by omega),h1.2⟩
  |false=>
   have h2:=F3 (many:=((kH text).length:Int)) h1.1 h1.2 (by omega) (by omega)
   exact⟨h2.1.mono (by omega),h2.2.1⟩
theorem ZL:∀{f:Nat}{s:ByteArray},s.size<f→(pcF f s).length=(s.size+127) / 128
 |f+1,s,h=>by
  cases h1:decide ((s.size:Int)>128) with
  |true=>
   have h2:=aE h1
   have hx:(s.extract 128 s.size).size=s.size-128:=by rw [ZC5];omega
   rw [adf h1,ZA1,ZL (by omega),hx];omega
  |false=>
   have h2:=aA h1
   cases h3:decide (s≠⟨#[]⟩) with
   |true=>
    have:=size_pos (aE h3)
    rw [ade h1 h3,ZA1,ZA4];omega
   |false=>
    have h4:s=⟨#[]⟩:=ZF0.1 (aA h3)
    rw [adb h1 h3,h4];rfl
theorem ZK (s:ByteArray):(kH s).length=(s.size+127) / 128:=ZL (ZE0 _)
structure kC (s:ay) (t:bf) (E:Nat→Bool) (O:Nat→Nat) (u:ay) (t2:bf):Prop where
 fi:FI u t E (fun r=>O r+bq (di u t2) r)
 tree:Tree u t2 t2.d
 get:∀k,k<16→getM u t k=getM s t k
 same:dR s u
theorem kC.trans {s u v:ay}{t:bf}{E:Nat→Bool}{O:Nat→Nat}{t2 t3:bf}(h:kC s t E O u t2) (h2:kC u t E O v t3):kC s t E O v t3:=
 ⟨h2.fi,h2.tree,fun k hk=>(h2.get k hk).trans (h.get k hk),h.same.trans h2.same⟩
theorem kC.put {s u:ay}{t:bf}{E:Nat→Bool}{O:Nat→Nat}{t2:bf}{k:Int}{text:ByteArray}(h:kC s t E O u t2) (hk0:0≤k) (hk:k≤15) (hz:(aY u t2 k text).2.2=true):kC s t E O (aY u t2 k text).1 (aY u t2 k text).2.1∧(aY u t2 k text).2.1.many=bP t2 k:=by
 obtain⟨d,hP,h1,h2⟩:=h.fi.akU h.tree hk0 hk hz
 have hK:=h.fi.bY (by rw [hP.same.ck];exact ZC1 _) hP.kp fun r=>by show _≤O r+_+_;omega
 exact⟨⟨h1,h2,fun j hj=>(hK.2.1 j hj).trans (h.get j hj),h.same.trans hP.same⟩,hP.many⟩
theorem kC.cut {s u:ay}{t:bf}{E:Nat→Bool}{O:Nat→Nat}{t2:bf}{many:Int}(h:kC s t E O u t2) (h0:0≤many) (h1:many≤16) (hz:(cH u t2 many).2.2=true):kC s t E O (cH u t2 many).1 (cH u t2 many).2.1∧(cH u t2 many).2.1.many=many:=by
 obtain⟨d,hP,h3,h2⟩:=h.fi.alL h.tree h0 h1 hz
 have hK:=h.fi.bY (by rw [hP.same.ck];exact ZC1 _) hP.kp fun r=>by show _≤O r+_+_;omega
 exact⟨⟨h3,h2,fun j hj=>(hK.2.1 j hj).trans (h.get j hj),h.same.trans hP.same⟩,hP.many⟩
theorem kC.ai7 {s:ay}{t:bf}{E:Nat→Bool}{O:Nat→Nat}:∀{l:List ByteArray}{i:Nat}{u:ay}{t2:bf},kC s t E O u t2→i+l.length≤16→(iX l i u t2).2.2=true→kC s t E O (iX l i u t2).1 (iX l i u t2).2.1
 |[],i,u,t2,h,_,_=>h
 |x::l,i,u,t2,h,hi,hz=>by
  rw [ZA1] at hi
  cases hx:(aY u t2 i x).2.2 with
  |false=>rw [OM hx] at hz;cases hz
  |true=>
   rw [OL hx] at hz ⊢
   exact kC.ai7 (h.put (by omega) (by omega) hx).1 (by omega) hz
theorem kC.alN {s u:ay}{t:bf}{E:Nat→Bool}{O:Nat→Nat}{t2:bf}{text:ByteArray}(h:kC s t E O u t2) (hz:(dH u t2 text).2.2=true):kC s t E O (dH u t2 text).1 (dH u t2 text).2.1∧(dH u t2 text).2.1.many=((kH text).length:Int):=by
 unfold dH at hz ⊢
 cases hg:decide (((kH text).length:Int)>16) with
 |true=>rw [hg] at hz;cases hz
 |false=>
  rw [hg] at hz
  have hl:=aA hg
  simp only [cond_false] at hz ⊢
  unfold KM at hz ⊢
  cases h1:(iX (kH text) 0 u t2).2.2 with
  |false=>rw [h1] at hz;simp only [Bool.not_false,cond_true] at hz;rw [h1] at hz;cases hz
  |true=>
   rw [h1] at hz
   simp only [Bool.not_true,cond_false] at hz ⊢
   exact (h.ai7 (by omega) h1).cut (by omega) (by omega) hz
theorem N0 (s:ay):Tree s nF 0:=by
 have h:oP s nF 0:=⟨rfl,ZA8 _,kB s 0⟩
 refine⟨h,ZC1 _,by decide,by decide,fun i _=>?_⟩
 rw [mG h]
 show au (nth ae (bO::cw 15) i)=true
 rw [show (bO::cw 15)=cw 16 from rfl,CJ];rfl
theorem rE.level {s:ay}{n:Nat}{p:Pt}(h:rE s n p):au p=true∨p.2.2.2.2=(n:Int):=by
 cases hh:au p with
 |true=>exact .inl rfl
 |false=>
  right
  cases n with
  |zero=>exact (h.2 hh).1
  |succ n=>exact (oz hh (h.2.1 hh)).2.1
abbrev ke (n:fu) (sz:Int) (t:bf):fu:=(n.1,n.2.1,sz,t)
theorem abS {n:fu}{u:ay}{t:bf}{sz:Int}(hn:cy n=true) (dk:0≤sz∧sz≤16*ku n.1) (ht:Tree u t t.d) (hm:t.many=bj sz (ku n.1)):cy (ke n sz t)=true:=by
 obtain⟨b1,b2,b3,b4,b5,b6,b7,b8,b9⟩:=ly hn
 have he:ku n.1≠0:=by
  intro e
  have:bJ n.1 n.2.2.1= -1:=by unfold bJ;rw [e];rfl
  omega
 have hp:bJ n.1 sz=t.many:=by
  unfold bJ
  rw [decide_eq_false he,show iC sz 0 (16*ku n.1)=true from cz.2 dk,hm];rfl
 have hl:iC n.2.1 1 (bif decide (n.1=2) then 1 else 9)=true:=by
  unfold cy at hn
  cases hb:decide (bJ n.1 n.2.2.1<0)||(decide (n.2.2.2.2.2.2.2.2.2≠bJ n.1 n.2.2.1)||(decide (n.2.2.2.2.2.2.2.2.1≠bl (bJ n.1 n.2.2.1))|| !(a6 n.root))) with
  |true=>rw [hb] at hn;cases hn
  |false=>
   rw [hb,cond_false] at hn
   simp only [ZB0] at hn
   exact hn.1
 have h0:=ht.m0
 have hd:t.depth=bl t.many:=by rw [ht.dm];exact ht.rH.dep
 have FW:=ht.rH.snd.level
 have hdd:=ht.rH.dep
 unfold cy
 have e1:decide (bJ (ke n sz t).1 (ke n sz t).2.2.1<0)=false:=by
  show decide (bJ n.1 sz<0)=false
  rw [hp];exact decide_eq_false (by omega)
 have e2:decide ((ke n sz t).2.2.2.2.2.2.2.2.2≠bJ (ke n sz t).1 (ke n sz t).2.2.1)=false:=by
  show decide (t.many≠bJ n.1 sz)=false
  rw [hp];exact decide_eq_false (by simp)
 have e3:decide ((ke n sz t).2.2.2.2.2.2.2.2.1≠bl (bJ (ke n sz t).1 (ke n sz t).2.2.1))=false:=by
  show decide (t.depth≠bl (bJ n.1 sz))=false
  rw [hp,hd];exact decide_eq_false (by simp)
 have e4:a6 (ke n sz t).root=true:=ht.rH.snd.pok
 rw [e1,e2,e3,e4]
 show (iC n.2.1 1 (bif decide (n.1=2) then 1 else 9)&&(au t.root||decide (t.root.2.2.2.2=t.depth)))=true
 rw [hl,Bool.true_and]
 rcases FW with h |h
 ·rw [h];rfl
 ·rw [decide_eq_true (by rw [h,hdd]),ZC4]
abbrev E0:Nat→Bool:=fun _=>false
abbrev O0:Nat→Nat:=fun _=>0
structure FS (s:ay) (t:bf):Prop where
 fi:FI s t E0 O0
 root:(nodeAt s t 0).1=2
theorem FS.cM {s:ay}{t:bf}(h:FS s t) {k:Int}(h0:0≤k):GL.cM s t k=bB (getM s t k.toNat):=by
 cases hc: !(iC k 0 (t.many-1)) with
 |false=>exact aeN hc
 |true=>
  have h1:¬(0≤k∧k≤t.many-1):=fun e=>by
   have:iC k 0 (t.many-1)=true:=cz.2 e
   rw [this] at hc;cases hc
  rw [aeO hc,ng h.fi.tree (j:=k.toNat) (by omega),fI]
theorem XD {s:ByteArray}(h:(bB s).2=true):cy (bB s).1=true:=by
 cases h1: !(bz s).2 with
 |true=>rw [yE h1] at h;cases h
 |false=>cases h2:decide (((bz s).1.length:Int)≠7) with
  |true=>rw [tG h2] at h;cases h
  |false=>cases h3: !(cy (mY (bz s).1)) with
   |true=>rw [yD h3] at h;cases h
   |false=>cases h4:decide (aC (mY (bz s).1)≠s) with
    |true=>rw [yC h4] at h;cases h
    |false=>rw [yF h1 h2 h3 h4];exact cI h3
theorem XE {s:ByteArray}(h:(bB s).2=false):(bB s).1=nG:=by
 cases h1: !(bz s).2 with
 |true=>rw [yE h1]
 |false=>cases h2:decide (((bz s).1.length:Int)≠7) with
  |true=>rw [tG h2]
  |false=>cases h3: !(cy (mY (bz s).1)) with
   |true=>rw [yD h3]
   |false=>cases h4:decide (aC (mY (bz s).1)≠s) with
    |true=>rw [yC h4]
    |false=>rw [yF h1 h2 h3 h4] at h;cases h
theorem FS.at {s:ay}{t:bf}(h:FS s t) {i:Nat}(hi:i<16):Tree s (cU (nodeAt s t i)) (cU (nodeAt s t i)).d∧(cy (nodeAt s t i)=true∨nodeAt s t i=nG):=by
 rcases h.fi.nodes i hi rfl with h1 |h1
 ·have e:nodeAt s t i=nG:=by show (bB (getM s t i)).1=_;rw [h1,fI]
  rw [e]
  exact⟨N0 s,.inr rfl⟩
 ·exact⟨h1.2.tree,.inl h1.2.ok⟩
theorem FS.take {s:ay}{t:bf}(h:FS s t) {i:Nat}(hi:i<16):kC s t (rX E0 i) O0 s (cU (nodeAt s t i)):=
 ⟨h.fi.take hi rfl,(h.at hi).1,fun _ _=>rfl,dR.refl _⟩
theorem FS.back {s u:ay}{t:bf}{i:Nat}{n:fu}(h:FS s t) (hi:i<16) (hB:kC s t (rX E0 i) O0 u (cU n)) (hr:i=0→cy n=true∧n.1=2) (hz:(aY u t i (aC n)).2.2=true):
  FS (aY u t i (aC n)).1 (aY u t i (aC n)).2.1∧(∀k,k<16→k≠i→getM (aY u t i (aC n)).1 (aY u t i (aC n)).2.1 k=getM s t k)∧dR s (aY u t i (aC n)).1:=by
 have hE:rX E0 i i=true:=by unfold rX;rw [decide_eq_true rfl];rfl
 have h1:=hB.fi.ZJ (n:=n) hi hE (fun ho=>⟨ho,hB.tree⟩) hz
 have hg:∀k,k<16→k≠i→getM (aY u t i (aC n)).1 (aY u t i (aC n)).2.1 k=getM s t k:=fun k hk fB=>(h1.2.other k hk fB).trans (hB.get k hk)
 have hf:=h1.1
 rw [aaG (show E0 i=false from rfl)] at hf
 refine⟨⟨hf,?_⟩,hg,hB.same.trans h1.2.same⟩
 show (bB (getM _ _ 0)).1.1=2
 by_cases e:i=0
 ·obtain⟨ho,h2⟩:=hr e
  subst e
  rw [h1.2.at_,tF ho];exact h2
 ·rw [hg 0 (by omega) (fun h=>e h.symm)];exact h.root
theorem aiQ (n:fu):ke n n.2.2.1 (cU n)=n:=rfl
theorem FS.write {s:ay}{t:bf}{i:Nat}{text:ByteArray}(h:FS s t) (hi:i<16) (hb:(dH s (cU (nodeAt s t i)) text).2.2=true)
  (hz:(aY (dH s (cU (nodeAt s t i)) text).1 t i (aC (ke (nodeAt s t i) text.size (dH s (cU (nodeAt s t i)) text).2.1))).2.2=true):
  FS (aY (dH s (cU (nodeAt s t i)) text).1 t i (aC (ke (nodeAt s t i) text.size (dH s (cU (nodeAt s t i)) text).2.1))).1 (aY (dH s (cU (nodeAt s t i)) text).1 t i (aC (ke (nodeAt s t i) text.size (dH s (cU (nodeAt s t i)) text).2.1))).2.1∧
  (∀k,k<16→k≠i→getM (aY (dH s (cU (nodeAt s t i)) text).1 t i (aC (ke (nodeAt s t i) text.size (dH s (cU (nodeAt s t i)) text).2.1))).1 (aY (dH s (cU (nodeAt s t i)) text).1 t i (aC (ke (nodeAt s t i) text.size (dH s (cU (nodeAt s t i)) text).2.1))).2.1 k=getM s t k)∧
  dR s (aY (dH s (cU (nodeAt s t i)) text).1 t i (aC (ke (nodeAt s t i) text.size (dH s (cU (nodeAt s t i)) text).2.1))).1:=by
 have hB:=(h.take hi).alN hb
 have hl:((kH text).length:Int)≤16:=by rw [←hB.2];exact hB.1.tree.m1
 refine h.back hi (n:=ke (nodeAt s t i) text.size (dH s (cU (nodeAt s t i)) text).2.1) hB.1 (fun e=>?_) hz
 subst e
 have h2:(nodeAt s t 0).1=2:=h.root
 have cA:cy (nodeAt s t 0)=true:=by
  rcases (h.at hi).2 with h3 |h3
  ·exact h3
  ·rw [h3] at h2;exact absurd h2 (by decide)
 refine⟨abS cA ?_ hB.1.tree ?_,h2⟩
 ·rw [h2];have:=ZK text;show 0≤(text.size:Int)∧(text.size:Int)≤16*128;omega
 ·rw [hB.2,h2,ZK];show _=((text.size:Int)+128-1) / 128;omega
theorem FS.make {s:ay}{t:bf}{i:Nat}{kind:Int}(h:FS s t) (hi:i<16) (h0:getM s t i=⟨#[]⟩) (hz:(aY s t i (aC (kind,1,0,nF))).2.2=true):
  FS (aY s t i (aC (kind,1,0,nF))).1 (aY s t i (aC (kind,1,0,nF))).2.1∧(∀k,k<16→k≠i→getM (aY s t i (aC (kind,1,0,nF))).1 (aY s t i (aC (kind,1,0,nF))).2.1 k=getM s t k)∧dR s (aY s t i (aC (kind,1,0,nF))).1:=by
 have e:nodeAt s t i=nG:=by show (bB (getM s t i)).1=_;rw [h0,fI]
 have hB:=h.take hi
 rw [e] at hB
 refine h.back hi (n:=(kind,1,0,nF)) hB (fun e0=>?_) hz
 subst e0
 have:=h.root
 rw [e] at this;exact absurd this (by decide)
theorem FS.adX {s:ay}{t:bf}{i:Nat}{l:Int}(h:FS s t) (hi:i<16) (hi0:0<i)
  (hz:(aY s t i (aC ((nodeAt s t i).1,l,(nodeAt s t i).2.2))).2.2=true):
  FS (aY s t i (aC ((nodeAt s t i).1,l,(nodeAt s t i).2.2))).1 (aY s t i (aC ((nodeAt s t i).1,l,(nodeAt s t i).2.2))).2.1∧(∀k,k<16→k≠i→getM (aY s t i (aC ((nodeAt s t i).1,l,(nodeAt s t i).2.2))).1 (aY s t i (aC ((nodeAt s t i).1,l,(nodeAt s t i).2.2))).2.1 k=getM s t k)∧dR s (aY s t i (aC ((nodeAt s t i).1,l,(nodeAt s t i).2.2))).1:=
 h.back hi (n:=((nodeAt s t i).1,l,(nodeAt s t i).2.2)) (h.take hi) (fun e=>absurd e (by omega)) hz
theorem FI.ail {s:ay}{t:bf}{many:Int}(h:FI s t E0 O0) (h0:0≤many) (h1:many≤16) (qU:∀k:Nat,k<16→many≤(k:Int)→getM s t k=⟨#[]⟩) (hz:(cH s t many).2.2=true):
  FI (cH s t many).1 (cH s t many).2.1 E0 O0∧(∀k,k<16→getM (cH s t many).1 (cH s t many).2.1 k=getM s t k)∧dR s (cH s t many).1:=by
 obtain⟨d,hP⟩:=NR (X:=fun r=>gJ s t E0 r) (h.acc.mono fun r=>by show gJ s t E0 r+bq (di s t) r≤0+bq (di s t) r+gJ s t E0 r;omega) h.tree h0 h1 hz
 generalize (cH s t many).1=u at *
 generalize (cH s t many).2.1=t' at *
 have hg:∀k,k<16→getM u t' k=getM s t k:=fun k hk=>by
  rw [hP.get k hk]
  split
  ·rfl
  ·rename_i hc;exact (qU k hk (by omega)).symm
 have EF:∀k,k<16→getM s t k≠⟨#[]⟩→xR u (nodeAt s t k)∧dA u (nodeAt s t k)=dA s (nodeAt s t k):=fun k rS fB=>by
  have hn:=(h.nodes k rS rfl).resolve_left fB
  refine hn.2.kp (by rw [hP.same.ck];exact ZC1 _) hP.kp fun r=>?_
  exact IK (f:=fun k=>bif E0 k then 0 else bq (dA s (nodeAt s t k)) r) (l:=List.range 16) (ZE2.2 rS)
 refine⟨⟨hP.tree.at,fun k hk _=>?_,hP.acc.mono fun r=>?_⟩,hg,hP.same⟩
 ·by_cases h2:getM s t k=⟨#[]⟩
  ·left;rw [hg k hk];exact h2
  ·right
   have hn:=(h.nodes k hk rfl).resolve_left h2
   unfold nodeAt
   rw [hg k hk]
   exact⟨hn.1,(EF k hk h2).1⟩
 ·have e:gJ u t' E0 r=gJ s t E0 r:=by
   unfold gJ
   refine N8 fun k hk=>?_
   have hk:=ZE2.1 hk
   show bq (dA u (bB (getM u t' k)).1) r=bq (dA s (nodeAt s t k)) r
   rw [hg k hk]
   by_cases h2:getM s t k=⟨#[]⟩
   ·rw [show (bB (getM s t k)).1=nG by rw [h2,fI],show nodeAt s t k=nG by show (bB (getM s t k)).1=_;rw [h2,fI]]
    rfl
   ·show bq (dA u (nodeAt s t k)) r=_
    rw [(EF k hk h2).2]
  rw [e,GG hP.tree]
  show 0+_+_≤_;omega
theorem FI.ajY {s:ay}{t:bf}{E:Nat→Bool}{l:List Pt}(h:FI s t E (fun r=>0+bq l r)) (hl:∀p∈l,a6 p=true):FI (dz l s) t E O0∧(∀k,k<16→getM (dz l s) t k=getM s t k)∧dR s (dz l s):=by
 rw [vN]
 obtain⟨h1,h2,h3⟩:=yW (l:=l) (O':=fun r=>bq (di s t) r+gJ s t E r) h.acc hl fun r=>by show _≤0+bq l r+_+_;omega
 have hK:=h.bY (by rw [h3.ck];exact ZC1 _) h2 fun r=>ZB6 _
 refine⟨⟨hK.1,hK.2.2.2.1,h1.mono fun r=>?_⟩,hK.2.1,h3⟩
 rw [hK.2.2.1,hK.2.2.2.2 r];show 0+_+_≤_;omega
theorem Y8 {s:ay}:∀{n:Nat}{p:Pt},rE s n p→∀q∈im s n p,a6 q=true
 |0,p,h,q,hq=>by rw [ZC7.1 hq];exact h.1
 |n+1,p,h,q,hq=>by
  rcases ZB9.1 hq with rfl |hq
  ·exact h.1
  ·obtain⟨x,hx,hq⟩:=List.mem_flatMap.1 hq
   exact Y8 (h.2.2 x hx) q hq
def ct (s:ay) (t:bf) (k:Int):ay×bf×Bool:=
 bif !(aY (dz (allM s (cU (cM s t k).1)) s) t k ⟨#[]⟩).2.2 then ((aY (dz (allM s (cU (cM s t k).1)) s) t k ⟨#[]⟩).1,(aY (dz (allM s (cU (cM s t k).1)) s) t k ⟨#[]⟩).2.1,false)
 else cH (aY (dz (allM s (cU (cM s t k).1)) s) t k ⟨#[]⟩).1 (aY (dz (allM s (cU (cM s t k).1)) s) t k ⟨#[]⟩).2.1 (mD s t k)
theorem zQ (mu:Int):∀{l:List ByteArray}{k:Nat}{n:Int},0≤n→n≤k→0≤iZ mu l k n∧n≤iZ mu l k n∧iZ mu l k n≤k+l.length
 |[],k,n,h0,h1=>⟨h0,ZC1 _,by show n≤(k:Int)+((0:Nat):Int);omega⟩
 |x::l,k,n,h0,h1=>by
  unfold iZ
  cases decide ((k:Int)≠mu)&&decide (x≠⟨#[]⟩) with
  |true=>
   have:=zQ mu (l:=l) (k:=k+1) (n:=(k:Int)+1) (by omega) (by omega)
   rw [ZA1];exact⟨this.1,by have:=this.2.1;show n≤iZ mu l (k+1) ((k:Int)+1);omega,by have:=this.2.2;show iZ mu l (k+1) ((k:Int)+1)≤_;omega⟩
  |false=>
   have:=zQ mu (l:=l) (k:=k+1) (n:=n) (by omega) (by omega)
   rw [ZA1];exact⟨this.1,by have:=this.2.1;show n≤iZ mu l (k+1) n;omega,by have:=this.2.2;show iZ mu l (k+1) n≤_;omega⟩
theorem IN (mu:Int):∀{l:List ByteArray}{k:Nat}{n:Int},0≤n→n≤k→∀j,j<l.length→((k+j:Nat):Int)≠mu→nth ab l j≠⟨#[]⟩→((k+j:Nat):Int)<iZ mu l k n
 |x::l,k,n,h0,h1,j,hj,hb,hx=>by
  unfold iZ
  cases j with
  |zero=>
   have hx:x≠⟨#[]⟩:=hx
   have hb:(k:Int)≠mu:=hb
   rw [decide_eq_true hx,decide_eq_true hb]
   have:=zQ mu (l:=l) (k:=k+1) (n:=(k:Int)+1) (by omega) (by omega)
   show ((k+0:Nat):Int)<iZ mu l (k+1) ((k:Int)+1);omega
  |succ j=>
   have hj:j<l.length:=by rw [ZA1] at hj;omega
   have hx:nth ab l j≠⟨#[]⟩:=hx
   have e:k+(j+1)=k+1+j:=by omega
   rw [e] at hb ⊢
   cases decide ((k:Int)≠mu)&&decide (x≠⟨#[]⟩) with
   |true=>exact IN mu (l:=l) (k:=k+1) (n:=(k:Int)+1) (by omega) (by omega) j hj hb hx
   |false=>exact IN mu (l:=l) (k:=k+1) (n:=n) (by omega) (by omega) j hj hb hx
theorem IM {s:ay}{t:bf}(h:t.ok) (mu:Int):0≤mD s t mu∧mD s t mu≤t.many:=by
 have h1:=zQ mu (l:=bw s t) (k:=0) (n:=0) (ZC1 _) (ZC1 _)
 rw [fq h] at h1
 have:=h.m0
 exact⟨h1.1,by have:=h1.2.2;unfold mD;omega⟩
theorem ad2 {s:ay}{t:bf}(h:Tree s t t.d) {mu:Int}{j:Nat}(hj:(j:Int)≠mu) (hx:getM s t j≠⟨#[]⟩):(j:Int)<mD s t mu:=by
 have cA:=h.ok
 have hm:j<t.many.toNat:=by
  refine Decidable.byContradiction fun hn=>hx (ng h (by have:=h.m0;omega))
 have:=IN mu (l:=bw s t) (k:=0) (n:=0) (ZC1 _) (ZC1 _) j (by rw [fq cA];exact hm) (by rw [ZA7];exact hj) (by rw [xW cA hm];exact hx)
 rw [ZA7] at this;exact this
theorem FS.drop {s:ay}{t:bf}{i:Nat}(h:FS s t) (hi:i<16) (hi0:0<i) (hz:(ct s t i).2.2=true):FS (ct s t i).1 (ct s t i).2.1∧dR s (ct s t i).1:=by
 have hn:(GL.cM s t i).1=nodeAt s t i:=by rw [h.cM (by omega)];rfl
 have hB:=h.take hi
 have qU:=U3 hB.tree.rH
 have kg:=(hB.fi.more (O':=fun r=>0+bq (allM s (cU (nodeAt s t i))) r) fun r=>by
  rw [qU.2]
  have:=YM nhB (dA s (nodeAt s t i)) r
  show 0+bq (List.filter nhB (dA s (nodeAt s t i))) r≤0+bq (dA s (nodeAt s t i)) r;omega).ajY fun p hp=>by
   rw [qU.2] at hp
   exact Y8 hB.tree.rH.snd p ((ZF6.1 hp).1)
 unfold ct at hz ⊢
 rw [hn] at hz ⊢
 generalize dz (allM s (cU (nodeAt s t i))) s=u at *
 cases hp:(aY u t i ⟨#[]⟩).2.2 with
 |false=>rw [hp] at hz;cases hz
 |true=>
  rw [hp] at hz
  simp only [Bool.not_true,cond_false] at hz ⊢
  have hE:rX E0 i i=true:=by unfold rX;rw [decide_eq_true rfl];rfl
  have hP:=kg.1.ai8 (i:=i) (text:=⟨#[]⟩) hi hE hp
  have hF:=hP.fi.ahp hi hE hP.at_
  rw [aaG (show E0 i=false from rfl)] at hF
  have hl:=IM (s:=s) h.fi.tree.ok i
  have hm1:=h.fi.tree.m1
  have hg:∀k,k<16→k≠i→getM (aY u t i ⟨#[]⟩).1 (aY u t i ⟨#[]⟩).2.1 k=getM s t k:=fun k hk fB=>(hP.other k hk fB).trans (kg.2.1 k hk)
  have hc:=hF.ail (many:=mD s t i) hl.1 (by omega) (fun k hk hlk=>by
   by_cases e:k=i
   ·rw [e];exact hP.at_
   ·rw [hg k hk e]
    refine Decidable.byContradiction fun hx=>?_
    have:=ad2 h.fi.tree (mu:=(i:Int)) (j:=k) (by omega) hx
    omega) hz
  refine⟨⟨hc.1,?_⟩,(kg.2.2.trans hP.same).trans hc.2.2⟩
  show (bB (getM _ _ 0)).1.1=2
  rw [hc.2.1 0 (by omega),hg 0 (by omega) (by omega)];exact h.root
theorem FS.next {s:ay}{t:bf}(h:FS s t) (ht:s.ck<1000000):FS (ik s) t:=by
 obtain⟨h1,h2⟩:=h.fi.next ht
 refine⟨h1,?_⟩
 show (bB (getM _ _ 0)).1.1=2
 rw [h2 0 (by omega)];exact h.root
theorem FS.many {s:ay}{t:bf}(h:FS s t):1≤t.many:=by
 refine Decidable.byContradiction fun hn=>?_
 have e:=ng h.fi.tree (j:=0) (by omega)
 have:=h.root
 unfold nodeAt at this
 rw [e,fI] at this
 exact absurd this (by decide)
end GL
end Go.Proofs.YtbfgjadbfjkcdaaGreatDoor
