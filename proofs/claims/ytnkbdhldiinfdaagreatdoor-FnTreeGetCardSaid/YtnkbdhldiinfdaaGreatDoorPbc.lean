/- A drawn law returns true for every code (its row lists package variables, tied by the card): part 29. -/
import Derived.Test.YtnkbdhldiinfdaaGreatDoorPav
import Derived.Test.YtnkbdhldiinfdaaGreatDoorPax
import Derived.Test.YtnkbdhldiinfdaaGreatDoorPbb
set_option maxHeartbeats 20000000
set_option maxRecDepth 100000
set_option linter.all false
namespace Go.Proofs.YtnkbdhldiinfdaaGreatDoor
namespace GL
def iW:List ByteArray→Nat→ay→bf→ay×bf×Bool
 |[],_,s,t=>(s,t,true)
 |x::l,i,s,t=>bif !(aY s t i x).2.2 then ((aY s t i x).1,t,false) else iW l (i+1) (aY s t i x).1 (aY s t i x).2.1
theorem OB {x:ByteArray}{l:List ByteArray}{i:Nat}{s:ay}{t:bf}(h:(aY s t i x).2.2=false):iW (x::l) i s t=((aY s t i x).1,t,false):=by rw [iW,h];rfl
theorem OA {x:ByteArray}{l:List ByteArray}{i:Nat}{s:ay}{t:bf}(h:(aY s t i x).2.2=true):iW (x::l) i s t=iW l (i+1) (aY s t i x).1 (aY s t i x).2.1:=by rw [iW,h];rfl
def KB (r:ay×bf×Bool) (n:Int):ay×bf×Bool:=bif !r.2.2 then r else cF r.1 r.2.1 n
def dG (s:ay) (t:bf) (text:ByteArray):ay×bf×Bool:=bif decide (((kC text).length:Int)>16) then (s,t,false) else KB (iW (kC text) 0 s t) (kC text).length
theorem RL:∀{l:List ByteArray}{i:Nat}{s:ay}{t:bf}{n:Nat},s.wg n→t.ok→i+l.length≤16→(iW l i s t).1.wg (n+6*l.length)∧(iW l i s t).2.1.ok
 |[],i,s,t,n,hs,ht,_=>⟨hs,ht⟩
 |x::l,i,s,t,n,hs,ht,hi=>by
  rw [ZA1] at hi
  have h:=nq (k:=(i:Int)) (text:=x) hs ht (by omega) (by omega)
  cases hz:(aY s t i x).2.2 with
  |false=>rw [OB hz];exact⟨h.1.mono (by rw [ZA1];omega),ht⟩
  |true=>
   rw [OA hz]
   have h2:=RL (l:=l) (i:=i+1) h.1 h.2.1 (by omega)
   exact⟨h2.1.mono (by rw [ZA1];omega),h2.2⟩
theorem UJ {s:ay}{t:bf}{text:ByteArray}{n:Nat}(hs:s.wg n) (ht:t.ok):(dG s t text).1.wg (n+117)∧(dG s t text).2.1.ok:=by
 unfold dG
 cases h:decide (((kC text).length:Int)>16) with
 |true=>exact⟨hs.mono (by omega),ht⟩
 |false=>
  have hl:=aA h
  have h1:=RL (l:=kC text) (i:=0) hs ht (by omega)
  show (KB (iW (kC text) 0 s t) (kC text).length).1.wg (n+117)∧(KB (iW (kC text) 0 s t) (kC text).length).2.1.ok
  unfold KB
  cases !(iW (kC text) 0 s t).2.2 with
  |true=>exact⟨h1.1.mono (by omega),h1.2⟩
  |false=>
   have h2:=FR (many:=((kC text).length:Int)) h1.1 h1.2 (by omega) (by omega)
   exact⟨h2.1.mono (by omega),h2.2.1⟩
theorem Y3:∀{f:Nat}{s:ByteArray},s.size<f→(pcF f s).length=(s.size+127) / 128
 |f+1,s,h=>by
  cases h1:decide ((s.size:Int)>128) with
  |true=>
   have h2:=aJ h1
   have hx:(s.extract 128 s.size).size=s.size-128:=by rw [ZC5];omega
   rw [acV h1,ZA1,Y3 (by omega),hx];omega
  |false=>
   have h2:=aA h1
   cases h3:decide (s≠⟨#[]⟩) with
   |true=>
    have:=size_pos (aJ h3)
    rw [acU h1 h3,ZA1,ZA4];omega
   |false=>
    have h4:s=⟨#[]⟩:=ZE9.1 (aA h3)
    rw [acT h1 h3,h4];rfl
theorem Y2 (s:ByteArray):(kC s).length=(s.size+127) / 128:=Y3 (ZD9 _)
structure kx (s:ay) (t:bf) (E:Nat→Bool) (O:Nat→Nat) (u:ay) (t2:bf):Prop where
 fi:FI u t E (fun r=>O r+bn (di u t2) r)
 tree:Tree u t2 t2.d
 get:∀k,k<16→getM u t k=getM s t k
 same:dQ s u
theorem kx.trans {s u v:ay}{t:bf}{E:Nat→Bool}{O:Nat→Nat}{t2 t3:bf}(h:kx s t E O u t2) (h2:kx u t E O v t3):kx s t E O v t3:=
 ⟨h2.fi,h2.tree,fun k hk=>(h2.get k hk).trans (h.get k hk),h.same.trans h2.same⟩
theorem kx.put {s u:ay}{t:bf}{E:Nat→Bool}{O:Nat→Nat}{t2:bf}{k:Int}{text:ByteArray}(h:kx s t E O u t2) (hk0:0≤k) (hk:k≤15) (hz:(aY u t2 k text).2.2=true):kx s t E O (aY u t2 k text).1 (aY u t2 k text).2.1∧(aY u t2 k text).2.1.many=bN t2 k:=by
 obtain⟨d,hP,h1,h2⟩:=h.fi.akD h.tree hk0 hk hz
 have hK:=h.fi.bZ (by rw [hP.same.cg];exact ZC1 _) hP.kp fun r=>by show _≤O r+_+_;omega
 exact⟨⟨h1,h2,fun j hj=>(hK.2.1 j hj).trans (h.get j hj),h.same.trans hP.same⟩,hP.many⟩
theorem kx.cut {s u:ay}{t:bf}{E:Nat→Bool}{O:Nat→Nat}{t2:bf}{many:Int}(h:kx s t E O u t2) (h0:0≤many) (h1:many≤16) (hz:(cF u t2 many).2.2=true):kx s t E O (cF u t2 many).1 (cF u t2 many).2.1∧(cF u t2 many).2.1.many=many:=by
 obtain⟨d,hP,h3,h2⟩:=h.fi.als h.tree h0 h1 hz
 have hK:=h.fi.bZ (by rw [hP.same.cg];exact ZC1 _) hP.kp fun r=>by show _≤O r+_+_;omega
 exact⟨⟨h3,h2,fun j hj=>(hK.2.1 j hj).trans (h.get j hj),h.same.trans hP.same⟩,hP.many⟩
theorem kx.aiP {s:ay}{t:bf}{E:Nat→Bool}{O:Nat→Nat}:∀{l:List ByteArray}{i:Nat}{u:ay}{t2:bf},kx s t E O u t2→i+l.length≤16→(iW l i u t2).2.2=true→kx s t E O (iW l i u t2).1 (iW l i u t2).2.1
 |[],i,u,t2,h,_,_=>h
 |x::l,i,u,t2,h,hi,hz=>by
  rw [ZA1] at hi
  cases hx:(aY u t2 i x).2.2 with
  |false=>rw [OB hx] at hz;cases hz
  |true=>
   rw [OA hx] at hz ⊢
   exact kx.aiP (h.put (by omega) (by omega) hx).1 (by omega) hz
theorem kx.alv {s u:ay}{t:bf}{E:Nat→Bool}{O:Nat→Nat}{t2:bf}{text:ByteArray}(h:kx s t E O u t2) (hz:(dG u t2 text).2.2=true):kx s t E O (dG u t2 text).1 (dG u t2 text).2.1∧(dG u t2 text).2.1.many=((kC text).length:Int):=by
 unfold dG at hz ⊢
 cases hg:decide (((kC text).length:Int)>16) with
 |true=>rw [hg] at hz;cases hz
 |false=>
  rw [hg] at hz
  have hl:=aA hg
  simp only [cond_false] at hz ⊢
  unfold KB at hz ⊢
  cases h1:(iW (kC text) 0 u t2).2.2 with
  |false=>rw [h1] at hz;simp only [Bool.not_false,cond_true] at hz;rw [h1] at hz;cases hz
  |true=>
   rw [h1] at hz
   simp only [Bool.not_true,cond_false] at hz ⊢
   exact (h.aiP (by omega) h1).cut (by omega) (by omega) hz
theorem NP (s:ay):Tree s ny 0:=by
 have h:oJ s ny 0:=⟨rfl,ZA7 _,ku s 0⟩
 refine⟨h,ZC1 _,by decide,by decide,fun i _=>?_⟩
 rw [mA h]
 show au (nth ae (bM::cu 15) i)=true
 rw [show (bM::cu 15)=cu 16 from rfl,CE];rfl
theorem rv.level {s:ay}{n:Nat}{p:Pt}(h:rv s n p):au p=true∨p.2.2.2.2=(n:Int):=by
 cases hh:au p with
 |true=>exact .inl rfl
 |false=>
  right
  cases n with
  |zero=>exact (h.2 hh).1
  |succ n=>exact (oq hh (h.2.1 hh)).2.1
abbrev kb (n:fu) (sz:Int) (t:bf):fu:=(n.1,n.2.1,sz,t)
theorem abB {n:fu}{u:ay}{t:bf}{sz:Int}(hn:cy n=true) (dj:0≤sz∧sz≤16*ko n.1) (ht:Tree u t t.d) (hm:t.many=bh sz (ko n.1)):cy (kb n sz t)=true:=by
 obtain⟨b1,b2,b3,b4,b5,b6,b7,b8,b9⟩:=lh hn
 have he:ko n.1≠0:=by
  intro e
  have:bH n.1 n.2.2.1= -1:=by unfold bH;rw [e];rfl
  omega
 have hp:bH n.1 sz=t.many:=by
  unfold bH
  rw [decide_eq_false he,show ik sz 0 (16*ko n.1)=true from cC.2 dj,hm];rfl
 have hl:ik n.2.1 1 (bif decide (n.1=2) then 1 else 9)=true:=by
  unfold cy at hn
  cases hb:decide (bH n.1 n.2.2.1<0)||(decide (n.2.2.2.2.2.2.2.2.2≠bH n.1 n.2.2.1)||(decide (n.2.2.2.2.2.2.2.2.1≠bj (bH n.1 n.2.2.1))|| !(aZ n.root))) with
  |true=>rw [hb] at hn;cases hn
  |false=>
   rw [hb,cond_false] at hn
   simp only [ZA9] at hn
   exact hn.1
 have h0:=ht.m0
 have hd:t.depth=bj t.many:=by rw [ht.dm];exact ht.rz.dep
 have FK:=ht.rz.snd.level
 have hdd:=ht.rz.dep
 unfold cy
 have e1:decide (bH (kb n sz t).1 (kb n sz t).2.2.1<0)=false:=by
  show decide (bH n.1 sz<0)=false
  rw [hp];exact decide_eq_false (by omega)
 have e2:decide ((kb n sz t).2.2.2.2.2.2.2.2.2≠bH (kb n sz t).1 (kb n sz t).2.2.1)=false:=by
  show decide (t.many≠bH n.1 sz)=false
  rw [hp];exact decide_eq_false (by simp)
 have e3:decide ((kb n sz t).2.2.2.2.2.2.2.2.1≠bj (bH (kb n sz t).1 (kb n sz t).2.2.1))=false:=by
  show decide (t.depth≠bj (bH n.1 sz))=false
  rw [hp,hd];exact decide_eq_false (by simp)
 have e4:aZ (kb n sz t).root=true:=ht.rz.snd.pok
 rw [e1,e2,e3,e4]
 show (ik n.2.1 1 (bif decide (n.1=2) then 1 else 9)&&(au t.root||decide (t.root.2.2.2.2=t.depth)))=true
 rw [hl,Bool.true_and]
 rcases FK with h |h
 ·rw [h];rfl
 ·rw [decide_eq_true (by rw [h,hdd]),ZC4]
abbrev E0:Nat→Bool:=fun _=>false
abbrev O0:Nat→Nat:=fun _=>0
structure FS (s:ay) (t:bf):Prop where
 fi:FI s t E0 O0
 root:(nodeAt s t 0).1=2
theorem FS.cK {s:ay}{t:bf}(h:FS s t) {k:Int}(h0:0≤k):GL.cK s t k=bz (getM s t k.toNat):=by
 cases hc: !(ik k 0 (t.many-1)) with
 |false=>exact aes hc
 |true=>
  have h1:¬(0≤k∧k≤t.many-1):=fun e=>by
   have:ik k 0 (t.many-1)=true:=cC.2 e
   rw [this] at hc;cases hc
  rw [aet hc,mW h.fi.tree (j:=k.toNat) (by omega),fH]
theorem WX {s:ByteArray}(h:(bz s).2=true):cy (bz s).1=true:=by
 cases h1: !(bq s).2 with
 |true=>rw [yu h1] at h;cases h
 |false=>cases h2:decide (((bq s).1.length:Int)≠7) with
  |true=>rw [tC h2] at h;cases h
  |false=>cases h3: !(cy (mS (bq s).1)) with
   |true=>rw [yt h3] at h;cases h
   |false=>cases h4:decide (aC (mS (bq s).1)≠s) with
    |true=>rw [yr h4] at h;cases h
    |false=>rw [yv h1 h2 h3 h4];exact cL h3
theorem WY {s:ByteArray}(h:(bz s).2=false):(bz s).1=nz:=by
 cases h1: !(bq s).2 with
 |true=>rw [yu h1]
 |false=>cases h2:decide (((bq s).1.length:Int)≠7) with
  |true=>rw [tC h2]
  |false=>cases h3: !(cy (mS (bq s).1)) with
   |true=>rw [yt h3]
   |false=>cases h4:decide (aC (mS (bq s).1)≠s) with
    |true=>rw [yr h4]
    |false=>rw [yv h1 h2 h3 h4] at h;cases h
theorem FS.at {s:ay}{t:bf}(h:FS s t) {i:Nat}(hi:i<16):Tree s (cT (nodeAt s t i)) (cT (nodeAt s t i)).d∧(cy (nodeAt s t i)=true∨nodeAt s t i=nz):=by
 rcases h.fi.nodes i hi rfl with h1 |h1
 ·have e:nodeAt s t i=nz:=by show (bz (getM s t i)).1=_;rw [h1,fH]
  rw [e]
  exact⟨NP s,.inr rfl⟩
 ·exact⟨h1.2.tree,.inl h1.2.ok⟩
theorem FS.take {s:ay}{t:bf}(h:FS s t) {i:Nat}(hi:i<16):kx s t (rQ E0 i) O0 s (cT (nodeAt s t i)):=
 ⟨h.fi.take hi rfl,(h.at hi).1,fun _ _=>rfl,dQ.refl _⟩
theorem FS.back {s u:ay}{t:bf}{i:Nat}{n:fu}(h:FS s t) (hi:i<16) (hB:kx s t (rQ E0 i) O0 u (cT n)) (hr:i=0→cy n=true∧n.1=2) (hz:(aY u t i (aC n)).2.2=true):
  FS (aY u t i (aC n)).1 (aY u t i (aC n)).2.1∧(∀k,k<16→k≠i→getM (aY u t i (aC n)).1 (aY u t i (aC n)).2.1 k=getM s t k)∧dQ s (aY u t i (aC n)).1:=by
 have hE:rQ E0 i i=true:=by unfold rQ;rw [decide_eq_true rfl];rfl
 have h1:=hB.fi.Y1 (n:=n) hi hE (fun ho=>⟨ho,hB.tree⟩) hz
 have hg:∀k,k<16→k≠i→getM (aY u t i (aC n)).1 (aY u t i (aC n)).2.1 k=getM s t k:=fun k hk fA=>(h1.2.other k hk fA).trans (hB.get k hk)
 have hf:=h1.1
 rw [aap (show E0 i=false from rfl)] at hf
 refine⟨⟨hf,?_⟩,hg,hB.same.trans h1.2.same⟩
 show (bz (getM _ _ 0)).1.1=2
 by_cases e:i=0
 ·obtain⟨ho,h2⟩:=hr e
  subst e
  rw [h1.2.at_,tB ho];exact h2
 ·rw [hg 0 (by omega) (fun h=>e h.symm)];exact h.root
theorem aiw (n:fu):kb n n.2.2.1 (cT n)=n:=rfl
theorem FS.write {s:ay}{t:bf}{i:Nat}{text:ByteArray}(h:FS s t) (hi:i<16) (hb:(dG s (cT (nodeAt s t i)) text).2.2=true)
  (hz:(aY (dG s (cT (nodeAt s t i)) text).1 t i (aC (kb (nodeAt s t i) text.size (dG s (cT (nodeAt s t i)) text).2.1))).2.2=true):
  FS (aY (dG s (cT (nodeAt s t i)) text).1 t i (aC (kb (nodeAt s t i) text.size (dG s (cT (nodeAt s t i)) text).2.1))).1 (aY (dG s (cT (nodeAt s t i)) text).1 t i (aC (kb (nodeAt s t i) text.size (dG s (cT (nodeAt s t i)) text).2.1))).2.1∧
  (∀k,k<16→k≠i→getM (aY (dG s (cT (nodeAt s t i)) text).1 t i (aC (kb (nodeAt s t i) text.size (dG s (cT (nodeAt s t i)) text).2.1))).1 (aY (dG s (cT (nodeAt s t i)) text).1 t i (aC (kb (nodeAt s t i) text.size (dG s (cT (nodeAt s t i)) text).2.1))).2.1 k=getM s t k)∧
  dQ s (aY (dG s (cT (nodeAt s t i)) text).1 t i (aC (kb (nodeAt s t i) text.size (dG s (cT (nodeAt s t i)) text).2.1))).1:=by
 have hB:=(h.take hi).alv hb
 have hl:((kC text).length:Int)≤16:=by rw [←hB.2];exact hB.1.tree.m1
 refine h.back hi (n:=kb (nodeAt s t i) text.size (dG s (cT (nodeAt s t i)) text).2.1) hB.1 (fun e=>?_) hz
 subst e
 have h2:(nodeAt s t 0).1=2:=h.root
 have cG:cy (nodeAt s t 0)=true:=by
  rcases (h.at hi).2 with h3 |h3
  ·exact h3
  ·rw [h3] at h2;exact absurd h2 (by decide)
 refine⟨abB cG ?_ hB.1.tree ?_,h2⟩
 ·rw [h2];have:=Y2 text;show 0≤(text.size:Int)∧(text.size:Int)≤16*128;omega
 ·rw [hB.2,h2,Y2];show _=((text.size:Int)+128-1) / 128;omega
theorem FS.make {s:ay}{t:bf}{i:Nat}{kind:Int}(h:FS s t) (hi:i<16) (h0:getM s t i=⟨#[]⟩) (hz:(aY s t i (aC (kind,1,0,ny))).2.2=true):
  FS (aY s t i (aC (kind,1,0,ny))).1 (aY s t i (aC (kind,1,0,ny))).2.1∧(∀k,k<16→k≠i→getM (aY s t i (aC (kind,1,0,ny))).1 (aY s t i (aC (kind,1,0,ny))).2.1 k=getM s t k)∧dQ s (aY s t i (aC (kind,1,0,ny))).1:=by
 have e:nodeAt s t i=nz:=by show (bz (getM s t i)).1=_;rw [h0,fH]
 have hB:=h.take hi
 rw [e] at hB
 refine h.back hi (n:=(kind,1,0,ny)) hB (fun e0=>?_) hz
 subst e0
 have:=h.root
 rw [e] at this;exact absurd this (by decide)
theorem FS.adG {s:ay}{t:bf}{i:Nat}{l:Int}(h:FS s t) (hi:i<16) (hi0:0<i)
  (hz:(aY s t i (aC ((nodeAt s t i).1,l,(nodeAt s t i).2.2))).2.2=true):
  FS (aY s t i (aC ((nodeAt s t i).1,l,(nodeAt s t i).2.2))).1 (aY s t i (aC ((nodeAt s t i).1,l,(nodeAt s t i).2.2))).2.1∧(∀k,k<16→k≠i→getM (aY s t i (aC ((nodeAt s t i).1,l,(nodeAt s t i).2.2))).1 (aY s t i (aC ((nodeAt s t i).1,l,(nodeAt s t i).2.2))).2.1 k=getM s t k)∧dQ s (aY s t i (aC ((nodeAt s t i).1,l,(nodeAt s t i).2.2))).1:=
 h.back hi (n:=((nodeAt s t i).1,l,(nodeAt s t i).2.2)) (h.take hi) (fun e=>absurd e (by omega)) hz
theorem FI.ah2 {s:ay}{t:bf}{many:Int}(h:FI s t E0 O0) (h0:0≤many) (h1:many≤16) (uH:∀k:Nat,k<16→many≤(k:Int)→getM s t k=⟨#[]⟩) (hz:(cF s t many).2.2=true):
  FI (cF s t many).1 (cF s t many).2.1 E0 O0∧(∀k,k<16→getM (cF s t many).1 (cF s t many).2.1 k=getM s t k)∧dQ s (cF s t many).1:=by
 obtain⟨d,hP⟩:=NG (X:=fun r=>gG s t E0 r) (h.acc.mono fun r=>by show gG s t E0 r+bn (di s t) r≤0+bn (di s t) r+gG s t E0 r;omega) h.tree h0 h1 hz
 generalize (cF s t many).1=u at *
 generalize (cF s t many).2.1=t' at *
 have hg:∀k,k<16→getM u t' k=getM s t k:=fun k hk=>by
  rw [hP.get k hk]
  split
  ·rfl
  ·rename_i hc;exact (uH k hk (by omega)).symm
 have D5:∀k,k<16→getM s t k≠⟨#[]⟩→xI u (nodeAt s t k)∧dz u (nodeAt s t k)=dz s (nodeAt s t k):=fun k rK fA=>by
  have hn:=(h.nodes k rK rfl).resolve_left fA
  refine hn.2.kp (by rw [hP.same.cg];exact ZC1 _) hP.kp fun r=>?_
  exact IA (f:=fun k=>bif E0 k then 0 else bn (dz s (nodeAt s t k)) r) (l:=List.range 16) (ZE2.2 rK)
 refine⟨⟨hP.tree.at,fun k hk _=>?_,hP.acc.mono fun r=>?_⟩,hg,hP.same⟩
 ·by_cases h2:getM s t k=⟨#[]⟩
  ·left;rw [hg k hk];exact h2
  ·right
   have hn:=(h.nodes k hk rfl).resolve_left h2
   unfold nodeAt
   rw [hg k hk]
   exact⟨hn.1,(D5 k hk h2).1⟩
 ·have e:gG u t' E0 r=gG s t E0 r:=by
   unfold gG
   refine NX fun k hk=>?_
   have hk:=ZE2.1 hk
   show bn (dz u (bz (getM u t' k)).1) r=bn (dz s (nodeAt s t k)) r
   rw [hg k hk]
   by_cases h2:getM s t k=⟨#[]⟩
   ·rw [show (bz (getM s t k)).1=nz by rw [h2,fH],show nodeAt s t k=nz by show (bz (getM s t k)).1=_;rw [h2,fH]]
    rfl
   ·show bn (dz u (nodeAt s t k)) r=_
    rw [(D5 k hk h2).2]
  rw [e,F4 hP.tree]
  show 0+_+_≤_;omega
theorem FI.ajF {s:ay}{t:bf}{E:Nat→Bool}{l:List Pt}(h:FI s t E (fun r=>0+bn l r)) (hl:∀p∈l,aZ p=true):FI (dx l s) t E O0∧(∀k,k<16→getM (dx l s) t k=getM s t k)∧dQ s (dx l s):=by
 rw [vG]
 obtain⟨h1,h2,h3⟩:=yM (l:=l) (O':=fun r=>bn (di s t) r+gG s t E r) h.acc hl fun r=>by show _≤0+bn l r+_+_;omega
 have hK:=h.bZ (by rw [h3.cg];exact ZC1 _) h2 fun r=>ZB5 _
 refine⟨⟨hK.1,hK.2.2.2.1,h1.mono fun r=>?_⟩,hK.2.1,h3⟩
 rw [hK.2.2.1,hK.2.2.2.2 r];show 0+_+_≤_;omega
theorem YP {s:ay}:∀{n:Nat}{p:Pt},rv s n p→∀q∈im s n p,aZ q=true
 |0,p,h,q,hq=>by rw [ZC7.1 hq];exact h.1
 |n+1,p,h,q,hq=>by
  rcases ZB8.1 hq with rfl |hq
  ·exact h.1
  ·obtain⟨x,hx,hq⟩:=List.mem_flatMap.1 hq
   exact YP (h.2.2 x hx) q hq
def cq (s:ay) (t:bf) (k:Int):ay×bf×Bool:=
 bif !(aY (dx (allM s (cT (cK s t k).1)) s) t k ⟨#[]⟩).2.2 then ((aY (dx (allM s (cT (cK s t k).1)) s) t k ⟨#[]⟩).1,(aY (dx (allM s (cT (cK s t k).1)) s) t k ⟨#[]⟩).2.1,false)
 else cF (aY (dx (allM s (cT (cK s t k).1)) s) t k ⟨#[]⟩).1 (aY (dx (allM s (cT (cK s t k).1)) s) t k ⟨#[]⟩).2.1 (mx s t k)
theorem zG (mh:Int):∀{l:List ByteArray}{k:Nat}{n:Int},0≤n→n≤k→0≤iY mh l k n∧n≤iY mh l k n∧iY mh l k n≤k+l.length
 |[],k,n,h0,h1=>⟨h0,ZC1 _,by show n≤(k:Int)+((0:Nat):Int);omega⟩
 |x::l,k,n,h0,h1=>by
  unfold iY
  cases decide ((k:Int)≠mh)&&decide (x≠⟨#[]⟩) with
  |true=>
   have:=zG mh (l:=l) (k:=k+1) (n:=(k:Int)+1) (by omega) (by omega)
   rw [ZA1];exact⟨this.1,by have:=this.2.1;show n≤iY mh l (k+1) ((k:Int)+1);omega,by have:=this.2.2;show iY mh l (k+1) ((k:Int)+1)≤_;omega⟩
  |false=>
   have:=zG mh (l:=l) (k:=k+1) (n:=n) (by omega) (by omega)
   rw [ZA1];exact⟨this.1,by have:=this.2.1;show n≤iY mh l (k+1) n;omega,by have:=this.2.2;show iY mh l (k+1) n≤_;omega⟩
theorem ID (mh:Int):∀{l:List ByteArray}{k:Nat}{n:Int},0≤n→n≤k→∀j,j<l.length→((k+j:Nat):Int)≠mh→nth ab l j≠⟨#[]⟩→((k+j:Nat):Int)<iY mh l k n
 |x::l,k,n,h0,h1,j,hj,hb,hx=>by
  unfold iY
  cases j with
  |zero=>
   have hx:x≠⟨#[]⟩:=hx
   have hb:(k:Int)≠mh:=hb
   rw [decide_eq_true hx,decide_eq_true hb]
   have:=zG mh (l:=l) (k:=k+1) (n:=(k:Int)+1) (by omega) (by omega)
   show ((k+0:Nat):Int)<iY mh l (k+1) ((k:Int)+1);omega
  |succ j=>
   have hj:j<l.length:=by rw [ZA1] at hj;omega
   have hx:nth ab l j≠⟨#[]⟩:=hx
   have e:k+(j+1)=k+1+j:=by omega
   rw [e] at hb ⊢
   cases decide ((k:Int)≠mh)&&decide (x≠⟨#[]⟩) with
   |true=>exact ID mh (l:=l) (k:=k+1) (n:=(k:Int)+1) (by omega) (by omega) j hj hb hx
   |false=>exact ID mh (l:=l) (k:=k+1) (n:=n) (by omega) (by omega) j hj hb hx
theorem IC {s:ay}{t:bf}(h:t.ok) (mh:Int):0≤mx s t mh∧mx s t mh≤t.many:=by
 have h1:=zG mh (l:=bo s t) (k:=0) (n:=0) (ZC1 _) (ZC1 _)
 rw [fq h] at h1
 have:=h.m0
 exact⟨h1.1,by have:=h1.2.2;unfold mx;omega⟩
theorem adL {s:ay}{t:bf}(h:Tree s t t.d) {mh:Int}{j:Nat}(hj:(j:Int)≠mh) (hx:getM s t j≠⟨#[]⟩):(j:Int)<mx s t mh:=by
 have cG:=h.ok
 have hm:j<t.many.toNat:=by
  refine Decidable.byContradiction fun hn=>hx (mW h (by have:=h.m0;omega))
 have:=ID mh (l:=bo s t) (k:=0) (n:=0) (ZC1 _) (ZC1 _) j (by rw [fq cG];exact hm) (by rw [ZA6];exact hj) (by rw [xO cG hm];exact hx)
 rw [ZA6] at this;exact this
theorem FS.drop {s:ay}{t:bf}{i:Nat}(h:FS s t) (hi:i<16) (hi0:0<i) (hz:(cq s t i).2.2=true):FS (cq s t i).1 (cq s t i).2.1∧dQ s (cq s t i).1:=by
 have hn:(GL.cK s t i).1=nodeAt s t i:=by rw [h.cK (by omega)];rfl
 have hB:=h.take hi
 have uH:=UN hB.tree.rz
 have ke:=(hB.fi.more (O':=fun r=>0+bn (allM s (cT (nodeAt s t i))) r) fun r=>by
  rw [uH.2]
  have:=X4 nhB (dz s (nodeAt s t i)) r
  show 0+bn (List.filter nhB (dz s (nodeAt s t i))) r≤0+bn (dz s (nodeAt s t i)) r;omega).ajF fun p hp=>by
   rw [uH.2] at hp
   exact YP hB.tree.rz.snd p ((ZF4.1 hp).1)
 unfold cq at hz ⊢
 rw [hn] at hz ⊢
 generalize dx (allM s (cT (nodeAt s t i))) s=u at *
 cases hp:(aY u t i ⟨#[]⟩).2.2 with
 |false=>rw [hp] at hz;cases hz
 |true=>
  rw [hp] at hz
  simp only [Bool.not_true,cond_false] at hz ⊢
  have hE:rQ E0 i i=true:=by unfold rQ;rw [decide_eq_true rfl];rfl
  have hP:=ke.1.aiQ (i:=i) (text:=⟨#[]⟩) hi hE hp
  have hF:=hP.fi.ag5 hi hE hP.at_
  rw [aap (show E0 i=false from rfl)] at hF
  have hl:=IC (s:=s) h.fi.tree.ok i
  have EW:=h.fi.tree.m1
  have hg:∀k,k<16→k≠i→getM (aY u t i ⟨#[]⟩).1 (aY u t i ⟨#[]⟩).2.1 k=getM s t k:=fun k hk fA=>(hP.other k hk fA).trans (ke.2.1 k hk)
  have hc:=hF.ah2 (many:=mx s t i) hl.1 (by omega) (fun k hk hlk=>by
   by_cases e:k=i
   ·rw [e];exact hP.at_
   ·rw [hg k hk e]
    refine Decidable.byContradiction fun hx=>?_
    have:=adL h.fi.tree (mh:=(i:Int)) (j:=k) (by omega) hx
    omega) hz
  refine⟨⟨hc.1,?_⟩,(ke.2.2.trans hP.same).trans hc.2.2⟩
  show (bz (getM _ _ 0)).1.1=2
  rw [hc.2.1 0 (by omega),hg 0 (by omega) (by omega)];exact h.root
theorem FS.next {s:ay}{t:bf}(h:FS s t) (ht:s.cg<1000000):FS (ij s) t:=by
 obtain⟨h1,h2⟩:=h.fi.next ht
 refine⟨h1,?_⟩
 show (bz (getM _ _ 0)).1.1=2
 rw [h2 0 (by omega)];exact h.root
theorem FS.many {s:ay}{t:bf}(h:FS s t):1≤t.many:=by
 refine Decidable.byContradiction fun hn=>?_
 have e:=mW h.fi.tree (j:=0) (by omega)
 have:=h.root
 unfold nodeAt at this
 rw [e,fH] at this
 exact absurd this (by decide)
end GL
end Go.Proofs.YtnkbdhldiinfdaaGreatDoor
